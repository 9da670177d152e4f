import PyProof.Rows.All
import Wide.All
import OpenK.AllK
import Wide.FinOn
import KE.FramesApart
import KE.IntText
import KE.KDictList
import KE.KDictOf
import KE.KDictSum
import KE.KIntText
import KE.KItemsList
import KE.KRevIter
import Open.Pieces
import PyProof.AssignAttr
import PyProof.AttrMiss
import PyProof.CallStr
import PyProof.CallTypeRange
import PyProof.Cells
import PyProof.CompFree
import PyProof.CompIC
import PyProof.CompMap
import PyProof.ConsumeWalk
import PyProof.DictCalls
import PyProof.DictDisplay
import PyProof.DictItems
import PyProof.DictRoads
import PyProof.DictStraight
import PyProof.DictTruth
import PyProof.DictUpdate
import PyProof.DictWalks
import PyProof.Ends
import PyProof.EnumMake
import PyProof.EqKinds
import PyProof.ExcAttrAll.ValueError
import PyProof.ExcBaseAll.ValueError
import PyProof.ExcClass2
import PyProof.ExcClsAt2
import PyProof.ForAny
import PyProof.ForRange
import PyProof.InstStoreFacts
import PyProof.IsiH_list
import PyProof.IsiHeapPairs
import PyProof.IsiNone
import PyProof.IsiPairs
import PyProof.IsiSeqPairs
import PyProof.LetGo
import PyProof.ListCopy
import PyProof.ListIndex
import PyProof.ListIndexNeg
import PyProof.ListOps
import PyProof.MeetsDictList
import PyProof.MeetsStr2
import PyProof.Methods
import PyProof.NeKinds
import PyProof.NsMap
import PyProof.P3Eq
import PyProof.P3Statements
import PyProof.PassesOwn
import PyProof.PureInt
import PyProof.PureStr
import PyProof.Raises
import PyProof.ReprLen
import PyProof.ReprReads
import PyProof.ReprRoads
import PyProof.Rows.IntRules
import PyProof.Rows.RuleB_floordiv
import PyProof.Rows.RuleB_mod
import PyProof.Rows.RuleB_pow
import PyProof.Rows.RuleB_small
import PyProof.Rows.RuleN_abs
import PyProof.Rows.SetFrom
import PyProof.Rows.SortShellK
import PyProof.Rows.SortStr
import PyProof.Rows.SortWalk
import PyProof.Rows.StrRules
import PyProof.Rows.StrTemp
import PyProof.Rows.Top
import PyProof.Rows.TupMore
import PyProof.Rows.Walk
import PyProof.Rules2
import PyProof.Rules3
import PyProof.RulesAs
import PyProof.SeqInW
import PyProof.SetRoads
import PyProof.SliceMore
import PyProof.SliceStr2
import PyProof.StationsW
import PyProof.StrBlock
import PyProof.StrBlock2
import PyProof.StrBlockI
import PyProof.StrBlockL
import PyProof.StrCalls3
import PyProof.StrOps2
import PyProof.StrWalks
import PyProof.TableCode
import PyProof.TupleOfSeq
import PyProof.TupleOps
import PyProof.WalkInts
import PyProof.WalksEnum
import PyProof.WalksMore
import PySem.PyData
import PySem.Syntax
import Wide.Seal
import Wide.Well
import PySem.Challenge.RW_uf010037_15
set_option Elab.async false
set_option linter.all false
set_option maxRecDepth 100000
namespace Mine
theorem oS{x y:Int}(hx:0≤x)(hy:0≤y)(h:x.toNat=y.toNat):x=y:=by rw[← Int.toNat_of_nonneg hx,h,Int.toNat_of_nonneg hy]
theorem oU{a:Int}{n:Nat}(h:a < n):(1+a).toNat≤n:=Int.toNat_le.mpr (by rw[Int.add_comm];exact h)
theorem p1{a:Int}(h:0≤a):0≤1+a:=Int.add_nonneg (by decide) h
theorem ax0{a b c:Nat}(h:a+16*b+300 < c):a+70 < c:=Nat.lt_of_le_of_lt (Nat.add_le_add (Nat.le_add_right a (16*b)) (by decide:70≤300)) h
theorem ax2{a b:Nat}(h:a+70 < b):a < b:=Nat.lt_of_le_of_lt (Nat.le_add_right _ _) h
theorem ax4{a b:Nat}(h:¬a < b):b≤a:=Nat.le_of_not_lt h
theorem ax5{a b c:Nat}(h:a=b)(h1:¬c < a):b≤c:=h▸Nat.le_of_not_lt h1
theorem ax6:0≤300:=by decide
theorem ax7{a:Nat}(h:a < 63):a / 30+1≤300:=Nat.succ_le_succ (Nat.le_trans (Nat.div_le_self _ _) (Nat.le_trans (Nat.le_of_lt h) (by decide)))
theorem ax8{a:Nat}(h:a≤300):¬a > 300:=Nat.not_lt.mpr h
theorem ax9{a:Nat}(h:a≤1024):a≤16777216:=Nat.le_trans h (by decide)
theorem Bf{a b c:Nat}:a+b+c*b=a+(c*b+b):=by first | lia | omega
theorem Bg{a:Int}(h:a≤1024):a.toNat≤1024:=Int.toNat_le.mpr h
theorem Bh{b:Nat}{a:Int}(h:a.toNat*b≤1024*1024):a.toNat*b≤16777216:=Nat.le_trans h (by decide)
theorem Bi{c:Nat}{a b:Int}(h:0≤a∧a≤1000∧b.natAbs < c):a≤1000000:=Int.le_trans h.2.1 (by decide)
theorem Bj{a:Int}(h:1≤a):0 < a:=h
theorem Bk{a:Int}(h:1≤a):0≤a:=Int.le_trans (by decide) h
theorem Bm{a:Int}(h:¬a < 1):1≤a:=Int.not_lt.mp h
theorem Bn{a:Nat}{b c:Int}(h:(↑a:Int)≤(b - 1) / c):¬(↑a:Int) > (b - 1) / c:=Int.not_lt.mpr h
theorem Bp{b:Nat}{a:Int}(h:-100≤a∧a≤1024∧b≤1024):a.toNat≤1024:=Int.toNat_le.mpr h.2.1
theorem Bq{a b c:Nat}:min (a - b) (c - b)≤c:=Nat.le_trans (Nat.min_le_right _ _) (Nat.sub_le _ _)
theorem t7{a b:Nat}(h:a - b=0)(h1:b≤a):b=a:=Nat.le_antisymm h1 (Nat.le_of_sub_eq_zero h)
theorem t8{a b c:Nat}(h:a - b=c+1):b < a:=Nat.lt_of_sub_pos (by rw[h];exact Nat.succ_pos c)
theorem Bs{a b c:Nat}(h:a≤b):min c a≤b:=Nat.le_trans (Nat.min_le_right _ _) h
theorem t9{a b c:Nat}(h:a - b=c+1):a - (b+1)=c:=congrArg Nat.pred h
theorem Bt{a b:Nat}:min a b≤b:=Nat.min_le_right _ _
theorem Bu:0 < 4096:=by decide
theorem uA{a:Nat}(h:a < 64):a+1 < 4096:=Nat.lt_of_le_of_lt h (by decide)
theorem Bv{a:Nat}(h:a≤3):a < 30:=Nat.lt_of_le_of_lt h (by decide)
theorem uB{b:Nat}{a:Int}:a+1+(↑b:Int)=a+((↑b:Int)+1):=by rw[Int.add_assoc,Int.add_comm 1]
theorem Bx{a:Int}(h:-10000≤a):-10000≤a+(1 - 1):=by rw[Int.sub_self,Int.add_zero];exact h
theorem By{a:Int}(h:a≤4096):a+(1 - 1)≤10000:=by rw[Int.sub_self,Int.add_zero];exact Int.le_trans h (by decide)
theorem Bz{a:Int}(h:a≤4096):a.toNat≤16777216:=Int.toNat_le.mpr (Int.le_trans h (by decide))
theorem B0{a:Int}(h:-4096≤a∧a≤4096):-10000≤a:=Int.le_trans (by decide) h.1
theorem uC{a b c:Nat}(h:a+b=c)(h1:¬a=c):a < c:=Nat.lt_of_le_of_ne (h▸Nat.le_add_right a b) h1
theorem oV{a b c:Nat}(h:a+b=c)(h1:¬a=c):b - 1 < b:=by
 cases b with
 |zero=>exact absurd h h1
 |succ b=>exact Nat.lt_succ_self b
theorem oW{a b c:Nat}(h:a+b=c)(h1:¬a=c):a+1+(b - 1)=c:=by
 cases b with
 |zero=>exact absurd h h1
 |succ b=>exact(Nat.add_right_comm a 1 b).trans h
theorem B3{a b:Nat}(h:a≤b):a≤b+1:=Nat.le_succ_of_le h
theorem B4{a b c d e f:Nat}(h:a≤b)(h1:c+d=a)(h2:e≤c)(h3:f=e):f≤b:=by rw[h3];exact Nat.le_trans h2 (Nat.le_trans (Nat.le_trans (Nat.le_add_right c d) (Nat.le_of_eq h1)) h)
theorem B5{a b:Nat}(h:a≤b):a≤b:=h
theorem B6{a b c d e:Nat}(h:a+b < 4096)(h1:c=a)(h2:d=b)(h3:e=16777216):c+d≤e:=by rw[h1,h2,h3];exact Nat.le_trans (Nat.le_of_lt h) (by decide)
theorem B7{a b:Nat}(h:(↑a:Int) < (↑b:Int)):a < b:=Int.ofNat_lt.mp h
theorem uD{a b c d e:Nat}(h:a < b)(h1:c=a)(h2:d≤c+1)(h3:b=e):d≤e:=by rw[← h3];exact Nat.le_trans h2 (by rw[h1];exact h)
theorem B8{b c:Nat}{a:Int}(h:0≤a∧a < (↑b:Int))(h1:c=b):a < (↑c:Int):=by rw[h1];exact h.2
theorem B9{a:Nat}(h:a < 100):a+1≤16777216+1:=Nat.succ_le_succ (Nat.le_trans (Nat.le_of_lt h) (by decide))
theorem Cb{a b c:Nat}(h:a=b)(h1:c < a):c < b:=h▸h1
theorem Cc{a b:Nat}(h:a+(b+1) < 100):a < 100:=Nat.lt_of_le_of_lt (Nat.le_add_right _ _) h
theorem Cd{a b:Nat}(h:a+(b+1) < 100):a+1+b < 100:=(Nat.add_right_comm a 1 b).symm▸h
theorem Ce{a:Nat}(h:a < 50):a < 100:=Nat.lt_trans h (by decide)
theorem Cf{a b c:Nat}(h:a=b)(h1:a < 50)(h2:c=16777216):b≤c:=by rw[← h,h2];exact Nat.le_trans (Nat.le_of_lt h1) (by decide)
theorem Cg{a b:Nat}(h:a=1)(h1:b=16777216):a≤b:=by rw[h,h1];decide
theorem Ch{a:Nat}(h:1 < a):0 < a:=Nat.lt_trans Nat.zero_lt_one h
theorem Ci{a b c:Nat}(h:a+b+1 < c):a+1 < c:=Nat.lt_of_le_of_lt (Nat.succ_le_succ (Nat.le_add_right _ _)) h
theorem Cj{a b c:Nat}(h:a+(b+1)+1 < c):a+1+b+1 < c:=by rw[Nat.add_right_comm a 1 b];exact h
theorem Ck{a b c:Nat}(h:a+16*(b+1)+300 < c):a+3+16*b+300 < c:=by rw[Nat.add_right_comm a 3];exact Nat.lt_of_le_of_lt (by rw[Nat.mul_succ,← Nat.add_assoc];exact Nat.add_le_add_right (Nat.add_le_add_left (by decide) _) 300) h
theorem Cl{a b c:Nat}(h:a+(b+1)+1 < c):a < c:=Nat.lt_of_le_of_lt (Nat.le_trans (Nat.le_add_right _ _) (Nat.le_add_right _ _)) h
theorem Cm{a b c:Nat}(h:a≤63)(h1:b=a)(h2:c=16777216):b≤c:=by rw[h1,h2];exact Nat.le_trans h (by decide)
theorem Cn{a b c:Nat}(h:a≤400)(h1:b+400+1 < c):b+a+1 < c:=Nat.lt_of_le_of_lt (Nat.succ_le_succ (Nat.add_le_add_left h b)) h1
theorem Co{a b c:Nat}(h:a≤400)(h1:b+16*400+300 < c):b+16*a+300 < c:=Nat.lt_of_le_of_lt (Nat.add_le_add_right (Nat.add_le_add_left (Nat.mul_le_mul_left 16 h) b) 300) h1
theorem Cp{a b:Nat}(h:a≤b - 1)(h1:0 < b):a+1≤b:=Nat.le_trans (Nat.succ_le_succ h) (Nat.le_of_eq (Nat.sub_add_cancel h1))
theorem uE{a:Nat}(h:1≤a):1≤(↑a:Int):=Int.ofNat_le.mpr h
theorem Cq{a:Nat}(h:a≤8):(↑a:Int)≤8:=Int.ofNat_le.mpr h
theorem Cr{a b:Nat}(h:14 < a)(h1:b≤14):b < a:=Nat.lt_of_le_of_lt h1 h
theorem Cs{a b:Nat}(h:a+1+1≤b+1):a+1≤b:=Nat.le_of_succ_le_succ h
theorem Ct{a:Nat}(h:a≤6):(↑a:Int)≤6:=Int.ofNat_le.mpr h
theorem oX{a:Nat}(h:a≤6):a < 64:=Nat.lt_of_le_of_lt h (by decide)
theorem Cu{a b:Nat}(h:1≤a)(h1:b=a):1≤b:=h1▸h
theorem Cv{a b:Nat}(h:a≤6)(h1:b=a):b≤6:=h1▸h
theorem Cw{a b:Nat}(h:a≤6)(h1:b=a):b < 64:=h1▸Nat.lt_of_le_of_lt h (by decide)
theorem Cx{a b c:Nat}(h:a=b)(h1:c=b):a=c:=h.trans h1.symm
theorem S4{a b c:Nat}(h:a≤b)(h1:c≤b)(h2:b=14):a+c < 4096:=by rw[h2] at h h1;exact Nat.lt_of_le_of_lt (Nat.add_le_add h h1) (by decide)
theorem Cy{a b:Nat}(h:a < 1000)(h1:b=16777216):a+1≤b:=by rw[h1];exact Nat.le_trans h (by decide)
theorem uF{a b c d:Nat}(h:2*(a+1)+(b+1)+c+8≤d+4):2*a+b+c+8≤d+2:=by
 have e:2*(a+1)+(b+1)+c+8=2*a+b+c+11:=by rw[Nat.mul_succ,Nat.add_add_add_comm,Nat.add_right_comm (2*a+b) (2+1)]
 rw[e] at h;exact Nat.le_of_add_le_add_right (b:=2) (Nat.le_trans (Nat.add_le_add_left (by decide:10≤11) _) h)
theorem Cz{a b:Nat}(h:a+(b+1)≤900):a+1+b≤900:=(Nat.add_right_comm a 1 b).symm▸h
theorem C0{a b c d e f:Nat}(h:2*(max a b+1)+c+(d+e)+8≤f+1):2*a+4≤f:=Nat.le_of_succ_le_succ (Nat.le_trans (Nat.add_le_add (Nat.le_trans (Nat.le_trans (Nat.mul_le_mul_left 2 (Nat.le_succ_of_le (Nat.le_max_left a b))) (Nat.le_add_right _ _)) (Nat.le_add_right _ _)) (by decide:5≤8)) h)
theorem C2{a b c d e f:Nat}(h:2*(max a b+1)+c+(d+e)+8≤f+1):2*b+c+e+8≤f:=by
 have e:2*(max a b+1)+c+(d+e)+8=2*max a b+c+(d+e)+10:=by rw[Nat.mul_succ,Nat.add_right_comm (2*max a b) 2 c,Nat.add_right_comm _ 2 (d+e)]
 rw[e] at h;exact Nat.le_of_succ_le_succ (Nat.le_trans (Nat.add_le_add (Nat.add_le_add (Nat.add_le_add_right (Nat.mul_le_mul_left 2 (Nat.le_max_right a b)) c) (Nat.le_add_left _ d)) (by decide:9≤10)) h)
theorem C3{a b c:Nat}(h:a+(max b c+1)≤900):a+1+c≤900:=Nat.le_trans (by rw[Nat.add_right_comm];exact Nat.succ_le_succ (Nat.add_le_add_left (Nat.le_max_right b c) a)) h
theorem C4{a b c:Nat}:a+b≤a+(c+b):=Nat.add_le_add_left (Nat.le_add_left _ _) _
theorem C5{a b c d e f:Nat}(h:2*(max a b+1)+c+(d+e)+8≤f+1):2*a+(c+e)+d+8≤f:=by
 have e:2*(max a b+1)+c+(d+e)+8=2*max a b+(c+e)+d+10:=by rw[Nat.mul_succ,Nat.add_right_comm (2*max a b) 2 c,Nat.add_right_comm _ 2 (d+e),Nat.add_comm d e,← Nat.add_assoc,Nat.add_assoc (2*max a b) c e]
 rw[e] at h;exact Nat.le_of_succ_le_succ (Nat.le_trans (Nat.add_le_add (Nat.add_le_add_right (Nat.add_le_add_right (Nat.mul_le_mul_left 2 (Nat.le_max_left a b)) _) d) (by decide:9≤10)) h)
theorem C6{a b c:Nat}(h:a+(max b c+1)≤900):a+1+b≤900:=Nat.le_trans (by rw[Nat.add_right_comm];exact Nat.succ_le_succ (Nat.add_le_add_left (Nat.le_max_left b c) a)) h
theorem C7{a b:Nat}(h:a+(b+1)≤900):a+b+1≤900:=h
theorem C8{a b:Nat}:a≤a+b:=Nat.le_add_right _ _
theorem C9{a b c d e f:Nat}(h:2*max a b+c+max d e+8≤f):2*a+c+d+8≤f:=Nat.le_trans (Nat.add_le_add_right (Nat.add_le_add (Nat.add_le_add_right (Nat.mul_le_mul_left 2 (Nat.le_max_left a b)) c) (Nat.le_max_left d e)) 8) h
theorem Da{a b c:Nat}(h:a+max b c+1≤900):a+1+b≤900:=Nat.le_trans (by rw[Nat.add_right_comm];exact Nat.add_le_add_right (Nat.add_le_add_left (Nat.le_max_left b c) a) 1) h
theorem uG{a b c d:Nat}(h:a+max b c≤d):a+b≤d:=Nat.le_trans (Nat.add_le_add_left (Nat.le_max_left b c) a) h
theorem Db{a b c d e f:Nat}(h:2*max a b+c+max d e+8≤f):2*b+c+e+8≤f:=Nat.le_trans (Nat.add_le_add_right (Nat.add_le_add (Nat.add_le_add_right (Nat.mul_le_mul_left 2 (Nat.le_max_right a b)) c) (Nat.le_max_right d e)) 8) h
theorem Dc{a b c:Nat}(h:a+max b c+1≤900):a+c+1≤900:=Nat.le_trans (Nat.add_le_add_right (Nat.add_le_add_left (Nat.le_max_right b c) a) 1) h
theorem Dd{a b c d:Nat}(h:a+max b c≤d):a+c≤d:=Nat.le_trans (Nat.add_le_add_left (Nat.le_max_right b c) a) h
theorem De{a b c d:Nat}(h:3*a+b+c+10≤d+3):2*a+4≤d+2:=Nat.le_of_succ_le_succ (show 2*a+5≤d+3 from Nat.le_trans (Nat.add_le_add (Nat.le_trans (Nat.mul_le_mul_right a (by decide:2≤3)) (Nat.le_trans (Nat.le_add_right _ b) (Nat.le_add_right _ c))) (by decide:5≤10)) h)
theorem Df{a b c d:Nat}(h:3*a+b+c+10≤d+3):2*a+b+c+8≤d+2:=Nat.le_of_succ_le_succ (show 2*a+b+c+9≤d+3 from Nat.le_trans (Nat.add_le_add (Nat.add_le_add_right (Nat.add_le_add_right (Nat.mul_le_mul_right a (by decide:2≤3)) b) c) (by decide:9≤10)) h)
theorem Dg{a b c d:Nat}(h:3*a+b+c+10≤d+3):3*a+3≤d+1:=Nat.le_of_add_le_add_right (b:=2) (show 3*a+5≤d+3 from Nat.le_trans (Nat.add_le_add (Nat.le_trans (Nat.le_add_right (3*a) b) (Nat.le_add_right _ c)) (by decide:5≤10)) h)
theorem uH{a b c d:Nat}(h:3*a+b+c+10≤d+3):b+1≤d:=Nat.le_of_add_le_add_right (b:=3) (show b+4≤d+3 from Nat.le_trans (Nat.add_le_add (Nat.le_trans (Nat.le_add_left b (3*a)) (Nat.le_add_right _ c)) (by decide:4≤10)) h)
theorem Dh{a b c d:Nat}(h:3*a+b+c+10≤d+3):b+c≤d+1:=Nat.le_of_add_le_add_right (Nat.le_trans (Nat.add_le_add (Nat.add_le_add_right (Nat.le_add_left b _) c) (by decide:2≤10)) h)
theorem S5{a b c d:Nat}(h:a≤b)(h1:c≤b)(h2:b=14)(h3:d=16777216):a+c≤d:=by rw[h3];rw[h2] at h h1;exact Nat.le_trans (Nat.add_le_add h h1) (by decide)
theorem S6{a b c:Nat}(h:a+b+3≤c+2):b≤c:=Nat.le_of_add_le_add_right (Nat.le_trans (Nat.add_le_add (Nat.le_add_left b a) (by decide:2≤3)) h)
theorem S7{a b c:Nat}(h:a+(b+1)+3≤c+2):b≤c:=Nat.le_of_add_le_add_right (Nat.le_trans (Nat.add_le_add (Nat.le_trans (Nat.le_succ b) (Nat.le_add_left _ a)) (by decide:2≤3)) h)
theorem S8{a b c:Nat}(h:a≤b)(h1:b < 1000)(h2:c=16777216):a+1≤c:=by rw[h2];exact Nat.le_trans (Nat.succ_le_of_lt (Nat.lt_of_le_of_lt h h1)) (by decide)
theorem S9{a b:Nat}(h:a≤b)(h1:b < 1000):a+1 < 4096:=Nat.lt_of_le_of_lt (Nat.succ_le_of_lt (Nat.lt_of_le_of_lt h h1)) (by decide)
theorem Ta{a b c:Nat}(h:a+(b+1)+3≤c+3):b≤c:=Nat.le_of_add_le_add_right (Nat.le_trans (Nat.add_le_add_right (Nat.le_trans (Nat.le_succ b) (Nat.le_add_left _ a)) 3) h)
theorem Tc{a b c:Nat}(h:a+1+(b+1)+3≤c+2):a+b+3≤c+1:=Nat.le_of_succ_le_succ (show a+b+4≤c+2 from Nat.le_trans (by rw[Nat.add_right_comm a 1 (b+1)];exact Nat.add_le_add_left (by decide:4≤5) (a+b)) h)
theorem Td{a b c d:Nat}(h:max a b+1+c+3≤d+1):a+c+3≤d:=Nat.le_of_succ_le_succ (Nat.le_trans (Nat.add_le_add_right (Nat.add_le_add_right (Nat.le_max_left a b) c) 4) ((Nat.add_right_comm (max a b) 1 c)▸h:max a b+c+1+3≤d+1))
theorem Te{a b c d:Nat}(h:max a b+1+c+3≤d+1):b+c+3≤d:=Nat.le_of_succ_le_succ (Nat.le_trans (Nat.add_le_add_right (Nat.add_le_add_right (Nat.le_max_right a b) c) 4) ((Nat.add_right_comm (max a b) 1 c)▸h:max a b+c+1+3≤d+1))
theorem Tf{a b c d:Nat}(h:max a b+c+3≤d):b+c+3≤d:=Nat.le_trans (Nat.add_le_add_right (Nat.add_le_add_right (Nat.le_max_right a b) c) 3) h
theorem Tg{a b c d:Nat}(h:max a b+c+3≤d):a+c+3≤d:=Nat.le_trans (Nat.add_le_add_right (Nat.add_le_add_right (Nat.le_max_left a b) c) 3) h
theorem oY{a:Int}(h:0 < a):0≤a:=Int.le_of_lt h
theorem Di{a:Int}(h:0 < a):a≠0:=fun e=>Int.lt_irrefl 0 (e▸h)
theorem Dj{b:Nat}{a:Int}(h:a.toNat < b):a < (↑b:Int):=Int.lt_of_le_of_lt (Int.self_le_toNat a) (Int.ofNat_lt.mpr h)
theorem Dk{b:Nat}{a:Int}(h:0≤a)(h1:a < (↑b:Int)):a.toNat < b:=(Int.toNat_lt h).mpr h1
theorem Th{a:Int}(h:0≤a):0≤2+a:=Int.add_nonneg (by decide) h
theorem uI{a:Int}(h:0≤a∧a < 2):a=0∨a=1:=by first | lia | omega
theorem Dl{a b:Nat}:a+1+b=a+(b+1):=Nat.add_right_comm a 1 b
theorem Dm{a:Nat}(h:a≤1000):a≤16777216:=Nat.le_trans h (by decide)
theorem Dn{a:Int}(h:0≤a∧a < 26):a < (↑26:Int):=h.2
theorem lG{a:Int}(h:0≤a∧a < 26):a.toNat < 26:=(Int.toNat_lt h.1).mpr h.2
theorem Do{a b:Int}(h:0≤a∧a < 26)(h1:0≤b∧b < 26)(h2:a.toNat=b.toNat):a=b:=oS h.1 h1.1 h2
theorem Dp{a:Int}(h:0≤a∧a < 8):0 < 1+a:=Int.lt_of_lt_of_le Int.zero_lt_one (Int.le_add_of_nonneg_right h.1)
theorem uJ{a:Int}(h:0≤a∧a < 8):0≤1+a:=Int.add_nonneg (by decide) h.1
theorem uK{a:Int}:min (1+a).toNat 8≤1000:=Nat.le_trans (Nat.min_le_right _ _) (by decide)
theorem Dq{a:Int}(h:0≤a∧a < 8):1+a≠0:=fun e=>absurd (Int.le_add_of_nonneg_right h.1:(1:Int)≤1+a) (by rw[e];decide)
theorem Dr{a b:Int}(h:0≤a∧a < 8)(h1:0≤b∧b < 1+a):0≤b∧b < 8:=⟨h1.1,Int.lt_of_lt_of_le h1.2 (by rw[Int.add_comm];exact h.2)⟩
theorem Ds{a b c:Int}(h:0≤a∧a < 26)(h1:0≤b∧b < 26)(h2:(c+a) % 26=(c+b) % 26):a=b:=by
 have:=Int.emod_add_cancel_left.mp h2
 rwa [Int.emod_eq_of_lt h.1 h.2,Int.emod_eq_of_lt h1.1 h1.2] at this
theorem Dt{a:Int}(h:0≤a∧a < 14):0≤a / 8∧a / 8 < 26:=⟨Int.ediv_nonneg h.1 (by decide),Int.lt_of_le_of_lt (Int.ediv_le_self 8 h.1) (Int.lt_trans h.2 (by decide))⟩
theorem Du{a b:Int}(h:0≤a∧a < 8)(h1:0≤b∧b < 8)(h2:min (1+a).toNat 8=min (1+b).toNat 8):a=b:=by
 rw[Nat.min_eq_left (oU h.2),Nat.min_eq_left (oU h1.2)] at h2;exact Int.add_left_cancel (oS (p1 h.1) (p1 h1.1) h2)
theorem Dv{a:Int}(h:0≤a∧a < 8):0 < (1+a).toNat:=(Int.lt_toNat).mpr (Int.lt_of_lt_of_le Int.zero_lt_one (Int.le_add_of_nonneg_right h.1))
theorem Dw{a b:Int}(h:0≤a∧a < 8)(h1:0≤b∧b < 1+a):b.toNat < 8∧b.toNat < (1+a).toNat:=⟨(Int.toNat_lt h1.1).mpr (Int.lt_of_lt_of_le h1.2 (by rw[Int.add_comm];exact h.2)),(Int.toNat_lt h1.1).mpr (Int.lt_of_lt_of_le h1.2 (Int.self_le_toNat _))⟩
theorem Dx{a:Int}(h:0≤a∧a < 14):a.toNat < 14:=(Int.toNat_lt h.1).mpr h.2
theorem Dy{a:Int}(h:0≤a∧a < 4):0≤9+a∧9+a < 14:=⟨Int.add_nonneg (by decide) h.1,Int.lt_of_lt_of_le (Int.add_lt_add_left h.2 9) (by decide)⟩
theorem Dz{a:Int}(h:0≤a∧a < 3):a=0∨a=1∨a=2:=by first | lia | omega
theorem Ti{a:Nat}(h:a < 5):a=0∨a=1∨a=2∨a=3∨a=4:=by first | lia | omega
theorem Tj{a:Nat}(h:a < 5):0≤(↑a:Int)∧(↑a:Int) < 14:=⟨Int.natCast_nonneg a,Int.lt_trans (Int.ofNat_lt.mpr h) (by decide)⟩
theorem Tk{a b:Nat}(h:a+1≤b):a≤b:=Nat.le_of_succ_le h
theorem D0{a:Nat}(h:0 < a):0 < (↑a:Int):=Int.ofNat_lt.mpr h
theorem D1{b:Nat}{a:Int}(h:0≤a∧a < (↑b:Int)):a.toNat < b:=(Int.toNat_lt h.1).mpr h.2
theorem D2{a:Nat}(h:0 < a):(↑a:Int)≠0:=fun e=>Nat.ne_of_gt h (Int.ofNat.inj e)
theorem Tl{a:Int}(h:0≤a∧a < 4):0≤5+a∧5+a < 14:=⟨Int.add_nonneg (by decide) h.1,Int.lt_of_lt_of_le (Int.add_lt_add_left h.2 5) (by decide)⟩
theorem Tm{c:Nat}{a b:Int}(h:0≤a)(h1:a < b)(h2:c=b.toNat - a.toNat):1≤c:=by rw[h2];exact Nat.sub_pos_of_lt ((Int.toNat_lt h).mpr (Int.lt_of_lt_of_le h1 (Int.self_le_toNat b)))
theorem Tn{c:Nat}{a b:Int}(h:a≤b+6)(h1:c=a.toNat - b.toNat):c≤6:=by
 rw[h1];exact Nat.sub_le_of_le_add (Int.toNat_le.mpr (Int.le_trans h (by rw[Int.natCast_add,Int.add_comm];exact Int.add_le_add_left (Int.self_le_toNat b) 6)))
theorem To{a b c:Nat}(h:a≤0)(h1:b+1+4≤c+2):a+(b+1)+3≤c+2:=Nat.le_trans (Nat.add_le_add_right (Nat.add_le_add_right h (b+1)) 3) (by rw[Nat.zero_add];exact Nat.le_trans (Nat.le_succ _) h1)
theorem Tp{a b:Nat}(h:a≤0)(h1:b≤0):max a b+1≤1:=Nat.succ_le_succ (Nat.max_le.mpr ⟨h,h1⟩)
theorem Tq{a b:Nat}(h:a≤1)(h1:b≤1):a+b≤2:=Nat.add_le_add h h1
theorem Ts{a:Nat}(h:a≤0):a≤1:=Nat.le_succ_of_le h
theorem Tt{a:Nat}(h:a≤1):a≤2:=Nat.le_succ_of_le h
theorem Tu{a b c:Nat}(h:a+1+4≤b+2)(h1:c≤1):c+(a+1)+3≤b+2:=Nat.le_trans (Nat.add_le_add_right (Nat.add_le_add_right h1 (a+1)) 3) (by rw[Nat.add_comm 1];exact Nat.le_trans (Nat.le_refl _) h)
theorem Tv{a:Nat}(h:a≤0):a+1≤1:=Nat.succ_le_succ h
theorem Tw{a:Nat}(h:a≤0):max a 0+1≤1:=by rw[Nat.max_eq_left (Nat.zero_le a)];exact Nat.succ_le_succ h
theorem Tx{a:Nat}(h:a≤1):max a 0≤2:=by rw[Nat.max_eq_left (Nat.zero_le a)];exact Nat.le_succ_of_le h
theorem D3{b:Nat}{a:Int}:a+1+(↑b:Int)=a+(↑(b+1):Int):=by rw[Int.natCast_add,Int.add_assoc,Int.natCast_one,Int.add_comm 1]
theorem D4{b:Nat}{a c:Int}(h:a=(↑b:Int))(h1:0≤c∧c < a):c.toNat < b:=(Int.toNat_lt h1.1).mpr (h▸h1.2)
theorem D5{b c:Nat}{a:Int}:a+(↑b:Int) - (a+(↑c:Int))=(↑b:Int) - (↑c:Int):=by first | lia | omega
theorem D6{a b:Nat}(h:a < b):0≤(↑b:Int) - (↑a:Int):=Int.sub_nonneg.mpr (Int.ofNat_le.mpr (Nat.le_of_lt h))
theorem D7{a c:Nat}{b:Int}(h:(↑a:Int) < b):(↑a:Int) - (↑c:Int) < b:=Int.lt_of_le_of_lt (Int.sub_le_self _ (Int.natCast_nonneg c)) h
theorem D8{a c:Nat}{b:Int}(h:(↑a:Int)≤b)(h1:c < a):(↑c:Int) < b:=Int.lt_of_lt_of_le (Int.ofNat_lt.mpr h1) h
theorem D9{a b c:Int}(h:a.toNat=b.toNat)(h1:0≤a∧a < c)(h2:0≤b∧b < c):a=b:=oS h1.1 h2.1 h
theorem Ty{a b:Nat}(h:a - b > 0):1≤a - b:=h
theorem Tz{a b:Nat}(h:¬a < b)(h1:a - b=0):a=b:=Nat.le_antisymm (Nat.le_of_sub_eq_zero h1) (Nat.le_of_not_lt h)
theorem T0{a b c:Nat}(h:a≤6)(h1:b < a)(h2:c=16777216):b < c:=by rw[h2];exact Nat.lt_of_lt_of_le h1 (Nat.le_trans h (by decide))
theorem T1{a b:Nat}(h:a≤6)(h1:b=a):(↑b:Int)≤14:=h1▸Int.le_trans (Int.ofNat_le.mpr h) (by decide)
theorem T3{a b c:Nat}(h:a≤b)(h1:c=a):(↑c:Int)≤(↑b:Int):=h1▸Int.ofNat_le.mpr h
theorem T5{a b:Nat}(h:a+1+4≤b):a+4≤b:=Nat.le_trans (Nat.le_succ _) (Nat.le_trans (Nat.le_of_eq (Nat.add_right_comm a 4 1)) h)
theorem T7{a:Int}(h:0≤a∧a < 2):0≤2+a∧2+a < 14:=⟨Int.add_nonneg (by decide) h.1,Int.lt_trans (Int.add_lt_add_left h.2 2) (by decide)⟩
theorem T8{a:Int}(h:0≤a∧a < 2):0≤3 - a∧3 - a < 14:=⟨Int.sub_nonneg.mpr (Int.le_trans (Int.le_of_lt h.2) (by decide)),Int.lt_of_le_of_lt (Int.sub_le_self 3 h.1) (by decide)⟩
theorem T9{a:Int}:(2+a).toNat≠(3 - a).toNat:=by first | lia | omega
theorem Ua{a:Int}(h:0≤a∧a < 4):0≤4+a:=Int.add_nonneg (by decide) h.1
theorem Ub{a b:Int}(h:0≤a∧a < 6):4+b < 4+b+1+a:=Int.lt_add_of_pos_right _ (Int.lt_of_lt_of_le Int.zero_lt_one (Int.le_add_of_nonneg_right h.1)) |> fun z=>by rw[Int.add_assoc (4+b)];exact z
theorem Uc{a b:Int}(h:0≤a∧a < 6):4+b+1+a≤4+b+6:=by rw[Int.add_assoc (4+b),Int.add_comm 1 a];exact Int.add_le_add_left h.2 _
theorem Ud{a b:Int}(h:0≤a∧a < 4)(h1:0≤b∧b < 6):4+a+1+b≤14:=by
 have e1:a≤3:=Int.le_of_lt_add_one h.2;have e2:b≤5:=Int.le_of_lt_add_one h1.2;exact Int.le_trans (Int.add_le_add (Int.add_le_add_right (Int.add_le_add_left e1 4) 1) e2) (by decide)
theorem Ue{a:Int}(h:0≤a∧a < 2):0≤5+2*a:=Int.add_nonneg (by decide) (Int.mul_nonneg (by decide) h.1)
theorem Uf{a:Int}:5+2*a < 5+2*a+2:=by first | lia | omega
theorem Ug{a:Int}:5+2*a+2≤5+2*a+6:=by first | lia | omega
theorem Uh{a:Int}(h:0≤a∧a < 2):5+2*a+2≤14:=Int.le_trans (Int.add_le_add_right (Int.add_le_add_left (Int.mul_le_mul_of_nonneg_left (Int.le_of_lt h.2) (by decide)) 5) 2) (by decide)
theorem Ui{a b:Nat}(h:a+1+4≤b):a+4≤b+1:=Nat.le_trans (Nat.le_succ _) (Nat.le_succ_of_le (Nat.le_trans (Nat.le_of_eq (Nat.add_right_comm a 4 1)) h))
theorem Uj{a b c:Nat}(h:a+4≤b)(h1:c≤2):c+a+3≤b+3:=Nat.le_trans (Nat.add_le_add_right (Nat.add_le_add_right h1 a) 3) (by rw[Nat.add_comm 2 a];exact Nat.add_le_add_right (Nat.le_trans (Nat.add_le_add_left (by decide:2≤4) a) h) 3)
theorem Uk{a b:Nat}:a.succ+b≤a+(b+1):=Nat.le_of_eq (Nat.succ_add a b)
theorem Ul{a b:Nat}:a+2+2*b≤a+2*(b+1):=by first | lia | omega
theorem Um{a:Nat}:2+a+1≤2+(a+1):=Nat.le_refl _
theorem Un{a:Nat}:2+(2+2*a)≤2+2*(a+1):=by first | lia | omega
theorem Uo{a:Nat}:-(↑(a+1):Int)≤-1:=Int.neg_le_neg (Int.ofNat_le.mpr (Nat.succ_pos a))
theorem Up{a:Nat}:(-1+(↑(a+1):Int)).toNat=a:=by rw[Int.natCast_add,Int.add_comm,Int.natCast_one,Int.add_neg_cancel_right,Int.toNat_natCast]
theorem Uq{a:Nat}:1≤(↑(a+1):Int):=Int.ofNat_le.mpr (Nat.succ_pos a)
theorem Ur{a:Nat}:(max 0 (min (-1+((↑a:Int)+1)) ((↑a:Int)+1))).toNat=a:=by rw[(Int.add_comm _ _).trans (Int.add_neg_cancel_right (↑a:Int) 1),Int.min_eq_left (Int.le_add_one (Int.le_refl _)),Int.max_eq_right (Int.natCast_nonneg a),Int.toNat_natCast]
theorem Us{a:Int}(h:0≤a∧a < 4):1≤(1+a).toNat:=(Int.lt_toNat).mpr (Int.lt_of_lt_of_le Int.zero_lt_one (Int.le_add_of_nonneg_right h.1))
theorem Ut{a:Int}(h:0≤a∧a < 4):(1+a).toNat≤4:=oU h.2
theorem Uu{a:Int}(h:0≤a∧a < 4):-4096≤1+a∧1+a≤4096:=⟨Int.le_trans (by decide) (Int.add_nonneg (by decide:(0:Int)≤1) h.1),Int.le_trans (Int.add_le_add_left (Int.le_of_lt h.2) 1) (by decide)⟩
theorem Uv{a b c d:Nat}(h:a+4≤b)(h1:c≤2∧d≤2):c+a+3≤b+4:=Nat.le_trans (Nat.add_le_add_right (Nat.add_le_add_right h1.1 a) 3) (by rw[Nat.add_comm 2 a];exact Nat.add_le_add_right (Nat.le_trans (Nat.add_le_add_left (by decide:1≤4) a) h) 4)
theorem Uw{a b c:Nat}(h:a≤4)(h1:b < a)(h2:c=16777216):b < c:=by rw[h2];exact Nat.lt_of_lt_of_le h1 (Nat.le_trans h (by decide))
theorem Ux{a b:Nat}(h:a≤4)(h1:b+1=a):b≤3:=by rw[← h1] at h;exact Nat.le_of_succ_le_succ h
theorem Uy{a b:Nat}(h:a≤3)(h1:a+1=b+1):b≤3:=Nat.succ.inj h1▸h
theorem Uz{a:Nat}(h:a≤3):2+a≤5:=Nat.add_le_add_left h 2
theorem U0{a:Nat}(h:a≤3):2+2*a≤8:=Nat.add_le_add_left (Nat.mul_le_mul_left 2 h) 2
theorem Ea{a b:Nat}(h:a+3≤b+2):a≤b+1:=Nat.le_trans (Nat.le_succ a) (Nat.le_trans (Nat.le_of_succ_le_succ (Nat.le_of_succ_le_succ h)) (Nat.le_succ b))
theorem lH{a:Nat}:0+1≤a+1:=Nat.succ_le_succ (Nat.zero_le a)
theorem Eb{a b:Nat}(h:a+1+3≤b+2):a≤b:=Nat.le_of_add_le_add_right (b:=2) (Nat.le_trans (Nat.add_le_add_left (by decide:2≤4) a) h)
theorem Ec{a b:Nat}(h:a+1+3≤b+2):a+3≤b+1:=Nat.le_of_succ_le_succ (Nat.le_trans (Nat.le_refl _) h)
theorem U1:5+4≤394:=by decide
theorem U2:5+3≤398:=by decide
theorem U3:5+1+3≤398:=by decide
theorem U4{a:Nat}(h:a≤5):a≤900:=Nat.le_trans h (by decide)
theorem U5{a b:Nat}(h:a≤5)(h1:b≤8):3*a+7+b+10≤398:=Nat.le_trans (Nat.add_le_add_right (Nat.add_le_add (Nat.add_le_add_right (Nat.mul_le_mul_left 3 h) 7) h1) 10) (by decide)
theorem U6:5≤7:=by decide
theorem U7{a b:Nat}(h:a < b)(h1:b≤12):a < 12:=Nat.lt_of_lt_of_le h h1
theorem U8{a b c:Nat}(h:a+b < 4096)(h1:c=16777216):a+b≤c:=by rw[h1];exact Nat.le_trans (Nat.le_of_lt h) (by decide)
theorem U9{a b c d e f g:Nat}(h:a≤b)(h1:c≤d)(h2:e≤f)(h3:g≤f)(h4:f=14)(h5:b≤e)(h6:d=g):a+c < 4096:=by rw[h4] at h2 h3;exact Nat.lt_of_le_of_lt (Nat.add_le_add (Nat.le_trans h (Nat.le_trans h5 h2)) (Nat.le_trans h1 (h6▸h3))) (by decide)
theorem Va{a b c:Nat}(h:a+(b+1)=c):a+1≤c:=Nat.le_trans (Nat.add_le_add_left (Nat.succ_le_succ (Nat.zero_le b)) a) (Nat.le_of_eq h)
theorem Vb{a b c d e:Nat}(h:a < 4096)(h1:b≤c)(h2:d≤a+b)(h3:c < 4096)(h4:e=16777216):d < e:=by rw[h4];exact Nat.lt_of_le_of_lt (Nat.le_trans h2 (Nat.add_le_add (Nat.le_of_lt h) (Nat.le_trans h1 (Nat.le_of_lt h3)))) (by decide)
theorem Vc{a b c d e f:Nat}(h:a≤b+c)(h1:d≤e)(h2:f≤e)(h3:e=14)(h4:b≤d)(h5:c=f):a < 4096:=by rw[h3] at h1 h2;exact Nat.lt_of_le_of_lt (Nat.le_trans h (Nat.add_le_add (Nat.le_trans h4 h1) (h5▸h2))) (by decide)
theorem Vd{a b c d e f:Nat}(h:a≤b)(h1:c≤b)(h2:b=14)(h3:d≤a)(h4:e≤c)(h5:f=16777216):d+e≤f:=by rw[h5];rw[h2] at h h1;exact Nat.le_trans (Nat.add_le_add (Nat.le_trans h3 h) (Nat.le_trans h4 h1)) (by decide)
theorem Ve{a b c d:Nat}(h:2*(a+1)+(b+1)+c+8≤d+3):2*a+b+c+8≤d+1:=by first | lia | omega
theorem Vf{a b c d e f:Nat}(h:2*(max a b+1)+c+(d+e)+8≤f+1):a+c+3≤f:=Nat.le_of_succ_le_succ (Nat.le_trans (Nat.add_le_add (Nat.le_trans (Nat.add_le_add_right (Nat.le_trans (Nat.le_max_left a b) (Nat.le_trans (Nat.le_succ _) (Nat.le_mul_of_pos_left _ (by decide:0 < 2)))) c) (Nat.le_add_right _ (d+e))) (by decide:4≤8)) h)
theorem Ed{a b c d:Nat}(h:a≤9*b)(h1:b≤900)(h2:c≤8)(h3:d=1048576):a+1+(c+1+0)≤d:=by rw[h3];exact Nat.le_trans (Nat.add_le_add (Nat.succ_le_succ (Nat.le_trans h (Nat.mul_le_mul_left 9 h1))) (Nat.succ_le_succ h2)) (by decide)
theorem Vg{a:Nat}(h:a≤5):a+5+3≤399:=Nat.le_trans (Nat.add_le_add_right (Nat.add_le_add_right h 5) 3) (by decide)
theorem Vh{a b:Nat}(h:a≤5)(h1:b≤8):2*a+7+b+8≤399:=Nat.le_trans (Nat.add_le_add_right (Nat.add_le_add (Nat.add_le_add_right (Nat.mul_le_mul_left 2 h) 7) h1) 8) (by decide)
theorem Vi:5+1+1≤398:=by decide
theorem Vj{a:Nat}(h:a≤8):7+a+(7+a)≤397:=Nat.le_trans (Nat.add_le_add (Nat.add_le_add_left h 7) (Nat.add_le_add_left h 7)) (by decide)
theorem Vk{a b c d:Nat}(h:a < b)(h1:b≤12)(h2:c=a)(h3:d=16777216):c < d:=by rw[h2,h3];exact Nat.lt_of_lt_of_le h (Nat.le_trans h1 (by decide))
end Mine
namespace Mine
open PySem
inductive P(α:Type) where
 |no
 |ok (a:α)
theorem bft{p:Prop}(h:false=true):p:=Bool.noConfusion h
theorem btf{p:Prop}(h:true=false):p:=Bool.noConfusion h
theorem ns{α:Type}{a:α}{p:Prop}(h:none=some a):p:=nomatch h
theorem sn{α:Type}{a:α}{p:Prop}(h:some a=none):p:=nomatch h
theorem si{α:Type}{a b:α}(h:some a=some b):a=b:=Option.some.inj h
theorem pno{α:Type}{a:α}{p:Prop}(h:P.no=.ok a):p:=nomatch h
theorem pi{α:Type}{a b:α}(h:P.ok a=.ok b):a=b:=P.ok.inj h
theorem cL{α:Type}{a:α}{p:Prop}(h:a∈([]:List α)):p:=nomatch h
theorem ocs{α:Type}{p:Prop}(o:Option α)(h:o=none→p)(g:∀ x,o=some x→p):p:=by cases o with | none=>exact h rfl | some x=>exact g x rfl
theorem bcs{p:Prop}(b:Bool)(h:b=false→p)(g:b=true→p):p:=by cases b with | false=>exact h rfl | true=>exact g rfl
theorem pcs{α:Type}{p:Prop}(o:P α)(h:o=.no→p)(g:∀ x,o=.ok x→p):p:=by cases o with | no=>exact h rfl | ok x=>exact g x rfl
noncomputable def P.bind{α β:Type}(x:P α)(f:α→P β):P β :=
 match x with
 | .no=>.no
 | .ok a=>f a
structure X where
 cls:Str
 fields:List (Str×PyData)
inductive V where
 |fz (d:PyData)
 |own (d:PyData)
 |ex (x:X)
abbrev aA:=List (Str×Option V)
noncomputable def aA.get:aA→Str→Option (Option V)
 | [],_=>none
 | (y,v)::r,x=>if x=y then some v else aA.get r x
noncomputable def aA.set:aA→Str→V→aA
 | [],_,_=>[]
 | (y,v)::r,x,u=>if x=y then (y,some u)::r else (y,v)::aA.set r x u
noncomputable def V.clear:V→V
 | .own d=>.fz d
 |v=>v
noncomputable def aA.clear:aA→List Str→aA
 | [],_=>[]
 | (y,v)::r,xs=>(y,if xs.contains y then v.map V.clear else v)::aA.clear r xs
noncomputable def dOf:V→PyData
 | .fz d=>d
 | .own d=>d
 | .ex _=>.none
inductive R(α:Type) where
 |no
 |ok (a:α)
 |exc (x:X)
noncomputable def rb{α β:Type}(r:R α)(k:α→R β):R β :=
 match r with
 | .no=>.no
 | .ok a=>k a
 | .exc x=>.exc x
noncomputable def ofP{α:Type}:P α→R α
 | .no=>.no
 | .ok a=>.ok a
noncomputable def nx{α:Type}:R α→R α
 | .ok a=>.ok a
 |_=>.no
noncomputable def ofO{α:Type}:Option α→P α
 |some a=>.ok a
 |none=>.no
noncomputable def Ee:PyData→P Bool
 | .bool b=>.ok b
 |_=>.no
noncomputable def cV:V→P Bool
 | .fz d=>Ee d
 |_=>.no
noncomputable def aV:Nat:=16777216
noncomputable def mkS(s:Str):P V:=if s.length≤aV then .ok (.fz (.str s)) else .no
noncomputable def jO(x:Str)(n:Int):Str :=
 if n < 1 then Str.empty else if (n==1||x.length==0)=true then x else ⟨(List.replicate n.toNat x.cps).foldl (·++·) #[]⟩
noncomputable def uL(op:Operator)(x y:Int):P V :=
 match op with
 | .Add=>.ok (.fz (.int (x+y)))
 | .Sub=>.ok (.fz (.int (x - y)))
 | .Mult=>if x.natAbs < 2 ^ 63∨y.natAbs < 2 ^ 63 then .ok (.fz (.int (x*y))) else .no
 | .FloorDiv=>if y≠0∧y.natAbs < 2 ^ 63 then .ok (.fz (.int (x.fdiv y))) else .no
 | .Mod=>if y≠0 then .ok (.fz (.int (x.fmod y))) else .no
 | .Pow=>if 0≤y∧y≤1000∧x.natAbs < 2 ^ 63 then .ok (.fz (.int (x ^ y.toNat))) else .no
 |_=>.no
noncomputable def lI:Operator→Bool
 | .Add=>true
 |_=>false
noncomputable def uM:Operator→Bool
 | .Mult=>true
 |_=>false
noncomputable def Ef(op:Operator)(x:Int):PyData→P V
 | .int y=>uL op x y
 |_=>.no
noncomputable def Eg(op:Operator)(x:Str):PyData→P V
 | .str y=>if lI op=true∧x.length+y.length≤aV then .ok (.fz (.str (x++y))) else .no
 | .int y=>if uM op=true∧-100≤y∧y≤1024∧x.length≤1024 then .ok (.fz (.str (jO x y))) else .no
 |_=>.no
noncomputable def gF(op:Operator)(x:List PyData):PyData→P V
 | .list y=>if lI op=true∧x.length+y.length≤aV then .ok (.own (.list (x++y))) else .no
 |_=>.no
noncomputable def aH(op:Operator)(a b:PyData):P V :=
 match a with
 | .int x=>Ef op x b
 | .str x=>Eg op x b
 | .list x=>gF op x b
 |_=>.no
noncomputable def eqI(x:Int):PyData→P Bool
 | .int y=>.ok (x==y)
 |_=>.no
noncomputable def eqS(x:Str):PyData→P Bool
 | .str y=>.ok (x==y)
 |_=>.no
noncomputable def eqB(x:Bool):PyData→P Bool
 | .bool y=>.ok (x==y)
 |_=>.no
noncomputable def strs?:List PyData→Option (List Str)
 | []=>some []
 |d::r=>match d with
  | .str s=>(strs? r).map (s::·)
  |_=>none
noncomputable def iE(x y:List PyData):P Bool :=
 match strs? x with
 |none=>.no
 |some a=>match strs? y with
  |none=>.no
  |some b=>.ok (a==b)
noncomputable def eqL(x:List PyData):PyData→P Bool
 | .list y=>if x.length=y.length then iE x y else .ok false
 |_=>.no
noncomputable def eqZ:PyData→P Bool
 | .list _=>.ok false
 |_=>.no
noncomputable def eqO(a b:PyData):P Bool :=
 match a with
 | .none=>eqZ b
 | .int x=>eqI x b
 | .str x=>eqS x b
 | .bool x=>eqB x b
 | .list x=>eqL x b
 |_=>.no
noncomputable def dO(a:Str):List Str→List Str
 | []=>[a]
 |b::r=>if b.cps.toList < a.cps.toList then b::dO a r else a::b::r
noncomputable def aZ:List Str→List Str
 | []=>[]
 |a::r=>dO a (aZ r)
noncomputable def bS:List (PyData×PyData)→Str→Option PyData
 | [],_=>none
 | (.str y,v)::r,x=>if x=y then some v else bS r x
 |_::r,x=>bS r x
noncomputable def bY:List (PyData×PyData)→Str→PyData→List (PyData×PyData)
 | [],x,u=>[(.str x,u)]
 | (.str y,v)::r,x,u=>if x=y then (.str y,u)::r else (.str y,v)::bY r x u
 |p::r,x,u=>p::bY r x u
noncomputable def c8:List (PyData×PyData)→Str→List (PyData×PyData)
 | [],_=>[]
 | (.str y,v)::r,x=>if x=y then r else (.str y,v)::c8 r x
 |p::r,x=>p::c8 r x
noncomputable def slice{α:Type}(l:List α)(lo hi:Option Int):List α:=(l.drop (lo.elim 0 (clipAt l.length))).take (hi.elim l.length (clipAt l.length) - lo.elim 0 (clipAt l.length))
noncomputable def bT(c:Nat):PyData:=.str ⟨#[c]⟩
noncomputable def frz:Option PyData→P V
 |some d=>.ok (.fz d)
 |none=>.no
noncomputable def atP(l:List PyData)(k:Int):P V:=if 0≤k∧k < l.length then frz l[k.toNat]? else .no
noncomputable def atN(l:List PyData)(k:Int):P V:=if k < 0∧-(l.length:Int)≤k then frz l[(k+l.length).toNat]? else .no
noncomputable def atS(s:Str)(k:Int):P V:=if 0≤k∧k < s.cps.size then frz (s.cps[k.toNat]?.map bT) else .no
noncomputable def Eh(k:Int):PyData→P V
 | .list l=>if 0≤k then atP l k else atN l k
 | .tuple l=>atP l k
 | .str s=>atS s k
 |_=>.no
noncomputable def Ei(x:Str):PyData→P V
 | .dict l=>frz (bS l x)
 |_=>.no
noncomputable def getItem(a i:PyData):P V :=
 match i with
 | .int k=>Eh k a
 | .str x=>Ei x a
 |_=>.no
noncomputable def Ej(l:List PyData)(lo hi:Option Int):P V:=if lo=some 1∧hi=some 3∧3≤l.length then .ok (.fz (.tuple ((l.drop 1).take 2))) else .no
noncomputable def jP(a:PyData)(lo hi:Option Int):P V :=
 match a with
 | .list l=>.ok (.own (.list (slice l lo hi)))
 | .tuple l=>Ej l lo hi
 |_=>.no
noncomputable def lJ(x:Str)(l:List PyData):P Bool:=(ofO (strs? l)).bind fun ss=>.ok (ss.contains x)
noncomputable def inS(x:Str):PyData→P Bool
 | .str y=>.ok (Txt.contains y x)
 | .dict l=>.ok (bS l x).isSome
 | .list l=>lJ x l
 | .tuple l=>lJ x l
 |_=>.no
noncomputable def contains(a b:PyData):P Bool :=
 match a with
 | .str x=>inS x b
 |_=>.no
noncomputable def bU(p:P Bool):P Bool:=p.bind fun b=>.ok (!b)
noncomputable def oZ:PyData→Bool
 | .none=>true
 |_=>false
noncomputable def lK(a b:PyData):P Bool :=
 match b with
 | .none=>.ok (oZ a)
 |_=>.no
noncomputable def jQ(f:Int→Int→Bool)(a b:PyData):P Bool :=
 match a with
 | .int x=>(match b with | .int y=>.ok (f x y) | _=>.no)
 |_=>.no
noncomputable def cmp(op:CmpOp)(a b:PyData):P Bool :=
 match op with
 | .Eq=>eqO a b
 | .NotEq=>bU (eqO a b)
 | .Lt=>jQ (fun x y=>decide (x < y)) a b
 | .LtE=>jQ (fun x y=>decide (x≤y)) a b
 | .Gt=>jQ (fun x y=>decide (y < x)) a b
 | .GtE=>jQ (fun x y=>decide (y≤x)) a b
 | .In=>contains a b
 | .NotIn=>bU (contains a b)
 | .Is=>lK a b
 | .IsNot=>bU (lK a b)
noncomputable def items:PyData→P (List PyData)
 | .list l=>.ok l
 | .tuple l=>.ok l
 | .dict l=>.ok (l.map (·.1))
 | .str s=>.ok (s.cps.toList.map bT)
 |_=>.no
noncomputable def Ek:PyData→P (List PyData)
 | .list l=>.ok l
 | .tuple l=>.ok l
 |_=>.no
noncomputable def eA(i:Int):List PyData→List PyData
 | []=>[]
 |x::r=>.tuple [.int i,x]::eA (i+1) r
noncomputable def Vl(l m:List PyData):List PyData:=List.zipWith (fun a b=>.tuple [a,b]) l m
noncomputable def cR(i:Int):Nat→List PyData
 |0=>[]
 |n+1=>.int i::cR (i+1) n
noncomputable def bools?:List PyData→Option (List Bool)
 | []=>some []
 | .bool b::r=>(bools? r).map (b::·)
 |_::_=>none
noncomputable def El(l:List PyData):P Bool:=(ofO (bools? l)).bind fun bs=>.ok (bs.all id)
noncomputable def b8:List Str→List Str
 | []=>[]
 |a::r=>if r.contains a then b8 r else a::b8 r
noncomputable def Em:List PyData→Option (PyData×PyData)
 | []=>none
 |a::r=>match r with
  | []=>none
  |b::r=>match r with
   | []=>some (a,b)
   |_::_=>none
noncomputable def two:PyData→Option (PyData×PyData)
 | .tuple l=>Em l
 |_=>none
noncomputable def keys?:List (PyData×PyData)→Option (List (Str×PyData))
 | []=>some []
 |p::r=>match p.1 with
  | .str k=>(keys? r).map ((k,p.2)::·)
  |_=>none
noncomputable def twos?:List PyData→Option (List (PyData×PyData))
 | []=>some []
 |x::r=>(two x).bind fun p=>(twos? r).map (p::·)
noncomputable def cW:List (Str×PyData)→List (PyData×PyData)→List (PyData×PyData)
 | [],acc=>acc
 |p::r,acc=>cW r (bY acc p.1 p.2)
noncomputable def En(i:Int):Str:=Str.ofString (toString i)
noncomputable def cD:PyData→Bool
 | .dict _=>true
 |_=>false
noncomputable def fB:PyData→Bool
 | .int _=>true
 | .bool _=>true
 |_=>false
noncomputable def fO:PyData→Bool
 | .bool _=>true
 |_=>false
noncomputable def pA:PyData→Bool
 | .str _=>true
 |_=>false
noncomputable def uN:PyData→Bool
 | .list _=>true
 |_=>false
noncomputable def lL:PyData→Bool
 | .tuple _=>true
 |_=>false
noncomputable def fz(d:PyData):P V:=.ok (.fz d)
noncomputable def own(d:PyData):P V:=.ok (.own d)
noncomputable def fzb(b:P Bool):P V:=b.bind fun b=>.ok (.fz (.bool b))
noncomputable def bO:PyData→P V
 | .list l=>fz (.int l.length)
 | .tuple l=>fz (.int l.length)
 | .str s=>fz (.int s.cps.size)
 | .dict l=>fz (.int l.length)
 |_=>.no
noncomputable def cE:PyData→P V
 | .list l=>fzb (El l)
 |_=>.no
noncomputable def eH(l:List PyData):P V:=(ofO (strs? l)).bind fun l=>if l.length < 64 then own (.list ((aZ l).map .str)) else .no
noncomputable def cG:PyData→P V
 | .list l=>eH l
 | .dict l=>eH (l.map (·.1))
 |_=>.no
noncomputable def dI:PyData→P V
 | .dict l=>own (.list (l.map (·.1)))
 | .list l=>own (.list l)
 |_=>.no
noncomputable def lM:PyData→P V
 | .list l=>fz (.tuple l)
 |_=>.no
noncomputable def bV:PyData→P V
 | .list l=>(ofO (twos? l)).bind fun l=>(ofO (keys? l)).bind fun l=>if l.length < 4096 then own (.dict (cW l [])) else .no
 | .dict l=>own (.dict l)
 |_=>.no
noncomputable def dS:PyData→P V
 | .bool b=>fz (.int (if b then 1 else 0))
 | .str s=>if s.length≤640 then (ofO (PySem.intText? s)).bind fun i=>fz (.int i) else .no
 |_=>.no
noncomputable def uO:PyData→P V
 | .str s=>fz (.str s)
 | .int i=>if i.natAbs.log2 < 1920 then fz (.str (En i)) else .no
 |_=>.no
noncomputable def pB:PyData→P V
 | .int i=>fz (.int (if i < 0 then -i else i))
 |_=>.no
noncomputable def fP:PyData→Bool
 | .str _=>true
 | .int i=>decide (i.natAbs < 10)
 |_=>false
noncomputable def pC:PyData→Bool
 | .str _=>true
 | .list l=>l.all fP
 |_=>false
noncomputable def gG:PyData→P V
 | .tuple l=>if l.all pC=true∧(PyData.shown (.tuple l)).length≤sizeLine then .ok (.fz (.str (PyData.shown (.tuple l)))) else .no
 |_=>.no
noncomputable def pD(f:Str)(d:PyData):P V :=
 if f = "len" then bO d
 else if f = "all" then cE d
 else if f = "sorted" then cG d
 else if f = "list" then dI d
 else if f = "tuple" then lM d
 else if f = "dict" then bV d
 else if f = "int" then dS d
 else if f = "str" then uO d
 else if f = "abs" then pB d
 else if f = "repr" then gG d
 else .no
noncomputable def iF(f:Str):Bool:=f == "len" || f == "all" || f == "sorted" || f == "list" || f == "tuple" || f == "dict" || f == "int" || f == "str" || f == "abs" || f == "repr"
noncomputable def Eo:List PyData→Option PyData
 | []=>some .none
 |d::r=>match r with
  | []=>some d
  |_::_=>none
noncomputable def uP(l:List (PyData×PyData))(r:List PyData):PyData→P V
 | .str k=>(ofO (Eo r)).bind fun d=>fz ((bS l k).getD d)
 |_=>.no
noncomputable def pE:PyData→P (List PyData)
 | .list l=>.ok l
 |_=>.no
noncomputable def uQ(sep:Str)(r:List PyData)(d:PyData):P V :=
 match r with
 | []=>(pE d).bind fun l=>(ofO (strs? l)).bind fun l=>if JoinOk sep l then fz (.str (Txt.join sep l)) else .no
 |_::_=>.no
noncomputable def mOk(m:Str)(o:PyData):Bool :=
 match o with
 | .dict _=>decide (m = "get")
 | .str _=>decide (m = "join")
 |_=>false
noncomputable def fC(o:PyData)(as:List PyData):P V :=
 match as with
 | []=>.no
 |k::r=>match o with
  | .dict l=>uP l r k
  | .str sep=>uQ sep r k
  |_=>.no
inductive EW where
 |name (x:Str)
 |tup (es:List Expr)
 |star
 |call (f:Expr) (as:List Expr) (kws:List Keyword) (q:Pos)
 |attr (o:Expr) (m:Str) (p:Pos)
 |sub (o i:Expr)
 |slice (a b c:Option Expr)
 |comp
 |setd
 |other
noncomputable def vw:Expr→EW
 | .Name x _=>.name x
 | .Tuple es _ _=>.tup es
 | .Starred _ _=>.star
 | .Call f as kws q=>.call f as kws q
 | .Attribute o m p=>.attr o m p
 | .Subscript o i _=>.sub o i
 | .Slice a b c _=>.slice a b c
 | .ListComp _ _ _ _=>.comp
 | .SetComp _ _ _ _=>.comp
 | .DictComp _ _ _ _ _=>.comp
 | .Set _ _ _=>.setd
 |_=>.other
noncomputable def bD(e:Expr):Option Str:=match vw e with | .name x=>some x | _=>none
noncomputable def pF(e:Expr):Bool:=match vw e with | .call _ _ _ _=>true | _=>false
noncomputable def lN(e:Expr):Bool:=match vw e with | .comp=>true | _=>false
noncomputable def uR(e:Expr):Bool:=match vw e with | .slice _ _ _=>true | _=>false
noncomputable def jR(e:Expr):Bool:=match vw e with | .tup _=>true | _=>false
noncomputable def gH(e:Expr):Option (Expr×List Expr×List Keyword×Pos):=match vw e with | .call f as kws q=>some (f,as,kws,q) | _=>none
noncomputable def jS(e:Expr):Option (Expr×Str×Pos):=match vw e with | .attr o m p=>some (o,m,p) | _=>none
noncomputable def pG{α:Type}(kws:List Keyword)(a:α):Option α:=match kws with | []=>some a | _::_=>none
noncomputable def bad(e:Expr):Bool:=match vw e with | .star=>true | .setd=>true | .slice _ _ _=>true | _=>false
structure Ctx where
 call:Str→List V→R V
 has:Str→Bool
 const:Str→Option PyData
 hd:Bool
 sub:Str→Str→Option Bool
 init:Str→Option (Option (List Str))
noncomputable def evs(rec:Expr→R V):List Expr→R (List V)
 | []=>.ok []
 |e::r=>rb (rec e) fun v=>rb (evs rec r) fun vs=>.ok (v.clear::vs)
noncomputable def bP(l:List V):List PyData:=l.map dOf
noncomputable def isG(sc:Scope)(x:Str):Bool:=sc.names.lookup x==some .globalImplicit
noncomputable def isL(sc:Scope)(x:Str):Bool :=
 match sc.names.lookup x with
 |some .local=>true
 |some .cell=>true
 |some .free=>true
 |_=>false
noncomputable def tst(r:R V):R Bool:=rb r fun v=>ofP (cV v)
noncomputable def jT(rec:Expr→R V):List Expr→R V
 | []=>.no
 |e::r=>match r with
  | []=>rec e
  |r=>rb (rec e) fun v=>rb (ofP (cV v)) fun b=>if b then jT rec r else .ok v
noncomputable def jU(rec:Expr→R V):List Expr→R V
 | []=>.no
 |e::r=>match r with
  | []=>rec e
  |r=>rb (rec e) fun v=>rb (ofP (cV v)) fun b=>if b then .ok v else jU rec r
noncomputable def aS(b:R Bool):R V:=rb b fun b=>.ok (.fz (.bool b))
noncomputable def pH(rec:Expr→R V)(a:PyData)(op:CmpOp)(e:Expr):R Bool:=rb (rec e) fun v=>ofP (cmp op a (dOf v))
noncomputable def Ep(rec:Expr→R V)(a:PyData)(op op':CmpOp)(e e':Expr):R Bool:=rb (rec e) fun v=>rb (ofP (cmp op a (dOf v))) fun t=>if t then pH rec (dOf v) op' e' else .ok false
noncomputable def lO(rec:Expr→R V)(a:PyData)(ops:List CmpOp)(es:List Expr):R Bool :=
 match ops with
 | []=>.no
 |op::ops=>match es with
  | []=>.no
  |e::es=>match ops with
   | []=>(match es with | []=>pH rec a op e | _::_=>.no)
   |op'::ops=>match es with
    | []=>.no
    |e'::es=>match ops with
     | []=>(match es with | []=>Ep rec a op op' e e' | _::_=>.no)
     |_::_=>.no
noncomputable def lP(rec:Expr→R V):List (Option Expr)→List Expr→R (List (PyData×PyData))
 | [],[]=>.ok []
 |some k::ks,e::es=>rb (rec k) fun k=>rb (rec e) fun v=>rb (lP rec ks es) fun r=>.ok ((dOf k,dOf v)::r)
 |_,_=>.no
noncomputable def iG(l:List (PyData×PyData)):P V:=(ofO (keys? l)).bind fun l=>own (.dict (cW l []))
noncomputable def eB:List Expr→Option (List Str)
 | []=>some []
 |e::r=>(bD e).bind fun x=>(eB r).map (x::·)
noncomputable def iH(rec:Expr→R V)(e:Expr):R (List PyData):=rb (rec e) fun v=>ofP (items (dOf v))
noncomputable def uS(n:PyData):P (List PyData) :=
 match n with
 | .int n=>if -4096≤n∧n≤4096 then .ok (cR 0 n.toNat) else .no
 |_=>.no
noncomputable def gI:V→P PyData
 | .fz d=>.ok d
 |_=>.no
noncomputable def pI(rec:Expr→R V)(a:Expr):R (List PyData):=rb (rec a) fun v=>ofP ((gI v).bind uS)
noncomputable def uT:PyData→P (List PyData)
 | .list l=>.ok l.reverse
 |_=>.no
noncomputable def pJ(rec:Expr→R V)(a:Expr):R (List PyData):=rb (rec a) fun v=>ofP (uT (dOf v))
noncomputable def pK(rec:Expr→R V)(a:Expr):R (List PyData):=rb (rec a) fun v=>ofP ((pE (dOf v)).bind fun l=>.ok (eA 0 l))
noncomputable def uU:PyData→P (List PyData)
 | .tuple l=>.ok l
 |_=>.no
noncomputable def iI(e:Expr):Option (Str×List Expr):=(gH e).bind fun c=>(bD c.1).bind fun x=>pG c.2.2.1 (x,c.2.1)
noncomputable def fD(rec:Expr→R V)(hd:Bool)(sc:Scope)(target:Expr)(e:Expr):R (List PyData) :=
 if hd then .no else
 match iI e with
 |none=>iH rec e
 |some c =>
  if c.1 = "range" ∨ c.1 = "enumerate" ∨ c.1 = "reversed" ∨ c.1 = "zip" then
   if isG sc c.1 then match c.2 with
    | []=>.no
    |a::r=>match r with
     | []=>if c.1 = "range" then pI rec a else if c.1 = "enumerate" ∧ jR target=true then pK rec a else if c.1 = "reversed" then pJ rec a else .no
     |_::_=>.no
   else .no
  else iH rec e
noncomputable def bnd(x:Str)(d:PyData)(σ:aA):aA:=(".0", none)::(x,some (.fz d))::σ
noncomputable def aU(test:PyData→R Bool)(elt:PyData→R V):List PyData→R (List PyData)
 | []=>.ok []
 |d::r=>rb (nx (test d)) fun b =>
  if b then rb (nx (elt d)) fun v=>rb (aU test elt r) fun xs=>.ok (dOf v::xs)
  else aU test elt r
noncomputable def fQ(test:aA→R Bool)(elt:aA→R V)(x:Str)(σ:aA)(l:List PyData):R (List PyData):=aU (fun d=>test (bnd x d σ)) (fun d=>elt (bnd x d σ)) l
noncomputable def jV(sc:Scope)(σ:aA)(x:Str):Option PyData :=
 match aA.get σ x with
 |some o=>(match o with
  |some v=>(match v with | .own d=>if isL sc x then some d else none | _=>none)
  |none=>none)
 |none=>none
noncomputable def lQ(sc:Scope)(σ:aA)(e:Expr):Option PyData:=match bD e with | some x=>jV sc σ x | none=>none
noncomputable def uV(sc:Scope)(σ:aA)(x:Str):Option X :=
 match aA.get σ x with
 |some o=>(match o with
  |some v=>(match v with | .ex d=>if isL sc x then some d else none | _=>none)
  |none=>none)
 |none=>none
noncomputable def jW(sc:Scope)(σ:aA)(e:Expr):Option X:=match bD e with | some x=>uV sc σ x | none=>none
noncomputable def lR(rec:Expr→R V)(sc:Scope)(σ:aA)(o:Expr):R PyData :=
 match lQ sc σ o with
 |some d=>.ok d
 |none=>rb (rec o) fun v=>.ok (dOf v)
noncomputable def lT:Option NameKind→Bool
 |some .cell=>true
 |some .free=>true
 |_=>false
noncomputable def lU(sc sc':Scope)(x:Str):Bool :=
 sc'.kind==.function&&(sc'.names.all fun p=>match p.2 with
  | .local=>(p.1 == ".0" || p.1==x)&&sc'.names.lookup p.1==some .local
  | .cell=>false
  | .free=>lT (sc.names.lookup p.1)
  |_=>true)&&x != ".0" && sc'.names.lookup x==some .local&&(sc'.names.lookup (Str.ofString "__debug__")).isNone&&(sc'.names.lookup (Str.ofString "__classdict__")).isNone
noncomputable def Er(a b:PyData):P V :=
 match a with
 | .int x=>(match b with | .int y=>fz (.int (if y < x then y else x)) | _=>.no)
 |_=>.no
noncomputable def lV:List V→P V
 | []=>.no
 |a::r=>match r with
  | []=>.no
  |b::r=>(match r with | []=>(gI a).bind fun a=>(gI b).bind fun b=>Er a b | _::_=>.no)
noncomputable def lW(t:Str)(d:PyData):P V :=
 if t = "dict" then fz (.bool (cD d))
 else if t = "int" then fz (.bool (fB d))
 else if t = "bool" then fz (.bool (fO d))
 else if t = "str" then fz (.bool (pA d))
 else if t = "list" then fz (.bool (uN d))
 else if t = "tuple" then fz (.bool (lL d))
 else .no
noncomputable def lX(e:Expr):Bool:=match vw e with | .call f _ _ _=>(bD f).isNone | _=>true
noncomputable def dT(d:PyData):P V:=(Ek d).bind fun l=>(ofO (strs? l)).bind fun ss=>if ss.length < 64 then fz (.int (b8 ss.reverse).length) else .no
noncomputable def pL:PyData→P V
 | .dict l=>own (.list (l.map fun p=>.tuple [p.1,p.2]))
 |_=>.no
noncomputable def uW(rec:Expr→R V)(sc:Scope)(as:List Expr):R V :=
 match as with
 | []=>.no
 |x::r=>match r with
  | []=>if isG sc "set" = true then rb (rec x) fun v=>ofP (dT (dOf v)) else .no
  |_::_=>.no
noncomputable def uX(rec:Expr→R V)(o:Expr)(ap cp:Pos)(as:List Expr):R V :=
 match as with
 | []=>if lX o=true∧(ap.endLine==cp.line)=true then rb (rec o) fun v=>ofP (pL (dOf v)) else .no
 |_::_=>.no
noncomputable def pM(f:Str):Bool:=f == "all" || f == "list" || f == "dict" || f == "set" || f == "sorted"
noncomputable def fR(rec:Expr→R V)(hd:Bool)(f:Str)(a:Expr):R V:=if hd&&pM f then .no else rb (rec a) fun v=>ofP (pD f (dOf v))
noncomputable def uY(rec:Expr→R V)(hd:Bool)(sc:Scope)(f:Str)(as:List Expr)(kws:List Keyword):R V :=
 if f = "len" ∧ hd=false then (match kws with | []=>uW rec sc as | _::_=>.no) else .no
noncomputable def uZ(rec:Expr→R V)(hd:Bool)(f:Str)(o:Expr)(ap cp:Pos)(as:List Expr)(kws:List Keyword):R V :=
 if f = "list" ∧ hd=false then (match kws with | []=>uX rec o ap cp as | _::_=>.no) else .no
noncomputable def u0(rec:Expr→R V)(hd:Bool)(sc:Scope)(f:Str)(a:Expr)(as:List Expr)(kws:List Keyword)(cp:Pos):EW→R V
 | .name g=>if g = "set" then uY rec hd sc f as kws else fR rec hd f a
 | .attr o m ap=>if m = "items" then uZ rec hd f o ap cp as kws else fR rec hd f a
 |_=>fR rec hd f a
noncomputable def pN(rec:Expr→R V)(hd:Bool)(sc:Scope)(f:Str)(a:Expr):R V :=
 match gH a with
 |some c=>u0 rec hd sc f a c.2.1 c.2.2.1 c.2.2.2 (vw c.1)
 |none=>fR rec hd f a
noncomputable def u1(rec:Expr→R V)(sc:Scope)(a:Expr)(r:List Expr):Option Str→R V
 |some t=>(match r with
  | []=>if isG sc t then rb (rec a) fun v=>ofP (lW t (dOf v)) else .no
  |_::_=>.no)
 |none=>.no
noncomputable def u3(rec:Expr→R V)(sc:Scope)(as:List Expr):R V :=
 match as with
 | []=>.no
 |a::r=>match r with
  | []=>.no
  |b::r=>u1 rec sc a r (bD b)
noncomputable def Es(rec:Expr→R V)(hd:Bool)(sc:Scope)(f:Str)(as:List Expr):R V :=
 match as with
 | []=>.no
 |a::r=>(match r with | []=>pN rec hd sc f a | _::_=>.no)
noncomputable def iJ(rec:Expr→R V)(sc:Scope)(σ:aA)(e:Expr):R V :=
 match jW sc σ e with
 |some x=>.ok (.ex x)
 |none=>rec e
noncomputable def lY(rec:Expr→R V)(K:Ctx)(sc:Scope)(σ:aA)(f:Str)(as:List Expr):R V :=
 if isG sc f then
  if f = "isinstance" then u3 rec sc as
  else if f = "min" then (if as.any bad=true∨K.hd=true then .no else rb (evs rec as) fun vs=>ofP (lV vs))
  else if iF f then Es rec K.hd sc f as
  else if as.any bad=true∨K.has f=false then .no else rb (evs (iJ rec sc σ) as) fun vs=>K.call f vs
 else .no
noncomputable def pO(rec:Scope→aA→Expr→R V)(sc':Scope):List Expr→Option (aA→R Bool)
 | []=>some fun _=>.ok true
 | [c]=>some fun σ'=>tst (rec sc' σ' c)
 |_=>none
noncomputable def iK(rec:Scope→aA→Expr→R V)(hd:Bool)(sc:Scope)(σ:aA)(elt:Expr)(g:Comprehension)(sc':Scope):R V :=
 match bD g.target with
 |none=>.no
 |some x=>if lU sc sc' x&&g.is_async==0 then match pO rec sc' g.ifs with
  |none=>.no
  |some t=>rb (rb (fD (rec sc σ) hd sc g.target g.iter) fun l=>fQ t (fun σ'=>rec sc' σ' elt) x σ l) fun r=>ofP (own (.list r))
 else .no
noncomputable def rdv:V→P V
 | .fz d=>.ok (.fz d)
 |_=>.no
noncomputable def pP(K:Ctx)(sc:Scope)(σ:aA)(x:Str):P V :=
 if isL sc x then match aA.get σ x with
  |some o=>(match o with | some v=>rdv v | none=>.no)
  |none=>.no
 else if isG sc x then (ofO (K.const x)).bind fz
 else .no
noncomputable def pQ:Const→P V
 | .none=>fz .none
 | .bool b=>fz (.bool b)
 | .int i=>fz (.int i)
 | .str s=>mkS s
 |_=>.no
noncomputable def u4:PyData→P V
 | .int i=>fz (.int (-i))
 |_=>.no
noncomputable def eJ(op:UnaryOp)(v:V):P V :=
 match op with
 | .Not=>(cV v).bind fun b=>fz (.bool !b)
 | .USub=>u4 (dOf v)
 |_=>.no
noncomputable def Et(rec:Expr→R V)(a:PyData)(i:Expr):R V:=rb (rec i) fun i=>ofP (getItem a (dOf i))
noncomputable def toI:V→P (Option Int)
 | .fz d=>(match d with | .int i=>.ok (some i) | _=>.no)
 |_=>.no
noncomputable def pR(rec:Expr→R V):Option Expr→R (Option Int)
 |none=>.ok none
 |some e=>rb (rec e) fun v=>ofP (toI v)
noncomputable def jX(e:Expr):Option (Option Expr×Option Expr×Option Expr):=match vw e with | .slice a b c=>some (a,b,c) | _=>none
noncomputable def pS(rec:Expr→R V)(sc:Scope)(σ:aA)(o i:Expr):R V :=
 match jX i with
 |some c=>(match c.2.2 with
  |none=>rb (lR rec sc σ o) fun a=>rb (pR rec c.1) fun lo=>rb (pR rec c.2.1) fun hi=>ofP (jP a lo hi)
  |some _=>.no)
 |none=>if bad i then .no else rb (lR rec sc σ o) fun a=>Et rec a i
noncomputable def jY(rec:Expr→R V)(o:Expr)(m:Str)(ap:Pos)(as:List Expr)(cp:Pos):R V :=
 if m = "items" ∨ lX o=false∨(ap.endLine==cp.line)=false∨as.any bad=true∨3 < as.length then .no else
  rb (rec o) fun o=>if mOk m (dOf o) then rb (evs rec as) fun as=>ofP (fC (dOf o) (bP as)) else .no
noncomputable def jZ:List (Str×PyData)→Str→Option PyData
 | [],_=>none
 | (y,d)::r,x=>if x=y then some d else jZ r x
noncomputable def u5:Option (Option V)→Option X
 |some (some (.ex x))=>some x
 |_=>none
noncomputable def u6(K:Ctx)(sc:Scope)(σ:aA)(o:Expr)(m:Str):P V :=
 (ofO (bD o)).bind fun n=>if isL sc n=true then (ofO (u5 (aA.get σ n))).bind fun x=>(ofO (K.init x.cls)).bind fun i=>(ofO i).bind fun ps=>if ps.contains m=true then (ofO (jZ x.fields m)).bind fun d=>.ok (.fz d) else .no else .no
noncomputable def eK(rec:Scope→aA→Expr→R V)(K:Ctx)(sc:Scope)(σ:aA)(e:Expr):R V :=
 match e with
 | .Constant c _ _=>ofP (pQ c)
 | .Name x _=>ofP (pP K sc σ x)
 | .BoolOp op vs _=>match op with | .And=>jT (rec sc σ) vs | .Or=>jU (rec sc σ) vs
 | .BinOp l op r _=>rb (rec sc σ l) fun a=>rb (rec sc σ r) fun b=>ofP (aH op (dOf a) (dOf b))
 | .UnaryOp op x _=>rb (rec sc σ x) fun v=>ofP (eJ op v)
 | .IfExp t b o _=>rb (tst (rec sc σ t)) fun c=>if c then rec sc σ b else rec sc σ o
 | .Dict ks vs _=>if ks.all Option.isSome=true∧ks.length=vs.length∧vs.length≤15 then rb (lP (rec sc σ) ks vs) fun l=>ofP (iG l) else .no
 | .List es _=>rb (evs (rec sc σ) es) fun l=>if l.length≤aV then .ok (.own (.list (bP l))) else .no
 | .Tuple es _ _=>rb (evs (rec sc σ) es) fun l=>if l.length≤aV then .ok (.fz (.tuple (bP l))) else .no
 | .ListComp elt gens sc' _=>match gens with
  | []=>.no
  |g::gs=>(match gs with | []=>iK rec K.hd sc σ elt g sc' | _::_=>.no)
 | .Compare l ops es _=>rb (rec sc σ l) fun a=>aS (lO (rec sc σ) (dOf a) ops es)
 | .Subscript o i _=>pS (rec sc σ) sc σ o i
 | .Attribute o m _=>ofP (u6 K sc σ o m)
 | .Call f as kws cp=>match kws with
  | []=>(match vw f with
   | .attr o m ap=>jY (rec sc σ) o m ap as cp
   | .name f=>lY (rec sc σ) K sc σ f as
   |_=>.no)
  |_::_=>.no
 |_=>.no
noncomputable def evE(K:Ctx):Nat→Scope→aA→Expr→R V
 |0=>fun _ _ _=>.no
 |k+1=>eK (evE K k) K
inductive SV where
 |fn (n:Str) (a:Arguments) (b:List Stmt) (sc:Scope)
 |cls (n:Str) (bs:List Expr) (b:List Stmt)
 |asg (ts:List Expr) (e:Expr)
 |other
noncomputable def sv:Stmt→SV
 | .FunctionDef n a b _ _ _ sc _ _ _=>.fn n a b sc
 | .ClassDef n bs _ b _ _ _ _ _ _ _=>.cls n bs b
 | .Assign ts e _=>.asg ts e
 |_=>.other
noncomputable def Eu:Expr→Option Const
 | .Constant c _ _=>some c
 |_=>none
noncomputable def dP(f:Str):List Stmt→Option (Arguments×List Stmt×Scope)
 | []=>none
 |s::r=>match sv s with
  | .fn n a b sc=>if f=n then some (a,b,sc) else dP f r
  |_=>dP f r
noncomputable def u7(s:Stmt):Option (Str×Const):=match sv s with
 | .asg ts e=>(match ts with
  | []=>none
  |t::r=>(match r with
   | []=>(bD t).bind fun x=>(Eu e).bind fun c=>some (x,c)
   |_::_=>none))
 |_=>none
noncomputable def Ev:Const→Option PyData
 | .int i=>some (.int i)
 | .str s=>if s.length≤aV then some (.str s) else none
 |_=>none
noncomputable def gJ(body:List Stmt)(x:Str):Option PyData :=
 if x = "__name__" then none else body.findSome? fun s=>(u7 s).bind fun p=>if x=p.1 then Ev p.2 else none
noncomputable def u8(b:List Stmt):Option (List Str):=match b with
 | []=>none
 |s::r=>(match r with
  | []=>(match sv s with | .fn _ a _ _=>some (a.args.drop 1 |>.map (·.arg)) | _=>none)
  |_::_=>none)
noncomputable def bG(c:Str):List Stmt→Option (Str×Option (List Str))
 | []=>none
 |s::r=>match sv s with
  | .cls n bs b=>if c=n then (match eB bs with | some [y]=>some (y,u8 b) | _=>none) else bG c r
  |_=>bG c r
noncomputable def fS(body:List Stmt):Nat→Str→Str→Bool
 |0,_,_=>false
 |n+1,c,d=>c==d||(match bG c body with | some p=>fS body n p.1 d | none=>false)
noncomputable def fE(body:List Stmt)(c d:Str):Option Bool :=
 if ((bG d body).isSome||d == "ValueError")&&(bG c body).isSome then some (fS body 4 c d) else none
end Mine
namespace Mine
open PySem
noncomputable def esc:Nat→Expr→List Str
 |0,_=>[]
 |k+1,e =>
  match e with
  | .Name x _=>[x]
  | .BoolOp _ vs _=>vs.flatMap (esc k)
  | .BinOp l _ r _=>esc k l++esc k r
  | .UnaryOp _ x _=>esc k x
  | .IfExp a b c _=>esc k a++esc k b++esc k c
  | .Dict ks vs _=>ks.flatMap (fun o=>o.elim [] (esc k))++vs.flatMap (esc k)
  | .List es _=>es.flatMap (esc k)
  | .Tuple es _ _=>es.flatMap (esc k)
  | .ListComp elt gens _ _=>esc k elt++gens.flatMap fun g=>esc k g.iter++g.ifs.flatMap (esc k)
  | .Compare l _ es _=>esc k l++es.flatMap (esc k)
  | .Subscript o i _=>if (bD o).isSome then esc k i else esc k o++esc k i
  | .Slice a b _ _=>a.elim [] (esc k)++b.elim [] (esc k)
  | .Attribute o _ _=>esc k o
  | .Call f as _ _=>(jS f).elim [] (fun c=>esc k c.1)++as.flatMap (esc k)
  |_=>[]
noncomputable def cM(x:Str)(v:V)(σ:aA):P aA :=
 match aA.get σ x with
 |some _=>.ok (aA.set σ x v)
 |none=>.no
noncomputable def lZ:List Str→List PyData→aA→P aA
 | [],[],σ=>.ok σ
 |x::xs,d::ds,σ=>(cM x (.fz d) σ).bind fun σ=>lZ xs ds σ
 |_,_,_=>.no
noncomputable def aT(target:Expr)(d:PyData)(σ:aA):P aA :=
 match vw target with
 | .name x=>cM x (.fz d) σ
 | .tup es=>(uU d).bind fun ds=>(ofO (eB es)).bind fun xs=>lZ xs ds σ
 |_=>.no
abbrev KN:=aA→R V
abbrev KR:=V→R V
noncomputable def aP(body:aA→KN→KR→R V)(target:Expr):List PyData→aA→KN→KR→R V
 | [],σ,kn,_=>kn σ
 |d::r,σ,kn,kr=>rb (ofP (aT target d σ)) fun σ=>body σ (fun σ=>aP body target r σ kn kr) kr
noncomputable def u9(l:List (PyData×PyData))(d:PyData):PyData→P PyData
 | .str k=>if l.length < aV then .ok (.dict (bY l k d)) else .no
 |_=>.no
noncomputable def vA(l:List PyData)(d:PyData):PyData→P PyData
 | .int k=>if 0≤k∧k < l.length then .ok (.list (l.set k.toNat d)) else .no
 |_=>.no
noncomputable def setItem(o:PyData)(i d:PyData):P PyData :=
 match o with
 | .dict l=>u9 l d i
 | .list l=>vA l d i
 |_=>.no
noncomputable def bW:V→P PyData
 | .own d=>.ok d
 |_=>.no
noncomputable def fT(σ:aA)(x:Str):P PyData :=
 match aA.get σ x with
 |some o=>(match o with | some v=>bW v | none=>.no)
 |none=>.no
noncomputable def blk(rec:Stmt→aA→KN→KR→R V):List Stmt→aA→KN→KR→R V
 | [],σ,kn,_=>kn σ
 |s::r,σ,kn,kr=>rec s σ (fun σ=>blk rec r σ kn kr) kr
noncomputable def iL(m:Str):PyData→Bool
 | .list _=>decide (m = "append")
 | .dict _=>decide (m = "pop")||decide (m = "update")
 |_=>false
noncomputable def vB(l:List (PyData×PyData)):PyData→P PyData
 | .str k=>if (bS l k).isSome then .ok (.dict (c8 l k)) else .no
 |_=>.no
noncomputable def vC(l:List (PyData×PyData)):PyData→P PyData
 | .dict m=>(ofO (keys? m)).bind fun m=>if l.length+m.length < 4096 then .ok (.dict (cW m l)) else .no
 |_=>.no
noncomputable def dJ(m:Str)(o:PyData)(as:List PyData):P PyData :=
 match as with
 | []=>.no
 |d::r=>match r with
  | []=>(match o with
   | .list l=>if l.length < aV then .ok (.list (l++[d])) else .no
   | .dict l=>if m = "pop" then vB l d else vC l d
   |_=>.no)
  |_::_=>.no
noncomputable def j0(e:Expr):Option (Str×Str×Pos×List Expr×Pos) :=
 (gH e).bind fun c=>(jS c.1).bind fun a=>(bD a.1).bind fun x=>pG c.2.2.1 (x,a.2.1,a.2.2,c.2.1,c.2.2.2)
abbrev EV:=aA→Expr→R V
noncomputable def pT(ev:EV)(F:Nat)(sc:Scope)(σ:aA)(e:Expr)(kr:KR):R V :=
 match bD e with
 |some x=>(match jV sc σ x with
  |some d=>kr (.own d)
  |none=>rb (ev σ e) kr)
 |none=>rb (ev (aA.clear σ (esc F e)) e) kr
noncomputable def l0(ev:EV)(σ:aA)(x:Str)(i e:Expr)(kn:KN):R V :=
 if uR i then .no else
 rb (ev σ e) fun v=>rb (ofP (fT σ x)) fun o=>rb (ev σ i) fun iv=>rb (ofP (setItem o (dOf iv) (dOf v))) fun o=>rb (ofP (cM x (.own o) σ)) kn
noncomputable def vD(ev:EV)(hd:Bool)(σ:aA)(t e:Expr)(kn:KN):R V :=
 if pF e=true∧hd=false then rb (ev σ e) fun v=>rb (ofP (aT t (dOf v) σ)) kn else .no
noncomputable def l5(l:List (PyData×PyData)):PyData→P (PyData×PyData)
 | .str k=>(ofO (bS l k)).bind fun d=>.ok (d,.dict (c8 l k))
 |_=>.no
noncomputable def fU:PyData→P (List (PyData×PyData))
 | .dict l=>.ok l
 |_=>.no
noncomputable def pU(ev:EV)(σ:aA)(x:Str)(i:Expr)(y:Str)(ap:Pos)(as:List Expr)(cp:Pos)(kn:KN):R V :=
 if (ap.endLine==cp.line)=false∨as.any bad=true∨uR i=true then .no else
 match as with
 | []=>.no
 |k::r=>match r with
  |_::_=>.no
  | []=>rb (ofP ((fT σ y).bind fU)) fun l=>rb (ev σ k) fun kv=>rb (ofP (l5 l (dOf kv))) fun q=>rb (ofP (cM y (.own q.2) σ)) fun σ =>
   rb (ofP (fT σ x)) fun o=>rb (ev σ i) fun iv=>rb (ofP (setItem o (dOf iv) q.1)) fun o=>rb (ofP (cM x (.own o) σ)) kn
noncomputable def l6(ev:EV)(F:Nat)(σ:aA)(x:Str)(i e:Expr)(kn:KN):R V :=
 match j0 e with
 |some (y,m,ap,as,cp)=>if m = "pop" then pU ev (aA.clear σ (as.flatMap (esc F))) x i y ap as cp kn else l0 ev (aA.clear σ (esc F e)) x i e kn
 |none=>l0 ev (aA.clear σ (esc F e)) x i e kn
noncomputable def pV(ev:EV)(F:Nat)(hd:Bool)(σ:aA)(t e:Expr)(kn:KN):R V :=
 match vw t with
 | .name x=>rb (ev (aA.clear σ (esc F e)) e) fun v=>rb (ofP (cM x v (aA.clear σ (esc F e)))) kn
 | .sub o i=>(match bD o with | some x=>l6 ev F σ x i e kn | none=>.no)
 | .tup _=>vD ev hd (aA.clear σ (esc F e)) t e kn
 |_=>.no
noncomputable def l8(ev:EV)(σ:aA)(x m:Str)(ap:Pos)(as:List Expr)(cp:Pos)(kn:KN):R V :=
 if (ap.endLine==cp.line)=false∨as.any bad=true∨3 < as.length then .no else
 rb (ofP (fT σ x)) fun o=>if iL m o then rb (evs (ev σ) as) fun as'=>rb (ofP (dJ m o (bP as'))) fun o=>rb (ofP (cM x (.own o) σ)) kn else .no
noncomputable def pW(ev:EV)(F:Nat)(σ:aA)(e:Expr)(kn:KN):R V :=
 match j0 e with
 |some (x,m,ap,as,cp)=>l8 ev (aA.clear σ (as.flatMap (esc F))) x m ap as cp kn
 |none=>if lN e then .no else rb (ev (aA.clear σ (esc F e)) e) fun _=>kn (aA.clear σ (esc F e))
noncomputable def mB(ev:EV)(F:Nat)(K:Ctx)(sc:Scope)(σ:aA)(e:Expr):R V :=
 match iI e with
 |some (c,as)=>if isG sc c=true∧as.any bad=false∧K.hd=false then
   (match K.init c with
   |some (some ps)=>rb (evs (ev (aA.clear σ (as.flatMap (esc F)))) as) fun vs=>if ps.length=vs.length then .exc ⟨c,ps.zip (bP vs)⟩ else .no
   |some none=>rb (evs (ev (aA.clear σ (as.flatMap (esc F)))) as) fun vs=>if vs.length=1 then .exc ⟨c,[]⟩ else .no
   |none=>.no) else .no
 |none=>.no
noncomputable def fV:List Stmt→Option Expr
 | []=>none
 |s::r=>match r with
  | []=>(match s with | .Return o _=>o | _=>none)
  |_::_=>none
noncomputable def mD:List ExceptHandler→Option (Str×Option Str×Expr)
 | []=>none
 |h::r=>match r with
  | []=>(match h with
   | .ExceptHandler t x b _=>match t with
    |some t=>(match bD t with
     |some c=>(match fV b with | some e=>some (c,x,e) | none=>none)
     |none=>none)
    |none=>none)
  |_::_=>none
noncomputable def mE(ev ev':EV)(F:Nat)(K:Ctx)(sc:Scope)(σ:aA)(e:Expr)(c:Str)(x:Option Str)(e':Expr)(kr:KR):R V :=
 if isG sc c=true∧(K.init c).isSome=true then match ev (aA.clear σ (esc F e)) e with
  | .no=>.no
  | .ok v=>kr v
  | .exc y=>match K.sub y.cls c with
   |some true=>(match x with
    |none=>.no
    |some z=>if sc.names.lookup z=some .local then rb (ofP (cM z (.ex y) (aA.clear σ (esc F e)))) fun σ=>rb (nx (ev' (aA.clear σ (esc F e')) e')) kr else .no)
   |_=>.no
 else .no
structure Nst where
 x:Str
 i:Expr
 e:Expr
 c:Expr
 i':Expr
 j:Expr
 e':Expr
noncomputable def pX(s:Stmt):Option (Expr×Expr×Expr) :=
 match s with
 | .Assign ts e _=>(match ts with
  | []=>none
  |t::r=>(match r with
   | []=>(match vw t with | .sub o i=>some (o,i,e) | _=>none)
   |_::_=>none))
 |_=>none
noncomputable def vE(s:Stmt):Option (Expr×Stmt) :=
 match s with
 | .If c b o _=>(match b with
  | []=>none
  |s::r=>(match r with
   | []=>(match o with | []=>some (c,s) | _::_=>none)
   |_::_=>none))
 |_=>none
noncomputable def pY(e:Expr):Option (Expr×Expr):=match vw e with | .sub o i=>some (o,i) | _=>none
noncomputable def pZ(b:List Stmt):Option Nst :=
 match b with
 | []=>none
 |s::r=>(match r with
  | []=>none
  |s2::r2=>(match r2 with
   | []=>(pX s).bind fun a=>(vE s2).bind fun f=>(pX f.2).bind fun g=>(pY g.1).bind fun h=>(bD a.1).bind fun x=>(bD h.1).bind fun x'=>if x=x' then some ⟨x,a.2.1,a.2.2,f.1,h.2,g.2.1,g.2.2⟩ else none
   |_::_=>none))
noncomputable def eL(σ:aA)(x:Str):aA:=σ.map fun p=>if x=p.1 then (p.1,none) else p
noncomputable def j5:PyData→P Str
 | .str k=>.ok k
 |_=>.no
noncomputable def vF(ev:EV)(σ:aA)(q:Nst)(l:List (PyData×PyData))(k:Str)(d:PyData)(kn:KN):R V :=
 rb (ev σ q.e') fun v=>rb (ev σ q.i') fun iv=>rb (ofP (j5 (dOf iv))) fun k' =>
  if k'=k then rb (ev σ q.j) fun jv=>rb (ofP (setItem d (dOf jv) (dOf v))) fun d'=>rb (ofP (cM q.x (.own (.dict (bY l k d'))) σ)) kn else .no
noncomputable def vG(ev:EV)(F:Nat)(σ:aA)(q:Nst)(l:List (PyData×PyData))(k:Str)(d:PyData)(kn:KN):R V :=
 rb (tst (ev (aA.clear σ (esc F q.c)) q.c)) fun b =>
  if b then vF ev (aA.clear (aA.clear σ (esc F q.c)) (esc F q.e')) q l k d kn
  else rb (ofP (cM q.x (.own (.dict (bY l k d))) (aA.clear σ (esc F q.c)))) kn
noncomputable def qA(ev:EV)(F:Nat)(σ:aA)(q:Nst)(kn:KN):R V :=
 if bad q.i'=true then .no else
 rb (ev (aA.clear σ (esc F q.e)) q.e) fun v=>rb (ofP (bW v)) fun d=>rb (ofP ((fT (aA.clear σ (esc F q.e)) q.x).bind fU)) fun l =>
  if l.length < aV then
   rb (ev (eL (aA.clear σ (esc F q.e)) q.x) q.i) fun iv=>rb (ofP (j5 (dOf iv))) fun k=>vG ev F (eL (aA.clear σ (esc F q.e)) q.x) q l k d kn
  else .no
noncomputable def gK(ev:EV)(F:Nat)(rec:Stmt→aA→KN→KR→R V)(b:List Stmt)(σ:aA)(kn:KN)(kr:KR):R V :=
 match pZ b with
 |some q=>qA ev F σ q kn
 |none=>blk rec b σ kn kr
noncomputable def vH(ev ev':EV)(F:Nat)(K:Ctx)(sc:Scope)(rec:Stmt→aA→KN→KR→R V)(s:Stmt)(σ:aA)(kn:KN)(kr:KR):R V :=
 match s with
 | .Return o _=>(match o with | none=>kr (.fz .none) | some e=>pT ev F sc σ e kr)
 | .Assign ts e _=>match ts with
  | []=>.no
  |t::r=>(match r with | []=>pV ev F K.hd σ t e kn | _::_=>.no)
 | .Expr e _=>pW ev F σ e kn
 | .If t b o _=>rb (tst (ev (aA.clear σ (esc F t)) t)) fun c=>if c then blk rec b (aA.clear σ (esc F t)) kn kr else blk rec o (aA.clear σ (esc F t)) kn kr
 | .For t it b o _=>match o with
  | []=>rb (fD (ev (aA.clear σ (esc F it))) K.hd sc t it) fun l=>aP (gK ev F rec b) t l (aA.clear σ (esc F it)) kn kr
  |_::_=>.no
 | .Raise o c _=>match o with
  |some e=>(match c with | none=>mB ev F K sc σ e | some _=>.no)
  |none=>.no
 | .Try b hs o f _=>match o with
  | []=>(match f with
   | []=>(match fV b with
    |some e=>(match mD hs with | some (c,x,e')=>if K.hd then .no else mE ev ev' F K sc σ e c x e' kr | none=>.no)
    |none=>.no)
   |_::_=>.no)
  |_::_=>.no
 | .Pass _=>kn σ
 |_=>.no
noncomputable def evS(ev ev':EV)(F:Nat)(K:Ctx)(sc:Scope):Nat→Stmt→aA→KN→KR→R V
 |0=>fun _ _ _ _=>.no
 |k+1=>vH ev ev' F K sc (evS ev ev' F K sc k)
noncomputable def dU(ps:List Str)(vs:List V):List (Str×NameKind)→aA
 | []=>[]
 | (x,k)::r=>match k with
  | .local=>(x,(ps.zip vs).lookup x)::dU ps vs r
  | .cell=>(x,(ps.zip vs).lookup x)::dU ps vs r
  |_=>dU ps vs r
noncomputable def cS:Nat:=24
noncomputable def iM:List Str→Bool
 | []=>true
 |x::r=>!r.contains x&&iM r
noncomputable def mF(a:Arguments)(sc:Scope):Bool :=
 a.posonlyargs.isEmpty&&a.vararg.isNone&&a.kwonlyargs.isEmpty&&a.kwarg.isNone&&a.defaults.isEmpty&&a.kw_defaults.isEmpty &&
 sc.kind==.function&&!sc.isGenerator&&!sc.isCoroutine&&iM (sc.names.map (·.1))&&iM (a.args.map (·.arg)) &&
 (sc.names.all fun p=>p.2 != .free)&&(a.args.all fun x=>match sc.names.lookup x.arg with | some .local=>true | some .cell=>true | _=>false) &&
 (sc.names.lookup (Str.ofString "__debug__")).isNone&&(sc.names.lookup (Str.ofString "__classdict__")).isNone
noncomputable def dE(body:List Stmt)(call:Str→List V→R V)(hd:Bool):Ctx :=
 ⟨call,fun f=>(dP f body).isSome,gJ body,hd,fE body,fun c=>(bG c body).map (·.2)⟩
noncomputable def run(body:List Stmt):Nat→Bool→Str→List V→R V
 |0,_,_,_=>.no
 |n+1,hd,f,vs=>match dP f body with
  |none=>.no
  |some (a,b,sc) =>
   if a.args.length=vs.length∧mF a sc=true then
    blk (evS (evE (dE body (run body n hd) hd) cS sc) (evE (dE body (run body n true) true) cS sc) cS (dE body (run body n hd) hd) sc cS) b (dU (a.args.map (·.arg)) vs sc.names) (fun _=>.ok (.fz .none)) .ok
   else .no
end Mine
namespace Mine
open PySem
noncomputable def mG(st:Stmt):Option (Str×Str×Str) :=
 match sv st with
 | .asg ts e=>(match ts with
  | []=>none
  |t::r=>(match r with
   | []=>(jS t).bind fun c=>(bD c.1).bind fun x=>(bD e).bind fun y=>some (x,c.2.1,y)
   |_::_=>none))
 |_=>none
noncomputable def bmV:List Value:=[.type "ValueError", .type "Exception", .type "BaseException", .type "object"]
noncomputable def mH(body:List Stmt):Nat→Str→List Str
 |0,_=>[]
 |n+1,c=>match bG c body with
  |some p=>(match bG p.1 body with | some _=>p.1::mH body n p.1 | none=>[])
  |none=>[]
noncomputable def qB(h:Heap)(n:Str):Value:=(h.nsMap mainGlobals n).getD .none
noncomputable def j8(h:Heap)(chain:List Str):List Value:=chain.map (qB h)++bmV
noncomputable def qC(h:Heap)(ns:Addr)(l:List Str):Bool:=l.all fun n=>(h.nsMap ns n).isNone
noncomputable def mI(h:Heap)(l:List Str)(chain:List Str):Bool:=chain.all fun n=>match h.clsAt mainGlobals n with
 |some x=>h.isNs x.2.2.ns&&qC h x.2.2.ns l
 |none=>false
noncomputable def Ew(sf:Str)(ps:List Str):FuncBody→Bool
 | .stmts b=>decide (b.map mG=ps.map fun p=>some (sf,p,p))
 |_=>false
noncomputable def qD(fd:FuncData)(ps:List Str):Bool :=
 match fd.params.args with
 | []=>false
 |a::r=>fd.params.posonlyargs.isEmpty&&fd.params.vararg.isNone&&fd.params.kwonlyargs.isEmpty&&fd.params.kwarg.isNone&&decide (r.map (·.arg)=ps)&&Ew a.arg ps fd.body&&fd.closure.isEmpty&&decide (fd.defaults=.none) &&
  decide (fd.scope.kind=.function)&&!fd.scope.isGenerator&&!fd.scope.isCoroutine&&iM (a.arg::ps)&&((a.arg::ps).all fun x=>decide (fd.scope.names.lookup x=some .local)&&!(x==("__debug__" : Str)))&&decide (ps.length < 50)
noncomputable def qE(h:Heap)(ps:List Str)(oI:Obj):Bool:=decide (oI.cls=.type "function")&&(match oI.data with | .func fd=>h.codeRecOk fd.code fd.qualname&&qD fd ps | _=>false)
noncomputable def hid:List Str:=[Str.ofString "__getattribute__", Str.ofString "__getattr__"]
noncomputable def vI(h:Heap)(cd:ClassData)(chain:List Str):Option (List Str)→Bool
 |none=>(h.nsMap cd.ns "__init__").isNone&&mI h [Str.ofString "__init__"] chain
 |some ps=>cd.hasDict&&(match h.nsMap cd.ns "__init__" with | some (.ref fI)=>(h.get? fI).any (qE h ps) | _=>false)&&qC h cd.ns (Str.ofString "__setattr__" :: (ps++hid))&&mI h (Str.ofString "__init__" :: Str.ofString "__setattr__" :: (ps++hid)) chain
noncomputable def mJ(h:Heap)(chain:List Str)(ini:Option (List Str))(x:Addr×Obj×ClassData):Bool :=
 decide (x.2.1.cls=.type "type")&&decide (x.2.2.mro=.ref x.1::j8 h chain)&&!x.2.2.hasDel&&decide (x.2.1.slots.size=6)&&decide (x.2.1.slots[4]?=some (some (.builtin "ValueError.__new__")))&&h.isNs x.2.2.ns&&vI h x.2.2 chain ini
noncomputable def Ex(s:Stmt):Option Str:=match sv s with
 | .cls n _ _=>some n
 |_=>none
noncomputable def j9(body:List Stmt):List Str:=body.filterMap Ex
noncomputable def vJ(h:Heap)(body:List Stmt)(c:Str)(C:Addr):Bool:=(j9 body).all fun d=>match h.nsMap mainGlobals d with
 |some (.ref D)=>decide ((Value.ref C::j8 h (mH body 4 c)).contains (.ref D)=fS body 4 c d)
 |_=>true
noncomputable def Ey(h:Heap)(body:List Stmt)(c:Str)(p:Str×Option (List Str)):Bool:=(h.clsAt mainGlobals c).any fun x=>mJ h (mH body 4 c) p.2 x&&vJ h body c x.1
noncomputable def qF(h:Heap)(body:List Stmt):Bool:=(j9 body).all fun c=>match bG c body with
 |none=>true
 |some p=>Ey h body c p
end Mine
namespace Mine
open PySem PySem.W PyProof.Rows
noncomputable def Ez(s:Stmt):Bool:=match sv s with
 | .asg ts _=>(match ts with
  | []=>true
  |t::r=>(match r with
   | []=>(bD t).elim true fun x=>!(x == "__name__")
   |_::_=>true))
 |_=>true
noncomputable def E0(p:Program):Program:={ p with main:={ p.main with body:=p.main.body.filter Ez } }
end Mine
namespace Mine
open PySem PySem.W
noncomputable def mK(tb:String→Option Builtin)(p:Program)(w:World)(n₀:Nat)(ann:Option Value):Nat→SharedT→Thread→Option SharedT
 |0,_,_=>none
 |n+1,s,t=>match through t with
  |true=>some s
  |false=>match stepOk n₀ ann t with
   |false=>none
   |true=>match stepT (denote tb) p w s t with
    |some r=>mK tb p w n₀ ann n r.1 r.2
    |none=>none
theorem E1{tb:String→Option Builtin}{p:Program}{w:World}{n₀:Nat}{ann:Option Value}:∀ {n:Nat} {s s':SharedT} {t:Thread},mK tb p w n₀ ann n s t=some s'→topRun tb p w n₀ ann n s.abs t=some s'.abs:=by
 intro v0
 induction v0 with
 |zero =>
  intro _ _ _ h;cases h
 |succ n ih =>
  intro s s' t h;unfold mK at h;unfold topRun;cases he:through t with
  |true=>rw[he] at h;cases h;rfl
  |false =>
   rw[he] at h;cases hk:stepOk n₀ ann t with
   |false=>rw[hk] at h;cases h
   |true =>
    rw[hk] at h;cases hs:stepT (denote tb) p w s t with
    |none=>rw[hs] at h;cases h
    |some r=>obtain⟨s₂,t₂⟩:=r;rw[hs] at h;rw[stepT_spec hs];exact ih h
noncomputable def vK(l:List Obj):BT×Nat:=l.foldl (fun x o=>(x.1.ins x.2 o,x.2+1)) (.nil,0)
noncomputable def mM(w:World)(os:OsState):SharedT:=⟨(vK (boot_heap w.params).objs.toList).1,(vK (boot_heap w.params).objs.toList).2,(boot_heap w.params).life,Array.mk [],boot_drawn,boot_toks,os⟩
noncomputable def vL{α:Type}(p q:Program)(loose:List Str)(Xt:Shared→Bool)(Yf:Shared→α)(g0:Bool)(w:World)(S:SharedT) :=
 (staticsOk (importedModules p.main.body) (boot_heap w.params) S.abs.heap&&namesBound p S.abs.heap&&gensDone S.abs&&laidKept (boot_heap w.params) S.abs.heap,openSeen q loose (importedModules p.main.body) Xt g0 S.abs,Yf S.abs)
theorem E2{p q:Program}{loose:List Str}{Xt:Shared→Bool}{α:Type}{Yf:Shared→α}{Ya:World→α}{N:Nat}{g0:Bool}
  (ho:∀ w:World,(fencedOpening treeTable p w N).map (fun s=>(s.heap,s.gens,s.drawn,s.toks))=some (boot_heap w.params,Array.mk [],boot_drawn,boot_toks))
  (hb:∀ w os,(mM w os).abs=⟨boot_heap w.params,Array.mk [],boot_drawn,boot_toks,os⟩) (hns:∀ w:World,(boot_heap w.params).isNs mainGlobals=true)
  (hr:∀ (w:World) (os:OsState),(mK treeTable p w (boot_heap w.params).objs.size ((boot_heap w.params).nsMap mainGlobals "__annotations__") N (mM w os) (topStub p)).map (vL p q loose Xt Yf g0 w)=some (true,openGood q loose,Ya w)):LeftO p q loose Xt Yf Ya N g0:=fun w=>by
 obtain⟨s,hs,hv⟩:=Option.map_eq_some_iff.mp (ho w);obtain⟨S,h1,h2⟩:=Option.map_eq_some_iff.mp (hr w s.os);have e:s=(mM w s.os).abs:=by
  rw[hb];obtain⟨h,g,d,t,os⟩:=s;cases hv;rfl
 have h3:=E1 h1;rw[← e] at h3;have eh:s.heap=boot_heap w.params:=congrArg (·.1) hv;have eg:s.gens=Array.mk []:=congrArg (·.2.1) hv;unfold openEnds;rw[hs];show(topFrom treeTable p w N s).map _=_;unfold topFrom;rw[eh,eg,hns w];unfold vL at h2;obtain⟨k1,k2⟩:=Prod.mk.inj h2;show((topRun treeTable p w (boot_heap w.params).objs.size ((boot_heap w.params).nsMap mainGlobals "__annotations__") N s (topStub p)).bind _).map _=_;rw[h3];show(match (staticsOk (importedModules p.main.body) (boot_heap w.params) S.abs.heap&&namesBound p S.abs.heap&&gensDone S.abs&&laidKept (boot_heap w.params) S.abs.heap) with | true=>some S.abs | false=>none).map _=_;rw[k1];exact congrArg some k2
end Mine
set_option Elab.async false
namespace Mine
open PySem PySem.W PyProof.Rows
noncomputable def V15:Program:=E0 PySem.Challenge.rw_uf010037_15.prog
set_option maxRecDepth 100000 in
set_option maxHeartbeats 8000000 in
theorem E3:∀ w os,(mM w os).abs=⟨boot_heap w.params,Array.mk [],boot_drawn,boot_toks,os⟩:=fun w os=>by kernel_rfl
set_option maxRecDepth 100000 in
theorem E4:∀ w:World,(boot_heap w.params).isNs mainGlobals=true:=fun w=>by kernel_rfl
set_option maxRecDepth 100000 in
theorem E5:∀ w:World,(fencedOpening treeTable PySem.Challenge.rw_uf010037_15.row.prog w 4914).map (fun s=>(s.heap,s.gens,s.drawn,s.toks))=some (boot_heap w.params,Array.mk [],boot_drawn,boot_toks) :=
 boot_open (by kernel_rfl) (by kernel_rfl) fun s=>by kernel_rfl
end Mine
set_option Elab.async false
namespace Mine
open PySem PySem.W PyProof.Rows
set_option maxRecDepth 100000 in
set_option maxHeartbeats 8000000 in
theorem E6:LeftO PySem.Challenge.rw_uf010037_15.row.prog V15 [] (fun s=>(xlAt V15 [] s&&recOk (RowW.records PySem.Challenge.rw_uf010037_15.row.toRowW) s)&&qF s.heap PySem.Challenge.rw_uf010037_15.row.prog.main.body) (Hook.obs Hook.none) (Hook.val Hook.none) 4914 :=
 E2 E5 E3 E4 fun w os=>by kernel_rfl
end Mine
namespace Mine
open PySem
noncomputable def Vw(e:Expr):EW→Prop
 | .name x=>∃ p,e=.Name x p
 | .tup es=>∃ k p,e=.Tuple es k p
 | .call f as kws q=>e=.Call f as kws q
 | .attr o m p=>e=.Attribute o m p
 | .sub o i=>∃ p,e=.Subscript o i p
 | .slice a b c=>∃ p,e=.Slice a b c p
 |_=>True
theorem E7(e:Expr):Vw e (vw e):=by
 cases e<;>first | exact trivial | exact⟨_,rfl⟩ | exact⟨_,_,rfl⟩ | exact rfl
theorem cX{e:Expr}{v:EW}(h:vw e=v):Vw e v:=h▸E7 e
theorem ob{α β:Type}{o:Option α}{f:α→Option β}{b:β}(h:o.bind f=some b):∃ a,o=some a∧f a=some b:=by
 cases o with
 |none=>cases h
 |some a=>exact⟨a,rfl,h⟩
theorem E8{α:Type}{kws:List Keyword}{a b:α}(h:pG kws a=some b):kws=[]∧a=b:=by
 cases kws with
 |nil=>cases h;exact⟨rfl,rfl⟩
 |cons=>cases h
theorem c9{e:Expr}{x:Str}(h:bD e=some x):∃ p,e=.Name x p:=by
 unfold bD at h;generalize hv:vw e=v at h;cases v with
 |name y=>cases h;exact cX hv
 |_=>cases h
theorem qG{e:Expr}{c:Expr×List Expr×List Keyword×Pos}(h:gH e=some c):e=.Call c.1 c.2.1 c.2.2.1 c.2.2.2:=by
 unfold gH at h;generalize hv:vw e=v at h;cases v with
 |call f as kws q=>cases h;exact cX hv
 |_=>cases h
theorem vM{e:Expr}{c:Expr×Str×Pos}(h:jS e=some c):e=.Attribute c.1 c.2.1 c.2.2:=by
 unfold jS at h;generalize hv:vw e=v at h;cases v with
 |attr o m p=>cases h;exact cX hv
 |_=>cases h
theorem E9{e:Expr}{c:Option Expr×Option Expr×Option Expr}(h:jX e=some c):∃ p,e=.Slice c.1 c.2.1 c.2.2 p:=by
 unfold jX at h;generalize hv:vw e=v at h;cases v with
 |slice=>cases h;exact cX hv
 |_=>cases h
theorem eM{e:Expr}{env:Env}{es:List Expr}(h:bad e=false):starEach (e::es) env=(false,eval e env)::starEach es env:=by
 cases e<;>first | rfl | cases h
theorem Fa{op:CmpOp}{e:Expr}{t:Sem Value}(h:bad e=false):markedBehindIn op e t=t:=by
 refine markedBehindIn_of_false ?_;cases e<;>first | rfl | cases h
theorem vN{e:Expr}{o i:Value}(h:bad e=false):subscripted e false o i=operate [o,i] (PySem.getItem o i):=by
 cases e<;>first | rfl | cases h
theorem eN{α:Type}{e:Expr}{r:R α}(hb:bad e=true→r=.no)(h:r≠.no):bad e=false:=by
 cases e':bad e with
 |false=>rfl
 |true=>exact absurd (hb e') h
theorem vO{e:Expr}{c:Str×List Expr}(h:iI e=some c):∃ p q,e=.Call (.Name c.1 p) c.2 [] q:=by
 obtain⟨⟨f,as,kws,q⟩,h1,h⟩:=ob h;obtain⟨x,h2,h⟩:=ob h;obtain⟨rfl,rfl⟩:=E8 h;obtain⟨p,rfl⟩:=c9 h2;exact⟨p,q,qG h1⟩
end Mine
namespace Mine
open PySem
noncomputable def PlT(h:Heap)(a:Addr)(vs:Array Value):Prop:=∃ n,h.get? a=some { cls:=.type "tuple", data:=.seq vs n }
theorem PlT.isTuple{h:Heap}{a:Addr}{vs:Array Value}(x:PlT h a vs):h.IsTuple a vs:=by obtain⟨n,e⟩:=x;exact⟨_,e,rfl,n,rfl⟩
theorem PlT.at{h h':Heap}{a:Addr}{vs:Array Value}(x:PlT h a vs)(hk:∀ o,h.get? a=some o→h'.get? a=some o):PlT h' a vs:=by obtain⟨n,e⟩:=x;exact⟨n,hk _ e⟩
section
variable (prog:Program) (w:World)
inductive Rep(h:Heap)(av:Addr→Prop):Value→PyData→Prop where
 |none:Rep h av .none .none
 |bool (b:Bool):Rep h av (.bool b) (.bool b)
 |int (i:Int) (t:Tok):Rep h av (.int i t) (.int i)
 |str (x:Str) (t:Tok):x.length≤sizeLine→Rep h av (.str x t) (.str x)
 |list {a:Addr} {vs:List Value} {ds:List PyData}:¬ av a→h.PlainList a vs.toArray→vs.length=ds.length→vs.length≤sizeLine →
   (∀ (i:Nat) (v:Value) (d:PyData),vs[i]?=some v→ds[i]?=some d→Rep h av v d)→Rep h av (.ref a) (.list ds)
 |tuple {a:Addr} {vs:List Value} {ds:List PyData}:¬ av a→PlT h a vs.toArray→vs.length=ds.length→vs.length≤sizeLine →
   (∀ (i:Nat) (v:Value) (d:PyData),vs[i]?=some v→ds[i]?=some d→Rep h av v d)→Rep h av (.ref a) (.tuple ds)
 |dict {a:Addr} {kvs:List (Str×Value)} {ds:List (PyData×PyData)}:¬ av a→h.DictOf (strKind prog w) a kvs→(kvs.length≤sizeLine∧∀ kv∈kvs,kv.1.length≤sizeLine)→(a==sysModules)=false →
   ds.map (·.1)=kvs.map (fun kv=>PyData.str kv.1)→(∀ (i:Nat) (kv:Str×Value) (d:PyData×PyData),kvs[i]?=some kv→ds[i]?=some d→Rep h av kv.2 d.2) →
   Rep h av (.ref a) (.dict ds)
variable {prog w}
theorem Rep.mono{h h':Heap}{av av':Addr→Prop}(hk:∀ b o,¬ av b→h.get? b=some o→h'.get? b=some o)(ha:∀ b o,h.get? b=some o→av' b→av b){v:Value}{d:PyData}(r:Rep prog w h av v d) :
  Rep prog w h' av' v d:=by
 induction r with
 |none=>exact .none
 |bool b=>exact .bool b
 |int i t=>exact .int i t
 |str x t hx=>exact .str x t hx
 |list h1 h2 h3 h4 _ ih=>exact .list (fun x=>h1 (by obtain⟨_,e⟩:=h2;exact ha _ _ e x)) (h2.at fun o e=>hk _ o h1 e) h3 h4 ih
 |tuple h1 h2 h3 h4 _ ih=>exact .tuple (fun x=>h1 (by obtain⟨_,e⟩:=h2;exact ha _ _ e x)) (h2.at fun o e=>hk _ o h1 e) h3 h4 ih
 |dict h1 h2 h3 h4 h5 _ ih =>
  obtain⟨o,es,ep,e,r⟩:=h2;exact .dict (fun x=>h1 (ha _ _ e x)) ⟨o,es,ep,hk _ o h1 e,r⟩ h3 h4 h5 ih
theorem Rep.keeps{h h':Heap}{av:Addr→Prop}(hk:∀ b o,h.get? b=some o→h'.get? b=some o){v:Value}{d:PyData}(r:Rep prog w h av v d):Rep prog w h' av v d :=
 r.mono (fun b o _ e=>hk b o e) fun _ _ _ x=>x
variable (prog w)
inductive BodyL(h:Heap)(av:Addr→Prop)(a:Addr)(ds:List PyData):Prop where
 |mk (vs:List Value) (p:h.PlainList a vs.toArray) (l:vs.length=ds.length) (z:vs.length≤sizeLine) (r:∀ (i:Nat) (v:Value) (d:PyData),vs[i]?=some v→ds[i]?=some d→Rep prog w h av v d):BodyL h av a ds
inductive BodyD(h:Heap)(av:Addr→Prop)(a:Addr)(ds:List (PyData×PyData)):Prop where
 |mk (kvs:List (Str×Value)) (p:h.DictOf (strKind prog w) a kvs) (z:kvs.length≤sizeLine∧∀ kv∈kvs,kv.1.length≤sizeLine) (m:(a==sysModules)=false) (l:ds.map (·.1)=kvs.map (fun kv=>PyData.str kv.1))
  (r:∀ (i:Nat) (kv:Str×Value) (d:PyData×PyData),kvs[i]?=some kv→ds[i]?=some d→Rep prog w h av kv.2 d.2):BodyD h av a ds
noncomputable def bH(h:Heap)(av:Addr→Prop)(a:Addr):PyData→Prop
 | .list ds=>BodyL prog w h av a ds
 | .dict ds=>BodyD prog w h av a ds
 |_=>False
variable {prog w}
theorem bH.mono{h h':Heap}{av av':Addr→Prop}{a:Addr}(hk:∀ b o,¬ av b→h.get? b=some o→h'.get? b=some o)(ha:∀ b o,h.get? b=some o→av' b→av b)(hs:∀ o,h.get? a=some o→h'.get? a=some o)
  {d:PyData} (r:bH prog w h av a d):bH prog w h' av' a d:=by
 cases d with
 |list ds=>obtain⟨vs,h1,h2,h3,h4⟩:=r;exact⟨vs,h1.at hs,h2,h3,fun i v d e1 e2=>(h4 i v d e1 e2).mono hk ha⟩
 |dict ds =>
  obtain⟨kvs,⟨o,es,ep,e,r⟩,h2,h3,h4,h5⟩:=r;exact⟨kvs,⟨o,es,ep,hs _ e,r⟩,h2,h3,h4,fun i v d e1 e2=>(h5 i v d e1 e2).mono hk ha⟩
 |_=>exact r.elim
theorem bH.rep{h:Heap}{av:Addr→Prop}{a:Addr}{d:PyData}(ha:¬ av a)(r:bH prog w h av a d):Rep prog w h av (.ref a) d:=by
 cases d with
 |list ds=>obtain⟨vs,h1,h2,h3,h4⟩:=r;exact .list ha h1 h2 h3 h4
 |dict ds=>obtain⟨kvs,h1,h2,h3,h4,h5⟩:=r;exact .dict ha h1 h2 h3 h4 h5
 |_=>exact r.elim
variable (prog w)
noncomputable def Own(s:Shared)(h:Heap)(av:Addr→Prop)(v:Value)(d:PyData):Prop :=
 ∃ a,v=.ref a∧s.heap.get? a=none∧bH prog w h (fun b=>av b∨b=a) a d
noncomputable def bB(s:Shared)(h:Heap)(av:Addr→Prop)(v:Value):V→Prop
 | .fz d=>Rep prog w h av v d
 | .own d=>Own prog w s h av v d
 | .ex _=>False
variable {prog w}
theorem Own.rep{s:Shared}{h:Heap}{av:Addr→Prop}{v:Value}{d:PyData}(hlt:∀ b,av b→∃ o,s.heap.get? b=some o)(r:Own prog w s h av v d):Rep prog w h av v d:=by
 obtain⟨a,rfl,ha,r⟩:=r;exact bH.rep (fun x=>by obtain⟨o,e⟩:=hlt _ x;rw[ha] at e;exact ns e) (r.mono (fun _ _ x e=>e) (fun _ _ _ x=>.inl x) fun _ e=>e)
theorem bB.rep{s:Shared}{h:Heap}{av:Addr→Prop}{v:Value}{u:V}(hlt:∀ b,av b→∃ o,s.heap.get? b=some o)(r:bB prog w s h av v u):Rep prog w h av v (dOf u):=by
 cases u with
 |fz d'=>exact r
 |own d'=>exact Own.rep hlt r
 |ex x=>exact r.elim
noncomputable def Kp(s s':Shared):Prop:=Keeps s s'
theorem Kp.rfl'(s:Shared):Kp s s:=⟨s.heap,s.toks,rfl,fun _ _ e=>e⟩
theorem Kp.tr{s s' s'':Shared}(x:Kp s s')(y:Kp s' s''):Kp s s'':=by
 obtain⟨h,t,rfl,k⟩:=x;obtain⟨h',t',rfl,k'⟩:=y;exact⟨h',t',rfl,fun b o e=>k' b o (k b o e)⟩
theorem Kp.heap{s s':Shared}(x:Kp s s'):∀ b o,s.heap.get? b=some o→s'.heap.get? b=some o:=by
 obtain⟨h,t,rfl,k⟩:=x;exact k
theorem Kp.tok'(s:Shared)(t:Nat):Kp s { s with toks:=t }:=⟨s.heap,t,rfl,fun _ _ e=>e⟩
theorem Kp.push'(s:Shared)(o:Obj):Kp s { s with heap:=s.heap.push o }:=⟨s.heap.push o,s.toks,rfl,fun _ _ e=>Heap.get?_push_of_some o e⟩
end
abbrev WP(γ:Type):=(γ→Shared→Prop)→(Value→Shared→Prop)→Prop
noncomputable def Yd{γ β:Type}(W:WP γ)(R:γ→Shared→β→Prop):P β→Prop
 | .no=>True
 | .ok b=>∀ Q E,(∀ v s',R v s' b→Q v s')→W Q E
theorem Yd.pureBind{γ β β':Type}{W:WP γ}{R:γ→Shared→β'→Prop}{p:P β}{f:β→P β'}(k:∀ b,p=.ok b→Yd W R (f b)):Yd W R (p.bind f):=by
 cases p with
 |no=>exact trivial
 |ok b=>exact k b rfl
theorem Yd.optBind{γ β β':Type}{W:WP γ}{R:γ→Shared→β'→Prop}{p:Option β}{f:β→P β'}(k:∀ b,p=some b→Yd W R (f b)):Yd W R ((ofO p).bind f):=by
 cases p with
 |none=>exact trivial
 |some b=>exact k b rfl
theorem Yd.ite{γ β:Type}{W:WP γ}{R:γ→Shared→β→Prop}{c:Prop}[Decidable c]{p:P β}(k:c→Yd W R p):Yd W R (if c then p else .no):=by
 by_cases h:c
 ·rw[if_pos h];exact k h
 ·rw[if_neg h];exact trivial
theorem Yd.ite2{γ β:Type}{W:WP γ}{R:γ→Shared→β→Prop}{c:Prop}[Decidable c]{p q:P β}(k:c→Yd W R p)(k':¬ c→Yd W R q):Yd W R (if c then p else q):=by
 by_cases h:c
 ·rw[if_pos h];exact k h
 ·rw[if_neg h];exact k' h
end Mine
namespace Mine
open PySem
noncomputable def frs(l:List Env)(b:Addr):Prop:=b∈l.filterMap (·.frame)
inductive K(l:List Env)(s s':Shared):Prop where
 |mk (h:Heap) (t:Nat) (e:s'={ s with heap:=h,toks:=t }) (k:∀ b o,¬ frs l b→s.heap.get? b=some o→h.get? b=some o) (u:∀ b o,s.heap.get? b=some o→∃ sl,h.get? b=some { o with slots:=sl }):K l s s'
theorem K.of{l:List Env}{s s':Shared}(x:Kp s s'):K l s s':=by
 obtain⟨h,t,rfl,k⟩:=x;exact⟨h,t,rfl,fun b o _ e=>k b o e,fun b o e=>⟨o.slots,k b o e⟩⟩
theorem K.rf(l:List Env)(s:Shared):K l s s:=K.of (Kp.rfl' s)
theorem K.tr{l:List Env}{s s' s'':Shared}(x:K l s s')(y:K l s' s''):K l s s'':=by
 obtain⟨h,t,rfl,k,u⟩:=x;obtain⟨h',t',rfl,k',u'⟩:=y;exact⟨h',t',rfl,fun b o n e=>k' b o n (k b o n e),fun b o e=>by obtain⟨_,e1⟩:=u b o e;exact by obtain⟨sl,e2⟩:=u' b _ e1;exact⟨sl,e2⟩⟩
theorem K.trp{l:List Env}{s s' s'':Shared}(x:K l s s')(y:Kp s' s''):K l s s'':=x.tr (K.of y)
theorem K.at{l:List Env}{s s':Shared}(x:K l s s'){b:Addr}{o:Obj}(n:¬ frs l b)(e:s.heap.get? b=some o):s'.heap.get? b=some o:=by
 obtain⟨h,t,rfl,k,u⟩:=x;exact k b o n e
theorem K.up{l:List Env}{s s':Shared}(x:K l s s'){b:Addr}{o:Obj}(e:s.heap.get? b=some o):∃ sl,s'.heap.get? b=some { o with slots:=sl }:=by
 obtain⟨h,t,rfl,k,u⟩:=x;exact u b o e
theorem K.upTo{l:List Env}{s s':Shared}(x:K l s s'):s.heap.UpToSlots s'.heap:=fun _ _ e _=>x.up e
theorem K.non{l:List Env}{s s':Shared}(x:K l s s'){b:Addr}(e:s'.heap.get? b=none):s.heap.get? b=none:=by
 refine ocs (s.heap.get? b) (fun h=>?_) fun o h=>?_
 ·try rewrite[h]
  rfl
 ·try rewrite[h]
  obtain⟨sl,e'⟩:=x.up h;rw[e] at e';cases e'
noncomputable def Fin{α β:Type}(r:R α)(k:α→R β)(fin:R β):Prop:=rb r k=fin∧fin≠.no
theorem qH{α β γ:Type}(p:R α)(f:α→R β)(g:β→R γ):rb (rb p f) g=rb p fun a=>rb (f a) g:=by cases p<;>rfl
theorem Fin.b{α β γ:Type}{r:R α}{f:α→R γ}{k:γ→R β}{fin:R β}(h:Fin (rb r f) k fin):Fin r (fun a=>rb (f a) k) fin:=⟨(qH r f k)▸h.1,h.2⟩
theorem Fin.unb{α β γ:Type}{r:R α}{f:α→R γ}{k:γ→R β}{fin:R β}(h:Fin r (fun a=>rb (f a) k) fin):Fin (rb r f) k fin:=⟨(qH r f k).symm▸h.1,h.2⟩
theorem Fin.no{α β:Type}{k:α→R β}{fin:R β}(h:Fin (.no:R α) k fin):False:=h.2 h.1.symm
theorem Fin.ne{α β:Type}{r:R α}{k:α→R β}{fin:R β}(h:Fin r k fin):r≠.no:=fun e=>by subst e;exact h.no
theorem Fin.ok{α β:Type}{a:α}{k:α→R β}{fin:R β}(h:Fin (.ok a) k fin):k a=fin:=h.1
theorem Fin.p{α β:Type}{p:P α}{k:α→R β}{fin:R β}(h:Fin (ofP p) k fin):∃ a,p=.ok a∧k a=fin:=by
 cases p with
 |no=>exact h.no.elim
 |ok a=>exact⟨a,rfl,h.1⟩
theorem Fin.ite{α β:Type}{c:Prop}[Decidable c]{r:R α}{k:α→R β}{fin:R β}(h:Fin (if c then r else .no) k fin):c∧Fin r k fin:=by
 by_cases hc:c
 ·rw[if_pos hc] at h;exact⟨hc,h⟩
 ·rw[if_neg hc] at h;exact h.no.elim
theorem Yd.fin{γ α β:Type}{W:WP γ}{C:γ→Shared→α→Prop}{p:P α}{k:α→R β}{fin:R β}{Q:γ→Shared→Prop}{E:Value→Shared→Prop}(h:Yd W C p)(hf:Fin (ofP p) k fin)(hq:∀ v s' a,C v s' a→k a=fin→Q v s'):W Q E:=by
 obtain⟨a,rfl,e⟩:=hf.p;exact h Q E fun v s' c=>hq v s' a c e
section
variable (prog:Program) (w:World) (mg mb:Str→Option Value) (base:Heap)
noncomputable def qI:List (Str×Value):=[("isinstance", .builtin "isinstance"),("len", .builtin "len"),("all", .builtin "all"),("sorted", .builtin "sorted"),("abs", .builtin "abs"),("min", .builtin "min"),("repr", .builtin "repr"),("list", .type "list"),("tuple", .type "tuple"),("dict", .type "dict"),("set", .type "set"),("int", .type "int"),("str", .type "str"),("bool", .type "bool"),("range", .type "range"),("enumerate", .type "enumerate"),("reversed", .type "reversed")]
noncomputable def iN(x:Str):Option Value:=qI.lookup x
inductive FldsA(h:Heap)(av:Addr→Prop)(od:Option Addr)(fs:List (Str×PyData)):Prop where
 |mk (d:Addr) (m:Str→Option Value) (e:od=some d) (n:¬ av d) (hn:h.Ns d m) (r:∀ p x,(p,x)∈fs→∃ v,m p=some v∧Rep prog w h av v x):FldsA h av od fs
noncomputable def fF(h:Heap)(av:Addr→Prop)(od:Option Addr)(fs:List (Str×PyData)):Prop:=fs=[]∨FldsA prog w h av od fs
inductive ExAt(h:Heap)(av:Addr→Prop)(e:Addr)(x:X):Prop where
 |mk (na:¬ av e) (o:Obj) (vs:Array Value) (C:Addr) (he:h.get? e=some o) (hd:o.data=.fields vs) (hc:o.cls=.ref C) (hm:mg x.cls=some (.ref C)) (hx:fF prog w h av o.dict x.fields):ExAt h av e x
noncomputable def cH(l:List Env)(h:Heap)(av:Addr→Prop)(v:Value):V→Prop
 | .fz d=>Rep prog w h av v d
 | .own d=>∃ a,v=.ref a∧¬ frs l a∧bH prog w h av a d
 | .ex x=>∃ e,v=.ref e∧ExAt prog w mg h av e x
inductive MadeF(s s':Shared)(dx:Option Addr)(ps:List Str)(vals:List Value):Prop where
 |mk (d:Addr) (m:Str→Option Value) (e:dx=some d) (n:s.heap.get? d=none) (hn:s'.heap.Ns d m) (r:∀ (i:Nat) p v,ps[i]?=some p→vals[i]?=some v→m p=some v):MadeF s s' dx ps vals
inductive MadeAt(s:Shared)(C:Addr)(ini:Option (List Str))(vals:List Value)(v:Value)(s':Shared):Prop where
 |mk (k:Kp s s') (e:Addr) (dx:Option Addr) (t:Addr) (ve:v=.ref e) (n:s.heap.get? e=none) (he:s'.heap.get? e=some { cls:=.ref C,dict:=dx,data:=.fields #[.ref t,.none,.none,.none,.bool false,.none] })
  (f:∀ ps,ini=some ps→ps=[]∨MadeF s s' dx ps vals):MadeAt s C ini vals v s'
noncomputable def vP(ini:Option (List Str))(n:Nat):Prop :=
 match ini with
 |some ps=>ps.length=n
 |none=>n=1
inductive ClsObj(base:Heap)(C:Addr)(bm:List Value):Prop where
 |mk (nm q N bs hdct sn sub ab col dd k0 k1 k2 k3 k5 newId) (h:base.get? C=some (excClassObj nm q C N bs bm hdct sn sub ab col dd k0 k1 k2 k3 k5 newId)):ClsObj base C bm
structure ClsOk(C:Addr)(bm:List Value)(ini:Option (List Str)):Prop where
 obj:ClsObj base C bm
 exc:bm.contains (.type "BaseException")=true
 val:bm.contains (.type "ValueError")=true
 make:∀ (A:Around) (vals:List Value) (s:Shared) (E Q:Value→Shared→Prop),A.depth+1 < recursionLimit→(∀ b o,base.get? b=some o→s.heap.get? b=some o)→vP ini vals.length→(∀ v s',MadeAt s C ini vals v s'→Q v s')→wpAny (model prog w) A (call (.ref C) vals) Q E s
 fld:∀ ps,ini=some ps→∀ p∈ps,∀ (A:Around) (s:Shared) (e dx:Addr) (o:Obj) (vs:Array Value) (m:Str→Option Value) (v:Value) (E Q:Value→Shared→Prop),(∀ b o,base.get? b=some o→s.heap.get? b=some o)→s.heap.get? e=some o→o.cls=.ref C→o.data=.fields vs→o.dict=some dx→s.heap.Ns dx m→m p=some v→handedOut v=pure v→(∀ tk,Q v { s with toks:=tk })→wpAny (model prog w) A (getAttr (.ref e) p true) Q E s
structure Glo:Prop where
 g:base.Ns mainGlobals mg
 b:base.Ns builtinsNs mb
 nolimit:base.NoLimit
 mods:∃ mm,base.Ns sysModules mm
 fn:∀ f a b sc,dP f prog.main.body=some (a,b,sc)→∃ ad o pm cd doc,mg f=some (.ref ad)∧base.get? ad=some o∧o.data=.func (Calls.docDef f a b sc pm cd doc)∧base.CodeRec cd f
 const:∀ x d,gJ prog.main.body x=some d→∃ v,mg x=some v∧∀ h' av,Rep prog w h' av v d
 blt:∀ x v,iN x=some v→mg x=none∧mb x=some v
 cls:∀ c p,bG c prog.main.body=some p→∃ C bm,mg c=some (.ref C)∧ClsOk prog w base C bm p.2∧∀ d q D,bG d prog.main.body=some q→mg d=some (.ref D)→(Value.ref C::bm).contains (.ref D)=fS prog.main.body 4 c d
structure Room(n:Nat)(hd:Bool)(l:List Env)(A:Around):Prop where
 depth:A.depth+n+1 < recursionLimit
 units:A.units+16*n+300 < cLine
 handled:hd=false→A.handled=none
 guards:A.guards=some []
 frames:A.frames=some l
noncomputable def a9(env:Env)(h:Heap)(x:Str)(u:Value):Prop :=
 (env.kindOf x=some .local∧∃ m,h.Ns env.locals m∧m x=some u) ∨
 ((env.kindOf x=some .cell∨env.kindOf x=some .free)∧∃ c,env.cells.lookup x=some c∧h.IsCell c (some u))
structure Gnd(l:List Env)(av:Addr→Prop)(s:Shared):Prop where
 glo:Glo prog w mg mb base
 stay:∀ b o,base.get? b=some o→s.heap.get? b=some o
 ff:s.heap.FunFrames base l
 fav:∀ b,frs l b→av b
 avlt:∀ b,av b→∃ o,s.heap.get? b=some o
 avS:av sysModules
structure Inv0(l:List Env)(env:Env)(sc:Scope)(σ:aA)(av:Addr→Prop)(s:Shared):Prop where
 gnd:Gnd prog w mg mb base l av s
 kind:env.scope.kind=.function
 eg:env.globals=mainGlobals
 eb:env.builtins=builtinsNs
 dbg:sc.names.lookup (Str.ofString "__debug__")=none
 cld:sc.names.lookup (Str.ofString "__classdict__")=none
 glob:∀ x,isG sc x=true→env.kindOf x=some .globalImplicit
 kinds:∀ x,lT (sc.names.lookup x)=true→lT (env.kindOf x)=true∧∃ c,env.cells.lookup x=some c
 get:∀ x v,isL sc x=true→aA.get σ x=some (some v)→∃ u,a9 env s.heap x u∧cH prog w mg l s.heap av u v
inductive Tb(s:Shared)(h:Heap)(e:Addr)(fl:Value):Prop where
 |mk (oe vs T oT ts) (a:h.get? e=some oe) (b:oe.data=.fields vs) (c:vs[1]?=some (.ref T)) (d:s.heap.get? T=none) (f:T≠e) (g:h.get? T=some oT) (i:oT.data=.fields ts) (j:ts[3]?=some fl):Tb s h e fl
inductive Fly(l:List Env)(s:Shared)(av:Addr→Prop)(x:X)(v:Value)(s':Shared):Prop where
 |mk (k:K l s s') (e:Addr) (a:v=.ref e) (b:s.heap.get? e=none) (c:ExAt prog w mg s'.heap av e x) (d:Tb s s'.heap e .none):Fly l s av x v s'
noncomputable def QH{β:Type}(l:List Env)(s:Shared)(av:Addr→Prop)(k:V→R β)(fin:R β)(Q:Value→Shared→Prop):Prop :=
 ∀ v s' u,K l s s'→bB prog w s s'.heap av v u→k u=fin→Q v s'
noncomputable def EH{β:Type}(l:List Env)(s:Shared)(av:Addr→Prop)(fin:R β)(E:Value→Shared→Prop):Prop :=
 ∀ x v s',fin=.exc x→Fly prog w mg l s av x v s'→E v s'
noncomputable def aC(n:Nat)(hd:Bool)(l:List Env)(sc:Scope)(σ:aA)(e:Expr)(r:R V):Prop :=
 ∀ (A:Around) (env:Env) (s:Shared) (av:Addr→Prop),Room n hd l A→Inv0 prog w mg mb base l env sc σ av s →
  ∀ {β:Type} {k:V→R β} {fin:R β} {Q:Value→Shared→Prop} {E:Value→Shared→Prop},Fin r k fin→QH prog w l s av k fin Q→EH prog w mg l s av fin E→wpAny (model prog w) A (eval e env) Q E s
variable {prog w mg mb base}
theorem Rep.k{l:List Env}{s s':Shared}{av:Addr→Prop}(fav:∀ b,frs l b→av b)(k:K l s s'){v:Value}{d:PyData}(r:Rep prog w s.heap av v d):Rep prog w s'.heap av v d :=
 r.mono (fun _ _ n e=>k.at (fun f=>n (fav _ f)) e) fun _ _ _ x=>x
theorem bH.k{l:List Env}{s s':Shared}{av:Addr→Prop}(fav:∀ b,frs l b→av b)(k:K l s s'){a:Addr}{d:PyData}(n:¬ frs l a)(r:bH prog w s.heap av a d):bH prog w s'.heap av a d :=
 r.mono (fun _ _ n e=>k.at (fun f=>n (fav _ f)) e) (fun _ _ _ x=>x) fun _ e=>k.at n e
theorem fF.mono{h h':Heap}{av av':Addr→Prop}(hk:∀ b o,¬ av b→h.get? b=some o→h'.get? b=some o)(ha:∀ b o,h.get? b=some o→av' b→av b){od:Option Addr}{fs:List (Str×PyData)}(r:fF prog w h av od fs):fF prog w h' av' od fs:=by
 rcases r with r | ⟨d,m,e,n,hn,r⟩
 ·exact .inl r
 ·obtain⟨o,es,ep,ho,hr⟩:=hn;refine .inr ⟨d,m,e,fun x=>n (ha _ _ ho x),⟨o,es,ep,hk _ _ n ho,hr⟩,fun p x hp=>?_⟩;obtain⟨v,e1,e2⟩:=r p x hp;exact⟨v,e1,e2.mono hk ha⟩
theorem ExAt.mono{h h':Heap}{av av':Addr→Prop}(hk:∀ b o,¬ av b→h.get? b=some o→h'.get? b=some o)(ha:∀ b o,h.get? b=some o→av' b→av b){e:Addr}{x:X}(r:ExAt prog w mg h av e x):ExAt prog w mg h' av' e x:=by
 obtain⟨h1,o,vs,C,h2,h3,h4,h5,h6⟩:=r;exact⟨fun x=>h1 (ha _ _ h2 x),o,vs,C,hk _ _ h1 h2,h3,h4,h5,h6.mono hk ha⟩
theorem cH.k{l:List Env}{s s':Shared}{av:Addr→Prop}(fav:∀ b,frs l b→av b)(k:K l s s'){v:Value}{u:V}(r:cH prog w mg l s.heap av v u):cH prog w mg l s'.heap av v u:=by
 cases u with
 |fz d=>exact Rep.k fav k r
 |own d=>obtain⟨a,e,n,r⟩:=r;exact⟨a,e,n,r.k fav k n⟩
 |ex x=>obtain⟨e,h,r⟩:=r;exact⟨e,h,r.mono (fun _ _ n e=>k.at (fun f=>n (fav _ f)) e) fun _ _ _ x=>x⟩
theorem a9.k{l:List Env}{s s':Shared}(k:K l s s'){env:Env}{x:Str}{u:Value}(v:a9 env s.heap x u):a9 env s'.heap x u:=by
 rcases v with ⟨h1,m,hn,e⟩ | ⟨h1,c,e,o,hc⟩
 ·exact .inl ⟨h1,m,k.upTo.ns hn,e⟩
 ·exact .inr ⟨h1,c,e,by obtain⟨sl,e⟩:=k.up hc.1;exact⟨_,e,hc.2⟩⟩
theorem Gnd.k{l:List Env}{s s':Shared}{av:Addr→Prop}(I:Gnd prog w mg mb base l av s)(k:K l s s'):Gnd prog w mg mb base l av s' where
 glo:=I.glo
 stay:=fun b o e=>k.at (fun f=>by rw[(I.ff.mem f).1] at e;exact ns e) (I.stay b o e)
 ff:=I.ff.of_keeps fun b o e _=>by obtain⟨_,e'⟩:=k.up e;exact⟨_,e',rfl⟩
 fav:=I.fav
 avlt:=fun b hb=>by obtain⟨_,e⟩:=I.avlt b hb;exact by obtain⟨_,e'⟩:=k.up e;exact⟨_,e'⟩
 avS:=I.avS
theorem Inv0.k{l:List Env}{env:Env}{sc:Scope}{σ:aA}{av:Addr→Prop}{s s':Shared}(I:Inv0 prog w mg mb base l env sc σ av s)(k:K l s s'):Inv0 prog w mg mb base l env sc σ av s' :=
 { I with gnd:=I.gnd.k k,get:=fun x v hl e=>by obtain⟨u,h1,h2⟩:=I.get x v hl e;exact⟨u,h1.k k,h2.k I.gnd.fav k⟩ }
theorem bB.back{l:List Env}{s s':Shared}{h:Heap}{av:Addr→Prop}{v:Value}{u:V}(k:K l s s')(r:bB prog w s' h av v u):bB prog w s h av v u:=by
 cases u with
 |fz d=>exact r
 |own d=>obtain⟨a,e,hn,r⟩:=r;exact⟨a,e,k.non hn,r⟩
 |ex x=>exact r
theorem Own.backp{s s':Shared}{h:Heap}{av:Addr→Prop}{v:Value}{d:PyData}(k:Kp s s')(r:Own prog w s' h av v d):Own prog w s h av v d :=
 by obtain⟨a,e,hn,r⟩:=r;exact⟨a,e,(K.of (l:=[]) k).non hn,r⟩
theorem Fly.back{l:List Env}{s s' s'':Shared}{av:Addr→Prop}{x:X}{v:Value}(k:K l s s')(f:Fly prog w mg l s' av x v s''):Fly prog w mg l s av x v s'':=by
 obtain⟨k',e,h1,h2,h3,oe,vs,T,oT,ts,g1,g2,g3,g4,g5,g6,g7,g8⟩:=f;exact⟨k.tr k',e,h1,k.non h2,h3,oe,vs,T,oT,ts,g1,g2,g3,k.non g4,g5,g6,g7,g8⟩
theorem EH.back{β:Type}{l:List Env}{s s':Shared}{av:Addr→Prop}{fin:R β}{E:Value→Shared→Prop}(h:EH prog w mg l s av fin E)(k:K l s s'):EH prog w mg l s' av fin E :=
 fun x v s'' e f=>h x v s'' e (f.back k)
theorem QH.step{β:Type}{l:List Env}{s s' s'':Shared}{av:Addr→Prop}{k:V→R β}{fin:R β}{Q:Value→Shared→Prop}(h:QH prog w l s av k fin Q)(kk:K l s s'){v:Value}{u:V}(r:Kp s' s''∧bB prog w s' s''.heap av v u)(e:k u=fin):Q v s'' :=
 h v s'' u (kk.trp r.1) (r.2.back kk) e
theorem QH.back{β:Type}{l:List Env}{s s':Shared}{av:Addr→Prop}{k:V→R β}{fin:R β}{Q:Value→Shared→Prop}(h:QH prog w l s av k fin Q)(kk:K l s s'):QH prog w l s' av k fin Q :=
 fun v s'' u k' r e=>h v s'' u (kk.tr k') (r.back kk) e
theorem Room.h0{n:Nat}{l:List Env}{A:Around}(h:Room n false l A):A.handled=none:=h.handled rfl
theorem Room.units80{n:Nat}{hd:Bool}{l:List Env}{A:Around}(h:Room n hd l A):A.units+70 < cLine:=by have:=h.units;exact ax0 this
theorem qJ{l:List Env}{env:Env}{sc:Scope}{σ:aA}{av:Addr→Prop}{s:Shared}(I:Inv0 prog w mg mb base l env sc σ av s){x:Str}(h:isL sc x=true∨isG sc x=true):(x==("__debug__" : Str))=false:=by
 refine bcs (x==("__debug__" : Str)) (fun hx=>?_) fun hx=>?_
 ·try rewrite[hx]
  rfl
 ·try rewrite[hx]
  have e:x=Str.ofString "__debug__" := eq_of_beq hx;subst e;rcases h with h | h
  ·rw[isL,I.dbg] at h;exact bft h
  ·rw[isG,I.dbg] at h;exact bft h
theorem Fb{l:List Env}{env:Env}{sc:Scope}{σ:aA}{av:Addr→Prop}{s:Shared}(I:Inv0 prog w mg mb base l env sc σ av s){x:Str}(h:isL sc x=true):(x==("__classdict__" : Str))=false:=by
 refine bcs (x==("__classdict__" : Str)) (fun hx=>?_) fun hx=>?_
 ·try rewrite[hx]
  rfl
 ·try rewrite[hx]
  have e:x=Str.ofString "__classdict__" := eq_of_beq hx;subst e;rw[isL,I.cld] at h;exact bft h
theorem eO{l:List Env}{A:Around}{env:Env}{sc:Scope}{σ:aA}{av:Addr→Prop}{s:Shared}{x:Str}{u:Value}{Q:Value→Shared→Prop}{E:Value→Shared→Prop}{pos:Pos}(I:Inv0 prog w mg mb base l env sc σ av s)(hl:isL sc x=true)
  (v:a9 env s.heap x u) (h:Q u s):wpAny (model prog w) A (eval (.Name x pos) env) Q E s:=by
 refine wpAny_Name ?_ (qJ I (.inl hl));rcases v with ⟨k,m,hn,e⟩ | ⟨k | k,c,e,hc⟩
 ·exact wpAny_loadName_local I.kind k hn e h
 ·exact wpAny_loadName_cell I.kind k e hc h
 ·exact wpAny_loadName_free I.kind k e hc h (Fb I hl)
theorem Gnd.g{l:List Env}{av:Addr→Prop}{s:Shared}(G:Gnd prog w mg mb base l av s):s.heap.Ns mainGlobals mg:=G.glo.g.keeps G.stay
theorem mO{l:List Env}{A:Around}{env:Env}{sc:Scope}{σ:aA}{av:Addr→Prop}{s:Shared}{x:Str}{u:Value}{Q:Value→Shared→Prop}{E:Value→Shared→Prop}{pos:Pos}(I:Inv0 prog w mg mb base l env sc σ av s)(hg:isG sc x=true)
  (v:mg x=some u) (h:Q u s):wpAny (model prog w) A (eval (.Name x pos) env) Q E s :=
 Calls.Name_function_global I.kind (I.glob x hg) (Calls.loadGlobal_global (I.eg▸I.gnd.g) v h) (qJ I (.inr hg))
theorem eP{l:List Env}{A:Around}{env:Env}{sc:Scope}{σ:aA}{av:Addr→Prop}{s:Shared}{x:Str}{u:Value}{Q:Value→Shared→Prop}{E:Value→Shared→Prop}{pos:Pos}(I:Inv0 prog w mg mb base l env sc σ av s)(hg:isG sc x=true)
  (v:iN x=some u) (h:Q u s):wpAny (model prog w) A (eval (.Name x pos) env) Q E s :=
 Calls.Name_function_global I.kind (I.glob x hg) (Calls.loadGlobal_builtin (I.eg▸I.gnd.g) (I.gnd.glo.blt x u v).1 (I.eb▸I.gnd.glo.b.keeps I.gnd.stay) (I.gnd.glo.blt x u v).2 h) (qJ I (.inr hg))
theorem Fc{n:Nat}{hd:Bool}{l:List Env}{C:Ctx}{sc:Scope}{σ:aA}{x:Str}{pos:Pos}(hc:C.const=gJ prog.main.body):aC prog w mg mb base n hd l sc σ (.Name x pos) (ofP (pP C sc σ x)):=by
 intro A env s av hA I β k fin Q E hf hq he;obtain⟨u,e1,e2⟩:=hf.p;unfold pP at e1
 split at e1
 ·rename_i hl;refine ocs (aA.get σ x) (fun e=>?_) fun o e=>?_
  ·try rewrite[e]
   rw[e] at e1;exact pno e1
  ·try rewrite[e]
   rw[e] at e1;cases o with
   |none=>exact pno e1
   |some v =>
    cases v with
    |fz d =>
     obtain rfl:=pi e1;obtain⟨u,h1,h2⟩:=I.get _ _ hl e;exact eO I hl h1 (hq _ _ (.fz d) (K.rf l s) h2 e2)
    |_=>exact pno e1
 ·split at e1
  ·rename_i hg;rw[hc] at e1;refine ocs (gJ prog.main.body x) (fun e=>?_) fun d e=>?_
   ·try rewrite[e]
    rw[e] at e1;exact pno e1
   ·try rewrite[e]
    rw[e] at e1;obtain rfl:=pi e1;obtain⟨v,h1,h2⟩:=I.gnd.glo.const _ _ e;exact mO I hg h1 (hq _ _ (.fz d) (K.rf l s) (h2 _ _) e2)
  ·exact pno e1
theorem Fd{n:Nat}{hd:Bool}{l:List Env}{sc:Scope}{σ:aA}{c:Const}{k:Nat}{pos:Pos}:aC prog w mg mb base n hd l sc σ (.Constant c k pos) (ofP (pQ c)):=by
 intro A env s av hA I β k fin Q E hf hq he;have key:Yd (fun Q E=>wpAny (model prog w) A (eval (.Constant c ‹_› pos) env) Q E s) (fun v s' u=>Kp s s'∧bB prog w s s'.heap av v u) (pQ c):=by
  cases c with
  |none=>exact fun Q E hq=>wpAny_Constant_none (hq _ _ ⟨Kp.rfl' s,.none⟩)
  |bool b=>exact fun Q E hq=>wpAny_Constant_bool (hq _ _ ⟨Kp.rfl' s,.bool b⟩)
  |int i=>exact fun Q E hq=>wpAny_Constant_int (hq _ _ ⟨Kp.tok' s _,.int i _⟩)
  |str x =>
   show Yd _ _ (mkS x);exact Yd.ite fun hx=>fun Q E hq=>wpAny_Constant_str (hq _ _ ⟨Kp.tok' s _,.str x _ hx⟩)
  |_=>exact trivial
 exact key.fin hf fun v s' u r e=>hq.step (K.rf l s) r e
end
end Mine
namespace Mine
open PySem
section
variable {prog:Program} {w:World}
theorem dQ(x:Str)(t:Tok):(strKind prog w).is x (.str x t)=true:=by
 show Value.isStrOf x (.str x t)=true;simp[Value.isStrOf]
theorem Rep.str_inv{h:Heap}{av:Addr→Prop}{v:Value}{x:Str}(r:Rep prog w h av v (.str x)):∃ t,v=.str x t∧x.length≤sizeLine:=by
 cases r with
 |str _ t hx=>exact⟨t,rfl,hx⟩
theorem Rep.int_inv{h:Heap}{av:Addr→Prop}{v:Value}{i:Int}(r:Rep prog w h av v (.int i)):∃ t,v=.int i t:=by
 cases r with
 |int _ t=>exact⟨t,rfl⟩
theorem Rep.bool_inv{h:Heap}{av:Addr→Prop}{v:Value}{b:Bool}(r:Rep prog w h av v (.bool b)):v=.bool b:=by cases r;rfl
inductive ListI(prog:Program)(w:World)(h:Heap)(av:Addr→Prop)(v:Value)(ds:List PyData):Prop where
 |mk (a:Addr) (vs:List Value) (e:v=.ref a) (n:¬ av a) (p:h.PlainList a (List.toArray vs)) (l:vs.length=ds.length) (z:vs.length≤sizeLine) (r:∀ (i:Nat) (v:Value) (d:PyData),vs[i]?=some v→ds[i]?=some d→Rep prog w h av v d):ListI prog w h av v ds
inductive TupI(prog:Program)(w:World)(h:Heap)(av:Addr→Prop)(v:Value)(ds:List PyData):Prop where
 |mk (a:Addr) (vs:List Value) (e:v=.ref a) (n:¬ av a) (p:PlT h a (List.toArray vs)) (l:vs.length=ds.length) (z:vs.length≤sizeLine) (r:∀ (i:Nat) (v:Value) (d:PyData),vs[i]?=some v→ds[i]?=some d→Rep prog w h av v d):TupI prog w h av v ds
inductive DictI(prog:Program)(w:World)(h:Heap)(av:Addr→Prop)(v:Value)(ds:List (PyData×PyData)):Prop where
 |mk (a:Addr) (kvs:List (Str×Value)) (e:v=.ref a) (n:¬ av a) (p:h.DictOf (strKind prog w) a kvs) (z:kvs.length≤sizeLine∧∀ kv∈kvs,kv.1.length≤sizeLine) (m:(a==sysModules)=false)
  (l:ds.map (·.1)=kvs.map (fun kv=>PyData.str kv.1)) (r:∀ (i:Nat) (kv:Str×Value) (d:PyData×PyData),kvs[i]?=some kv→ds[i]?=some d→Rep prog w h av kv.2 d.2):DictI prog w h av v ds
theorem Rep.list_inv{h:Heap}{av:Addr→Prop}{v:Value}{ds:List PyData}(r:Rep prog w h av v (.list ds)):ListI prog w h av v ds:=by
 cases r with
 |list h1 h2 h3 h4 h5=>exact⟨_,_,rfl,h1,h2,h3,h4,h5⟩
theorem Rep.tuple_inv{h:Heap}{av:Addr→Prop}{v:Value}{ds:List PyData}(r:Rep prog w h av v (.tuple ds)):TupI prog w h av v ds:=by
 cases r with
 |tuple h1 h2 h3 h4 h5=>exact⟨_,_,rfl,h1,h2,h3,h4,h5⟩
theorem Rep.dict_inv{h:Heap}{av:Addr→Prop}{v:Value}{ds:List (PyData×PyData)}(r:Rep prog w h av v (.dict ds)):DictI prog w h av v ds:=by
 cases r with
 |dict h1 h2 h3 h4 h5 h6=>exact⟨_,_,rfl,h1,h2,h3,h4,h5,h6⟩
theorem mP:∀ {ds:List (PyData×PyData)} {kvs:List (Str×Value)} (x:Str),ds.map (·.1)=kvs.map (fun kv=>PyData.str kv.1) →
  (valueAt kvs x=none∧bS ds x=none)∨∃ (i:Nat) (v:Value) (d:PyData),valueAt kvs x=some v∧bS ds x=some d∧kvs[i]?=some (x,v)∧ds[i]?=some (.str x,d)
 := by
 intro ds
 induction ds with
 |nil =>
  intro kvs x h;cases kvs with
  |nil=>exact .inl ⟨rfl,rfl⟩
  |cons=>exact nomatch h
 |cons p ds ih =>
  obtain⟨k,d⟩:=p;intro kvs x h;cases kvs with
  |nil=>exact nomatch h
  |cons q kvs =>
   obtain⟨y,v⟩:=q;obtain⟨rfl,h2⟩:=List.cons.inj h
   by_cases hx:x=y
   ·subst hx;exact .inr ⟨0,v,d,by unfold valueAt;rw[List.find?_cons,decide_eq_true rfl];rfl,if_pos rfl,rfl,rfl⟩
   ·have hv:valueAt ((y,v)::kvs) x=valueAt kvs x:=by unfold valueAt;rw[List.find?_cons,decide_eq_false (fun e=>hx e.symm:¬ (y,v).1=x)]
    rcases ih (kvs:=kvs) x h2 with ⟨a,b⟩ | ⟨i,v',d',a,b,c,e⟩
    ·exact .inl ⟨hv.trans a,(if_neg hx).trans b⟩
    ·exact .inr ⟨i+1,v',d',hv.trans a,(if_neg hx).trans b,c,e⟩
theorem gL{h:Heap}{av:Addr→Prop}:∀ {vs:List Value} {ds:List PyData} {ss:List Str},vs.length=ds.length→(∀ (i:Nat) (v:Value) (d:PyData),vs[i]?=some v→ds[i]?=some d→Rep prog w h av v d) →
  strs? ds=some ss→∃ ts:List Tok,ts.length=ss.length∧vs=List.zipWith (fun x t=>Value.str x t) ss ts∧∀ x∈ss,x.length≤sizeLine
 := by
 intro vs
 induction vs with
 |nil =>
  intro ds ss hl hr hs;cases ds with
  |nil=>obtain rfl:=si hs;exact⟨[],rfl,rfl,fun x hx=>cL hx⟩
  |cons=>exact nomatch hl
 |cons v vs ih =>
  intro ds ss hl hr hs;cases ds with
  |nil=>exact nomatch hl
  |cons d ds =>
   have h0:=hr 0 v d rfl rfl;cases d with
   |str x =>
    obtain⟨t,rfl,hx⟩:=h0.str_inv;obtain⟨ss',hs',rfl⟩:=Option.map_eq_some_iff.mp (show(strs? ds).map (x::·)=some ss from hs);obtain⟨ts,h1,h2,h3⟩:=ih (ds:=ds) (Nat.succ.inj hl) (fun i v d e1 e2=>hr (i+1) v d e1 e2) hs';exact⟨t::ts,congrArg Nat.succ h1,congrArg (Value.str x t::·) h2,List.forall_mem_cons.mpr ⟨hx,h3⟩⟩
   |_=>exact ns hs
noncomputable def fG(x:Str):Value→Bool
 | .str y _=>y==x
 |_=>false
theorem vQ(x:Str):∀ (ss:List Str) (ts:List Tok),ts.length=ss.length→(List.zipWith (fun x t=>Value.str x t) ss ts).any (fG x)=ss.contains x
 | [],[],_=>rfl
 | [],_::_,h=>by simp at h
 |_::_,[],h=>by simp at h
 |s::ss,t::ts,h=>by
  have ih:=vQ x ss ts (by simpa using h);simp only[List.zipWith_cons_cons,List.any_cons,ih,List.contains_cons,fG];simp only[Bool.beq_comm]
theorem vR{A:Around}{s:Shared}(x:Str)(t:Tok):∀ (ss:List Str) (ts:List Tok) (y:Value),y∈List.zipWith (fun x t=>Value.str x t) ss ts→SeqAt.EqAt A s y (.str x t) (fG x y)
 | [],_,y,h=>by simp at h
 |_::_,[],y,h=>by simp at h
 |s'::ss,t'::ts,y,h=>by
  rcases List.mem_cons.mp h with h | h
  ·subst h;exact SeqAt.EqAt.str_str _ _ _ _
  ·exact vR x t ss ts y h
noncomputable def CS(prog:Program)(w:World)(A:Around)(s:Shared)(op:CmpOp)(va vb:Value)(p:P Bool):Prop :=
 Yd (fun Q E=>wpAny (model prog w) A (compareOp op va vb) Q E s) (fun v s' r=>Kp s s'∧v=.bool r) p
theorem CS.ok{A:Around}{s:Shared}{op:CmpOp}{va vb:Value}{b:Bool}(s':Shared)(k:Kp s s')(h:∀ (Q:Value→Shared→Prop) E,Q (.bool b) s'→wpAny (model prog w) A (compareOp op va vb) Q E s):CS prog w A s op va vb (.ok b) :=
 fun Q E hq=>h Q E (hq _ _ ⟨k,rfl⟩)
theorem mQ{A:Around}{s:Shared}{vs:List Value}{l:List PyData}{av:Addr→Prop}{x:Str}{t:Tok}{op:CmpOp}{vb:Value}{g:P Bool→P Bool}(h3:vs.length=l.length)(h5:∀ (i:Nat) (v:Value) (d:PyData),vs[i]?=some v→l[i]?=some d→Rep prog w s.heap av v d)
  (hg:g .no=.no) (h:∀ b,(∀ y∈vs.toArray,SeqAt.EqAt A.in1 s y (.str x t) (fG x y))→vs.toArray.any (fG x)=b→CS prog w A s op (.str x t) vb (g (.ok b))):CS prog w A s op (.str x t) vb (g (lJ x l)):=by
 unfold lJ;cases hs:strs? l with
 |none =>
  have:g ((ofO (none:Option (List Str))).bind fun ss=>.ok (ss.contains x))=.no:=hg;simp only[this];exact trivial
 |some ss =>
  obtain⟨ts,e1,e2,e3⟩:=gL h3 h5 hs;subst e2;exact h _ (fun y hy=>vR x t ss ts y (by simpa using hy)) (by simpa using vQ x ss ts e1)
theorem vS{A:Around}{s:Shared}{av:Addr→Prop}{va vb:Value}{a b:PyData}(ra:Rep prog w s.heap av va a)(rb:Rep prog w s.heap av vb b) :
  CS prog w A s .In va vb (contains a b)∧CS prog w A s .NotIn va vb (bU (contains a b)):=by
 cases a with
 |str x =>
  obtain⟨t,rfl,hx⟩:=ra.str_inv;cases b with
  |str y =>
   obtain⟨u,rfl,hy⟩:=rb.str_inv;exact⟨CS.ok s (Kp.rfl' s) fun Q E h=>SB.contains h,CS.ok s (Kp.rfl' s) fun Q E h=>SB.notContains h⟩
  |dict l =>
   obtain⟨a,kvs,rfl,h1,h2,h3,h4,h5,h6⟩:=rb.dict_inv;have hsome:(valueAt kvs x).isSome=(bS l x).isSome:=by
    rcases mP x h5 with ⟨e1,e2⟩ | ⟨i,v,d,e1,e2,_⟩<;>rw[e1,e2]<;>rfl
   exact⟨CS.ok _ (Kp.tok' s _) fun Q E h=>wpAny_in_of (dQ x t) h4 h2.mapOf (by rw[hsome];exact h),CS.ok _ (Kp.tok' s _) fun Q E h=>wpAny_notIn_of (dQ x t) h4 h2.mapOf (by rw[hsome];exact h)⟩
  |list l =>
   obtain⟨a,vs,rfl,h1,h2,h3,h4,h5⟩:=rb.list_inv;exact⟨mQ (g:=id) h3 h5 rfl fun b he hb=>CS.ok s (Kp.rfl' s) fun Q E h=>SeqAt.in_listAt (fG x) h2.isList he (by rw[hb];exact h),
    mQ (g:=bU) h3 h5 rfl fun b he hb=>CS.ok s (Kp.rfl' s) fun Q E h=>SeqAt.notIn_listAt (fG x) h2.isList he (by rw[hb];exact h)⟩
  |tuple l =>
   obtain⟨a,vs,rfl,h1,h2,h3,h4,h5⟩:=rb.tuple_inv;exact⟨mQ (g:=id) h3 h5 rfl fun b he hb=>CS.ok s (Kp.rfl' s) fun Q E h=>SeqAt.in_tupleAt (fG x) h2.isTuple he (by rw[hb];exact h),
    mQ (g:=bU) h3 h5 rfl fun b he hb=>CS.ok s (Kp.rfl' s) fun Q E h=>SeqAt.notIn_tupleAt (fG x) h2.isTuple he (by rw[hb];exact h)⟩
  |_=>exact⟨trivial,trivial⟩
 |_=>exact⟨trivial,trivial⟩
theorem vT{A:Around}{s:Shared}{av:Addr→Prop}{va vb:Value}{a b:PyData}(ra:Rep prog w s.heap av va a)(rb:Rep prog w s.heap av vb b) :
  CS prog w A s .Is va vb (lK a b)∧CS prog w A s .IsNot va vb (bU (lK a b)):=by
 cases b with
 |none =>
  cases rb;have hv:(va==Value.none)=oZ a:=by cases ra<;>rfl
  exact⟨CS.ok s (Kp.rfl' s) fun Q E h=>is_none (by rw[hv];exact h),CS.ok s (Kp.rfl' s) fun Q E h=>isNot_none (by rw[hv];exact h)⟩
 |_=>exact⟨trivial,trivial⟩
theorem Fe{a b:List Str}(h:a.length=b.length):(List.range a.length).all (fun j=>a[j]?==b[j]?)=(a==b):=by
 rw[Bool.eq_iff_iff,List.all_eq_true,beq_iff_eq];constructor
 ·intro hh;refine List.ext_getElem? fun i=>?_
  by_cases hi:i < a.length
  ·exact eq_of_beq (hh i (List.mem_range.mpr hi))
  ·rw[List.getElem?_eq_none (Nat.not_lt.mp hi),List.getElem?_eq_none (h▸Nat.not_lt.mp hi)]
 ·intro hh i _;rw[hh];exact beq_self_eq_true _
theorem Ff{A:Around}{s:Shared}{h:Heap}{av:Addr→Prop}{vs vs':List Value}{x y:List PyData}{p:Bool}(hl:x.length=y.length)(h3:vs.length=x.length)(h5:∀ (i:Nat) (v:Value) (d:PyData),vs[i]?=some v→x[i]?=some d→Rep prog w h av v d)(k3:vs'.length=y.length)
  (k5:∀ (i:Nat) (v:Value) (d:PyData),vs'[i]?=some v→y[i]?=some d→Rep prog w h av v d) (he:iE x y=.ok p):∃ e:Nat→Bool,(List.range vs.length).all e=p∧∀ j (h1:j < vs.toArray.size) (h2:j < vs'.toArray.size),SeqAt.EqAt A s vs.toArray[j] vs'.toArray[j] (e j):=by
 unfold iE at he;refine ocs (strs? x) (fun hx=>?_) fun a hx=>?_
 ·try rewrite[hx]
  simp only[hx] at he;exact pno he
 ·try rewrite[hx]
  refine ocs (strs? y) (fun hy=>?_) fun b hy=>?_
  ·try rewrite[hy]
   simp only[hx,hy] at he;exact pno he
  ·try rewrite[hy]
   simp only[hx,hy] at he;obtain rfl:=pi he;obtain⟨ta,q1,rfl,_⟩:=gL h3 h5 hx;obtain⟨tb,q2,rfl,_⟩:=gL k3 k5 hy;have la:(List.zipWith (fun x t=>Value.str x t) a ta).length=a.length:=by simp[q1]
   have lb:(List.zipWith (fun x t=>Value.str x t) b tb).length=b.length:=by simp[q2]
   refine⟨fun j=>a[j]?==b[j]?,?_,fun j h1 h2=>?_⟩
   ·simp only[la];exact Fe (by simp only[← la,← lb,h3,k3,hl])
   ·have ja:j < a.length:=by simpa[q1] using h1
    have jb:j < b.length:=by simpa[q2] using h2
    have e1:=List.getElem?_eq_getElem ja;have e2:=List.getElem?_eq_getElem jb;simp only[e1,e2,List.getElem_toArray,List.getElem_zipWith];exact SeqAt.EqAt.str_str _ _ _ _
theorem vU{A:Around}{s:Shared}{av:Addr→Prop}{va vb:Value}{a b:PyData}(hu:A.units+70 < cLine)(ra:Rep prog w s.heap av va a)(rb:Rep prog w s.heap av vb b) :
  CS prog w A s .Eq va vb (eqO a b)∧CS prog w A s .NotEq va vb (bU (eqO a b)):=by
 have hu0:A.units < cLine:=by exact ax2 hu
 cases a with
 |none =>
  cases ra;cases b with
  |list y =>
   obtain⟨a',vs',rfl,k1,k2,k3,k4,k5⟩:=rb.list_inv;exact⟨CS.ok s (Kp.rfl' s) fun Q E h=>SeqAt.RcAt.none_list k2.isList hu0 prog w E Q h,CS.ok s (Kp.rfl' s) fun Q E h=>SeqAt.RcNeAt.none_list k2.isList hu0 prog w E Q h⟩
  |_=>exact⟨trivial,trivial⟩
 |int x =>
  obtain⟨t,rfl⟩:=ra.int_inv;cases b with
  |int y =>
   obtain⟨u,rfl⟩:=rb.int_inv;exact⟨CS.ok s (Kp.rfl' s) fun Q E h=>SeqAt.RcAt.int_int x t y u prog w E Q h,CS.ok s (Kp.rfl' s) fun Q E h=>SeqAt.RcNeAt.int_int x t y u prog w E Q h⟩
  |_=>exact⟨trivial,trivial⟩
 |str x =>
  obtain⟨t,rfl,_⟩:=ra.str_inv;cases b with
  |str y =>
   obtain⟨u,rfl,_⟩:=rb.str_inv;exact⟨CS.ok s (Kp.rfl' s) fun Q E h=>SeqAt.RcAt.str_str x t y u prog w E Q h,CS.ok s (Kp.rfl' s) fun Q E h=>SeqAt.RcNeAt.str_str x t y u prog w E Q h⟩
  |_=>exact⟨trivial,trivial⟩
 |bool x =>
  obtain rfl:=ra.bool_inv;cases b with
  |bool y =>
   obtain rfl:=rb.bool_inv;exact⟨CS.ok s (Kp.rfl' s) fun Q E h=>SeqAt.RcAt.bool_bool x y prog w E Q h,CS.ok s (Kp.rfl' s) fun Q E h=>SeqAt.RcNeAt.bool_bool x y prog w E Q h⟩
  |_=>exact⟨trivial,trivial⟩
 |list x =>
  obtain⟨a,vs,rfl,h1,h2,h3,h4,h5⟩:=ra.list_inv;cases b with
  |list y =>
   obtain⟨a',vs',rfl,k1,k2,k3,k4,k5⟩:=rb.list_inv
   by_cases hl:x.length=y.length
   ·have e0:eqO (.list x) (.list y)=iE x y:=if_pos hl;rw[e0];refine pcs (iE x y) (fun he=>?_) fun p he=>?_
    ·try rewrite[he]
     exact⟨trivial,trivial⟩
    ·try rewrite[he]
     obtain⟨e,q1,q2⟩:=Ff (A:=A.in1) (s:=s) hl h3 h5 k3 k5 he;have hsz:vs.toArray.size=vs'.toArray.size:=by simp[h3,k3,hl]
     subst q1;exact⟨CS.ok s (Kp.rfl' s) fun Q E h=>SeqAt.RcAt.lists h2.isList k2.isList hsz hu0 q2 prog w E Q (by simpa using h),
      CS.ok s (Kp.rfl' s) fun Q E h=>SeqAt.RcNeAt.lists h2.isList k2.isList hsz hu0 q2 prog w E Q (by simpa using h)⟩
   ·have e0:eqO (.list x) (.list y)=.ok false:=if_neg hl;rw[e0];have hsz:(vs.toArray.size != vs'.toArray.size)=true:=by simp[h3,k3,hl]
    exact⟨CS.ok s (Kp.rfl' s) fun Q E h=>SeqAt.RcAt.lists_lengths h2.isList k2.isList hsz hu0 prog w E Q h,
     CS.ok s (Kp.rfl' s) fun Q E h=>SeqAt.RcNeAt.lists_lengths h2.isList k2.isList hsz hu0 prog w E Q h⟩
  |_=>exact⟨trivial,trivial⟩
 |_=>exact⟨trivial,trivial⟩
theorem mR{A:Around}{s:Shared}{av:Addr→Prop}{va vb:Value}{a b:PyData}{op:CmpOp}{f:Int→Int→Bool}(ra:Rep prog w s.heap av va a)(rb:Rep prog w s.heap av vb b)
  (h:∀ x t y u (Q:Value→Shared→Prop) E,Q (.bool (f x y)) s→wpAny (model prog w) A (compareOp op (.int x t) (.int y u)) Q E s):CS prog w A s op va vb (jQ f a b):=by
 cases a with
 |int x =>
  obtain⟨t,rfl⟩:=ra.int_inv;cases b with
  |int y =>
   obtain⟨u,rfl⟩:=rb.int_inv;exact CS.ok s (Kp.rfl' s) fun Q E hq=>h x t y u Q E hq
  |_=>exact trivial
 |_=>exact trivial
theorem Fg{A:Around}{s:Shared}{av:Addr→Prop}{op:CmpOp}{va vb:Value}{a b:PyData}(hu:A.units+70 < cLine)(ra:Rep prog w s.heap av va a)(rb:Rep prog w s.heap av vb b):CS prog w A s op va vb (cmp op a b):=by
 cases op with
 |Eq=>exact(vU hu ra rb).1
 |NotEq=>exact(vU hu ra rb).2
 |In=>exact(vS ra rb).1
 |NotIn=>exact(vS ra rb).2
 |Is=>exact(vT ra rb).1
 |IsNot=>exact(vT ra rb).2
 |Lt=>exact mR ra rb fun x t y u Q E h=>PyProof.Rows.lt_int h
 |LtE=>exact mR ra rb fun x t y u Q E h=>P.le_int h
 |Gt=>exact mR ra rb fun x t y u Q E h=>PyProof.Rows.gt_int h
 |GtE=>exact mR ra rb fun x t y u Q E h=>P.ge_int h
end
end Mine
namespace Mine
open PySem
section
variable {prog:Program} {w:World}
theorem bZ(h:Heap):h.get? h.objs.size=none:=by
 refine ocs (h.get? h.objs.size) (fun e=>?_) fun o e=>?_
 ·try rewrite[e]
  rfl
 ·try rewrite[e]
  exact absurd (Heap.lt_size e) (Nat.lt_irrefl _)
theorem Rep.apart{h:Heap}{av:Addr→Prop}{v:Value}{d:PyData}{a:Addr}(hn:h.get? a=Option.none)(r:Rep prog w h av v d):Rep prog w h (fun b=>av b∨b=a) v d :=
 r.mono (fun _ _ _ e=>e) fun b o e x=>x.elim id fun x=>by subst x;rw[hn] at e;exact ns e
theorem cY(h:Heap)(o:Obj)(ho:o.isFreed=false):(h.push o).get? h.objs.size=some o:=Heap.get?_push_size h ho
theorem vV{h:Heap}{av:Addr→Prop}{xs ys:List Value}{as bs:List PyData}(hx:xs.length=as.length)(_hy:ys.length=bs.length)
  (rx:∀ (i:Nat) (v:Value) (d:PyData),xs[i]?=some v→as[i]?=some d→Rep prog w h av v d) (ry:∀ (i:Nat) (v:Value) (d:PyData),ys[i]?=some v→bs[i]?=some d→Rep prog w h av v d) :
  ∀ (i:Nat) (v:Value) (d:PyData),(xs++ys)[i]?=some v→(as++bs)[i]?=some d→Rep prog w h av v d:=by
 intro i v d e1 e2
 by_cases hi:i < xs.length
 ·rw[List.getElem?_append_left hi] at e1;rw[List.getElem?_append_left (hx▸hi)] at e2;exact rx i v d e1 e2
 ·rw[List.getElem?_append_right (by exact ax4 hi)] at e1;rw[List.getElem?_append_right (by exact ax5 hx hi),← hx] at e2;exact ry _ v d e1 e2
theorem qK{s s₁:Shared}{av:Addr→Prop}{vs:List Value}{ds:List PyData}(k:Kp s s₁)(hl:vs.length=ds.length)(hz:vs.length≤sizeLine)
  (hr:∀ (i:Nat) (v:Value) (d:PyData),vs[i]?=some v→ds[i]?=some d→Rep prog w s₁.heap av v d) :
  Kp s { s₁ with heap:=s₁.heap.push { cls:=.type "list", data:=.seq vs.toArray } } ∧
   bB prog w s (s₁.heap.push { cls:=.type "list", data:=.seq vs.toArray }) av (.ref s₁.heap.objs.size) (.own (.list ds)):=by
 refine⟨k.tr (Kp.push' _ _),Own.backp k ⟨_,rfl,bZ _,vs,⟨0,cY _ _ rfl⟩,hl,hz,fun i v d e1 e2=>?_⟩⟩;exact(((hr i v d e1 e2).apart (bZ _)).keeps fun b o e=>Heap.get?_push_of_some _ e)
theorem qL{s s₁:Shared}{av:Addr→Prop}{vs:List Value}{ds:List PyData}(k:Kp s s₁)(ha:∀ b,av b→∃ o,s₁.heap.get? b=some o)(hl:vs.length=ds.length)(hz:vs.length≤sizeLine)
  (hr:∀ (i:Nat) (v:Value) (d:PyData),vs[i]?=some v→ds[i]?=some d→Rep prog w s₁.heap av v d) :
  Kp s { s₁ with heap:=s₁.heap.push { cls:=.type "tuple", data:=.seq vs.toArray } } ∧
   bB prog w s (s₁.heap.push { cls:=.type "tuple", data:=.seq vs.toArray }) av (.ref s₁.heap.objs.size) (.fz (.tuple ds)):=by
 refine⟨k.tr (Kp.push' _ _),Rep.tuple (fun x=>?_) ⟨0,cY _ _ rfl⟩ hl hz fun i v d e1 e2=>(hr i v d e1 e2).keeps fun b o e=>Heap.get?_push_of_some _ e⟩;obtain⟨o,e⟩:=ha _ x;rw[bZ] at e;exact ns e
theorem Fh{x y:Int}(hy:y.natAbs < 2 ^ 63):Builtin.divisionGoesByPylong x y=false:=by
 unfold Builtin.divisionGoesByPylong;have:(if (y==0)=true then 0 else y.natAbs.log2 / 30+1)≤300:=by
  split
  ·exact ax6
  ·rename_i h0;have hn:y.natAbs≠0:=by simpa using h0
   have:y.natAbs.log2 < 63:=(Nat.log2_lt hn).mpr hy;exact ax7 this
 simp only[Bool.and_eq_false_iff,decide_eq_false_iff_not];left;exact ax8 this
theorem vW{x:Int}(h:x.natAbs < 2 ^ 63):Builtin.Int.intBits x≤64:=intBits_le_64 (by omega) (by omega)
theorem Fi{x:Str}{n:Int}(hn:n≤1024)(hx:x.length≤1024):(jO x n).length≤sizeLine:=by
 unfold jO
 split
 ·exact Nat.zero_le _
 ·split
  ·rw[sizeLine_eq];exact ax9 hx
  ·have hf:∀ (k:Nat) (acc:Array Nat),((List.replicate k x.cps).foldl (·++·) acc).size=acc.size+k*x.cps.size:=by
    intro k
    induction k with
    |zero=>intro acc;simp
    |succ k ih=>intro acc;rw[List.replicate_succ,List.foldl_cons,ih,Array.size_append,Nat.succ_mul];exact Bf
   show((List.replicate n.toNat x.cps).foldl (·++·) #[]).size≤sizeLine;rw[hf];have h1:n.toNat≤1024:=by exact Bg hn
   have h2:x.cps.size≤1024:=hx;have h3:n.toNat*x.cps.size≤1024*1024:=Nat.mul_le_mul h1 h2;rw[sizeLine_eq];simp;exact Bh h3
theorem vX{op:Operator}(h:lI op=true):op=.Add:=by
 cases op<;>first | rfl | cases h
theorem Fj{op:Operator}(h:uM op=true):op=.Mult:=by
 cases op<;>first | rfl | cases h
noncomputable def OS(prog:Program)(w:World)(A:Around)(s:Shared)(av:Addr→Prop)(op:Operator)(va vb:Value)(p:P V):Prop :=
 Yd (fun Q E=>wpAny (model prog w) A (binaryOp op va vb) Q E s) (fun v s' u=>Kp s s'∧bB prog w s s'.heap av v u) p
theorem Fk{A:Around}{s:Shared}{av:Addr→Prop}{op:Operator}(x y:Int)(t u:Tok):OS prog w A s av op (.int x t) (.int y u) (uL op x y):=by
 cases op with
 |Add=>exact fun Q E hq=>PyProof.Rows.add_int (hq _ _ ⟨Kp.tok' s _,.int _ _⟩)
 |Sub=>exact fun Q E hq=>PyProof.Rows.sub_int (hq _ _ ⟨Kp.tok' s _,.int _ _⟩)
 |Mult=>exact Yd.ite fun h Q E hq=>P.mul_int (hq _ _ ⟨Kp.tok' s _,.int _ _⟩) (h.elim (fun h=>.of_left (vW h)) fun h=>.of_right (vW h))
 |FloorDiv=>exact Yd.ite fun h Q E hq=>PyProof.Rows.floordiv_int h.1 (hq _ _ ⟨Kp.tok' s _,.int _ _⟩) (.inl (Fh h.2))
 |Mod=>exact Yd.ite fun h Q E hq=>PyProof.Rows.mod_int' h (hq _ _ ⟨Kp.tok' s _,.int _ _⟩)
 |Pow=>exact Yd.ite fun h Q E hq=>PyProof.Rows.pow_int_small h.1 (by exact Bi h) (by omega) (hq _ _ ⟨Kp.tok' s _,.int _ _⟩)
 |_=>exact trivial
theorem Fl{x:Str}{n:Int}(h1:1≤n)(h2:n≤1024)(hx:x.length≤1024):(x.length:Int)≤(2 ^ 63 - 1) / n :=
 Int.le_ediv_of_mul_le (by exact Bj h1) (Int.le_trans (Int.mul_le_mul (Int.ofNat_le.mpr hx) h2 (by exact Bk h1) (by decide)) (by decide))
theorem Fm{A:Around}{s:Shared}{av:Addr→Prop}(x:Str)(n:Int)(t u:Tok)(h:-100≤n∧n≤1024∧x.length≤1024):OS prog w A s av .Mult (.str x t) (.int n u) (.ok (.fz (.str (jO x n)))):=by
 intro Q E hq;have hlen:=Fi h.2.1 h.2.2;refine P.mul_str (by simp only[Bool.or_eq_false_iff,decide_eq_false_iff_not];lia) (fun h1 _=>?_) (fun h1 _=>?_) ?_
 ·have:=Fl (by exact Bm h1) h.2.1 h.2.2;exact Bn this
 ·exact decide_eq_false (Nat.not_lt.mpr (Nat.le_trans (Nat.mul_le_mul h.2.2 (by exact Bp h:n.toNat≤1024)) (by decide)))
 ·unfold jO at hlen hq
  split
  ·rename_i hn;rw[if_pos hn] at hq hlen;exact⟨hlen,hq _ _ ⟨Kp.tok' s _,.str _ _ hlen⟩⟩
  ·rename_i hn;rw[if_neg hn] at hq hlen
   split
   ·rename_i h1;rw[if_pos h1] at hq hlen;exact hq _ _ ⟨Kp.rfl' s,.str _ _ hlen⟩
   ·rename_i h1;rw[if_neg h1] at hq hlen;exact⟨hlen,hq _ _ ⟨Kp.tok' s _,.str _ _ hlen⟩⟩
theorem Fn{A:Around}{s:Shared}{av:Addr→Prop}{va vb:Value}{l m:List PyData}(ra:Rep prog w s.heap av va (.list l))(rb:Rep prog w s.heap av vb (.list m))(h:l.length+m.length≤aV):OS prog w A s av .Add va vb (.ok (.own (.list (l++m)))):=by
 obtain⟨a,vs,rfl,h1,⟨n,e⟩,h3,h4,h5⟩:=ra.list_inv;obtain⟨a',vs',rfl,k1,⟨n',e'⟩,k3,k4,k5⟩:=rb.list_inv;intro Q E hq;have hz:(vs++vs').length≤sizeLine:=by rw[List.length_append,h3,k3];exact h
 have:=qK (prog:=prog) (w:=w) (vs:=vs++vs') (ds:=l++m) (Kp.rfl' s) (by simp[h3,k3]) hz (vV h3 k3 h5 k5);refine P.add_list e e' ?_ (by simpa using hz);rw[List.append_toArray];exact hq _ _ this
theorem Fo{A:Around}{s:Shared}{av:Addr→Prop}{op:Operator}{va vb:Value}{a b:PyData}(ra:Rep prog w s.heap av va a)(rb:Rep prog w s.heap av vb b):OS prog w A s av op va vb (aH op a b):=by
 cases a with
 |int x =>
  obtain⟨t,rfl⟩:=ra.int_inv;cases b with
  |int y =>
   obtain⟨u,rfl⟩:=rb.int_inv;exact Fk x y t u
  |_=>exact trivial
 |str x =>
  obtain⟨t,rfl,hx⟩:=ra.str_inv;cases b with
  |str y =>
   obtain⟨u,rfl,hy⟩:=rb.str_inv;exact Yd.ite fun h Q E hq=>by
    cases vX h.1;exact SB.add (fun t' k=>hq _ _ ⟨Kp.tok' s _,.str _ _ (by rw[strLen_append];exact h.2)⟩) h.2
  |int y =>
   obtain⟨u,rfl⟩:=rb.int_inv;exact Yd.ite fun h=>by
    cases Fj h.1;exact Fm x y t u h.2
  |_=>exact trivial
 |list l =>
  cases b with
  |list m=>exact Yd.ite fun h=>by cases vX h.1;exact Fn ra rb h.2
  |_=>exact trivial
 |_=>exact trivial
end
end Mine
namespace Mine
open PySem
section
variable {prog:Program} {w:World} {mg mb:Str→Option Value} {base:Heap}
theorem iO{u:V}{b:Bool}(h:cV u=.ok b):u=.fz (.bool b):=by
 cases u with
 |fz d=>cases d<;>first | (cases h;rfl) | cases h
 |_=>exact pno h
theorem bB.clear{l:List Env}{s:Shared}{h:Heap}{av:Addr→Prop}{v:Value}{u:V}(hlt:∀ b,av b→∃ o,s.heap.get? b=some o)(r:bB prog w s h av v u):cH prog w mg l h av v u.clear:=by
 cases u with
 |fz d=>exact r
 |own d=>exact Own.rep hlt r
 |ex x=>exact r.elim
variable {n:Nat} {hd:Bool} {l:List Env} {sc:Scope} {σ:aA}
theorem Fp{a b:Expr}{op:Operator}{pos:Pos}{pl pr:R V}(hl:aC prog w mg mb base n hd l sc σ a pl)(hr:aC prog w mg mb base n hd l sc σ b pr) :
  aC prog w mg mb base n hd l sc σ (.BinOp a op b pos) (rb pl fun a=>rb pr fun b=>ofP (aH op (dOf a) (dOf b))):=by
 intro A env s av hA I β k fin Q E hf hq he;refine wpAny_BinOp (hl A env s av hA I hf.b (fun va s₁ a k1 ra h1=>?_) he);have I1:=I.k k1;refine hr A env s₁ av hA I1 (Fin.b ⟨h1,hf.2⟩) (fun vb s₂ b k2 rb h2=>?_) (he.back k1);exact(Fo ((ra.rep I.gnd.avlt).k I.gnd.fav k2) (rb.rep I1.gnd.avlt)).fin ⟨h2,hf.2⟩ fun v s' u r e=>hq.step (k1.tr k2) r e
theorem vY{x:Expr}{op:UnaryOp}{pos:Pos}{p:R V}(hx:aC prog w mg mb base n hd l sc σ x p):aC prog w mg mb base n hd l sc σ (.UnaryOp op x pos) (rb p fun v=>ofP (eJ op v)):=by
 intro A env s av hA I β k fin Q E hf hq he;refine wpAny_UnaryOp (hx A env s av hA I hf.b (fun va s₁ a k1 ra h1=>?_) he);obtain⟨u,e1,e2⟩:=Fin.p ⟨h1,hf.2⟩;cases op with
 |Not =>
  refine pcs (cV a) (fun ht=>?_) fun b ht=>?_
  ·try rewrite[ht]
   rw[eJ,ht] at e1;exact pno e1
  ·try rewrite[ht]
   rw[eJ,ht] at e1;obtain rfl:=pi e1;cases iO ht;cases (show Rep prog w s₁.heap av va (.bool b) from ra).bool_inv;exact not_value (wpAny_truthy_bool (hq _ _ (.fz (.bool _)) k1 (.bool _) e2))
 |USub =>
  have r:=ra.rep I.gnd.avlt;have e1:u4 (dOf a)=.ok u:=e1;generalize dOf a=d at r e1;cases d with
  |int i =>
   obtain rfl:=pi e1;obtain⟨t,rfl⟩:=r.int_inv;exact P.neg_int (hq _ _ (.fz (.int _)) (k1.trp (Kp.tok' _ _)) (.int _ _) e2)
  |_=>exact pno e1
 |_=>exact pno e1
noncomputable def bQ(prog:Program)(w:World)(mg mb:Str→Option Value)(base:Heap)(n:Nat)(hd:Bool)(l:List Env)(sc:Scope)(σ:aA)(e:Expr)(r:R V):Prop :=
 ∀ (A:Around) (env:Env) (s:Shared) (av:Addr→Prop),Room n hd l A→Inv0 prog w mg mb base l env sc σ av s →
  ∀ {β:Type} {k:Bool→R β} {fin:R β} {Q:Bool→Shared→Prop} {E:Value→Shared→Prop},Fin (tst r) k fin→(∀ b s',K l s s'→k b=fin→Q b s')→EH prog w mg l s av fin E→wpAny (model prog w) A (isTrue e env (eval e env)) Q E s
theorem Fq{t b o:Expr}{pos:Pos}{pt pb po:R V}(ht:bQ prog w mg mb base n hd l sc σ t pt)(hb:aC prog w mg mb base n hd l sc σ b pb)(ho:aC prog w mg mb base n hd l sc σ o po) :
  aC prog w mg mb base n hd l sc σ (.IfExp t b o pos) (rb (tst pt) fun c=>if c then pb else po):=by
 intro A env s av hA I β k fin Q E hf hq he;refine wpAny_IfExp (ht A env s av hA I hf.b (fun c s₁ k1 h1=>?_) he);cases c with
 |true=>exact hb A env s₁ av hA (I.k k1) ⟨h1,hf.2⟩ (hq.back k1) (he.back k1)
 |false=>exact ho A env s₁ av hA (I.k k1) ⟨h1,hf.2⟩ (hq.back k1) (he.back k1)
theorem vZ{e:Expr}{r:R V}(h:aC prog w mg mb base n hd l sc σ e r)(he:∀ env whole,isTrue e env whole=(do let v ← whole;standAt e.pos;holding [v] (truthy v))):bQ prog w mg mb base n hd l sc σ e r:=by
 intro A env s av hA I β k fin Q E hf hq hE;refine wpAny_isTrue_value (h A env s av hA I hf.b (fun v s₁ a k1 ra h1=>?_) hE) (he env _);obtain⟨b,e1,e2⟩:=Fin.p ⟨h1,hf.2⟩;cases iO e1;cases (show Rep prog w s₁.heap av v (.bool b) from ra).bool_inv;exact wpAny_truthy_bool (hq _ _ k1 e2)
theorem Fs{x:Expr}{pos:Pos}{p:R V}(hx:bQ prog w mg mb base n hd l sc σ x p):bQ prog w mg mb base n hd l sc σ (.UnaryOp .Not x pos) (rb p fun v=>ofP (eJ .Not v)):=by
 intro A env s av hA I β k fin Q E hf hq hE;refine wpAny_isTrue_Not (hx A env s av hA I (k:=fun b=>k !b) ⟨?_,hf.2⟩ (fun b s₁ k1 h1=>hq _ _ k1 h1) hE);rw[← hf.1];cases p with
 |ok v =>
  show rb (ofP (cV v)) _=rb (tst (ofP (eJ .Not v))) k;unfold eJ;cases cV v<;>rfl
 |_=>rfl
theorem Ft{t b o:Expr}{pos:Pos}{pt pb po:R V}(ht:bQ prog w mg mb base n hd l sc σ t pt)(hb:bQ prog w mg mb base n hd l sc σ b pb)(ho:bQ prog w mg mb base n hd l sc σ o po) :
  bQ prog w mg mb base n hd l sc σ (.IfExp t b o pos) (rb (tst pt) fun c=>if c then pb else po):=by
 intro A env s av hA I β k fin Q E hf hq hE;refine wpAny_bind (ht A env s av hA I hf.b.b (fun c s₁ k1 h1=>?_) hE);cases c with
 |true=>exact hb A env s₁ av hA (I.k k1) (Fin.unb ⟨h1,hf.2⟩) (fun b s' k2 e=>hq b s' (k1.tr k2) e) (hE.back k1)
 |false=>exact ho A env s₁ av hA (I.k k1) (Fin.unb ⟨h1,hf.2⟩) (fun b s' k2 e=>hq b s' (k1.tr k2) e) (hE.back k1)
theorem Fu{rec:Expr→R V}{A:Around}{env:Env}{av:Addr→Prop}{pos:Pos}(hA:Room n hd l A):∀ {vs:List Expr} {s:Shared},(∀ e∈vs,aC prog w mg mb base n hd l sc σ e (rec e))→Inv0 prog w mg mb base l env sc σ av s →
  ∀ {β:Type} {k:V→R β} {fin:R β} {Q:Value→Shared→Prop} {E:Value→Shared→Prop},Fin (jT rec vs) k fin→QH prog w l s av k fin Q→EH prog w mg l s av fin E→wpAny (model prog w) A (boolOp pos .And (evalEach vs env)) Q E s:=by
 intro v0
 induction v0 with
 |nil =>
  intro _ _ _ _ _ _ _ _ hf _ _;exact hf.no.elim
 |cons e r0 ih =>
  cases r0 with
  |nil =>
   intro s h I _ _ _ _ _ hf hq he;exact h e List.mem_cons_self A env s av hA I hf hq he
  |cons e' r =>
   intro s h I _ _ _ _ _ hf hq he;refine wpAny_bind (h e List.mem_cons_self A env s av hA I (Fin.b hf) (fun v s₁ a k1 ra h1=>wpAny_bind (wpAny_standAt (wpAny_bind (wpAny_holding ?_)))) he);obtain⟨b,e1,e2⟩:=Fin.p (Fin.b ⟨h1,hf.2⟩);cases iO e1;cases (show Rep prog w s₁.heap av v (.bool b) from ra).bool_inv;cases b with
   |true=>exact wpAny_truthy_bool (ih (fun x hx=>h x (List.mem_cons_of_mem _ hx)) (I.k k1) ⟨e2,hf.2⟩ (hq.back k1) (he.back k1))
   |false=>exact wpAny_truthy_bool (wpAny_pure (hq _ _ (.fz (.bool _)) k1 (.bool _) e2))
theorem Fv{rec:Expr→R V}{A:Around}{env:Env}{av:Addr→Prop}{pos:Pos}(hA:Room n hd l A):∀ {vs:List Expr} {s:Shared},(∀ e∈vs,aC prog w mg mb base n hd l sc σ e (rec e))→Inv0 prog w mg mb base l env sc σ av s →
  ∀ {β:Type} {k:V→R β} {fin:R β} {Q:Value→Shared→Prop} {E:Value→Shared→Prop},Fin (jU rec vs) k fin→QH prog w l s av k fin Q→EH prog w mg l s av fin E→wpAny (model prog w) A (boolOp pos .Or (evalEach vs env)) Q E s:=by
 intro v0
 induction v0 with
 |nil =>
  intro _ _ _ _ _ _ _ _ hf _ _;exact hf.no.elim
 |cons e r0 ih =>
  cases r0 with
  |nil =>
   intro s h I _ _ _ _ _ hf hq he;exact h e List.mem_cons_self A env s av hA I hf hq he
  |cons e' r =>
   intro s h I _ _ _ _ _ hf hq he;refine wpAny_bind (h e List.mem_cons_self A env s av hA I (Fin.b hf) (fun v s₁ a k1 ra h1=>wpAny_bind (wpAny_standAt (wpAny_bind (wpAny_holding ?_)))) he);obtain⟨b,e1,e2⟩:=Fin.p (Fin.b ⟨h1,hf.2⟩);cases iO e1;cases (show Rep prog w s₁.heap av v (.bool b) from ra).bool_inv;cases b with
   |false=>exact wpAny_truthy_bool (ih (fun x hx=>h x (List.mem_cons_of_mem _ hx)) (I.k k1) ⟨e2,hf.2⟩ (hq.back k1) (he.back k1))
   |true=>exact wpAny_truthy_bool (wpAny_pure (hq _ _ (.fz (.bool _)) k1 (.bool _) e2))
theorem Fw{rec:Expr→R V}{A:Around}{env:Env}{av:Addr→Prop}(hA:Room n hd l A):∀ {vs:List Expr} {s:Shared},(∀ e∈vs,bQ prog w mg mb base n hd l sc σ e (rec e))→Inv0 prog w mg mb base l env sc σ av s →
  ∀ {β:Type} {k:Bool→R β} {fin:R β} {Q:Bool→Shared→Prop} {E:Value→Shared→Prop},Fin (tst (jT rec vs)) k fin→(∀ b s',K l s s'→k b=fin→Q b s')→EH prog w mg l s av fin E→wpAny (model prog w) A (allTrue .And vs env) Q E s:=by
 intro v0
 induction v0 with
 |nil =>
  intro _ _ _ _ _ _ _ _ hf _ _;exact hf.no.elim
 |cons e r0 ih =>
  cases r0 with
  |nil =>
   intro s h I _ _ _ _ _ hf hq he;exact wpAny_allTrue_And_cons (h e List.mem_cons_self A env s av hA I hf (fun b s₁ k1 h1=>by
    cases b with
    |true=>exact wpAny_allTrue_And_nil (hq _ _ k1 h1)
    |false=>exact hq _ _ k1 h1) he)
  |cons e' r =>
   intro s h I _ k _ _ _ hf hq he;exact wpAny_allTrue_And_cons (h e List.mem_cons_self A env s av hA I (k:=fun b=>if b then rb (tst (jT rec (e'::r))) k else k false) ⟨by
    rw[← hf.1];show rb (tst (rec e)) _=rb (rb (rb (rec e) _) _) k;cases rec e with
    |ok v =>
     show rb (ofP (cV v)) _=rb (rb (rb (ofP (cV v)) _) _) k;cases ht:cV v with
     |ok b=>cases iO ht;cases b<;>rfl
     |_=>rfl
    |_=>rfl,hf.2⟩ (fun b s₁ k1 h1=>by
    cases b with
    |true=>exact ih (fun x hx=>h x (List.mem_cons_of_mem _ hx)) (I.k k1) ⟨h1,hf.2⟩ (fun b s' k2 e=>hq b s' (k1.tr k2) e) (he.back k1)
    |false=>exact hq _ _ k1 h1) he)
theorem Fx{rec:Expr→R V}{A:Around}{env:Env}{av:Addr→Prop}(hA:Room n hd l A):∀ {vs:List Expr} {s:Shared},(∀ e∈vs,bQ prog w mg mb base n hd l sc σ e (rec e))→Inv0 prog w mg mb base l env sc σ av s →
  ∀ {β:Type} {k:Bool→R β} {fin:R β} {Q:Bool→Shared→Prop} {E:Value→Shared→Prop},Fin (tst (jU rec vs)) k fin→(∀ b s',K l s s'→k b=fin→Q b s')→EH prog w mg l s av fin E→wpAny (model prog w) A (allTrue .Or vs env) Q E s:=by
 intro v0
 induction v0 with
 |nil =>
  intro _ _ _ _ _ _ _ _ hf _ _;exact hf.no.elim
 |cons e r0 ih =>
  cases r0 with
  |nil =>
   intro s h I _ _ _ _ _ hf hq he;exact wpAny_allTrue_Or_cons (h e List.mem_cons_self A env s av hA I hf (fun b s₁ k1 h1=>by
    cases b with
    |true=>exact hq _ _ k1 h1
    |false=>exact wpAny_allTrue_Or_nil (hq _ _ k1 h1)) he)
  |cons e' r =>
   intro s h I _ k _ _ _ hf hq he;exact wpAny_allTrue_Or_cons (h e List.mem_cons_self A env s av hA I (k:=fun b=>if b then k true else rb (tst (jU rec (e'::r))) k) ⟨by
    rw[← hf.1];show rb (tst (rec e)) _=rb (rb (rb (rec e) _) _) k;cases rec e with
    |ok v =>
     show rb (ofP (cV v)) _=rb (rb (rb (ofP (cV v)) _) _) k;cases ht:cV v with
     |ok b=>cases iO ht;cases b<;>rfl
     |_=>rfl
    |_=>rfl,hf.2⟩ (fun b s₁ k1 h1=>by
    cases b with
    |false=>exact ih (fun x hx=>h x (List.mem_cons_of_mem _ hx)) (I.k k1) ⟨h1,hf.2⟩ (fun b s' k2 e=>hq b s' (k1.tr k2) e) (he.back k1)
    |true=>exact hq _ _ k1 h1) he)
end
end Mine
namespace Mine
open PySem
section
variable {prog:Program} {w:World} {mg mb:Str→Option Value} {base:Heap} {n:Nat} {hd:Bool} {l:List Env} {sc:Scope} {σ:aA}
theorem v7{M:Model}{A:Around}{vs:List Value}{m:Sem Value}{Q:Value→Shared→Prop}{E:Value→Shared→Prop}{s:Shared}(h:wpAny M A m Q E s):wpAny M A (operate vs m) Q E s :=
 fun Γ p hΓ=>by rw[Sem.wp_operate];exact h Γ p hΓ
theorem v9{M:Model}{A:Around}{vs ks:List Value}{Q:Unit→Shared→Prop}{E:Value→Shared→Prop}{s:Shared}(h:Q () s):wpAny M A (release vs ks) Q E s :=
 fun Γ p hΓ=>by rw[Sem.wp_release];exact h
theorem mS{A:Around}{s₁:Shared}{av:Addr→Prop}{op:CmpOp}{va vb:Value}{a b:PyData}{β:Type}{k:Bool→R β}{fin:R β}{Q:Value→Shared→Prop}{E:Value→Shared→Prop}(hA:Room n hd l A)(ra:Rep prog w s₁.heap av va a)(rb:Rep prog w s₁.heap av vb b)
  (hf:Fin (ofP (cmp op a b)) k fin) (hq:∀ b s',Kp s₁ s'→k b=fin→Q (.bool b) s'):wpAny (model prog w) A (compareOp op va vb) Q E s₁ :=
 Yd.fin (Fg hA.units80 ra rb) hf fun v s' b r e=>by rw[r.2];exact hq b s' r.1 e
theorem qM{rec:Expr→R V}(hbad:∀ e,bad e=true→rec e=.no){e:Expr}{op:CmpOp}{A:Around}{env:Env}{s:Shared}{av:Addr→Prop}{pos:Pos}{va:Value}{a:PyData}
  (h:aC prog w mg mb base n hd l sc σ e (rec e)) (hA:Room n hd l A) (I:Inv0 prog w mg mb base l env sc σ av s) (ra:Rep prog w s.heap av va a) {β:Type} {k:Bool→R β} {fin:R β} {E:Value→Shared→Prop} (hf:Fin (pH rec a op e) k fin) (he:EH prog w mg l s av fin E) :
  (∀ {Q:Value→Shared→Prop},(∀ b s',K l s s'→k b=fin→Q (.bool b) s')→wpAny (model prog w) A (compareChain pos va [op] [markedBehindIn op e (eval e env)]) Q E s) ∧
  (∀ {Q:Bool→Shared→Prop},(∀ b s',K l s s'→k b=fin→Q b s')→wpAny (model prog w) A (testChain pos va [op] [markedBehindIn op e (eval e env)]) Q E s):=by
 rw[Fa (eN (hbad e) (Fin.b hf).ne)];constructor<;>intro Q hq
 ·refine wpAny_bind (wpAny_holding (h A env s av hA I (Fin.b hf) (fun vb s₁ u k1 rb h1=>wpAny_bind (wpAny_standAt (v7 ?_))) he));exact mS hA (ra.k I.gnd.fav k1) (rb.rep I.gnd.avlt) ⟨h1,hf.2⟩ fun b s' kk e=>hq b s' (k1.trp kk) e
 ·refine wpAny_bind (wpAny_holding (h A env s av hA I (Fin.b hf) (fun vb s₁ u k1 rb h1=>wpAny_bind (wpAny_standAt (wpAny_bind (v7 ?_)))) he));exact mS hA (ra.k I.gnd.fav k1) (rb.rep I.gnd.avlt) ⟨h1,hf.2⟩ fun b s' kk e=>wpAny_holding (wpAny_truthy_bool (hq b s' (k1.trp kk) e))
theorem wA{rec:Expr→R V}(hbad:∀ e,bad e=true→rec e=.no){es:List Expr}{ops:List CmpOp}{A:Around}{env:Env}{s:Shared}{av:Addr→Prop}{pos:Pos}{va:Value}{a:PyData}
  (h:∀ e∈es,aC prog w mg mb base n hd l sc σ e (rec e)) (hA:Room n hd l A) (I:Inv0 prog w mg mb base l env sc σ av s) (ra:Rep prog w s.heap av va a) {β:Type} {k:Bool→R β} {fin:R β} {E:Value→Shared→Prop} (hf:Fin (lO rec a ops es) k fin) (he:EH prog w mg l s av fin E) :
  (∀ {Q:Value→Shared→Prop},(∀ b s',K l s s'→k b=fin→Q (.bool b) s')→wpAny (model prog w) A (compareChain pos va ops (markedEach ops es (evalEach es env))) Q E s) ∧
  (∀ {Q:Bool→Shared→Prop},(∀ b s',K l s s'→k b=fin→Q b s')→wpAny (model prog w) A (testChain pos va ops (markedEach ops es (evalEach es env))) Q E s):=by
 cases ops with
 |nil=>exact hf.no.elim
 |cons op ops =>
  cases es with
  |nil=>exact hf.no.elim
  |cons e es =>
   have h1:=h e List.mem_cons_self;cases ops with
   |nil =>
    cases es with
    |nil=>exact qM hbad h1 hA I ra hf he
    |cons=>exact hf.no.elim
   |cons op' ops =>
    cases es with
    |nil=>exact hf.no.elim
    |cons e' es =>
     have h2:=h e' (List.mem_cons_of_mem _ List.mem_cons_self);cases ops with
     |cons=>exact hf.no.elim
     |nil =>
      cases es with
      |cons=>exact hf.no.elim
      |nil =>
       constructor<;>intro Q hq
       ·refine wpAny_bind (wpAny_holding (h1 A env s av hA I (Fin.b hf) (fun vb s₁ u k1 rb g1=>wpAny_bind (wpAny_standAt (wpAny_bind (wpAny_holding ?_)))) he));have r1:=rb.rep I.gnd.avlt;refine mS hA (ra.k I.gnd.fav k1) r1 (Fin.b ⟨g1,hf.2⟩) fun t s₂ kk g2=>wpAny_bind (v9 (wpAny_bind (wpAny_holding (wpAny_truthy_bool ?_))));have k2:=k1.trp kk;cases t with
        |false=>exact wpAny_pure (hq _ _ k2 g2)
        |true=>exact(qM hbad h2 hA (I.k k2) (r1.keeps kk.heap) ⟨g2,hf.2⟩ (he.back k2)).1 fun b s' k3 g3=>hq _ _ (k2.tr k3) g3
       ·refine wpAny_bind (wpAny_holding (h1 A env s av hA I (Fin.b hf) (fun vb s₁ u k1 rb g1=>wpAny_bind (wpAny_standAt (wpAny_bind (wpAny_holding ?_)))) he));have r1:=rb.rep I.gnd.avlt;refine mS hA (ra.k I.gnd.fav k1) r1 (Fin.b ⟨g1,hf.2⟩) fun t s₂ kk g2=>wpAny_bind (v9 (wpAny_bind (wpAny_holding (wpAny_truthy_bool ?_))));have k2:=k1.trp kk;cases t with
        |false=>exact wpAny_pure (hq _ _ k2 g2)
        |true=>exact(qM hbad h2 hA (I.k k2) (r1.keeps kk.heap) ⟨g2,hf.2⟩ (he.back k2)).2 fun b s' k3 g3=>hq _ _ (k2.tr k3) g3
theorem Fy{rec:Expr→R V}(hbad:∀ e,bad e=true→rec e=.no){e:Expr}{ops:List CmpOp}{es:List Expr}{pos:Pos}(hl:aC prog w mg mb base n hd l sc σ e (rec e))
  (h:∀ e∈es,aC prog w mg mb base n hd l sc σ e (rec e)):aC prog w mg mb base n hd l sc σ (.Compare e ops es pos) (rb (rec e) fun a=>aS (lO rec (dOf a) ops es)):=by
 intro A env s av hA I β k fin Q E hf hq he;refine wpAny_bind (hl A env s av hA I hf.b (fun va s₁ a k1 ra h1=>?_) he);exact(wA hbad h hA (I.k k1) (ra.rep I.gnd.avlt) (Fin.b ⟨h1,hf.2⟩) (he.back k1)).1 fun b s' k2 e=>hq _ _ (.fz (.bool b)) (k1.tr k2) (.bool b) e
theorem Fz{rec:Expr→R V}(hbad:∀ e,bad e=true→rec e=.no){e:Expr}{ops:List CmpOp}{es:List Expr}{pos:Pos}(hl:aC prog w mg mb base n hd l sc σ e (rec e))
  (h:∀ e∈es,aC prog w mg mb base n hd l sc σ e (rec e)):bQ prog w mg mb base n hd l sc σ (.Compare e ops es pos) (rb (rec e) fun a=>aS (lO rec (dOf a) ops es)):=by
 intro A env s av hA I β k fin Q E hf hq he;refine wpAny_bind (hl A env s av hA I (Fin.b (Fin.b hf)) (fun va s₁ a k1 ra h1=>?_) he);exact(wA hbad h hA (I.k k1) (ra.rep I.gnd.avlt) (Fin.b ⟨h1,hf.2⟩) (he.back k1)).2 fun b s' k2 e=>hq _ _ (k1.tr k2) e
noncomputable def qN(prog:Program)(w:World)(mg mb:Str→Option Value)(base:Heap)(n:Nat)(hd:Bool)(l:List Env)(sc:Scope)(σ:aA)(av:Addr→Prop)(C:Shared→Value→V→Prop)(e:Expr)(r:R V):Prop :=
 ∀ (A:Around) (env:Env) (s:Shared),Room n hd l A→Inv0 prog w mg mb base l env sc σ av s →
  ∀ {β:Type} {k:V→R β} {fin:R β} {Q:Value→Shared→Prop} {E:Value→Shared→Prop},Fin r k fin→(∀ v s' u,K l s s'→C s' v u.clear→k u=fin→Q v s')→EH prog w mg l s av fin E→wpAny (model prog w) A (eval e env) Q E s
noncomputable def fH(C:Shared→Value→V→Prop)(s:Shared):List Value→List V→Prop
 | [],[]=>True
 |v::vs,u::us=>C s v u∧fH C s vs us
 |_,_=>False
theorem fH.len{C:Shared→Value→V→Prop}{s:Shared}:∀ {vs:List Value} {us:List V},fH C s vs us→vs.length=us.length
 | [],[],_=>rfl
 |_::_,_::_,h=>congrArg Nat.succ h.2.len
 | [],_::_,h=>h.elim
 |_::_,[],h=>h.elim
theorem fH.at{C:Shared→Value→V→Prop}{s:Shared}:∀ {vs:List Value} {us:List V},fH C s vs us→∀ (i:Nat) (v:Value) (u:V),vs[i]?=some v→us[i]?=some u→C s v u
 |_::_,_::_,h,0,_,_,e1,e2=>by obtain rfl:=si e1;obtain rfl:=si e2;exact h.1
 |_::_,_::_,h,i+1,_,_,e1,e2=>h.2.at i _ _ e1 e2
 | [],[],_,i,_,_,e1,_=>by exact ns e1
 | [],_::_,h,_,_,_,_,_=>h.elim
 |_::_,[],h,_,_,_,_,_=>h.elim
theorem wB{rec:Expr→R V}(hbad:∀ e,bad e=true→rec e=.no){A:Around}{env:Env}{av:Addr→Prop}{C:Shared→Value→V→Prop}(hC:∀ s s' v u,K l s s'→C s v u→C s' v u){pos:Pos}(hA:Room n hd l A):∀ {es:List Expr} {s:Shared},(∀ e∈es,qN prog w mg mb base n hd l sc σ av C e (rec e))→Inv0 prog w mg mb base l env sc σ av s →
  ∀ {β:Type} {k:List V→R β} {fin:R β} {Q:List Value→Shared→Prop} {E:Value→Shared→Prop},Fin (evs rec es) k fin→(∀ vs s' us,K l s s'→fH C s' vs us→k us=fin→Q vs s')→EH prog w mg l s av fin E →
   wpAny (model prog w) A (spliced (backTo pos (starEach es env))) Q E s:=by
 intro v0
 induction v0 with
 |nil =>
  intro s _ _ _ _ _ _ _ hf hq _;exact wpAny_items_nil (hq _ _ [] (K.rf l s) trivial hf.ok)
 |cons e es ih =>
  intro s h I _ _ _ _ _ hf hq he;have hst:starEach (e::es) env=_:=eM (eN (hbad e) (Fin.b hf).ne);refine wpAny_items_cons (h e List.mem_cons_self A env s hA I (Fin.b hf) (fun v s₁ u k1 r h1=>?_) he) hst;refine ih (fun x hx=>h x (List.mem_cons_of_mem _ hx)) (I.k k1) (Fin.b ⟨h1,hf.2⟩) (fun vs s₂ us k2 rs h2=>?_) (he.back k1);exact hq _ _ (u.clear::us) (k1.tr k2) ⟨hC _ _ _ _ k2 r,rs⟩ h2
theorem F0(u:V):dOf u.clear=dOf u:=by cases u<;>rfl
abbrev CD(prog:Program)(w:World)(av:Addr→Prop)(s:Shared)(v:Value)(u:V):Prop:=Rep prog w s.heap av v (dOf u)
theorem aC.item{av:Addr→Prop}{e:Expr}{r:R V}(h:aC prog w mg mb base n hd l sc σ e r):qN prog w mg mb base n hd l sc σ av (CD prog w av) e r :=
 fun A env s hA I _ _ _ _ _ hf hq he=>h A env s av hA I hf (fun v s' u k r e=>hq v s' u k (show Rep _ _ _ _ _ _ from (F0 u).symm▸r.rep I.gnd.avlt) e) he
theorem wC{s:Shared}{av:Addr→Prop}{vs:List Value}{us:List V}(r:fH (CD prog w av) s vs us):vs.length=(bP us).length∧∀ (i:Nat) (v:Value) (d:PyData),vs[i]?=some v→(bP us)[i]?=some d→Rep prog w s.heap av v d:=by
 refine⟨by rw[bP,List.length_map];exact r.len,fun i v d e1 e2=>?_⟩;rw[bP,List.getElem?_map,Option.map_eq_some_iff] at e2;obtain⟨u,e,rfl⟩:=e2;exact r.at i v u e1 e
theorem iP{rec:Expr→R V}(hbad:∀ e,bad e=true→rec e=.no){A:Around}{env:Env}{s:Shared}{av:Addr→Prop}{pos:Pos}(hA:Room n hd l A){es:List Expr}(h:∀ e∈es,aC prog w mg mb base n hd l sc σ e (rec e))(I:Inv0 prog w mg mb base l env sc σ av s)
  {β:Type} {k:List V→R β} {fin:R β} {Q:List Value→Shared→Prop} {E:Value→Shared→Prop} (hf:Fin (evs rec es) k fin)
  (hq:∀ vs s' us,K l s s'→vs.length=(bP us).length→(∀ (i:Nat) (v:Value) (d:PyData),vs[i]?=some v→(bP us)[i]?=some d→Rep prog w s'.heap av v d)→k us=fin→Q vs s') (he:EH prog w mg l s av fin E) :
   wpAny (model prog w) A (spliced (backTo pos (starEach es env))) Q E s :=
 wB (C:=CD prog w av) hbad (fun _ _ _ _ k r=>Rep.k I.gnd.fav k r) hA (fun e m=>(h e m).item) I hf (fun vs s' us k r e=>hq vs s' us k (wC r).1 (wC r).2 e) he
theorem F1{rec:Expr→R V}(hbad:∀ e,bad e=true→rec e=.no){es:List Expr}{pos:Pos}(h:∀ e∈es,aC prog w mg mb base n hd l sc σ e (rec e)) :
  aC prog w mg mb base n hd l sc σ (.List es pos) (rb (evs rec es) fun l=>if l.length≤aV then .ok (.own (.list (bP l))) else .no):=by
 intro A env s av hA I β k fin Q E hf hq he;refine wpAny_List (iP hbad hA h I hf.b (fun vs s₁ us k1 h1 h2 e1=>?_) he);obtain⟨hz,e2⟩:=Fin.ite ⟨e1,hf.2⟩;have hz:vs.length≤sizeLine:=by rw[h1,bP,List.length_map];exact hz
 exact⟨hz,hq.step k1 (qK (Kp.rfl' _) h1 hz h2) e2.ok⟩
theorem F2{rec:Expr→R V}(hbad:∀ e,bad e=true→rec e=.no){es:List Expr}{t:Nat}{pos:Pos}(h:∀ e∈es,aC prog w mg mb base n hd l sc σ e (rec e)) :
  aC prog w mg mb base n hd l sc σ (.Tuple es t pos) (rb (evs rec es) fun l=>if l.length≤aV then .ok (.fz (.tuple (bP l))) else .no):=by
 intro A env s av hA I β k fin Q E hf hq he;refine wpAny_Tuple (iP hbad hA h I hf.b (fun vs s₁ us k1 h1 h2 e1=>?_) he);obtain⟨hz,e2⟩:=Fin.ite ⟨e1,hf.2⟩;have hz:vs.length≤sizeLine:=by rw[h1,bP,List.length_map];exact hz
 exact⟨hz,hq.step k1 (qL (Kp.rfl' _) (I.gnd.k k1).avlt h1 hz h2) e2.ok⟩
end
end Mine
namespace Mine
open PySem
section
variable {prog:Program} {w:World} {mg mb:Str→Option Value} {base:Heap} {n:Nat} {hd:Bool} {l:List Env} {sc:Scope} {σ:aA}
noncomputable def cI(prog:Program)(w:World)(h:Heap)(av:Addr→Prop)(v:Value)(d:PyData):Prop:=Rep prog w h av v d∨∃ a,v=.ref a∧bH prog w h av a d
theorem cI.keeps{h h':Heap}{av:Addr→Prop}{v:Value}{d:PyData}(hk:∀ b o,h.get? b=some o→h'.get? b=some o)(r:cI prog w h av v d):cI prog w h' av v d :=
 r.imp (·.keeps hk) fun hh=>by obtain⟨a,e,r⟩:=hh;exact⟨a,e,r.mono (fun b o _ e=>hk b o e) (fun _ _ _ x=>x) fun o e=>hk _ o e⟩
theorem Rep.ref_not{h:Heap}{av:Addr→Prop}{v:Value}{d:PyData}{a:Addr}(r:Rep prog w h av v d)(e:v=.ref a):¬ av a:=by
 cases r with
 |list h1=>cases e;exact h1
 |tuple h1=>cases e;exact h1
 |dict h1=>cases e;exact h1
 |_=>cases e
theorem cI.k{s s':Shared}{av:Addr→Prop}{v:Value}{d:PyData}(fav:∀ b,frs l b→av b)(k:K l s s')(r:cI prog w s.heap av v d∧(∀ a,v=.ref a→¬ frs l a)):cI prog w s'.heap av v d∧(∀ a,v=.ref a→¬ frs l a) :=
 ⟨r.1.imp (·.k fav k) fun hh=>by obtain⟨a,e,b⟩:=hh;exact⟨a,e,b.k fav k (r.2 a e)⟩,r.2⟩
inductive TopL(prog:Program)(w:World)(h:Heap)(av:Addr→Prop)(v:Value)(ds:List PyData):Prop where
 |mk (a:Addr) (vs:List Value) (e:v=.ref a) (p:h.PlainList a (List.toArray vs)) (l:vs.length=ds.length) (z:vs.length≤sizeLine) (r:∀ (i:Nat) (v:Value) (d:PyData),vs[i]?=some v→ds[i]?=some d→Rep prog w h av v d):TopL prog w h av v ds
inductive TopT(prog:Program)(w:World)(h:Heap)(av:Addr→Prop)(v:Value)(ds:List PyData):Prop where
 |mk (a:Addr) (vs:List Value) (e:v=.ref a) (p:PlT h a (List.toArray vs)) (l:vs.length=ds.length) (z:vs.length≤sizeLine) (r:∀ (i:Nat) (v:Value) (d:PyData),vs[i]?=some v→ds[i]?=some d→Rep prog w h av v d):TopT prog w h av v ds
theorem cI.list{h:Heap}{av:Addr→Prop}{v:Value}{ds:List PyData}(r:cI prog w h av v (.list ds)):TopL prog w h av v ds:=by
 rcases r with r | ⟨a,e,vs,r1,r2,r3,r4⟩
 ·cases r with
  |list h1 h2 h3 h4 h5=>exact⟨_,_,rfl,h2,h3,h4,h5⟩
 ·exact⟨a,vs,e,r1,r2,r3,r4⟩
theorem cI.tuple{h:Heap}{av:Addr→Prop}{v:Value}{ds:List PyData}(r:cI prog w h av v (.tuple ds)):TopT prog w h av v ds:=by
 rcases r with r | ⟨a,e,r⟩
 ·cases r with
  |tuple h1 h2 h3 h4 h5=>exact⟨_,_,rfl,h2,h3,h4,h5⟩
 ·exact r.elim
inductive TopD(prog:Program)(w:World)(h:Heap)(av:Addr→Prop)(v:Value)(ds:List (PyData×PyData)):Prop where
 |mk (a:Addr) (kvs:List (Str×Value)) (e:v=.ref a) (p:h.DictOf (strKind prog w) a kvs) (z:kvs.length≤sizeLine∧∀ kv∈kvs,kv.1.length≤sizeLine) (m:(a==sysModules)=false)
  (l:ds.map (·.1)=kvs.map (fun kv=>PyData.str kv.1)) (r:∀ (i:Nat) (kv:Str×Value) (d:PyData×PyData),kvs[i]?=some kv→ds[i]?=some d→Rep prog w h av kv.2 d.2):TopD prog w h av v ds
theorem cI.dict{h:Heap}{av:Addr→Prop}{v:Value}{ds:List (PyData×PyData)}(r:cI prog w h av v (.dict ds)):TopD prog w h av v ds:=by
 rcases r with r | ⟨a,e,kvs,r1,r2,r3,r4,r5⟩
 ·obtain⟨a,kvs,e,_,r1,r2,r3,r4,r5⟩:=r.dict_inv;exact⟨a,kvs,e,r1,r2,r3,r4,r5⟩
 ·exact⟨a,kvs,e,r1,r2,r3,r4,r5⟩
theorem cI.str{h:Heap}{av:Addr→Prop}{v:Value}{x:Str}(r:cI prog w h av v (.str x)):∃ t,v=.str x t∧x.length≤sizeLine:=by
 rcases r with r | ⟨a,e,r⟩
 ·exact r.str_inv
 ·exact r.elim
theorem Yd.frz{γ:Type}{W:WP γ}{R:γ→Shared→V→Prop}{o:Option PyData}(k:∀ d,o=some d→Yd W R (.ok (.fz d))):Yd W R (frz o):=by
 cases o with
 |none=>exact trivial
 |some d=>exact k d rfl
noncomputable def wD(s:Shared)(v:Value):Prop:=∃ T id,s.TypeIs v T∧typeLookup (.type T) "__getitem__" = pure (some (.builtin id))
noncomputable def GS(prog:Program)(w:World)(A:Around)(s:Shared)(av:Addr→Prop)(va vi:Value)(p:P V):Prop :=
 Yd (fun Q E=>wD s va∧wpAny (model prog w) A (PySem.getItem va vi) Q E s) (fun v s' u=>Kp s s'∧bB prog w s s'.heap av v u) p
theorem wE{α β:Type}{xs:List α}{ys:List β}(hl:xs.length=ys.length){i:Nat}{y:β}(e:ys[i]?=some y):∃ x,xs[i]?=some x :=
 ⟨_,List.getElem?_eq_getElem (hl▸(List.getElem?_eq_some_iff.mp e).1)⟩
theorem qO{k:Int}{n:Nat}(h:0≤k∧k < n)(hn:n≤sizeLine):-2 ^ 63≤k∧k < 2 ^ 63:=by
 have hs:sizeLine=16777216:=sizeLine_eq;lia
theorem F3{A:Around}{s:Shared}{av:Addr→Prop}{va vi:Value}{a i:PyData}(ra:cI prog w s.heap av va a)(ri:Rep prog w s.heap av vi i):GS prog w A s av va vi (getItem a i):=by
 cases i with
 |int k =>
  obtain⟨t,rfl⟩:=ri.int_inv;cases a with
  |list l =>
   obtain⟨ad,vs,rfl,h2,h3,h4,h5⟩:=ra.list;refine Yd.ite2 (fun _=>Yd.ite fun c=>Yd.frz fun d e=>?_) fun _=>Yd.ite fun c=>Yd.frz fun d e=>?_<;>obtain⟨v,e1⟩:=wE h3 e
   ·exact fun Q E hq=>⟨⟨"list", _,h2.isList.typeIs,list_getitem_lookup⟩,wpAny_getItem_list h2.isList c.1 (qO (h3▸c) h4).2 (by simpa using e1) (hq _ _ ⟨Kp.rfl' s,h5 _ _ _ e1 e⟩)⟩
   ·rw[← h3] at c e1;exact fun Q E hq=>⟨⟨"list", _,h2.isList.typeIs,list_getitem_lookup⟩,wpAny_getItem_list_neg h2.isList c.1 c.2 (by have:=sizeLine_eq;lia) (by simpa using e1) (hq _ _ ⟨Kp.rfl' s,h5 _ _ _ e1 (h3▸e)⟩)⟩
  |tuple l =>
   obtain⟨ad,vs,rfl,h2,h3,h4,h5⟩:=ra.tuple;refine Yd.ite fun c=>Yd.frz fun d e=>?_;obtain⟨v,e1⟩:=wE h3 e;have hf:=qO (h3▸c) h4;exact fun Q E hq=>⟨⟨"tuple", _,h2.isTuple.typeIs,PyProof.Rows.slot_tuple_getitem.lookup⟩,by obtain⟨n,h2⟩:=h2;exact P.getItem_tuple h2 hf.1 hf.2 (k:=k.toNat) (seqIndex_of c.1 (h3▸c).2) (by simpa using e1) (hq _ _ ⟨Kp.rfl' s,h5 _ _ _ e1 e⟩)⟩
  |str x =>
   obtain⟨t',rfl,hx⟩:=ra.str;refine Yd.ite fun c=>Yd.frz fun d e=>?_;obtain⟨ch,e1,rfl⟩:=Option.map_eq_some_iff.mp e;have hf:=qO c hx;exact fun Q E hq=>⟨⟨"str", _,rfl,PyProof.Rows.slot_str_getitem.lookup⟩,PyProof.Rows.getItem_str (Bool.or_eq_false_iff.mpr ⟨decide_eq_false (Int.not_lt.mpr hf.1),decide_eq_false (Int.not_le.mpr hf.2)⟩) (c:=ch)
    (by rw[show seqIndex? k x.length=some k.toNat from seqIndex_of c.1 c.2];exact e1) (hq _ _ ⟨Kp.tok' s _,.str _ _ (by rw[sizeLine_eq];exact Nat.le_of_ble_eq_true rfl)⟩)⟩
  |_=>exact trivial
 |str x =>
  obtain⟨t,rfl,hx⟩:=ri.str_inv;cases a with
  |dict l =>
   obtain⟨ad,kvs,rfl,h2,h3,h4,h5,h6⟩:=ra.dict;refine Yd.frz fun d e=>?_;rcases mP x h5 with ⟨e1,e2⟩ | ⟨i,v,d',e1,e2,e3,e4⟩
   ·rw[e2] at e;exact ns e
   ·rw[e2] at e;obtain rfl:=si e;exact fun Q E hq=>⟨⟨"dict", _,h2.typeIs,F.slot_dict_getitem.lookup⟩,wpAny_getItem_of (dQ x t) h2.mapOf e1 (hq _ _ ⟨Kp.tok' s _,h6 i _ _ e3 e4⟩)⟩
  |_=>exact trivial
 |_=>exact trivial
theorem qP{A:Around}{E:Value→Shared→Prop}{s:Shared}{env:Env}{value slice:Expr}{pos:Pos}{Q:Value→Shared→Prop}(hs:∃ f:Value→Value→List Value,∀ o i,subscripted slice false o i=operate (f o i) (PySem.getItem o i))
  (h:wpAny (model prog w) A (eval value env) (fun o s₁=>wpAny (model prog w) A (eval slice env) (fun i s₂=>wD s₂ o∧wpAny (model prog w) A (PySem.getItem o i) Q E s₂) E s₁) E s) :
  wpAny (model prog w) A (eval (.Subscript value slice pos) env) Q E s:=by
 rw[eval_Subscript];refine wpAny_bind (wpAny_mono h (fun o s₁ h₁=>wpAny_bind (wpAny_holding (wpAny_mono h₁ (fun i s₂ h₂=>wpAny_bind (wpAny_standAt ?_)) fun _ _ x=>x))) fun _ _ x=>x);obtain⟨⟨T,id,hT,hl⟩,hg⟩:=h₂;refine wpAny_bind ?_;rw[getitemInPython_of_ne hT.not_modules];refine wpAny_bind (wpAny_specialOf hT hl ?_);have fin:wpAny (model prog w) A (subscripted slice false o i) (fun r s₃=>wpAny (model prog w) A (letTemporaryGo value o r >>= fun _=>pure r) Q E s₃) E s₂:=by
  obtain⟨f,hs⟩:=hs;rw[hs];exact wpAny_operating (wpAny_mono hg (fun r s₃ h₃=>wpAny_bind (wpAny_letTemporaryGo (wpAny_pure h₃))) fun _ _ x=>x)
 first
  |exact wpAny_pure (wpAny_bind fin)
  |exact wpAny_bind (wpAny_pure (wpAny_bind fin))
  |exact wpAny_bind fin
theorem wF{o:Option (Option V)}{α:Type}{f:V→Option α}{d:α}(h:(match o with | some o=>(match o with | some v=>f v | none=>none) | none=>none)=some d):∃ v,o=some (some v)∧f v=some d:=by
 cases o with
 |none=>exact ns h
 |some o =>
  cases o with
  |none=>exact ns h
  |some v=>exact⟨v,rfl,h⟩
theorem wG{c:Prop}[Decidable c]{α:Type}{a b:α}(h:(if c then some a else none)=some b):c∧a=b:=by
 by_cases hc:c
 ·rw[if_pos hc] at h;obtain rfl:=si h;exact⟨hc,rfl⟩
 ·rw[if_neg hc] at h;exact ns h
theorem wH{x:Str}{d:PyData}(h:jV sc σ x=some d):isL sc x=true∧aA.get σ x=some (some (.own d)):=by
 obtain⟨v,e,h⟩:=wF (f:=fun v=>match v with | .own d=>if isL sc x then some d else none | _=>none) h;cases v with
 |own d'=>obtain⟨hl,rfl⟩:=wG h;exact⟨hl,e⟩
 |_=>exact ns h
theorem F4{x:Str}{d:X}(h:uV sc σ x=some d):isL sc x=true∧aA.get σ x=some (some (.ex d)):=by
 obtain⟨v,e,h⟩:=wF (f:=fun v=>match v with | .ex d=>if isL sc x then some d else none | _=>none) h;cases v with
 |ex d'=>obtain⟨hl,rfl⟩:=wG h;exact⟨hl,e⟩
 |_=>exact ns h
theorem F5{e:Expr}{d:PyData}(h:lQ sc σ e=some d):∃ x p,e=.Name x p∧isL sc x=true∧aA.get σ x=some (some (.own d)):=by
 unfold lQ at h;refine ocs (bD e) (fun hn=>?_) fun x hn=>?_
 ·try rewrite[hn]
  rw[hn] at h;exact ns h
 ·try rewrite[hn]
  rw[hn] at h;obtain⟨p,rfl⟩:=c9 hn;exact⟨x,p,rfl,wH h⟩
theorem F6{e:Expr}{d:X}(h:jW sc σ e=some d):∃ x p,e=.Name x p∧isL sc x=true∧aA.get σ x=some (some (.ex d)):=by
 unfold jW at h;refine ocs (bD e) (fun hn=>?_) fun x hn=>?_
 ·try rewrite[hn]
  rw[hn] at h;exact ns h
 ·try rewrite[hn]
  rw[hn] at h;obtain⟨p,rfl⟩:=c9 hn;exact⟨x,p,rfl,F4 h⟩
theorem wI{rec:Expr→R V}{o:Expr}(h:aC prog w mg mb base n hd l sc σ o (rec o)){A:Around}{env:Env}{s:Shared}{av:Addr→Prop}(hA:Room n hd l A)(I:Inv0 prog w mg mb base l env sc σ av s)
  {β:Type} {k:PyData→R β} {fin:R β} {Q:Value→Shared→Prop} {E:Value→Shared→Prop} (hf:Fin (lR rec sc σ o) k fin) (hq:∀ v s' d,K l s s'→cI prog w s'.heap av v d∧(∀ a,v=.ref a→¬ frs l a)→k d=fin→Q v s') (he:EH prog w mg l s av fin E):wpAny (model prog w) A (eval o env) Q E s:=by
 unfold lR at hf;refine ocs (lQ sc σ o) (fun e=>?_) fun d e=>?_
 ·try rewrite[e]
  rw[e] at hf;exact h A env s av hA I hf.b (fun v s₁ u k1 r h1=>hq _ _ _ k1 ⟨.inl (r.rep I.gnd.avlt),fun a ha f=>(r.rep I.gnd.avlt).ref_not ha (I.gnd.fav _ f)⟩ h1) he
 ·try rewrite[e]
  rw[e] at hf;obtain⟨x,pos,rfl,hl,e⟩:=F5 e;obtain⟨u,h1,a,rfl,n1,h2⟩:=I.get _ _ hl e;exact eO I hl h1 (hq _ _ _ (K.rf l s) ⟨.inr ⟨a,rfl,h2⟩,fun a' ha=>by cases ha;exact n1⟩ hf.ok)
theorem F7{α:Type}(l:List α)(lo hi:Option Int):(slice l lo hi).length≤l.length:=by
 unfold slice;rw[List.length_take,List.length_drop];exact Bq
theorem F8{α β:Type}{l:List α}{m:List β}(hl:l.length=m.length){lo hi:Option Int}{i:Nat}{x:α}{y:β}(e1:(slice l lo hi)[i]?=some x)(e2:(slice m lo hi)[i]?=some y) :
  ∃ j:Nat,l[j]?=some x∧m[j]?=some y:=by
 unfold slice at e1 e2;rw[← hl] at e2;rw[List.getElem?_take] at e1 e2
 split at e1
 ·rename_i h;rw[if_pos h] at e2;rw[List.getElem?_drop] at e1 e2;exact⟨_,e1,e2⟩
 ·exact ns e1
theorem F9{α β:Type}{l:List α}{m:List β}(hl:l.length=m.length)(lo hi:Option Int):(slice l lo hi).length=(slice m lo hi).length:=by
 unfold slice;rw[List.length_take,List.length_take,List.length_drop,List.length_drop,hl]
noncomputable def qQ(v:Value)(k:Option Int):Prop:=IsPart v k∧∃ p,v=partValue p∧p.map (·.1)=k
theorem wJ{rec:Expr→R V}{e:Option Expr}(h:∀ x,e=some x→aC prog w mg mb base n hd l sc σ x (rec x)){A:Around}{env:Env}{s:Shared}{av:Addr→Prop}(hA:Room n hd l A)(I:Inv0 prog w mg mb base l env sc σ av s)
  {β:Type} {k:Option Int→R β} {fin:R β} {Q:Value→Shared→Prop} {E:Value→Shared→Prop} (hf:Fin (pR rec e) k fin) (hq:∀ v s' d,K l s s'→qQ v d→k d=fin→Q v s') (he:EH prog w mg l s av fin E):wpAny (model prog w) A (evalPart e env) Q E s:=by
 cases e with
 |none=>exact wpAny_evalPart_none (hq _ _ none (K.rf l s) ⟨.none,none,rfl,rfl⟩ hf.ok)
 |some x =>
  refine wpAny_evalPart_some (h x rfl A env s av hA I (Fin.b hf) (fun v s₁ u k1 r h1=>?_) he);obtain⟨i,e1,e2⟩:=Fin.p ⟨h1,hf.2⟩;cases u with
  |fz d =>
   cases d with
   |int i =>
    obtain rfl:=pi e1;obtain⟨t,rfl⟩:=(show Rep prog w s₁.heap av v (.int i) from r).int_inv;exact hq _ _ _ k1 ⟨.int i t,some (i,t),rfl,rfl⟩ e2
   |_=>exact pno e1
  |_=>exact pno e1
noncomputable def mT(s:Shared)(vl vu:Value):Shared:={ s with heap:=s.heap.push { cls:=.type "slice", data:=.fields #[vl,vu,.none] } }
theorem Ga(n:Nat)(h:3≤n):Builtin.Slice.sliceAdjust (some 1) (some 3) 1 (n:Int)=(1,3):=by
 unfold Builtin.Slice.sliceAdjust;have h1:¬ ((1:Int) < 0):=by decide
 have h2:¬ ((3:Int) < 0):=by decide
 simp only[h1,h2,if_false];congr 1<;>lia
theorem Gb{A:Around}{s:Shared}{E:Value→Shared→Prop}{sl:Addr}{n:Nat}{u t:Tok}{Q:Int×Int×Nat→Shared→Prop}(hs:s.heap.IsSliceOf sl (.int 1 u) (.int 3 t) .none)(ha:3≤n)(h:Q (1,1,2) s) :
  wpAny (model prog w) A (Builtin.Slice.sliceApplied (.ref sl) (pure (n:Int))) Q E s:=by
 obtain⟨os,hos,hcs,hds⟩:=id hs;unfold Builtin.Slice.sliceApplied Builtin.Slice.sliceFields;refine wpAny_bind (wpAny_bind (wpAny_field hos hds (x:=.int 1 u) rfl (wpAny_bind (wpAny_field hos hds (x:=.int 3 t) rfl (wpAny_bind (wpAny_field hos hds (x:=.none) rfl (wpAny_pure ?_)))))));refine wpAny_bind (PyProof.Rows.slicePart_none ?_);show wpAny _ _ (if ((1:Int)==0)=true then _ else _) _ _ s;rw[if_neg (by decide)];refine wpAny_bind (PyProof.Rows.slicePart_int (wpAny_bind (PyProof.Rows.slicePart_int (wpAny_bind (wpAny_pure ?_)))));show wpAny _ _ (match Builtin.Slice.sliceAdjust (some 1) (some 3) 1 (n:Int) with | (lo,hi)=>pure (lo,(1:Int),Builtin.Slice.slicePlaces lo hi 1)) _ _ s;rw[Ga n ha];exact wpAny_pure h
theorem Gc{A:Around}{s:Shared}{E:Value→Shared→Prop}{t sl:Addr}{items:Array Value}{u v:Tok}{Q:Value→Shared→Prop}(ht:PyProof.Rows.IsTup s.heap t items)(hs:s.heap.IsSliceOf sl (.int 1 u) (.int 3 v) .none)(ha:3≤items.size)
  (h:Q (.ref s.heap.objs.size) { s with heap:=s.heap.push { cls:=.type "tuple", data:=.seq ((items.toList.drop 1).take 2).toArray } }):wpAny (model prog w) A (PySem.getItem (.ref t) (.ref sl)) Q E s:=by
 have hdrop:sizeOk (.seq ((items.toList.drop 1).take 2).toArray):=by
  show((items.toList.drop 1).take 2).toArray.size≤sizeLine;rw[List.size_toArray];exact Nat.le_trans (List.length_take_le _ _) (by rw[sizeLine_eq];decide)
 obtain⟨os,hos,hcs,hds⟩:=id hs;have hTs:s.TypeIs (.ref sl) "slice" := ⟨os,hos,hcs⟩
 have hpick:((List.range 2).filterMap fun (k:Nat)=>items[((1:Int)+(k:Int)*1).toNat]?).toArray=((items.toList.drop 1).take 2).toArray:=by
  have e:(fun (k:Nat)=>items[((1:Int)+(k:Int)*1).toNat]?)=fun k=>items[1+k]?:=by
   funext k;have:((1:Int)+(k:Int)*1).toNat=1+k:=by rw[Int.mul_one];exact(congrArg Int.toNat (Int.natCast_add 1 k).symm).trans (Int.toNat_natCast _)
   rw[this]
  have:=pick_run items 1 2;rw[List.filterMap_map] at this;rw[e];exact congrArg List.toArray this
 unfold PySem.getItem
 try with_reducible refine wpAny_holding ?_
 first | refine wpAny_bind (wpAny_pure ?_) | skip
 refine wpAny_bind (wpAny_sequenceKey ht.typeIs (by decide) ?_);refine wpAny_bind (wpAny_callSpecial?_slot (name:=Str.ofString "__getitem__") ht.typeIs PyProof.Rows.slot_tuple_getitem
  (wpAny_call_entry PyProof.Rows.slot_tuple_getitem ht.typeIs PyProof.Rows.entry_tuple_getitem ?_ (PyProof.Rows.args_tuple_getitem _ _)))
 show wpAny _ _ (Builtin.Tuple.tupleItemsOf (.ref t) >>= _) _ _ s;refine wpAny_bind (PyProof.Rows.tupleItemsOf_ ht ?_);refine wpAny_bind (wpAny_typeOf hTs ?_);rw[if_pos (by decide)];refine wpAny_bind (Gb hs ha ?_);show wpAny _ _ (if ((1:Int)==0&&(1:Int)==1&&(2==items.size))=true then _ else _) _ _ s;rw[if_neg (by simp),hpick]
 first
  |exact wpAny_bind (m:=Builtin.Tuple.tupleExact _) (wpAny_newObj_type (wpAny_pure ⟨_,rfl,wpAny_pure h⟩) hdrop)
  |exact wpAny_bind (m:=Builtin.Tuple.tupleExact _) (wpAny_newObj_type (wpAny_bind (wpAny_pure (wpAny_pure ⟨_,rfl,wpAny_pure h⟩))) hdrop)
  |exact wpAny_bind (wpAny_bind (m:=Builtin.Tuple.tupleExact _) (wpAny_newObj_type (wpAny_pure (wpAny_pure ⟨_,rfl,wpAny_pure h⟩)) hdrop))
  |exact wpAny_bind (wpAny_bind (m:=Builtin.Tuple.tupleExact _) (wpAny_newObj_type (wpAny_pure ⟨_,rfl,wpAny_pure h⟩) hdrop))
theorem Gd{A:Around}{s:Shared}{av:Addr→Prop}{va vl vu:Value}{a:PyData}{kl kh:Option Int}(hav:∀ b,av b→∃ o,s.heap.get? b=some o)(rt:cI prog w (mT s vl vu).heap av va a)(rl:qQ vl kl)(rh:qQ vu kh) :
  GS prog w A (mT s vl vu) av va (.ref s.heap.objs.size) (jP a kl kh):=by
 cases a with
 |list l =>
  obtain⟨ad,vs,rfl,p2,p3,p4,p5⟩:=rt.list;refine fun Q E hq=>⟨⟨"list", _,p2.isList.typeIs,list_getitem_lookup⟩,wpAny_getItem_list_slice p2.isList (Heap.IsSliceOf.new ..) rl.1 rh.1 .none (by simp) ?_ (by simpa using p4)⟩
  have e:slicePick vs.toArray kl kh none=(slice vs kl kh).toArray:=by rw[slicePick_plain];simp[slice]
  rw[e];exact hq _ _ (qK (Kp.rfl' _) (F9 p3 kl kh) (Nat.le_trans (F7 _ _ _) p4) fun i v d e1 e2=>by obtain⟨j,e3,e4⟩:=F8 p3 e1 e2;exact p5 j v d e3 e4)
 |tuple l =>
  refine Yd.ite fun hc=>?_;obtain⟨rfl,rfl,hl⟩:=hc;obtain⟨ad,vs,rfl,p2,p3,p4,p5⟩:=rt.tuple;obtain⟨_,pl,rfl,mpl⟩:=rl;obtain⟨_,pu,rfl,mpu⟩:=rh;obtain⟨⟨i,t⟩,rfl,e1⟩:=Option.map_eq_some_iff.mp mpl;obtain⟨⟨j,u⟩,rfl,e2⟩:=Option.map_eq_some_iff.mp mpu;obtain rfl:i=1:=e1;obtain rfl:j=3:=e2;refine fun Q E hq=>⟨⟨"tuple", _,p2.isTuple.typeIs,PyProof.Rows.slot_tuple_getitem.lookup⟩,Gc (items:=vs.toArray) (by obtain⟨n,e⟩:=p2;exact⟨_,e,rfl,_,rfl⟩) (Heap.IsSliceOf.new ..) (by simpa[p3] using hl) ?_⟩
  exact hq _ _ (qL (prog:=prog) (w:=w) (s₁:=mT s (.int 1 t) (.int 3 u)) (vs:=(vs.drop 1).take 2) (ds:=(l.drop 1).take 2) (Kp.rfl' _) (fun b hb=>by obtain⟨o,e⟩:=hav b hb;exact⟨o,Heap.get?_push_of_some _ e⟩) (by simp[p3]) (Nat.le_trans (List.length_take_le _ _) (by rw[sizeLine_eq];decide)) fun i v d e1 e2=>by
   rw[List.getElem?_take] at e1 e2
   by_cases hi:i < 2
   ·rw[if_pos hi,List.getElem?_drop] at e1 e2;exact p5 _ v d e1 e2
   ·rw[if_neg hi] at e1;exact ns e1)
 |_=>exact trivial
theorem Ge{rec:Expr→R V}{o i:Expr}{pos:Pos}(ho:aC prog w mg mb base n hd l sc σ o (rec o))(hidx:aC prog w mg mb base n hd l sc σ i (rec i))
  (hs:∀ c,jX i=some c→(∀ x,c.1=some x→aC prog w mg mb base n hd l sc σ x (rec x))∧(∀ x,c.2.1=some x→aC prog w mg mb base n hd l sc σ x (rec x))) :
  aC prog w mg mb base n hd l sc σ (.Subscript o i pos) (pS rec sc σ o i):=by
 intro A env s av hA I β k fin Q E hf hq he;unfold pS at hf;refine ocs (jX i) (fun hv=>?_) fun c hv=>?_
 ·try rewrite[hv]
  rw[hv] at hf;refine bcs (bad i) (fun hb=>?_) fun hb=>?_
  ·try rewrite[hb]
   rw[hb] at hf;refine qP ⟨_,fun _ _=>vN hb⟩ (wI ho hA I (Fin.b hf) (fun va s₁ a k1 ra h1=>?_) he);have I1:=I.k k1;exact hidx A env s₁ av hA I1 (Fin.b ⟨h1,hf.2⟩) (fun vi s₂ u k2 r h2=>Yd.fin (F3 (A:=A) (cI.k I.gnd.fav k2 ra).1 (r.rep I1.gnd.avlt)) ⟨h2,hf.2⟩ fun v s' u r e=>hq.step (k1.tr k2) r e) (he.back k1)
  ·try rewrite[hb]
   rw[hb] at hf;exact hf.no.elim
 ·try rewrite[hv]
  rw[hv] at hf;obtain⟨g1,g2⟩:=hs c hv;obtain⟨p,rfl⟩:=E9 hv;obtain⟨lo,hi,st⟩:=c;cases st with
  |some x=>exact hf.no.elim
  |none =>
   refine qP ⟨_,fun _ _=>rfl⟩ (wI ho hA I (Fin.b hf) (fun va s₁ a k1 ra h1=>?_) he);have I1:=I.k k1;refine wpAny_Slice (wJ g1 hA I1 (Fin.b ⟨h1,hf.2⟩) (fun vl s₂ kl k2 rl h2=>wJ g2 hA (I1.k k2) (Fin.b ⟨h2,hf.2⟩) (fun vu s₃ kh k3 rh h3=>wpAny_evalPart_none ?_) (he.back (k1.tr k2))) (he.back k1));have kk:=(k1.tr k2).tr k3;have hp:Kp s₃ (mT s₃ vl vu):=Kp.push' s₃ _;exact Yd.fin (Gd (A:=A) (I.gnd.k kk).avlt ((cI.k I.gnd.fav k3 (cI.k I.gnd.fav k2 ra)).1.keeps hp.heap) rl rh) ⟨h3,hf.2⟩ fun v s' u r e=>hq.step (kk.trp hp) r e
end
end Mine
namespace Mine
open PySem
section
variable {prog:Program} {w:World} {mg mb:Str→Option Value} {base:Heap}
noncomputable def gM(prog:Program)(w:World)(A:Around)(s:Shared)(v:Value)(T:String)(b:Bool):Prop :=
 ∀ (Q:Value→Shared→Prop) (E:Value→Shared→Prop),(∀ tk,Q (.bool b) { s with toks:=tk })→wpAny (model prog w) A (call (.builtin "isinstance") [v,.type T]) Q E s
theorem Gf{A:Around}{s:Shared}{av:Addr→Prop}{v:Value}{d:PyData}(r:Rep prog w s.heap av v d) :
  gM prog w A s v "dict" (cD d)∧gM prog w A s v "int" (fB d)∧gM prog w A s v "bool" (fO d)∧gM prog w A s v "str" (pA d)∧gM prog w A s v "list" (uN d)∧gM prog w A s v "tuple" (lL d):=by
 cases r with
 |none=>exact⟨fun Q E hq=>IsiPair.NoneType_dict (hq _),fun Q E hq=>IsiPair.NoneType_int (hq _),fun Q E hq=>IsiPair.NoneType_bool (hq _),fun Q E hq=>IsiPair.NoneType_str (hq _),fun Q E hq=>IsiPair.NoneType_list (hq _),fun Q E hq=>IsiPair.NoneType_tuple (hq _)⟩
 |bool _=>exact⟨fun Q E hq=>IsiPair.bool_dict (hq _),fun Q E hq=>IsiPair.bool_int (hq _),fun Q E hq=>IsiPair.bool_bool (hq _),fun Q E hq=>IsiPair.bool_str (hq _),fun Q E hq=>IsiPair.bool_list (hq _),fun Q E hq=>IsiPair.bool_tuple (hq _)⟩
 |int _ _=>exact⟨fun Q E hq=>IsiPair.int_dict (hq _),fun Q E hq=>IsiPair.int_int (hq _),fun Q E hq=>IsiPair.int_bool (hq _),fun Q E hq=>IsiPair.int_str (hq _),fun Q E hq=>IsiPair.int_list (hq _),fun Q E hq=>IsiPair.int_tuple (hq _)⟩
 |str _ _ _=>exact⟨fun Q E hq=>IsiPair.str_dict (hq _),fun Q E hq=>IsiPair.str_int (hq _),fun Q E hq=>IsiPair.str_bool (hq _),fun Q E hq=>IsiPair.str_str (hq _),fun Q E hq=>IsiPair.str_list (hq _),fun Q E hq=>IsiPair.str_tuple (hq _)⟩
 |list _ h2=>obtain⟨n,e⟩:=h2;exact⟨fun Q E hq=>IsiPair.list_dict e rfl (hq _),fun Q E hq=>IsiPair.list_int e rfl (hq _),fun Q E hq=>IsiPair.list_bool e rfl (hq _),fun Q E hq=>IsiPair.list_str e rfl (hq _),fun Q E hq=>IsiPair.list_list e rfl (hq _),fun Q E hq=>IsiPair.list_tuple e rfl (hq _)⟩
 |tuple _ h2=>obtain⟨n,e⟩:=h2;exact⟨fun Q E hq=>IsiPair.tuple_dict e rfl (hq _),fun Q E hq=>IsiPair.tuple_int e rfl (hq _),fun Q E hq=>IsiPair.tuple_bool e rfl (hq _),fun Q E hq=>IsiPair.tuple_str e rfl (hq _),fun Q E hq=>IsiPair.tuple_list e rfl (hq _),fun Q E hq=>IsiPair.tuple_tuple e rfl (hq _)⟩
 |dict _ h2=>obtain⟨o,es,ep,e,c,_⟩:=h2;exact⟨fun Q E hq=>IsiPair.dict_dict e c.1 (hq _),fun Q E hq=>IsiPair.dict_int e c.1 (hq _),fun Q E hq=>IsiPair.dict_bool e c.1 (hq _),fun Q E hq=>IsiPair.dict_str e c.1 (hq _),fun Q E hq=>IsiPair.dict_list e c.1 (hq _),fun Q E hq=>IsiPair.dict_tuple e c.1 (hq _)⟩
theorem Kp.mk'{s:Shared}{h':Heap}{tk:Nat}(k:∀ b o,s.heap.get? b=some o→h'.get? b=some o):Kp s { s with heap:=h',toks:=tk }:=⟨h',tk,rfl,k⟩
theorem Kp.mkh{s:Shared}{h':Heap}(k:∀ b o,s.heap.get? b=some o→h'.get? b=some o):Kp s { s with heap:=h' }:=⟨h',s.toks,rfl,k⟩
theorem qR{s s₁ s':Shared}{av:Addr→Prop}{a:Addr}{vs:List Value}{ds:List PyData}(k0:Kp s s₁)(k:Kp s₁ s')(hn:s₁.heap.get? a=none)(hp:s'.heap.PlainList a vs.toArray)(hl:vs.length=ds.length)(hz:vs.length≤sizeLine)
  (h:∀ (i:Nat) (v:Value) (d:PyData),vs[i]?=some v→ds[i]?=some d→Rep prog w s₁.heap av v d):Kp s s'∧bB prog w s s'.heap av (.ref a) (.own (.list ds)):=by
 refine⟨k0.tr k,Own.backp k0 ⟨a,rfl,hn,vs,hp,hl,hz,fun i v d e1 e2=>((h i v d e1 e2).apart hn).keeps k.heap⟩⟩
theorem wK{s s₁ s':Shared}{av:Addr→Prop}{a:Addr}{kvs:List (Str×Value)}{ds:List (PyData×PyData)}(k0:Kp s s₁)(k:Kp s₁ s')(hn:s₁.heap.get? a=none)(hm:(a==sysModules)=false)(hp:s'.heap.DictOf (strKind prog w) a kvs)
  (hz:kvs.length≤sizeLine∧∀ kv∈kvs,kv.1.length≤sizeLine) (hl:ds.map (·.1)=kvs.map (fun kv=>PyData.str kv.1))
  (h:∀ (i:Nat) (kv:Str×Value) (d:PyData×PyData),kvs[i]?=some kv→ds[i]?=some d→Rep prog w s₁.heap av kv.2 d.2):Kp s s'∧bB prog w s s'.heap av (.ref a) (.own (.dict ds)):=by
 refine⟨k0.tr k,Own.backp k0 ⟨a,rfl,hn,kvs,hp,hz,hm,hl,fun i v d e1 e2=>((h i v d e1 e2).apart hn).keeps k.heap⟩⟩
theorem mU{l:List Env}{av:Addr→Prop}{s:Shared}(G:Gnd prog w mg mb base l av s):(s.heap.objs.size==sysModules)=false:=by
 have:sysModules < s.heap.objs.size:=PyProof.Rows.modules_low (G.glo.nolimit.keeps G.stay);exact beq_eq_false_iff_ne.mpr (Nat.ne_of_gt this)
noncomputable def leS(x y:Str):Prop:=¬ (y.cps.toList < x.cps.toList)
theorem wL{x y z:Str}(h:leS x y)(h':leS y z):leS x z:=by
 have a:x.cps.toList≤y.cps.toList:=List.not_lt.mp h;have b:y.cps.toList≤z.cps.toList:=List.not_lt.mp h';exact List.not_lt.mpr (List.le_trans a b)
theorem Gg{x y:Str}(h:leS x y)(h':leS y x):x=y:=by
 have a:x.cps.toList≤y.cps.toList:=List.not_lt.mp h;have b:y.cps.toList≤x.cps.toList:=List.not_lt.mp h';have:=List.le_antisymm a b;cases x;cases y;simp_all [Array.toList_inj]
theorem qT(a:Str):∀ l,(dO a l).Perm (a::l)
 | []=>.refl _
 |b::r=>by
  show(if b.cps.toList < a.cps.toList then b::dO a r else a::b::r).Perm _
  split
  ·exact((qT a r).cons b).trans (.swap a b r)
  ·exact .refl _
theorem qU:∀ l,(aZ l).Perm l
 | []=>.refl _
 |a::r=>(qT a _).trans ((qU r).cons a)
theorem wM(a:Str):∀ {l},l.Pairwise leS→(dO a l).Pairwise leS
 | [],_=>List.pairwise_singleton _ _
 |b::r,h=>by
  rw[List.pairwise_cons] at h;show(if b.cps.toList < a.cps.toList then b::dO a r else a::b::r).Pairwise leS
  split
  ·rename_i hlt;rw[List.pairwise_cons];refine⟨fun x hx=>?_,wM a h.2⟩;rcases List.mem_cons.mp ((qT a r).mem_iff.mp hx) with rfl | hx
   ·exact List.not_lt.mpr (List.le_of_lt hlt)
   ·exact h.1 x hx
  ·rename_i hlt;rw[List.pairwise_cons];refine⟨fun x hx=>?_,by rw[List.pairwise_cons];exact h⟩;rcases List.mem_cons.mp hx with rfl | hx
   ·exact hlt
   ·exact wL hlt (h.1 x hx)
theorem wN:∀ l,(aZ l).Pairwise leS
 | []=>.nil
 |a::r=>wM a (wN r)
theorem wO:∀ (p:Str) (l:List Str),PyProof.Rows.risingS p l=true→(p::l).Pairwise leS
 |p,[],_=>List.pairwise_singleton _ _
 |p,x::r,h=>by
  unfold PyProof.Rows.risingS at h;simp only[Bool.and_eq_true,Bool.not_eq_true'] at h;have hr:=wO x r h.2;have hpx:leS p x:=by
   have:=PyProof.Rows.lt_meets x p;rw[h.1,decide_eq_false_iff_not] at this;exact this
  rw[List.pairwise_cons];refine⟨fun y hy=>?_,hr⟩;rcases List.mem_cons.mp hy with rfl | hy
  ·exact hpx
  ·exact wL hpx ((List.pairwise_cons.mp hr).1 y hy)
theorem Gh{l:List Str}(h:PyProof.Rows.sortedS l=true):l.Pairwise leS:=by
 cases l with
 |nil=>exact .nil
 |cons x r=>exact wO x r h
theorem Gi{l l':List Str}(h:PyProof.Rows.sortedS l'=true)(p:l'.Perm l):l'=aZ l :=
 List.Perm.eq_of_pairwise (le:=leS) (fun _ _ _ _ a b=>Gg a b) (Gh h) (wN l) (p.trans (qU l).symm)
theorem wP:∀ {ss:List Str} {ts:List Tok},ts.length=ss.length→PyProof.Rows.StrsAre (List.zipWith (fun x t=>Value.str x t) ss ts) ss
 | [],[],_=>.nil
 | [],_::_,h=>by simp at h
 |_::_,[],h=>by simp at h
 |s::ss,t::ts,h=>.cons s t (wP (by simpa using h))
theorem Gj{h:Heap}{av:Addr→Prop}:∀ {vs:List Value} {ss:List Str},PyProof.Rows.StrsAre vs ss→(∀ x∈ss,x.length≤sizeLine) →
  vs.length=(ss.map PyData.str).length∧∀ (i:Nat) (v:Value) (d:PyData),vs[i]?=some v→(ss.map PyData.str)[i]?=some d→Rep prog w h av v d
 := by
 intro vs ss r
 induction r with
 |nil=>exact fun _=>⟨rfl,fun i v d e=>nomatch e⟩
 |cons y t r ih =>
  intro hx;obtain⟨h1,h2⟩:=ih fun x hx'=>hx x (List.mem_cons_of_mem _ hx');refine⟨congrArg Nat.succ h1,fun i v d e1 e2=>?_⟩;cases i with
  |zero=>obtain rfl:=si e1;obtain rfl:=si e2;exact .str y t (hx y List.mem_cons_self)
  |succ i=>exact h2 i v d e1 e2
theorem mV{n:Nat}(h:n≤sizeLine):((n:Nat):Int) < 2 ^ 63:=by
 have:sizeLine=16777216:=sizeLine_eq;lia
abbrev YV(prog:Program)(w:World)(A:Around)(s:Shared)(av:Addr→Prop)(t:Sem Value)(p:P V):Prop :=
 Yd (fun Q E=>wpAny (model prog w) A t Q E s) (fun v s' u=>Kp s s'∧bB prog w s s'.heap av v u) p
theorem Gk{A:Around}{s:Shared}{av:Addr→Prop}{v:Value}{d:PyData}(r:Rep prog w s.heap av v d):YV prog w A s av (call (.builtin "len") [v]) (bO d):=by
 cases d with
 |list l =>
  obtain⟨a,vs,rfl,h1,h2,h3,h4,h5⟩:=r.list_inv;show YV prog w A s av _ (fz (.int l.length));rw[← h3];exact fun Q E hq=>Calls.call_len_list h2.isList (by simpa using mV h4) (hq _ _ ⟨Kp.tok' s _,.int _ _⟩)
 |tuple l =>
  obtain⟨a,vs,rfl,h1,⟨n,e⟩,h3,h4,h5⟩:=r.tuple_inv;show YV prog w A s av _ (fz (.int l.length));rw[← h3];exact fun Q E hq=>P.len_tuple e (by simpa using mV h4) (hq _ _ ⟨Kp.tok' s _,.int _ _⟩)
 |str x =>
  obtain⟨t,rfl,hx⟩:=r.str_inv;exact fun Q E hq=>P.len_str (Int.not_le.mpr (mV hx)) (hq _ _ ⟨Kp.tok' s _,Rep.int _ _⟩)
 |dict m =>
  obtain⟨a,kvs,rfl,h1,h2,h3,h4,h5,h6⟩:=r.dict_inv;have hl:m.length=kvs.length:=by simpa using congrArg List.length h5
  show YV prog w A s av _ (fz (.int m.length));rw[hl];exact fun Q E hq=>call_len_dict h4 h2 (mV h3.1) (hq _ _ ⟨Kp.tok' s _,.int _ _⟩)
 |_=>exact trivial
theorem Gl{h:Heap}{av:Addr→Prop}:∀ {vs:List Value} {ds:List PyData} {bs:List Bool},vs.length=ds.length→(∀ (i:Nat) (v:Value) (d:PyData),vs[i]?=some v→ds[i]?=some d→Rep prog w h av v d) →
  bools? ds=some bs→vs=bs.map Value.bool
 := by
 intro vs
 induction vs with
 |nil =>
  intro ds bs hl h e;cases ds with
  |nil=>obtain rfl:=si e;rfl
  |cons=>exact nomatch hl
 |cons v vs ih =>
  intro ds bs hl h e;cases ds with
  |nil=>exact nomatch hl
  |cons d ds =>
   cases d with
   |bool b =>
    obtain⟨bs',hb,rfl⟩:=Option.map_eq_some_iff.mp (show(bools? ds).map (b::·)=some bs from e);rw[ih (ds:=ds) (Nat.succ.inj hl) (fun i v d e1 e2=>h (i+1) v d e1 e2) hb,(h 0 v _ rfl rfl).bool_inv];rfl
   |_=>exact ns e
theorem Gm(bs:List Bool):(List.range bs.length).all (fun i=>(bs[i]?).getD true)=bs.all id:=by
 rw[Bool.eq_iff_iff,List.all_eq_true,List.all_eq_true];constructor
 ·intro h b hb;obtain⟨i,hi,rfl⟩:=List.mem_iff_getElem.mp hb;have:=h i (List.mem_range.mpr hi);simpa[List.getElem?_eq_getElem hi] using this
 ·intro h i hi;have hi':=List.mem_range.mp hi;rw[List.getElem?_eq_getElem hi'];exact h _ (List.getElem_mem hi')
theorem Gn{A:Around}{s:Shared}{av:Addr→Prop}{v:Value}{d:PyData}(hh:A.handled=none)(r:Rep prog w s.heap av v d):YV prog w A s av (call (.builtin "all") [v]) (cE d):=by
 cases r with
 | @list a vs ds h1 h2 h3 h4 h5 =>
  show YV prog w A s av _ (((ofO (bools? ds)).bind fun bs=>.ok (bs.all id)).bind fun b=>.ok (.fz (.bool b)));refine ocs (bools? ds) (fun hb=>?_) fun bs hb=>?_
  ·try rewrite[hb]
   exact trivial
  ·try rewrite[hb]
   have hv:=Gl h3 h5 hb;subst hv;intro Q E hq;have hli:s.heap.IsList a (bs.map Value.bool).toArray:=h2.isList;have hne:a≠s.heap.objs.size:=fun e=>by
    obtain⟨o,ho,_⟩:=hli;rw[e,bZ] at ho;exact ns ho
   refine call_all_walk (wpAny_pyIter_list hli ⟨s.heap.objs.size,_,_,_,_,_,fun i=>(bs[i]?).getD true,rfl,Walks.list (by exact hh) s.heap.objs.size a hne (bs.map Value.bool).toArray,
    ⟨⟨_,cY _ _ rfl,rfl,rfl⟩,by obtain⟨o,e,r⟩:=hli;exact⟨o,Heap.get?_push_of_some _ e,r⟩⟩,fun i v s Q E hP hQ=>?_,fun h' tk hk=>?_⟩)
   ·have hP:(bs.map Value.bool).toArray[i]?=some v:=hP;rw[List.getElem?_toArray,List.getElem?_map] at hP;refine ocs (bs[i]?) (fun hbi=>?_) fun b hbi=>?_
    ·try rewrite[hbi]
     rw[hbi] at hP;exact ns hP
    ·try rewrite[hbi]
     rw[hbi] at hP;obtain rfl:=si hP;exact wpAny_truthy_bool (by simpa[hbi] using hQ)
   ·have e:(List.range ((bs.map Value.bool).toArray.size)).all (fun i=>(bs[i]?).getD true)=bs.all id:=by simpa using Gm bs
    rw[e];refine hq _ _ ⟨⟨h',tk,rfl,fun b o e=>hk b o (fun hb=>?_) (Heap.get?_push_of_some _ e)⟩,.bool _⟩;rw[List.mem_singleton.mp hb,bZ] at e;exact ns e
 |_=>exact trivial
theorem wQ{s s':Shared}{av:Addr→Prop}{a:Addr}{out:Array Value}{ss ss':List Str}(k:Kp s s')(hn:s.heap.get? a=none)(he:∃ e,s'.heap.get? a=some (PyProof.Rows.seqObj "list" out e))(hS:PyProof.Rows.StrsAre out.toList ss')(hp:ss'.Perm ss)(hso:PyProof.Rows.sortedS ss'=true)
  (h3:∀ x∈ss,x.length≤sizeLine) (hlt:ss.length < 64):Kp s s'∧bB prog w s s'.heap av (.ref a) (.own (.list ((aZ ss).map .str))):=by
 obtain rfl:=Gi hso hp;obtain⟨q1,q2⟩:=Gj (prog:=prog) (w:=w) (h:=s.heap) (av:=av) hS fun x hx=>h3 x (hp.mem_iff.mp hx);obtain⟨e,he⟩:=he;refine qR (vs:=out.toList) (Kp.rfl' s) k hn ⟨e,by simpa using he⟩ q1 ?_ q2;simp only[q1,List.length_map,(qU ss).length_eq];exact Nat.le_trans (Nat.le_of_lt hlt) (by decide)
theorem Gp{kvs:List (Str×Value)}{acc:List Value}(hl:acc.length=kvs.length)(h:∀ (i:Nat) (v:Value),acc[i]?=some v→∃ k x,kvs[i]?=some (k,x)∧(strKind prog w).is k v=true):PyProof.Rows.StrsAre acc (kvs.map (·.1)):=by
 induction kvs generalizing acc with
 |nil=>cases acc with
  |nil=>exact .nil
  |cons=>cases hl
 |cons kv r ih =>
  cases acc with
  |nil=>cases hl
  |cons v acc =>
   obtain⟨k,x,e,hk⟩:=h 0 v rfl;obtain rfl:=si e;obtain⟨t,rfl⟩:=Value.isStrOf_shape hk;exact .cons k t (ih (Nat.succ.inj hl) fun i v e=>h (i+1) v e)
theorem Gq(kvs:List (Str×Value)):strs? (kvs.map fun kv=>PyData.str kv.1)=some (kvs.map (·.1)):=by
 induction kvs with
 |nil=>rfl
 |cons kv r ih =>
  show(strs? (r.map _)).map _=_;simp only[ih];rfl
theorem Gr{A:Around}{s:Shared}{av:Addr→Prop}{v:Value}{d:PyData}(hh:A.handled=none)(r:Rep prog w s.heap av v d):YV prog w A s av (call (.builtin "sorted") [v]) (cG d):=by
 cases d with
 |list l =>
  obtain⟨a,vs,rfl,h1,h2,h3,h4,h5⟩:=r.list_inv;refine Yd.optBind fun ss hs=>Yd.ite fun hlt=>?_;obtain⟨ts,e1,rfl,e3⟩:=gL h3 h5 hs;intro Q E hq;refine PyProof.Rows.sorted_strs h2.isList (wP e1) (by simpa[e1] using hlt) fun out ss' hS hp hso=>?_;exact hq _ _ (wQ (Kp.mkh fun b o e=>PyProof.Rows.sortedAll_old e) (Heap.get?_none_of_le (Nat.le_add_right _ _)) (PyProof.Rows.sortedAll_at s.heap _ out) hS hp hso e3 hlt)
 |dict l =>
  obtain⟨a,kvs,rfl,h1,⟨o,es,ep,hd⟩,h3,h4,h5,h6⟩:=r.dict_inv;show YV prog w A s av _ (eH (l.map (·.1)));unfold eH;rw[h5,Gq];refine Yd.ite fun hlt=>?_;intro Q E hq;refine Calls.call_function_entry PyProof.Rows.kind_sorted PyProof.Rows.plain_sorted PyProof.Rows.entry_sorted (PyProof.Rows.args_sorted1 _) ?_;unfold Builtin.«sorted»;refine wpAny_bind (m:=checkCount "sorted" 1 1 _) (wpAny_pure ?_);refine wpAny_bind (W.kdu_collect (A:=A.in1) (W.kdl_dict (knd:=strKind prog w) (kvs:=kvs) (ep:=ep) h4) hh ⟨o,es,hd⟩ h3.1 fun h' tk acc hk hacc=>?_);have hl:acc.toList.length=kvs.length:=by rw[Array.length_toList];exact hacc.1
  refine wpAny_bind (wpAny_newList ?_ (by rw[hl];exact h3.1));have hS:=Gp hl fun i v e=>hacc.2 i v (by rw[← Array.getElem?_toList];exact e);have hoL:(h'.push { cls:=.type "list", data:=.seq acc.toList.toArray }).get? h'.objs.size=some (PyProof.Rows.seqObj "list" acc.toList.toArray 0):=Heap.get?_push_size _ rfl;have h64:acc.toList.length < 64:=by rw[hl];simpa using hlt
  refine wpAny_bind (wpAny_holding (wpAny_call_entry PyProof.Rows.slot_list_sort ⟨_,hoL,rfl⟩ PyProof.Rows.entry_list_sort (PyProof.Rows.list_sort_treeK PyProof.Rows.strKind_oneLt hoL hS.keysOf (fun v₁ v₂ rest e=>PyProof.Rows.keyKind_strs (by rw[← e];exact hS)) h64 fun st' hp hs=>⟨_,rfl,?_⟩) (PyProof.Rows.args_list_sort _)));obtain⟨ss',g1,g2,g3⟩:=PyProof.Rows.sorted_out_str hS hp hs;have hold:∀ b o,s.heap.get? b=some o→(PyProof.Rows.sortedHeap (h'.push { cls:=.type "list", data:=.seq acc.toList.toArray }) h'.objs.size acc.toList ((PyProof.Rows.arrOf st').map (·.2))).get? b=some o:=fun b o e=>by
   have e1:=hk b o e;have hlt:=Heap.lt_size e1;rw[PyProof.Rows.sortedHeap_old (Nat.ne_of_lt hlt) (by rw[PyProof.Rows.size_push'];exact Nat.lt_succ_of_lt hlt)];exact Heap.get?_push_of_some _ e1
  have hn:s.heap.get? h'.objs.size=none:=by
   refine ocs (s.heap.get? h'.objs.size) (fun hb=>?_) fun o hb=>?_
   ·try rewrite[hb]
    rfl
   ·try rewrite[hb]
    exact absurd (Heap.lt_size (hk _ _ hb)) (Nat.lt_irrefl _)
  have hz:∀ x∈kvs.map (·.1),x.length≤sizeLine:=fun x hx=>by
   obtain⟨kv,hkv,rfl⟩:=List.mem_map.mp hx;exact h3.2 kv hkv
  have kk:=Kp.mk' (tk:=tk) hold;have at':=PyProof.Rows.sortedHeap_at (out:=(PyProof.Rows.arrOf st').map (·.2)) hoL;generalize PyProof.Rows.sortedHeap (h'.push { cls:=.type "list", data:=.seq acc.toList.toArray }) h'.objs.size acc.toList ((PyProof.Rows.arrOf st').map (·.2))=H at kk at';exact wpAny_pure ⟨_,rfl,hq _ _ (wQ kk hn at' g1 g2 g3 hz hlt)⟩
 |_=>exact trivial
theorem Gs{A:Around}{s:Shared}{av:Addr→Prop}{v:Value}{d:PyData}(hh:A.handled=none)(r:Rep prog w s.heap av v d):YV prog w A s av (call (.type "list") [v]) (dI d):=by
 cases d with
 |dict l =>
  obtain⟨a,kvs,rfl,h1,⟨o,es,ep,hd⟩,h3,h4,h5,h6⟩:=r.dict_inv;intro Q E hq;refine W.kdl_call (W.kdl_dict (knd:=strKind prog w) (kvs:=kvs) (ep:=ep) h4) hh ⟨o,es,hd⟩ h3.1 fun h' tk acc c' hk he hit=>?_;have hsz:acc.toList.length=kvs.length:=by simpa using hit.1
  refine hq _ _ (qR (vs:=acc.toList) (Kp.rfl' s) (Kp.mk' hk) (bZ _) ⟨c',by simpa using he⟩ (by simp only[hsz,h5,List.length_map]) (hsz▸h3.1) fun i v d e1 e2=>?_);obtain⟨k,x,e3,e4⟩:=hit.2 i v (by simpa using e1);obtain⟨t,rfl⟩:=Value.isStrOf_shape e4;simp only[h5,List.getElem?_map,e3] at e2;obtain rfl:=si e2;exact .str k t (h3.2 _ (List.mem_of_getElem? e3))
 |list l =>
  obtain⟨a,vs,rfl,h1,⟨n,h2⟩,h3,h4,h5⟩:=r.list_inv;intro Q E hq;exact call_list_seq a (.inl rfl) h2 rfl rfl (fun h' c' hk he=>hq _ _ (qR (Kp.rfl' s) (Kp.mkh hk) (bZ _) ⟨c',he⟩ h3 h4 h5)) (by simpa using h4)
 |_=>exact trivial
theorem Gu{A:Around}{s:Shared}{av:Addr→Prop}{v:Value}{d:PyData}(ha:∀ b,av b→∃ o,s.heap.get? b=some o)(r:Rep prog w s.heap av v d):YV prog w A s av (call (.type "tuple") [v]) (lM d):=by
 cases d with
 |list l =>
  obtain⟨a,vs,rfl,h1,h2,h3,h4,h5⟩:=r.list_inv;intro Q E hq;refine call_tuple_list h2.isList (fun h' hk=>?_) (by simpa using h4);exact hq _ _ (qL (s₁:={ s with heap:=h' }) (Kp.mkh hk) (fun b hb=>by obtain⟨o,e⟩:=ha b hb;exact⟨o,hk _ _ e⟩) h3 h4 fun i v d e1 e2=>(h5 i v d e1 e2).keeps hk)
 |_=>exact trivial
theorem Gv{h h':Heap}{o:Obj}(hs:Heap.SameBut h.objs.size (h.push o) h'):∀ b o',h.get? b=some o'→h'.get? b=some o':=by
 intro b o' e;have hb:b≠h.objs.size:=fun hh=>by rw[hh,bZ] at e;exact ns e
 rw[hs.2 b hb];exact Heap.get?_push_of_some _ e
theorem Gw{A:Around}{s:Shared}{av:Addr→Prop}{v:Value}{d:PyData}(r:Rep prog w s.heap av v d):YV prog w A s av (call (.type "int") [v]) (dS d):=by
 cases d with
 |bool b =>
  obtain rfl:=r.bool_inv;exact fun Q E hq=>call_int_bool (hq _ _ ⟨Kp.tok' s _,.int _ _⟩)
 |str x =>
  obtain⟨t,rfl,hx⟩:=r.str_inv;exact Yd.ite fun hl=>Yd.optBind fun i hi Q E hq=>W.KIN.call_text hi hl (hq _ _ ⟨Kp.tok' s _,.int _ _⟩)
 |_=>exact trivial
theorem Gx{A:Around}{s:Shared}{av:Addr→Prop}{v:Value}{d:PyData}(r:Rep prog w s.heap av v d):YV prog w A s av (call (.type "str") [v]) (uO d):=by
 cases d with
 |str x =>
  obtain⟨t,rfl,hx⟩:=r.str_inv;exact fun Q E hq=>P.str_of_str (hq _ _ ⟨Kp.rfl' s,.str x t hx⟩)
 |int i =>
  obtain⟨t,rfl⟩:=r.int_inv;exact Yd.ite fun hl Q E hq=>P.str_of_int hl (hq _ _ ⟨Kp.tok' s _,.str _ _ (int_text_fits hl)⟩)
 |_=>exact trivial
theorem Gy{A:Around}{s:Shared}{av:Addr→Prop}{v:Value}{d:PyData}(r:Rep prog w s.heap av v d):YV prog w A s av (call (.builtin "abs") [v]) (pB d):=by
 cases d with
 |int i =>
  obtain⟨t,rfl⟩:=r.int_inv;exact fun Q E hq=>PyProof.Rows.call_abs_int fun u tk=>hq _ _ ⟨Kp.tok' s _,.int _ _⟩
 |_=>exact trivial
end
end Mine
namespace Mine
open PySem
theorem Gz:typeLookup (.type "list") "keys" = pure none:=by rw[typeLookup_type,builtinLookup_eq_fast];kernel_rfl
theorem G0:typeLookup (.type "list") "__getattr__" = pure none:=by rw[typeLookup_type,builtinLookup_eq_fast];kernel_rfl
section
variable {prog:Program} {w:World} {A:Around} {E:Value→Shared→Prop} {h:Heap} {g:Array GenState} {d:Drawn} {t:Nat} {os:OsState} {a:Addr} {xs:Array Value} {n:Nat}
theorem G1{tk:Tok}{Q:PySem.Fin→Shared→Prop}(hx:h.get? a=some { cls:=.type "list", data:=.seq xs n })(hh:A.handled=none)
  (hq:∀ h' tk' e,Heap.NewAttrErr h h' e (.ref a) (Str.ofString "keys")→E (.ref e) ⟨h',g,d,tk',os⟩) :
  wpAny (model prog w) A (Builtin.«object.__getattribute__» ⟨[.ref a,.str "keys" tk],[]⟩) Q E ⟨h,g,d,t,os⟩:=by
 have hT:(⟨h,g,d,t,os⟩:Shared).TypeIs (.ref a) "list" := ⟨_,hx,rfl⟩
 have f4:=Gz
 repeat (any_goals (first | assumption | wp_step))
 exact wpAny_raiseAttrError hh hq (attrMsg_fits (by decide +kernel) (by decide +kernel))
theorem G2{tk:Tok}{R:Result→Shared→Prop}(hx:h.get? a=some { cls:=.type "list", data:=.seq xs n })(hh:A.handled=none)
  (hq:∀ h' tk' e,Heap.NewAttrErr h h' e (.ref a) (Str.ofString "keys")→R (.error (.ref e)) ⟨h',g,d,tk',os⟩) :
  codeAny (model prog w) A (.call (.builtin "list.__getattribute__") ⟨[.ref a,.str "keys" tk],[]⟩) R ⟨h,g,d,t,os⟩ :=
 codeAny_call_builtin F.slot_list_getattribute.plain F.entry_list_ga (F.slot_list_getattribute.check _ _ _ _ _ _ _ _ (show(⟨h,g,d,t,os⟩:Shared).TypeIs (.ref a) "list" from ⟨_,hx,rfl⟩) (F.args_list_getattribute_2 _ _) (G1 hx hh hq))
theorem G3{Q:Option Value→Shared→Prop}(hx:h.get? a=some { cls:=.type "list", data:=.seq xs n })(hh:A.handled=none)
  (hq:∀ h' tk',(∀ b o,h.get? b=some o→h'.get? b=some o)→Q none ⟨h',g,d,tk',os⟩):wpAny (model prog w) A (getAttr? (.ref a) "keys") Q E ⟨h,g,d,t,os⟩:=by
 have hT:(⟨h,g,d,t,os⟩:Shared).TypeIs (.ref a) "list" := ⟨_,hx,rfl⟩
 have f1:=sub_AttributeError;have f2:=F.slot_list_getattribute.lookup;have f3:=F.slot_list_getattribute.bind (.ref a);have f5:=G0;unfold getAttr? getAttrBy? getAttrBy
 repeat (any_goals (first | assumption | wp_step))
 refine G2 hx hh fun h' tk' e hx=>?_;obtain⟨t',u',he⟩:=hx.there
 repeat (any_goals (first | assumption | wp_step))
 exact hq _ _ hx.keeps
end
theorem wR:entryFor table "dict.update.loop" = some Builtin.«dict.update.loop»:=entryFor_of_tree (by kernel_rfl)
theorem mW:plainId "dict.update.loop" = true:=by decide +kernel
section
variable {prog:Program} {w:World}
noncomputable def gN(h:Heap):List Value→List (Str×Value)→Prop
 | [],[]=>True
 |v::vs,kv::kvs=>(∃ a t,v=.ref a∧PlT h a #[.str kv.1 t,kv.2])∧gN h vs kvs
 |_,_=>False
theorem gN.at{h:Heap}:∀ {vs:List Value} {kvs:List (Str×Value)},gN h vs kvs→∀ {i:Nat} {v:Value},vs[i]?=some v→∃ kv a t,kvs[i]?=some kv∧v=.ref a∧PlT h a #[.str kv.1 t,kv.2]
 |_::_,_::_,p,0,_,e=>by obtain rfl:=si e;obtain⟨a,t,h1,h2⟩:=p.1;exact⟨_,a,t,rfl,h1,h2⟩
 |_::_,_::_,p,i+1,_,e=>p.2.at (i:=i) e
 | [],[],_,i,_,e=>by exact ns e
 | [],_::_,p,_,_,_=>p.elim
 |_::_,[],p,_,_,_=>p.elim
theorem gN.len{h:Heap}:∀ {vs:List Value} {kvs:List (Str×Value)},gN h vs kvs→vs.length=kvs.length
 | [],[],_=>rfl
 |_::_,_::_,p=>congrArg Nat.succ p.2.len
 | [],_::_,p=>p.elim
 |_::_,[],p=>p.elim
theorem G4{A:Around}{R:Result→Shared→Prop}(hh:A.handled=none){I l D:Addr}(hlI:l≠I)(hDI:D≠I)(hDl:D≠l){vs:List Value}{kvs:List (Str×Value)}(hn:kvs.length≤sizeLine){h₀:Heap}(hp:gN h₀ vs kvs)(hD0:h₀.get? D=none)(hI0:h₀.get? I=none) :
  ∀ (k i:Nat) (s:Shared),kvs.length - i=k→i≤kvs.length→s.heap.IsListIter I l i∧s.heap.IsList l vs.toArray→(∀ b o,h₀.get? b=some o→s.heap.get? b=some o)→s.heap.DictOf (strKind prog w) D (merged [] (kvs.take i)) →
   (∀ h' tk,(∀ b o,h₀.get? b=some o→h'.get? b=some o)→h'.DictOf (strKind prog w) D (merged [] kvs)→R (.ok (.ret .none)) { s with heap:=h',toks:=tk }) →
   codeAny (model prog w) A (.builtin "dict.update.loop" ⟨[.ref D,.ref I,rawInt i,.none],[]⟩) R s:=by
 have W:=Walks.list (prog:=prog) (w:=w) (A:=A.in1) hh I l hlI vs.toArray;have hlen:=hp.len;have new:∀ b o,h₀.get? b=some o→b≠D∧b≠I:=fun b o e=>⟨fun x=>by (rw[x,hD0] at e;exact ns e),fun x=>by (rw[x,hI0] at e;exact ns e)⟩
 intro k
 induction k with
 |zero =>
  intro i s hk hi hst hkeep hd hR;have hin:i=kvs.length:=by exact t7 hk hi
  subst hin;refine codeAny_builtin wR ?_;rw[Around.under_plainId mW _];show wpAny _ A.in1 (pyNext (.ref I) >>= _) _ _ s;refine wpAny_bind (W.done s _ _ (by rw[List.size_toArray,hlen];exact hst) fun h' tk hk'=>?_);rw[List.take_length] at hd;refine wpAny_bind (wpAny_pure (wpAny_pure (hR h' tk (fun b o e=>hk' b o (fun hb=>(new b o e).2 (List.mem_singleton.mp hb)) (hkeep b o e)) ?_)));obtain⟨o,es,ep,e,r⟩:=hd;exact⟨o,es,ep,hk' _ _ (fun hb=>hDI (List.mem_singleton.mp hb)) e,r⟩
 |succ k ih =>
  intro i s hk hi hst hkeep hd hR;have hlt:i < kvs.length:=by exact t8 hk
  refine codeAny_builtin wR ?_;rw[Around.under_plainId mW _];show wpAny _ A.in1 (pyNext (.ref I) >>= _) _ _ s;refine wpAny_bind (W.item i s _ _ (by rw[List.size_toArray,hlen];exact hlt) hst fun v h' tk hP hst' hm=>?_);obtain⟨kv,a,t,e1,rfl,n,e2⟩:=hp.at (by simpa using hP);have hm':∀ b o,h₀.get? b=some o→h'.get? b=some o:=fun b o e=>hm b o (fun hb=>(new b o e).2 (List.mem_singleton.mp hb)) (hkeep b o e);have hd':h'.DictOf (strKind prog w) D (merged [] (kvs.take i)):=by
   obtain⟨o,es,ep,e,r⟩:=hd;exact⟨o,es,ep,hm _ _ (fun hb=>hDI (List.mem_singleton.mp hb)) e,r⟩
  have ha:=hm' _ _ e2;refine wpAny_bind (wpAny_holding (wpAny_bind (wpAny_tryCatch ?_)));unfold Builtin.Dict.pairItems;refine wpAny_bind (wpAny_typeOf (T := "tuple") ⟨_,ha,rfl⟩ ?_);rw[if_pos (by decide)];refine wpAny_bind (wpAny_seqItems ha rfl (wpAny_pure ?_));show wpAny _ _ (holding [Value.str kv.1 t,kv.2] (dictSet D (.str kv.1 t) kv.2)) _ _ _;have hz:(merged ([]:List (Str×Value)) (kvs.take i)).length≤sizeLine:=Nat.le_trans (merged_length_le _ _) (by simp;exact Bs hn);refine wpAny_holding (wpAny_dictSet_pairs (knd:=strKind prog w) (dQ kv.1 t) hd' (fun h'' hd'' hs=>?_) hz);rw[← merged_take_succ [] kvs i kv e1] at hd'';have ks:∀ b o,b≠D→h'.get? b=some o→h''.get? b=some o:=fun b o hb e=>by rw[hs.2 b hb];exact e
  refine wpAny_pure ⟨plainId_quiet mW _,?_⟩;refine ih (i+1) _ (by exact t9 hk) hlt ?_ (fun b o e=>ks b o (new b o e).1 (hm' b o e)) hd'' hR;exact W.frame _ h' _ hst' fun b hb o e=>ks b o (fun x=>by
   subst x;rcases List.mem_cons.mp hb with hb | hb
   ·exact hDI hb
   ·exact hDl (List.mem_singleton.mp hb)) e
end
section
variable {prog:Program} {w:World}
noncomputable def KV(prog:Program)(w:World)(h:Heap)(av:Addr→Prop):List (Str×Value)→List (PyData×PyData)→Prop
 | [],[]=>True
 |kv::r,d::t=>d.1=.str kv.1∧Rep prog w h av kv.2 d.2∧KV prog w h av r t
 |_,_=>False
theorem KV.out{h:Heap}{av:Addr→Prop}:∀ {kvs:List (Str×Value)} {ds:List (PyData×PyData)},KV prog w h av kvs ds →
  ds.map (·.1)=kvs.map (fun kv=>PyData.str kv.1)∧∀ (i:Nat) (kv:Str×Value) (d:PyData×PyData),kvs[i]?=some kv→ds[i]?=some d→Rep prog w h av kv.2 d.2
 | [],[],_=>⟨rfl,fun i kv d e=>by simp at e⟩
 |kv::r,d::t,x=>by
  obtain⟨x1,x2,x3⟩:=x;obtain⟨y1,y2⟩:=KV.out x3;refine⟨by simp[x1,y1],fun i kv' d' e1 e2=>?_⟩;cases i with
  |zero=>simp at e1 e2;subst e1;subst e2;exact x2
  |succ i=>exact y2 i kv' d' (by simpa using e1) (by simpa using e2)
 | [],_::_,x=>x.elim
 |_::_,[],x=>x.elim
theorem KV.of{h:Heap}{av:Addr→Prop}:∀ {kvs:List (Str×Value)} {ds:List (PyData×PyData)},ds.map (·.1)=kvs.map (fun kv=>PyData.str kv.1) →
  (∀ (i:Nat) (kv:Str×Value) (d:PyData×PyData),kvs[i]?=some kv→ds[i]?=some d→Rep prog w h av kv.2 d.2)→KV prog w h av kvs ds
 | [],[],_,_=>trivial
 |kv::r,d::t,e,x=>by
  simp at e;exact⟨e.1,x 0 kv d rfl rfl,KV.of (by simpa using e.2) fun i kv d e1 e2=>x (i+1) kv d (by simpa using e1) (by simpa using e2)⟩
 | [],_::_,e,_=>by simp at e
 |_::_,[],e,_=>by simp at e
theorem KV.mono{h h':Heap}{av av':Addr→Prop}(hk:∀ b o,¬ av b→h.get? b=some o→h'.get? b=some o)(ha:∀ b o,h.get? b=some o→av' b→av b):∀ {kvs:List (Str×Value)} {ds:List (PyData×PyData)},
  KV prog w h av kvs ds→KV prog w h' av' kvs ds
 | [],[],_=>trivial
 |_::_,_::_,x=>⟨x.1,x.2.1.mono hk ha,x.2.2.mono hk ha⟩
 | [],_::_,x=>x.elim
 |_::_,[],x=>x.elim
theorem wS{y:Str}{v0:Value}{r:List (Str×Value)}{k:Str}{v:Value}(hn:(((y,v0)::r).map (·.1)).Nodup):stored ((y,v0)::r) k v=if k=y then (y,v)::r else (y,v0)::stored r k v:=by
 unfold stored
 by_cases h:k=y
 ·subst h;simp only[List.any_cons,decide_true,Bool.true_or,if_true,List.map_cons];congr 1;have hn':k∉r.map (·.1):=(List.nodup_cons.mp (show(k::r.map (·.1)).Nodup from hn)).1;have:∀ kv∈r,(if kv.1=k then (kv.1,v) else kv)=kv:=fun kv hkv=>by
   rw[if_neg];intro e;exact hn' (e▸List.mem_map_of_mem hkv)
  exact(List.map_congr_left this).trans (List.map_id' r)
 ·rw[if_neg h];have hne:¬ y=k:=fun e=>h e.symm;simp only[List.any_cons,hne,decide_false,Bool.false_or,List.map_cons,if_false,List.cons_append]
  split<;>rfl
theorem G5{kvs:List (Str×Value)}{k:Str}{v:Value}(hn:(kvs.map (·.1)).Nodup):((stored kvs k v).map (·.1)).Nodup:=by
 unfold stored
 split
 ·have:(kvs.map (fun kv=>if kv.1=k then (kv.1,v) else kv)).map (·.1)=kvs.map (·.1):=by
   rw[List.map_map];refine List.map_congr_left fun kv _=>?_;show(if kv.1=k then (kv.1,v) else kv).1=kv.1
   split<;>rfl
  rw[this];exact hn
 ·rename_i h;rw[List.map_append,List.nodup_append];refine⟨hn,by simp,fun a ha b hb hab=>?_⟩;simp at hb;subst hb;subst hab;obtain⟨kv,hkv,rfl⟩:=List.mem_map.mp ha;exact h (List.any_eq_true.mpr ⟨kv,hkv,by simp⟩)
theorem qV{kvs:List (Str×Value)}{k:Str}{v:Value}(hx:∀ kv∈kvs,kv.1.length≤sizeLine)(hk:k.length≤sizeLine):∀ kv∈stored kvs k v,kv.1.length≤sizeLine:=by
 intro kv h;unfold stored at h
 split at h
 ·obtain⟨kv',h',rfl⟩:=List.mem_map.mp h
  split
  ·exact hx kv' h'
  ·exact hx kv' h'
 ·rcases List.mem_append.mp h with h | h
  ·exact hx kv h
  ·simp at h;subst h;exact hk
theorem KV.set{h:Heap}{av:Addr→Prop}{k:Str}{v:Value}{d:PyData}(hv:Rep prog w h av v d):∀ {kvs:List (Str×Value)} {ds:List (PyData×PyData)},(kvs.map (·.1)).Nodup→KV prog w h av kvs ds→KV prog w h av (stored kvs k v) (bY ds k d)
 | [],[],_,_=>⟨rfl,hv,trivial⟩
 | (y,v0)::r,(dk,d0)::t,hn,x=>by
  obtain⟨x1,x2,x3⟩:=x;have x1:dk=.str y:=x1;subst x1;rw[wS hn];show KV prog w h av _ (if k=y then (.str y,d)::t else (.str y,d0)::bY t k d)
  split
  ·exact⟨rfl,hv,x3⟩
  ·exact⟨rfl,x2,KV.set hv (List.nodup_cons.mp (show(y::r.map (·.1)).Nodup from hn)).2 x3⟩
 | [],_::_,_,x=>x.elim
 |_::_,[],_,x=>x.elim
noncomputable def PS(prog:Program)(w:World)(h:Heap)(av:Addr→Prop):List (Str×Value)→List (Str×PyData)→Prop
 | [],[]=>True
 |kv::r,p::t=>kv.1=p.1∧kv.1.length≤sizeLine∧Rep prog w h av kv.2 p.2∧PS prog w h av r t
 |_,_=>False
theorem KV.sets{h:Heap}{av:Addr→Prop}:∀ {kvs:List (Str×Value)} {ps:List (Str×PyData)} {acc:List (Str×Value)} {dacc:List (PyData×PyData)},PS prog w h av kvs ps→(acc.map (·.1)).Nodup→KV prog w h av acc dacc→(∀ kv∈acc,kv.1.length≤sizeLine) →
  KV prog w h av (merged acc kvs) (cW ps dacc)∧∀ kv∈merged acc kvs,kv.1.length≤sizeLine
 | [],[],_,_,_,_,x,hz=>⟨x,hz⟩
 | (k,v)::r,(k',d)::t,acc,dacc,y,hn,x,hz=>by
  obtain⟨y1,y2,y3,y4⟩:=y;obtain rfl:k=k':=y1;exact(KV.sets (kvs:=r) (ps:=t) y4 (G5 hn) (KV.set y3 hn x) (qV hz y2):KV prog w h av (merged (stored acc k v) r) (cW t (bY dacc k d))∧_)
 | [],_::_,_,_,x,_,_,_=>x.elim
 |_::_,[],_,_,x,_,_,_=>x.elim
theorem PS.length{h:Heap}{av:Addr→Prop}:∀ {kvs:List (Str×Value)} {ps:List (Str×PyData)},PS prog w h av kvs ps→kvs.length=ps.length
 | [],[],_=>rfl
 |_::r,_::t,x=>congrArg (·+1) (PS.length (kvs:=r) (ps:=t) x.2.2.2)
 | [],_::_,x=>x.elim
 |_::_,[],x=>x.elim
theorem wT{s s₁ s':Shared}{av:Addr→Prop}{a:Addr}{kvs:List (Str×Value)}{ps:List (Str×PyData)}(k0:Kp s s₁)(k:Kp s₁ s')(hn:s₁.heap.get? a=none)(hm:(a==sysModules)=false)(hp:s'.heap.DictOf (strKind prog w) a (merged [] kvs))
  (hl:ps.length≤sizeLine) (x:PS prog w s₁.heap av kvs ps):Kp s s'∧bB prog w s s'.heap av (.ref a) (.own (.dict (cW ps []))):=by
 obtain⟨y1,y2⟩:=KV.sets x (acc:=[]) List.nodup_nil (show KV prog w s₁.heap av [] [] from trivial) (fun x hx=>cL hx);obtain⟨z1,z2⟩:=y1.out;exact wK k0 k hn hm hp ⟨Nat.le_trans (merged_length_le [] kvs) (by rw[x.length];simpa using hl),y2⟩ z1 z2
end
section
variable {prog:Program} {w:World}
theorem wU(r:List Str)(x:Str):(b8 (x::r)).length=if r.contains x then (b8 r).length else (b8 r).length+1:=by
 show(if r.contains x then b8 r else x::b8 r).length=_
 split<;>rfl
theorem qW:∀ l:List Str,(b8 l).length≤l.length
 | []=>Nat.le_refl _
 |a::r=>by
  rw[wU];have:=qW r
  split
  ·exact Nat.le_succ_of_le this
  ·exact Nat.succ_le_succ this
noncomputable def met(ss:List Str)(i:Nat):List Str:=(ss.take i).reverse
theorem wV{ss:List Str}{i:Nat}{x:Str}(h:ss[i]?=some x):met ss (i+1)=x::met ss i:=by
 unfold met;rw[List.take_add_one,h];simp
theorem wW(ss:List Str)(i:Nat):(met ss i).length≤ss.length:=by
 unfold met;simp;exact Bt
theorem G6{A:Around}{R:Result→Shared→Prop}{I:Addr}{fp wr:List Addr}{ss:List Str}{P:Nat→Value→Prop}{St:Nat→Heap→Prop}(W:Walks prog w A.in1 I fp wr ss.length P St)(S:Addr)(hSf:S∉fp)
  (hval:∀ i v,P i v→∃ x t,ss[i]?=some x∧v=.str x t) (hb:ss.length+1 < scanBound) :
  ∀ (k i:Nat) (s:Shared),ss.length - i=k→i≤ss.length→St i s.heap→s.heap.SetOf (strKind prog w) S (fun k'=>(met ss i).contains k') (b8 (met ss i)).length →
   (∀ h' tk,(∀ b o,b∉S::wr→s.heap.get? b=some o→h'.get? b=some o)→h'.SetOf (strKind prog w) S (fun k'=>(met ss ss.length).contains k') (b8 (met ss ss.length)).length→R (.ok (.ret .none)) { s with heap:=h',toks:=tk }) →
   codeAny (model prog w) A (.builtin "set.update.loop" ⟨[.ref S,.ref I],[]⟩) R s:=by
 have hSw:S∉wr:=fun h=>hSf (W.sub _ h);intro k
 induction k with
 |zero =>
  intro i s hk hi hst hS hR;have hin:i=ss.length:=by exact t7 hk hi
  subst hin;refine codeAny_builtin PyProof.Rows.F.entry_set_update_loop ?_;rw[Around.under_plainId PyProof.Rows.F.plain_set_update_loop _];show wpAny _ A.in1 (pyNext (.ref I) >>= _) _ _ s;refine wpAny_bind (W.done s _ _ hst fun h' tk hm=>?_);refine wpAny_pure (hR h' tk (fun b o hb e=>hm b o (fun h=>hb (List.mem_cons_of_mem _ h)) e) ?_);obtain⟨o,es,ep,t,ho,rest⟩:=hS;exact⟨o,es,ep,t,hm S _ hSw ho,rest⟩
 |succ k ih =>
  intro i s hk hi hst hS hR;have hlt:i < ss.length:=by exact t8 hk
  refine codeAny_builtin PyProof.Rows.F.entry_set_update_loop ?_;rw[Around.under_plainId PyProof.Rows.F.plain_set_update_loop _];show wpAny _ A.in1 (pyNext (.ref I) >>= _) _ _ s;refine wpAny_bind (W.item i s _ _ hlt hst fun v h' tk hP hst' hm=>?_);obtain⟨x,t,hx,rfl⟩:=hval i v hP;have hS':h'.SetOf (strKind prog w) S (fun k'=>(met ss i).contains k') (b8 (met ss i)).length:=by
   obtain⟨o,es,ep,tb,ho,rest⟩:=hS;exact⟨o,es,ep,tb,hm S _ hSw ho,rest⟩
  show wpAny _ A.in1 (holding [Value.str x t] (setAdd S (.str x t)) >>= _) _ _ _;refine wpAny_bind (wpAny_holding ?_);unfold setAdd;refine wpAny_holding ?_;refine wpAny_bind ((strKind prog w).pyHash (k:=x) (dQ x t) ?_);have hroom:(b8 (met ss i)).length+1 < scanBound:=by have:=qW (met ss i);have:=wW ss i;lia
  refine wpAny_setAddHashed_of (knd:=strKind prog w) (s:={ s with heap:=h',toks:=tk+1 }) (dQ x t) rfl hS' hroom fun h'' hsb hS2=>?_;have hSi:h''.SetOf (strKind prog w) S (fun k'=>(met ss (i+1)).contains k') (b8 (met ss (i+1))).length :=
   PyProof.Rows.SetOf_congr hS2 (fun k'=>by rw[wV hx,List.contains_cons,Bool.or_comm];congr 1) (by rw[wV hx,wU])
  refine wpAny_pure ⟨plainId_quiet PyProof.Rows.F.plain_set_update_loop _,ih (i+1) _ (by exact t9 hk) hlt (W.frame _ h' _ hst' fun b hb o e=>?_) hSi fun h3 tk3 hk3 hS3=>hR h3 tk3 (fun b o hb e=>hk3 b o hb ?_) hS3⟩
  ·rw[hsb.2 b (fun h:b=S=>hSf (by rw[← h];exact hb))];exact e
  ·rw[hsb.2 b (fun h:b=S=>hb (by rw[h];exact List.mem_cons_self))];exact hm b o (fun h=>hb (List.mem_cons_of_mem _ h)) e
set_option maxHeartbeats 3200000 in
theorem wX{A:Around}{E:Value→Shared→Prop}{s:Shared}{l:Addr}{T:String}{items:Array Value}{nl:Nat}{ss:List Str}{Q:Value→Shared→Prop}{oI:Obj}{St:Addr→Nat→Heap→Prop}(hh:A.handled=none)(hol:s.heap.get? l=some { cls:=.type T,data:=.seq items nl })
  (hsls:isSubtype (.type T) (.type "set")=pure false) (hslf:isSubtype (.type T) (.type "frozenset")=pure false) (hne:(Value.type T==Value.type "dict")=false) (hsz:items.size=ss.length)
  (hit:∀ (A':Around) (s':Shared) (Q:Value→Shared→Prop) (E:Value→Shared→Prop),s'.heap.get? l=some { cls:=.type T,data:=.seq items nl }→Q (.ref s'.heap.objs.size) { s' with heap:=s'.heap.push oI }→wpAny (model prog w) A' (pyIter (.ref l)) Q E s')
  (hW:∀ (A':Around) (I:Addr),A'.handled=none→l≠I→Walks prog w A' I [I,l] [I] items.size (fun i v=>items[i]?=some v) (St I))
  (hst:∀ (h:Heap),h.get? l=some { cls:=.type T,data:=.seq items nl }→St h.objs.size 0 (h.push oI))
  (hval:∀ (i:Nat) (v:Value),items[i]?=some v→∃ x t,ss[i]?=some x∧v=.str x t) (hb:ss.length+1 < scanBound)
  (h:∀ (h':Heap) (tk:Nat),h'.SetOf (strKind prog w) s.heap.objs.size (fun k'=>(met ss ss.length).contains k') (b8 (met ss ss.length)).length →
   (∀ b o,s.heap.get? b=some o→h'.get? b=some o)→Q (.ref s.heap.objs.size) { s with heap:=h',toks:=tk }) :
  wpAny (model prog w) A (call (.type "set") [.ref l]) Q E s:=by
 obtain⟨c,tl,hmro⟩:=F.called_set.mro;have hmade:=F.called_set.made;have hsub:=F.called_set.sub;refine wpAny_call (codeAny_of_tree ?_);show wpAny _ _ (callAny (.type "set") _) _ _ _;refine wpAny_pure ⟨Code.quiet_builtin _ (by decide +kernel),codeAny_builtin F.entry_type_call ?_⟩;rw[Around.under_plain (weight_type_call_type "set" [.ref l] []) rfl];have h1:=F.called_set.notType;have h2:=F.called_set.canCreate;have hct:=F.typeCall_set_1 (.ref l)
 repeat (any_goals (first | assumption | wp_step))
 refine codeAny_mono (code_set_new_1 (.ref l) (E:=E) (Q₁:=fun obj s₁=>∃ led:Bool,obj=.ref s.heap.objs.size∧s₁={ s with heap:=s.heap.push { cls:=.type "set", dict:=none,data:=.set #[] 0 (.fresh 0 0 led) } }) fun led=>⟨led,rfl,rfl⟩) fun r s₁ hr=>?_;cases r with
 |error e=>exact hr
 |ok fl =>
  cases fl with
  |ret obj =>
   obtain⟨led,rfl,rfl⟩:=hr;have hS:(s.heap.push { cls:=.type "set", dict:=none,data:=.set #[] 0 (.fresh 0 0 led) }).get? s.heap.objs.size=some { cls:=.type "set", dict:=none,data:=.set #[] 0 (.fresh 0 0 led) }:=Heap.get?_push_size _ rfl;have hT:Shared.TypeIs { s with heap:=s.heap.push { cls:=.type "set", dict:=none,data:=.set #[] 0 (.fresh 0 0 led) } } (.ref s.heap.objs.size) "set" := ⟨_,hS,rfl⟩
   have hli:=F.called_set.init.lookup;have hbi:=F.called_set.init.bind (.ref s.heap.objs.size)
   repeat (any_goals (first | assumption | wp_step))
   refine codeAny_mono (codeAny_call_builtin (R:=wants (fun r s₂=>r=.none∧∃ h' tk,s₂={ s with heap:=h',toks:=tk } ∧
     h'.SetOf (strKind prog w) s.heap.objs.size (fun k'=>(met ss ss.length).contains k') (b8 (met ss ss.length)).length ∧
     (∀ b o,s.heap.get? b=some o→h'.get? b=some o)) E) F.called_set.init.plain F.entry_set_init (check_set_init_1 hT ?_)) fun r₂ s₂ hr₂=>?_
   ·have hol':(s.heap.push { cls:=.type "set", dict:=none,data:=.set #[] 0 (.fresh 0 0 led) }).get? l=some { cls:=.type T,data:=.seq items nl }:=Heap.get?_push_of_some _ hol;unfold Builtin.«set.__init__» noKeywords Builtin.Frozenset.updateFrom;generalize hPI:pyIter=PI
    wp_walk
    subst hPI;refine hit _ _ _ _ hol' ?_;refine wpAny_bind (wpAny_runValue ?_);have hlS:l < s.heap.objs.size:=Heap.lt_size hol;have hneI:l≠(s.heap.push { cls:=.type "set", dict:=none,data:=.set #[] 0 (.fresh 0 0 led) }).objs.size:=by
     rw[Heap.size_push];exact Nat.ne_of_lt (Nat.lt_succ_of_lt hlS)
    have hSf:s.heap.objs.size∉[(s.heap.push { cls:=.type "set", dict:=none,data:=.set #[] 0 (.fresh 0 0 led) }).objs.size,l]:=by
     rw[Heap.size_push];simp only[List.mem_cons,List.mem_singleton,List.not_mem_nil,or_false,not_or];exact⟨Nat.ne_of_lt (Nat.lt_succ_self _),Nat.ne_of_gt hlS⟩
    refine G6 (hsz▸hW _ _ (by simp[hh]) hneI) s.heap.objs.size hSf hval hb ss.length 0 _ rfl (Nat.zero_le _) (hst _ hol') ?hS0 fun h' tk' hk hS'=>?hR
    case hS0 =>
     exact PyProof.Rows.SetOf_congr ((PyProof.Rows.setObjOf_fresh (knd:=strKind prog w) led).setOf (Heap.get?_push_of_some _ hS) (by unfold scanBound;exact Bu)) (fun _=>rfl) rfl
    case hR =>
     show wpAny _ _ _ _ _ _;refine wpAny_pure ?_;show wpAny _ _ (ret Value.none) _ _ _;refine wpAny_pure ⟨rfl,h',tk',rfl,hS',fun b o e=>?_⟩;have hb:=Heap.lt_size e;refine hk b o ?_ (Heap.get?_push_of_some _ (Heap.get?_push_of_some _ e));rw[Heap.size_push];intro hm;rcases List.mem_cons.mp hm with hm | hm
     ·exact absurd hb (by rw[hm];exact Nat.lt_irrefl _)
     ·exact absurd hb (by rw[List.mem_singleton.mp hm];exact Nat.not_lt.mpr (Nat.le_succ _))
   ·cases r₂ with
    |error e=>exact hr₂
    |ok fl₂ =>
     cases fl₂ with
     |ret r =>
      obtain⟨rfl,h',tk,rfl,hS',hk'⟩:=hr₂
      repeat (any_goals (first | assumption | wp_step))
      exact h _ _ hS' hk'
     |_=>exact hr₂.elim
  |_=>exact hr.elim
end
section
variable {prog:Program} {w:World} {mg mb:Str→Option Value} {base:Heap}
theorem G7{d:PyData}{p:PyData×PyData}(e:two d=some p):d=.tuple [p.1,p.2]:=by
 cases d with
 |tuple ds =>
  rcases ds with _ | ⟨a,_ | ⟨b,_ | ⟨c,r⟩⟩⟩
  ·exact ns e
  ·exact ns e
  ·obtain rfl:=si e;rfl
  ·exact ns e
 |_=>exact ns e
theorem G8{α:Type}{l:List α}(h:l.length=2):∃ x y,l=[x,y]:=by
 rcases l with _ | ⟨a,_ | ⟨b,_ | ⟨c,r⟩⟩⟩
 ·cases h
 ·cases h
 ·exact⟨a,b,rfl⟩
 ·cases h
theorem Rep.two{h:Heap}{av:Addr→Prop}{v:Value}{d:PyData}{p:PyData×PyData}(r:Rep prog w h av v d)(e:two d=some p):∃ a x y,v=.ref a∧PlT h a #[x,y]∧Rep prog w h av x p.1∧Rep prog w h av y p.2:=by
 rw[G7 e] at r;obtain⟨a,vs,rfl,h1,h2,h3,h4,h5⟩:=r.tuple_inv;obtain⟨x,y,rfl⟩:=G8 h3;exact⟨a,x,y,rfl,h2,h5 0 _ _ rfl rfl,h5 1 _ _ rfl rfl⟩
theorem G9{h:Heap}{av:Addr→Prop}:∀ {vs:List Value} {ds:List PyData} {ps:List (PyData×PyData)} {qs:List (Str×PyData)},vs.length=ds.length→(∀ (i:Nat) (v:Value) (d:PyData),vs[i]?=some v→ds[i]?=some d→Rep prog w h av v d) →
  twos? ds=some ps→keys? ps=some qs→∃ kvs,gN h vs kvs∧PS prog w h av kvs qs:=by
 intro vs
 induction vs with
 |nil =>
  intro ds ps qs hl hr e1 e2;cases ds with
  |nil=>obtain rfl:=si e1;obtain rfl:=si e2;exact⟨[],trivial,trivial⟩
  |cons=>exact nomatch hl
 |cons v vs ih =>
  intro ds ps qs hl hr e1 e2;cases ds with
  |nil=>exact nomatch hl
  |cons d ds =>
   replace e1:((two d).bind fun p=>(twos? ds).map (p::·))=some ps:=e1;refine ocs (two d) (fun hp=>?_) fun p hp=>?_
   ·rw[hp] at e1;exact ns e1
   ·rw[hp] at e1;obtain⟨ps',e1',rfl⟩:=Option.map_eq_some_iff.mp (show(twos? ds).map (p::·)=some ps from e1);obtain⟨a,x,y,rfl,g1,g2,g3⟩:=(hr 0 v d rfl rfl).two hp;obtain⟨p1,p2⟩:=p;cases p1 with
    |str k =>
     obtain⟨qs',e2',rfl⟩:=Option.map_eq_some_iff.mp (show(keys? ps').map ((k,p2)::·)=some qs from e2);obtain⟨t,hx,hk⟩:=(show Rep prog w h av x (.str k) from g2).str_inv;subst hx;obtain⟨kvs,z1,z2⟩:=ih (ds:=ds) (Nat.succ.inj hl) (fun i v d e1 e2=>hr (i+1) v d e1 e2) e1' e2';exact⟨(k,y)::kvs,⟨⟨a,t,rfl,g1⟩,z1⟩,rfl,hk,g3,z2⟩
    |_=>exact ns e2
theorem wY{ss:List Str}{ts:List Tok}(e1:ts.length=ss.length){i:Nat}{v:Value}(e:(List.zipWith (fun x t=>Value.str x t) ss ts)[i]?=some v):∃ x t,ss[i]?=some x∧v=.str x t:=by
 rw[List.getElem?_zipWith] at e;cases hs:ss[i]? with
 |none=>rw[hs] at e;exact ns e
 |some x =>
  cases ht:ts[i]? with
  |none=>rw[hs,ht] at e;exact ns e
  |some t=>rw[hs,ht] at e;obtain rfl:=si e;exact⟨x,t,rfl,rfl⟩
theorem Ha{l:List Env}{A:Around}{s:Shared}{av:Addr→Prop}{v:Value}{d:PyData}(hh:A.handled=none)(G:Gnd prog w mg mb base l av s)(r:Rep prog w s.heap av v d):YV prog w A s av (call (.type "dict") [v]) (bV d):=by
 cases d with
 |dict m =>
  obtain⟨a,kvs,rfl,h1,h2,h3,h4,h5,h6⟩:=r.dict_inv;intro Q E hq;exact kt_call_dict (knd:=strKind prog w) h4 h2 h3.1 fun h' hd hs=>hq _ _ (wK (Kp.rfl' s) (Kp.mkh (Gv hs)) (bZ _) (mU G) hd h3 h5 h6)
 |list m =>
  obtain⟨a,vs,rfl,h1,⟨nn,h2⟩,h3,h4,h5⟩:=r.list_inv;refine Yd.optBind fun ps hps=>Yd.optBind fun qs hqs=>Yd.ite fun hlt=>?_;obtain⟨kvs,g1,g2⟩:=G9 h3 h5 hps hqs;have hz:kvs.length≤sizeLine:=by rw[g2.length];exact Nat.le_trans (Nat.le_of_lt hlt) (by decide)
  intro Q E hq;refine callType_codes (Q₁:=fun obj s₁=>obj=.ref s.heap.objs.size∧s₁={ s with heap:=s.heap.push { cls:=.type "dict", data:=.dict #[] } }) F.kt_called_dict (F.kt_typeCall_dict_1 _) F.entry_dict_init (kt_code_dict_new _ ⟨rfl,rfl⟩) ?_
  rintro obj s₁ ⟨rfl,rfl⟩
  have hnew:(s.heap.push { cls:=.type "dict", data:=.dict #[] }).DictOf (strKind prog w) s.heap.objs.size []:=Heap.DictOf.new s.heap;have h2':(s.heap.push { cls:=.type "dict", data:=.dict #[] }).get? a=some _:=Heap.get?_push_of_some _ h2;refine⟨hnew.typeIs,F.args_dict_init_2 _ _,?_⟩;unfold Builtin.«dict.__init__»;refine wpAny_bind ?_;unfold Builtin.Dict.selfAndRest;refine wpAny_bind (wpAny_notOrdered_dict hnew.typeIs ?_);show wpAny _ _ (pure (s.heap.objs.size,[Value.ref a])) _ _ _;refine wpAny_pure ?_;show wpAny _ _ (Builtin.Dict.updateFrom "dict.__init__" s.heap.objs.size (.ref a) [] .none) _ _ _;unfold Builtin.Dict.updateFrom;refine wpAny_bind (wpAny_typeOf (T := "list") ⟨_,h2',rfl⟩ ?_);rw[if_pos (by decide)];refine wpAny_bind (G3 h2' hh fun h' tk hk=>?_);rw[if_pos (show(none:Option Value).isNone=true from rfl)];refine wpAny_bind (wpAny_rule ?_);have hD:=hnew.keep hk;have h2'':=hk _ _ h2';refine wpAny_bind (wpAny_pyIter_list ⟨_,h2'',rfl,nn,rfl⟩ (wpAny_pure ⟨plainId_quiet mW _,?_⟩));have lt1:s.heap.objs.size < h'.objs.size:=(by obtain⟨o,_,_,e,_⟩:=hD;exact Heap.lt_size e)
  have lt2:a < s.heap.objs.size:=Heap.lt_size h2;have old:∀ b o,s.heap.get? b=some o→(h'.push { cls:=.type "list_iterator", data:=.fields #[Value.ref a,rawInt 0] }).get? b=some o:=fun b o e=>Heap.get?_push_of_some _ (hk _ _ (Heap.get?_push_of_some _ e));refine G4 (A:=A.in1) (I:=h'.objs.size) (l:=a) (D:=s.heap.objs.size) (vs:=vs) (kvs:=kvs) hh (Nat.ne_of_lt (Nat.lt_trans lt2 lt1)) (Nat.ne_of_lt lt1) (Nat.ne_of_gt lt2) hz g1 (bZ _) (Heap.get?_none_of_le (Nat.le_of_lt lt1)) kvs.length 0 _ rfl (Nat.zero_le _)
   ⟨⟨_,cY _ _ rfl,rfl,rfl⟩,⟨_,Heap.get?_push_of_some _ h2'',rfl,nn,rfl⟩⟩ old (hD.push _) fun h'' tk' hk'' hd''=>⟨rfl,hq _ _ ?_⟩
  exact wT (Kp.rfl' s) (Kp.mk' hk'') (bZ _) (mU G) hd'' (by rw[← g2.length];exact hz) g2
 |_=>exact trivial
theorem Hb{A:Around}{s:Shared}{av:Addr→Prop}{v:Value}{d:PyData}(hh:A.handled=none)(hav:∀ b,av b→∃ o,s.heap.get? b=some o)(r:Rep prog w s.heap av v d) :
  Yd (fun Q E=>wpAny (model prog w) A (call (.builtin "dict.items") [v]) (fun x s₁=>wpAny (model prog w) A (call (.type "list") [x]) Q E s₁) E s) (fun v s' u=>Kp s s'∧bB prog w s s'.heap av v u) (pL d):=by
 cases d with
 |dict m =>
  obtain⟨a,kvs,rfl,h1,h2,h3,h4,h5,h6⟩:=r.dict_inv;intro Q E hq;refine call_meetsIn F.slot_dict_items h2.typeIs F.entry_dict_items (F.args_dict_items_1 _) (meets_dict_items (strKind prog w) a h4) ⟨⟨kvs,h2⟩,?_⟩;obtain⟨o,es,ep,hd⟩:=h2;have hp:∀ b o,s.heap.get? b=some o→(s.heap.push { cls:=.type "dict_items", data:=.fields #[.ref a] }).get? b=some o:=fun b o e=>Heap.get?_push_of_some _ e;have fr:∀ {x:Addr},s.heap.objs.size < x→s.heap.get? x=none:=fun hx=>Heap.get?_none_of_le (Nat.le_of_lt hx);have hlen:m.length=kvs.length:=by simpa using congrArg List.length h5
  refine W.kdx_call (knd:=strKind prog w) (kvs:=kvs) (ep:=ep) hh ⟨_,cY _ _ rfl,rfl,rfl⟩ ⟨o,es,hp _ _ hd.1,hd.2⟩ h3.1 fun h' tk acc c as hk hl' hlas hG hacc=>?_;have hk':∀ b o,s.heap.get? b=some o→h'.get? b=some o:=fun b o e=>hk _ _ (hp _ _ e);have hlt:s.heap.objs.size < (s.heap.push { cls:=.type "dict_items", data:=.fields #[.ref a] }).objs.size:=by rw[Heap.size_push];exact Nat.lt_succ_self _
  have hn:s.heap.get? (s.heap.push { cls:=.type "dict_items", data:=.fields #[.ref a] }).objs.size=none:=fr hlt;refine hq _ _ ⟨Kp.mk' hk',⟨_,rfl,hn,acc.toList,⟨c,by simpa using hl'⟩,by rw[hacc,List.length_map,List.length_map,hlas,hlen],by rw[hacc,List.length_map,hlas];exact h3.1,fun i v d e1 e2=>?_⟩⟩;rw[hacc,List.getElem?_map] at e1;obtain⟨ta,e1',rfl⟩:=Option.map_eq_some_iff.mp e1;rw[List.getElem?_map] at e2;obtain⟨p,e2',rfl⟩:=Option.map_eq_some_iff.mp e2;clear e1 e2;obtain⟨key,k,x,e3,e4,e5⟩:=hG.pairs i ta e1';obtain⟨t,rfl⟩:=Value.isStrOf_shape e4;have hp1:p.1=.str k:=by
   have:=congrArg (fun l=>l[i]?) h5;simp only[List.getElem?_map,e2',e3,Option.map_some] at this;exact Option.some.inj this
  have hgt:(s.heap.push { cls:=.type "dict_items", data:=.fields #[.ref a] }).objs.size < ta:=hG.above ta (List.mem_of_getElem? e1');have hta:s.heap.get? ta=none:=fr (Nat.lt_trans hlt hgt);have rx:Rep prog w h' (fun b=>av b∨b=(s.heap.push { cls:=.type "dict_items", data:=.fields #[.ref a] }).objs.size) x p.2:=((h6 i _ _ e3 e2').apart hn).keeps hk';refine .tuple (fun hx=>?_) ⟨0,by simpa using e5⟩ rfl (by rw[sizeLine_eq];exact Nat.le_of_ble_eq_true rfl) fun j v d f1 f2=>?_
  ·rcases hx with hx | hx
   ·obtain⟨o,e⟩:=hav _ hx;rw[hta] at e;exact ns e
   ·exact absurd hgt (by rw[hx];exact Nat.lt_irrefl _)
  ·match j,f1,f2 with
   |0,f1,f2=>obtain rfl:=si f1;obtain rfl:=si f2;rw[hp1];exact .str k t (h3.2 _ (List.mem_of_getElem? e3))
   |1,f1,f2=>obtain rfl:=si f1;obtain rfl:=si f2;exact rx
 |_=>exact trivial
theorem Hc:isSubtype (.type "tuple") (.type "set")=pure false:=by rw[isSubtype_type];kernel_rfl
theorem Hd:isSubtype (.type "tuple") (.type "frozenset")=pure false:=by rw[isSubtype_type];kernel_rfl
theorem He{A:Around}{s:Shared}{av:Addr→Prop}{v:Value}{d:PyData}(hh:A.handled=none)(r:Rep prog w s.heap av v d) :
  Yd (fun Q E=>wpAny (model prog w) A (call (.type "set") [v]) (fun x s₁=>wpAny (model prog w) A (call (.builtin "len") [x]) Q E s₁) E s) (fun v s' u=>Kp s s'∧bB prog w s s'.heap av v u) (dT d):=by
 have key:∀ {ss:List Str} {Q:Value→Shared→Prop} {E:Value→Shared→Prop} (_:ss.length < 64),(∀ v s',Kp s s'∧bB prog w s s'.heap av v (.fz (.int (b8 ss.reverse).length))→Q v s')→∀ (h':Heap) (tk:Nat),h'.SetOf (strKind prog w) s.heap.objs.size (fun k'=>(met ss ss.length).contains k') (b8 (met ss ss.length)).length →
   (∀ b o,s.heap.get? b=some o→h'.get? b=some o)→wpAny (model prog w) A (call (.builtin "len") [.ref s.heap.objs.size]) Q E { s with heap:=h',toks:=tk }:=by
  intro ss Q E hlt hq h' tk hS hk;obtain⟨o,es,ep,t,ho,hex,hd,hel,hmem,hb,hf,hn⟩:=hS;have hz:(es.size:Int) < 2 ^ 63:=by
   have:=qW (met ss ss.length);have:=wW ss ss.length;lia
  refine call_len_set ho hex hd hf hz (hq _ _ ⟨Kp.mk' hk,?_⟩);rw[hn];unfold met;rw[List.take_length];exact .int _ _
 cases d with
 |list m =>
  obtain⟨a,vs,rfl,h1,⟨nn,h2⟩,h3,h4,h5⟩:=r.list_inv;refine Yd.optBind fun ss hs=>Yd.ite fun hlt=>?_;obtain⟨ts,e1,rfl,e3⟩:=gL h3 h5 hs;intro Q E hq;refine wX (T := "list") (ss:=ss) hh h2 F.sub_list_set F.sub_list_frozenset rfl (by simp[e1]) (fun A' s' Q E e hq=>wpAny_pyIter_list ⟨_,e,rfl,_,rfl⟩ hq) (fun A' I hA' hne=>Walks.list hA' I a hne _) (fun h e=>⟨⟨_,cY _ _ rfl,rfl,rfl⟩,⟨_,Heap.get?_push_of_some _ e,rfl,_,rfl⟩⟩) (fun i v e=>?_) (by unfold scanBound;exact uA hlt) (key hlt hq);exact wY e1 (by simpa using e)
 |tuple m =>
  obtain⟨a,vs,rfl,h1,⟨nn,h2⟩,h3,h4,h5⟩:=r.tuple_inv;refine Yd.optBind fun ss hs=>Yd.ite fun hlt=>?_;obtain⟨ts,e1,rfl,e3⟩:=gL h3 h5 hs;intro Q E hq;refine wX (T := "tuple") (ss:=ss) hh h2 Hc Hd rfl (by simp[e1]) (fun A' s' Q E e hq=>wpAny_pyIter_tuple ⟨_,e,rfl,_,rfl⟩ hq) (fun A' I hA' hne=>Walks.tuple hA' I a hne _) (fun h e=>⟨⟨_,cY _ _ rfl,rfl,rfl⟩,⟨_,Heap.get?_push_of_some _ e,rfl,_,rfl⟩⟩) (fun i v e=>?_) (by unfold scanBound;exact uA hlt) (key hlt hq);exact wY e1 (by simpa using e)
 |_=>exact trivial
end
end Mine
namespace Mine
open PySem
section
variable {prog:Program} {w:World}
theorem wZ{h:Heap}:∀ {vs:List Value} {ds:List PyData},vs.length=ds.length→(∀ (i:Nat) (v:Value) (d:PyData),vs[i]?=some v→ds[i]?=some d→∃ as,Reads h v d as)→∃ as,ReadsAll h vs ds as:=by
 intro vs
 induction vs with
 |nil =>
  intro ds e _;cases ds with
  |nil=>exact⟨[],.nil⟩
  |cons=>exact nomatch e
 |cons v vs ih =>
  intro ds e h;cases ds with
  |nil=>exact nomatch e
  |cons d ds =>
   obtain⟨as,h1⟩:=h 0 v d rfl rfl;obtain⟨bs,h3⟩:=ih (ds:=ds) (Nat.succ.inj e) fun i v d e1 e2=>h (i+1) v d e1 e2;exact⟨as++bs,.cons h1 h3⟩
structure Easy(k:Nat)(d:PyData):Prop where
 s:d.showable=true
 h:d.hasDict=false
 d:d.depth≤k
structure EasyA(k:Nat)(l:List PyData):Prop where
 s:PyData.showableAll l=true
 h:PyData.hasDictAll l=false
 d:PyData.depthAll l≤k
theorem w0{k:Nat}{l:List PyData}(h:∀ d∈l,Easy k d):EasyA k l:=by
 induction l with
 |nil=>exact⟨rfl,rfl,Nat.zero_le _⟩
 |cons d l ih =>
  obtain⟨a,b,c⟩:=h d List.mem_cons_self;obtain⟨e,f,g⟩:=ih fun x hx=>h x (List.mem_cons_of_mem _ hx);refine⟨?_,?_,Nat.max_le.mpr ⟨c,g⟩⟩
  ·show(d.showable&&PyData.showableAll l)=true;rw[a,e];rfl
  ·show(d.hasDict||PyData.hasDictAll l)=false;rw[b,f];rfl
theorem Hf{d:PyData}(h:fP d=true):Easy 0 d:=by
 cases d with
 |str x=>exact⟨rfl,rfl,Nat.le_refl 0⟩
 |int i=>exact⟨decide_eq_true (Nat.lt_of_le_of_lt (Nat.log2_le_self _) (Nat.lt_trans (of_decide_eq_true h) (by decide))),rfl,Nat.le_refl 0⟩
 |_=>exact bft h
theorem Hg{d:PyData}(h:pC d=true):Easy 1 d:=by
 cases d with
 |str x=>exact⟨rfl,rfl,Nat.zero_le 1⟩
 |list l=>obtain⟨a,b,c⟩:=w0 fun d hd=>Hf (List.all_eq_true.mp h d hd);exact⟨a,b,Nat.succ_le_succ c⟩
 |_=>exact bft h
theorem Hh{h:Heap}{av:Addr→Prop}{v:Value}{d:PyData}(r:Rep prog w h av v d)(hf:fP d=true):∃ as,Reads h v d as:=by
 cases d with
 |str x=>obtain⟨t,rfl,_⟩:=r.str_inv;exact⟨_,.str x t⟩
 |int i=>obtain⟨t,rfl⟩:=r.int_inv;exact⟨_,.int i t⟩
 |_=>exact bft hf
theorem Hi{h:Heap}{av:Addr→Prop}{v:Value}{d:PyData}(r:Rep prog w h av v d)(hf:pC d=true):∃ as,Reads h v d as:=by
 cases d with
 |str x=>obtain⟨t,rfl,_⟩:=r.str_inv;exact⟨_,.str x t⟩
 |list l =>
  obtain⟨a,vs,rfl,h1,⟨n,e⟩,h3,h4,h5⟩:=r.list_inv;obtain⟨as,ra⟩:=wZ h3 fun i v d e1 e2=>Hh (h5 i v d e1 e2) (List.all_eq_true.mp hf d (List.mem_of_getElem? e2));exact⟨_,.list e rfl rfl (by simpa using ra)⟩
 |_=>exact bft hf
theorem Hj{A:Around}{s:Shared}{av:Addr→Prop}{v:Value}{d:PyData}(hg:A.guards=some [])(hu:A.units+70 < cLine)(r:Rep prog w s.heap av v d):YV prog w A s av (call (.builtin "repr") [v]) (gG d):=by
 cases d with
 |tuple l =>
  refine Yd.ite fun hc=>?_;obtain⟨hf,hz⟩:=hc;obtain⟨a,b,c⟩:=w0 fun d hd=>Hg (List.all_eq_true.mp hf d hd);obtain⟨ad,vs,rfl,h1,⟨n,e⟩,h3,h4,h5⟩:=r.tuple_inv;obtain⟨as,ra⟩:=wZ h3 fun i v d e1 e2=>Hi (h5 i v d e1 e2) (List.all_eq_true.mp hf d (List.mem_of_getElem? e2));intro Q E hq;refine repr_of_reads' (d:=.tuple l) (Reads.tuple e rfl rfl (by simpa using ra)) a (PyData.noDict_hsm b) hg (Nat.lt_of_le_of_lt (Nat.add_le_add_left (Nat.le_trans (Nat.succ_le_succ (Nat.succ_le_succ c)) (by decide:3≤70)) _) hu) (fun _ _ e=>e) (fun h' u tk k=>hq _ _ ⟨Kp.mk' k,.str _ _ hz⟩) hz
 |_=>exact trivial
end
end Mine
namespace Mine
open PySem
section
variable {prog:Program} {w:World} {mg mb:Str→Option Value} {base:Heap} {n:Nat} {hd:Bool} {l:List Env} {sc:Scope} {σ:aA}
noncomputable def CA(prog:Program)(w:World)(mg:Str→Option Value)(l:List Env)(av:Addr→Prop)(s:Shared)(v:Value)(u:V):Prop:=cH prog w mg l s.heap av v u∧∀ d,u≠.own d
structure KSound(prog:Program)(w:World)(mg mb:Str→Option Value)(base:Heap)(n:Nat)(C:Ctx):Prop where
 const:C.const=gJ prog.main.body
 init:C.init=fun c=>(bG c prog.main.body).map (·.2)
 sub:C.sub=fE prog.main.body
 has:∀ f,C.has f=true→∃ a b sc,dP f prog.main.body=some (a,b,sc)
 call:∀ f us ad,mg f=some (.ref ad)→C.has f=true→∀ (A:Around) (l:List Env) (s:Shared) (av:Addr→Prop) (vs:List Value),Room n C.hd l A→Gnd prog w mg mb base l av s→fH (CA prog w mg l av) s vs us →
  ∀ {β:Type} {k:V→R β} {fin:R β} {Q:Value→Shared→Prop} {E:Value→Shared→Prop},Fin (C.call f us) k fin→QH prog w l s av k fin Q→EH prog w mg l s av fin E→wpAny (model prog w) A (call (.ref ad) vs) Q E s
theorem qX{M:Model}{A:Around}{f:Value}{env:Env}{es:List Expr}{pos:Pos}{Q:Args→Shared→Prop}{E:Value→Shared→Prop}{s:Shared}(hs:es.any bad=false)
  (h:wpAny M A (spliced (backTo pos (starEach es env))) (fun vs s'=>Q ⟨vs,[]⟩ s') E s):wpAny M A (evalArgs f true (backTo pos (starEach es env)) []) Q E s:=by
 cases es with
 |nil =>
  have e0:backTo pos (starEach [] env)=[]:=rfl;rw[e0] at h ⊢;unfold evalArgs;refine wpAny_bind (wpAny_bind (wpAny_mono h (fun vs s' h'=>?_) fun _ _ x=>x));refine wpAny_pure (wpAny_holding ?_);exact wpAny_bind (wpAny_pure (wpAny_pure h'))
 |cons e r =>
  rw[eM (Bool.or_eq_false_iff.mp hs).1] at h ⊢;exact Calls.evalArgs_plain h
theorem qY{env:Env}{pos:Pos}:∀ {es:List Expr},es.any bad=false→(backTo pos (starEach es env)).any (·.1)=false:=by
 intro v0
 induction v0 with
 |nil =>
  intro _;exact rfl
 |cons e es ih =>
  intro h;obtain⟨h1,h2⟩:=Bool.or_eq_false_iff.mp h;rw[eM h1];show(false||(backTo pos (starEach es env)).any (·.1))=false;rw[ih h2];rfl
theorem Hk{rec:Expr→R V}(hbad:∀ e,bad e=true→rec e=.no)(e:Expr)(h:bad e=true):iJ rec sc σ e=.no:=by
 have h0:=h;unfold iJ jW bD;unfold bad at h;generalize hv:vw e=v at h;cases v with
 |name x=>exact bft h
 |_=>exact hbad e h0
theorem Hl{av:Addr→Prop}{rec:Expr→R V}{e:Expr}(h:aC prog w mg mb base n hd l sc σ e (rec e)):qN prog w mg mb base n hd l sc σ av (CA prog w mg l av) e (iJ rec sc σ e):=by
 intro A env s hA I β k fin Q E hf hq he;unfold iJ at hf;refine ocs (jW sc σ e) (fun hx=>?_) fun x hx=>?_
 ·try rewrite[hx]
  rw[hx] at hf;exact h A env s av hA I hf (fun v s' u k r e=>hq v s' u k ⟨r.clear I.gnd.avlt,fun d hh=>by cases u<;>cases hh⟩ e) he
 ·try rewrite[hx]
  rw[hx] at hf;obtain⟨y,p,rfl,hl,e⟩:=F6 hx;obtain⟨u,h1,h2⟩:=I.get _ _ hl e;exact eO I hl h1 (hq _ _ (.ex x) (K.rf l s) ⟨h2,fun d hh=>by cases hh⟩ hf.ok)
theorem Hm{C:Ctx}(hK:KSound prog w mg mb base n C){rec:Expr→R V}(hbad:∀ e,bad e=true→rec e=.no){f:Str}{as:List Expr}{p pos:Pos}(hg:isG sc f=true)(hns:as.any bad=false)(hh:C.has f=true)
  (h:∀ e∈as,aC prog w mg mb base n C.hd l sc σ e (rec e)):aC prog w mg mb base n C.hd l sc σ (.Call (.Name f p) as [] pos) (rb (evs (iJ rec sc σ) as) fun vs=>C.call f vs):=by
 intro A env s av hA I β k fin Q E hf hq he;obtain⟨a,b,sc',hd⟩:=hK.has f hh;obtain⟨ad,o,pm,cd,doc,h1,h2,h3,h4⟩:=I.gnd.glo.fn f a b sc' hd;refine wpAny_Call_NameR (mO I hg h1 (Calls.callWith_function (o:=o) (fd:=Calls.docDef f a b sc' pm cd doc) (qX hns (wB (C:=CA prog w mg l av) (Hk hbad) (fun _ _ _ _ k r=>⟨r.1.k I.gnd.fav k,r.2⟩) hA (fun e m=>Hl (h e m)) I hf.b (fun vs s₁ us k1 r e1=>?_) he))));exact⟨⟨(I.gnd.k k1).stay _ _ h2,h3⟩,hK.call f us ad h1 hh A l s₁ av vs hA (I.gnd.k k1) r ⟨e1,hf.2⟩ (hq.back k1) (he.back k1)⟩
theorem gO{M:Model}{A:Around}{fv:Value}(hf:(∃ id,fv=.builtin id)∨∃ T,fv=.type T){pos:Pos}{t:Sem Value}{Q:Value→Shared→Prop}{E:Value→Shared→Prop}{s:Shared}
  (h:wpAny M A t (fun v s₁=>wpAny M A (call fv [v]) Q E s₁) E s):wpAny M A (callWith pos fv [] [(false,t)] []) Q E s:=by
 rcases hf with ⟨id,rfl⟩ | ⟨T,rfl⟩
 ·exact PySem.callWith_builtin1 h
 ·exact PySem.callWith_type1 h
theorem Hn{f:Str}{fv:Value}(hv:iN f=some fv){A:Around}{s:Shared}{av:Addr→Prop}{v:Value}{d:PyData}(hh:pM f=true→A.handled=none)(hg:A.guards=some [])(hu:A.units+70 < cLine)(G:Gnd prog w mg mb base l av s)
  (r:Rep prog w s.heap av v d):YV prog w A s av (call fv [v]) (pD f d) :=
 Yd.ite2 (fun e=>by subst e;obtain rfl:=si hv;exact Gk r) fun _ =>
 Yd.ite2 (fun e=>by subst e;obtain rfl:=si hv;exact Gn (hh rfl) r) fun _ =>
 Yd.ite2 (fun e=>by subst e;obtain rfl:=si hv;exact Gr (hh rfl) r) fun _ =>
 Yd.ite2 (fun e=>by subst e;obtain rfl:=si hv;exact Gs (hh rfl) r) fun _ =>
 Yd.ite2 (fun e=>by subst e;obtain rfl:=si hv;exact Gu G.avlt r) fun _ =>
 Yd.ite2 (fun e=>by subst e;obtain rfl:=si hv;exact Ha (hh rfl) G r) fun _ =>
 Yd.ite2 (fun e=>by subst e;obtain rfl:=si hv;exact Gw r) fun _ =>
 Yd.ite2 (fun e=>by subst e;obtain rfl:=si hv;exact Gx r) fun _ =>
 Yd.ite2 (fun e=>by subst e;obtain rfl:=si hv;exact Gy r) fun _ =>
 Yd.ite2 (fun e=>by subst e;obtain rfl:=si hv;exact Hj hg hu r) fun _=>trivial
theorem Ho{f:Str}(h:iF f=true):∃ fv,iN f=some fv∧((∃ id,fv=.builtin id)∨∃ T,fv=.type T):=by
 unfold iF at h;simp only[Bool.or_eq_true,beq_iff_eq] at h;rcases h with ((((((((h | h) | h) | h) | h) | h) | h) | h) | h) | h<;>subst h
 all_goals first
  |exact⟨.builtin _,rfl,.inl ⟨_,rfl⟩⟩
  |exact⟨.type _,rfl,.inr ⟨_,rfl⟩⟩
theorem Hp{rec:Expr→R V}(hbad:∀ e,bad e=true→rec e=.no){f:Str}{a:Expr}{p pos:Pos}(hg:isG sc f=true)(hb:iF f=true)(h:aC prog w mg mb base n hd l sc σ a (rec a)) :
  aC prog w mg mb base n hd l sc σ (.Call (.Name f p) [a] [] pos) (fR rec hd f a):=by
 intro A env s av hA I β k fin Q E hf hq he;obtain⟨fv,hv,hfv⟩:=Ho hb;unfold fR at hf;refine bcs (hd&&pM f) (fun hn=>?_) fun hn=>?_
 ·try rewrite[hn]
  rw[hn] at hf;have hf:Fin (rb (rec a) fun v=>ofP (pD f (dOf v))) k fin:=hf;refine PySem.Call_name1 (eM (eN (hbad a) hf.b.ne)) (eP I hg hv (gO hfv (h A env s av hA I hf.b (fun v s₁ u k1 r h1=>?_) he)));exact Yd.fin (Hn hv (fun hne=>hA.handled (by rw[hne,Bool.and_true] at hn;exact hn)) hA.guards (ax0 hA.units) (I.gnd.k k1) (r.rep I.gnd.avlt)) ⟨h1,hf.2⟩ fun v s' u r e=>hq.step k1 r e
 ·try rewrite[hn]
  rw[hn] at hf;exact hf.no.elim
theorem iQ{M:Model}{A:Around}{id:String}{env:Env}{as:List Expr}{pos:Pos}{first:List Value}{Q:Value→Shared→Prop}{E:Value→Shared→Prop}{s:Shared}(hs:as.any bad=false)
  (h:wpAny M A (spliced (backTo pos (starEach as env))) (fun vs s₁=>wpAny M A (call (.builtin id) (first++vs)) Q E s₁) E s):wpAny M A (callWith pos (.builtin id) first (backTo pos (starEach as env)) []) Q E s :=
 Calls.callWith_builtin (qY hs) (qX hs h)
theorem qZ{u:V}{d:PyData}(h:gI u=.ok d):u=.fz d:=by
 cases u with
 |fz=>obtain rfl:=pi h;rfl
 |_=>exact pno h
noncomputable def RL(prog:Program)(w:World)(h:Heap)(av:Addr→Prop)(vs:List Value)(ds:List PyData):Prop :=
 vs.length=ds.length∧∀ (i:Nat) (v:Value) (d:PyData),vs[i]?=some v→ds[i]?=some d→Rep prog w h av v d
theorem RL.cons{h:Heap}{av:Addr→Prop}{vs:List Value}{d:PyData}{ds:List PyData}(r:RL prog w h av vs (d::ds)):∃ v vs',vs=v::vs'∧Rep prog w h av v d∧RL prog w h av vs' ds:=by
 cases vs with
 |nil=>cases r.1
 |cons v vs=>exact⟨v,vs,rfl,r.2 0 v d rfl rfl,Nat.succ.inj r.1,fun i v d e1 e2=>r.2 (i+1) v d e1 e2⟩
theorem RL.nil{h:Heap}{av:Addr→Prop}{vs:List Value}(r:RL prog w h av vs []):vs=[]:=List.length_eq_zero_iff.mp r.1
theorem Hq{A:Around}{s:Shared}{av:Addr→Prop}{vs:List Value}{us:List V}(hh:A.handled=none)(r:RL prog w s.heap av vs (bP us)):YV prog w A s av (call (.builtin "min") vs) (lV us):=by
 cases us with
 |nil=>exact trivial
 |cons a us =>
  cases us with
  |nil=>exact trivial
  |cons b us =>
   cases us with
   |cons=>exact trivial
   |nil =>
    obtain⟨v1,vs,rfl,r1,r⟩:=r.cons;obtain⟨v2,vs,rfl,r2,r⟩:=r.cons;obtain rfl:=r.nil;refine Yd.pureBind fun x hx=>Yd.pureBind fun y hy=>?_;cases qZ hx;cases qZ hy;cases x with
    |int x =>
     cases y with
     |int y =>
      obtain⟨t,rfl⟩:=(show Rep prog w s.heap av v1 (.int x) from r1).int_inv;obtain⟨u,rfl⟩:=(show Rep prog w s.heap av v2 (.int y) from r2).int_inv;refine fun Q E hq=>min_two_ints hh fun h' tk hk=>hq _ _ ⟨Kp.mk' hk,?_⟩;show Rep prog w _ av _ (.int (if y < x then y else x))
      split<;>exact .int _ _
     |_=>exact trivial
    |_=>exact trivial
theorem Hr{rec:Expr→R V}(hbad:∀ e,bad e=true→rec e=.no){as:List Expr}{p pos:Pos}(hg:isG sc "min" = true)(hns:as.any bad=false)(hh:hd=false)
  (h:∀ e∈as,aC prog w mg mb base n hd l sc σ e (rec e)):aC prog w mg mb base n hd l sc σ (.Call (.Name "min" p) as [] pos) (rb (evs rec as) fun vs=>ofP (lV vs)):=by
 intro A env s av hA I β k fin Q E hf hq he;refine wpAny_Call_NameR (eP I hg rfl (iQ hns (iP hbad hA h I hf.b (fun vs s₁ us k1 r1 r2 e1=>?_) he)));exact Yd.fin (Hq (hA.handled hh) ⟨r1,r2⟩) ⟨e1,hf.2⟩ fun v s' u r e=>hq.step k1 r e
theorem Hs{rec:Expr→R V}{a:Expr}{t:Str}{p p' pos:Pos}(hbad:∀ e,bad e=true→rec e=.no)(hg:isG sc "isinstance" = true)
  (ht:isG sc t=true) (h:aC prog w mg mb base n hd l sc σ a (rec a)):aC prog w mg mb base n hd l sc σ (.Call (.Name "isinstance" p) [a,.Name t p'] [] pos) (rb (rec a) fun v=>ofP (lW t (dOf v))):=by
 intro A env s av hA I β k fin Q E hf hq he;have hb:=eN (hbad a) hf.b.ne;refine wpAny_Call_NameR (eP I hg rfl (iQ (by show(bad a||false)=false;rw[hb];rfl) ?_));refine wpAny_items_cons (h A env s av hA I hf.b (fun v s₁ u k1 r h1=>wpAny_items_cons ?_ rfl) he) (eM hb);obtain⟨h1',h2,h3,h4,h5,h6⟩:=Gf (prog:=prog) (w:=w) (A:=A) (r.rep I.gnd.avlt);have fin:∀ {T:String} {b},iN t=some (.type T)→gM prog w A s₁ v T b→Yd (fun Q E=>wpAny (model prog w) A (eval (.Name t p') env) (fun c s₂=>wpAny (model prog w) A (call (.builtin "isinstance") [v,c]) Q E s₂) E s₁) (fun v s' u=>Kp s₁ s'∧bB prog w s₁ s'.heap av v u) (fz (.bool b)) :=
  fun hT hc Q E hq=>eP (I.k k1) ht hT (hc _ _ fun tk=>hq _ _ ⟨Kp.tok' s₁ tk,.bool _⟩)
 have key:Yd (fun Q E=>wpAny (model prog w) A (eval (.Name t p') env) (fun c s₂=>wpAny (model prog w) A (call (.builtin "isinstance") [v,c]) Q E s₂) E s₁) (fun v s' u=>Kp s₁ s'∧bB prog w s₁ s'.heap av v u) (lW t (dOf u)) :=
  Yd.ite2 (fun e=>fin (e▸rfl) h1') fun _=>Yd.ite2 (fun e=>fin (e▸rfl) h2) fun _=>Yd.ite2 (fun e=>fin (e▸rfl) h3) fun _=>Yd.ite2 (fun e=>fin (e▸rfl) h4) fun _=>Yd.ite2 (fun e=>fin (e▸rfl) h5) fun _=>Yd.ite2 (fun e=>fin (e▸rfl) h6) fun _=>trivial
 exact wpAny_mono (key.fin (Q:=Q) ⟨h1,hf.2⟩ fun v s' u r e=>hq.step k1 r e) (fun c s₂ h₂=>wpAny_items_nil h₂) fun _ _ x=>x
theorem Ht{rec:Expr→R V}{as:List Expr}{p p' pos pos':Pos}(hbad:∀ e,bad e=true→rec e=.no)(hg:isG sc "len" = true)(hh:hd=false)(h:∀ e∈as,aC prog w mg mb base n hd l sc σ e (rec e)) :
  aC prog w mg mb base n hd l sc σ (.Call (.Name "len" p) [.Call (.Name "set" p') as [] pos'] [] pos) (uW rec sc as):=by
 intro A env s av hA I β k fin Q E hf hq he;cases as with
 |nil=>exact hf.no.elim
 |cons x r =>
  cases r with
  |cons=>exact hf.no.elim
  |nil =>
   obtain⟨hc,hf⟩:=Fin.ite hf;refine PySem.Call_name1 rfl (eP I hg rfl (gO (.inl ⟨_,rfl⟩) (PySem.Call_name1 (eM (eN (hbad x) hf.b.ne)) (eP I hc rfl (gO (.inr ⟨_,rfl⟩) (h x List.mem_cons_self A env s av hA I hf.b (fun v s₁ u k1 r h1=>?_) he))))));exact Yd.fin (He (hA.handled hh) (r.rep I.gnd.avlt)) ⟨h1,hf.2⟩ fun v s' u r e=>hq.step k1 r e
end
end Mine
namespace Mine
open PySem
section
variable {prog:Program} {w:World} {mg mb:Str→Option Value} {base:Heap} {n:Nat} {hd:Bool} {l:List Env} {sc:Scope} {σ:aA}
theorem Rep.getD{h:Heap}{av:Addr→Prop}{ds:List (PyData×PyData)}{kvs:List (Str×Value)}{x:Str}{dv:Value}{dd:PyData}(h5:ds.map (·.1)=kvs.map (fun kv=>PyData.str kv.1))
  (h6:∀ (i:Nat) (kv:Str×Value) (d:PyData×PyData),kvs[i]?=some kv→ds[i]?=some d→Rep prog w h av kv.2 d.2) (hd:Rep prog w h av dv dd):Rep prog w h av ((valueAt kvs x).getD dv) ((bS ds x).getD dd):=by
 rcases mP x h5 with ⟨e1,e2⟩ | ⟨i,v,d,e1,e2,e3,e4⟩
 ·rw[e1,e2];exact hd
 ·rw[e1,e2];exact h6 i _ _ e3 e4
theorem Hu{A:Around}{s:Shared}{av:Addr→Prop}{o:Value}{l:List (PyData×PyData)}{vs:List Value}{k:PyData}{ds:List PyData}(ro:Rep prog w s.heap av o (.dict l))(r:RL prog w s.heap av vs (k::ds)) :
  YV prog w A s av (call (.builtin "dict.get") (o::vs)) (uP l ds k):=by
 obtain⟨v,vs,rfl,rk,r1⟩:=r.cons;clear r;cases k with
 |str k =>
  obtain⟨t,rfl,hk⟩:=rk.str_inv;obtain⟨a,kvs,rfl,_,h2,h3,h4,h5,h6⟩:=ro.dict_inv;cases ds with
  |nil =>
   obtain rfl:=r1.nil;exact fun Q E hq=>call_meetsIn F.slot_dict_get h2.typeIs F.entry_dict_get (F.args_dict_get_2 _ _) (meets_dict_get (strKind prog w) a (dQ k t) h4) ⟨_,h2.mapOf,hq _ _ ⟨Kp.tok' s _,Rep.getD h5 h6 .none⟩⟩
  |cons d ds =>
   obtain⟨u,vs,rfl,ru,r2⟩:=r1.cons;cases ds with
   |cons=>exact trivial
   |nil =>
    obtain rfl:=r2.nil;exact fun Q E hq=>call_meetsIn F.slot_dict_get h2.typeIs F.entry_dict_get (F.args_dict_get_3 _ _ _) (meets_dict_get_default (strKind prog w) a (dQ k t) h4 u) ⟨_,h2.mapOf,hq _ _ ⟨Kp.tok' s _,Rep.getD h5 h6 ru⟩⟩
 |_=>exact trivial
theorem Hv{ss:List Str}{ts:List Tok}(e:ts.length=ss.length):strValues (ss.zip ts)=List.zipWith (fun x t=>Value.str x t) ss ts∧(ss.zip ts).map (·.1)=ss :=
 ⟨by unfold strValues;rw[List.zip,List.map_zipWith],List.map_fst_zip (Nat.le_of_eq e.symm)⟩
theorem Hw{A:Around}{s:Shared}{av:Addr→Prop}{o:Value}{x:Str}{vs:List Value}{k:PyData}{ds:List PyData}(ro:Rep prog w s.heap av o (.str x))(r:RL prog w s.heap av vs (k::ds)) :
  YV prog w A s av (call (.builtin "str.join") (o::vs)) (uQ x ds k):=by
 obtain⟨t,rfl,hx⟩:=ro.str_inv;obtain⟨v,vs,rfl,rk,r1⟩:=r.cons;clear r;cases ds with
 |cons=>exact trivial
 |nil =>
  obtain rfl:=r1.nil;cases k with
  |list l =>
   obtain⟨a,vl,rfl,h1,h2,h3,h4,h5⟩:=rk.list_inv;refine Yd.optBind fun ss hs=>Yd.ite fun hok=>?_;obtain⟨ts,e1,rfl,e3⟩:=gL h3 h5 hs;obtain⟨z1,z2⟩:=Hv e1;exact fun Q E hq=>SC.join (l:=ss.zip ts) (by rw[z1];exact h2.isList) z2 hok fun t' k=>hq _ _ ⟨Kp.tok' s _,.str _ _ (joinOk_length hok)⟩
  |_=>exact trivial
theorem xA{s:Shared}{a:Addr}{kvs:List (Str×Value)}(h2:s.heap.DictOf (strKind prog w) a kvs):∀ b,Value.ref a=.ref b→∃ ob,s.heap.get? b=some ob∧ob.dict=none:=by
 intro b hb;cases hb;obtain⟨ob,es,ep,e,c,_⟩:=h2;exact⟨ob,e,c.2.1⟩
theorem Hx{m:Str}{od:PyData}(hm:mOk m od=true){s:Shared}{av:Addr→Prop}{o:Value}(ro:Rep prog w s.heap av o od):∃ T id,PlainAttrs T∧Slot T m id∧typeOf (.builtin id)=pure (.type "method_descriptor") ∧
  s.TypeIs o T∧(∀ a,o=.ref a→∃ ob,s.heap.get? a=some ob∧ob.dict=none) ∧
  ∀ (A:Around) (s':Shared) (vs:List Value) (ds:List PyData),Rep prog w s'.heap av o od→RL prog w s'.heap av vs ds→YV prog w A s' av (call (.builtin id) (o::vs)) (fC od ds):=by
 cases od with
 |dict l =>
  obtain rfl:=of_decide_eq_true hm;obtain⟨a,kvs,rfl,_,h2,_⟩:=ro.dict_inv;refine⟨"dict", "dict.get", F.plainAttrs_dict,F.slot_dict_get,by kernel_rfl,h2.typeIs,xA h2,fun A s' vs ds ro r=>?_⟩;cases ds with
  |nil=>exact trivial
  |cons k ds=>exact Hu ro r
 |str x =>
  obtain rfl:=of_decide_eq_true hm;obtain⟨t,rfl,_⟩:=ro.str_inv;refine⟨"str", "str.join", F.plainAttrs_str,F.slot_str_join,by kernel_rfl,rfl,fun a ha=>by (cases ha),fun A s' vs ds ro r=>?_⟩;cases ds with
  |nil=>exact trivial
  |cons k ds=>exact Hw ro r
 |_=>exact bft hm
theorem xB{o:Expr}(h:lX o=true)(name:Str)(env:Env):attributeBase o name env (eval o env)=eval o env:=by
 cases o with
 |Call f as kws q =>
  cases f with
  |Name=>exact bft h
  |_=>rfl
 |_=>rfl
theorem mX{as:List Expr}(hs:as.any bad=false)(hl:as.length≤3)(pos:Pos)(env:Env):((backTo pos (starEach as env)).all (fun x=>!x.1)&&(backToKw pos (keywordEach [] env)).all (fun x=>x.1.isSome)
   && decide (as.length+([]:List Keyword).length+(if ([]:List Keyword).isEmpty then 0 else 1) < 30))=true:=by
 have h1:=qY (env:=env) (pos:=pos) hs;have h2:(backTo pos (starEach as env)).all (fun x=>!x.1)=true:=by
  rw[List.all_eq_true];intro x hx;have:=List.any_eq_false.mp h1 x hx;simpa using this
 rw[h2];have:(backToKw pos (keywordEach [] env)).all (fun x=>x.1.isSome)=true:=rfl;rw[this];simp;exact Bv hl
theorem Hy{rec:Expr→R V}(hbad:∀ e,bad e=true→rec e=.no){o:Expr}{m:Str}{as:List Expr}{ap cp:Pos}(ho:aC prog w mg mb base n hd l sc σ o (rec o))
  (h:∀ e∈as,aC prog w mg mb base n hd l sc σ e (rec e)):aC prog w mg mb base n hd l sc σ (.Call (.Attribute o m ap) as [] cp) (jY rec o m ap as cp):=by
 intro A env s av hA I β k fin Q E hf hq he;unfold jY at hf
 by_cases hc:m = "items" ∨ lX o=false∨(ap.endLine==cp.line)=false∨as.any bad=true∨3 < as.length
 ·rw[if_pos hc] at hf;exact hf.no.elim
 rw[if_neg hc] at hf;simp only[not_or,Bool.not_eq_true,Bool.not_eq_false,Nat.not_lt] at hc;obtain⟨_,c2,c3,c4,c5⟩:=hc;refine wpAny_Call_method_lateS (xB c2 m env) (mX c4 c5 cp env) c3 (ho A env s av hA I hf.b (fun ov s₁ u k1 r h1=>?_) he);obtain⟨hm,hf1⟩:=Fin.ite ⟨h1,hf.2⟩;have ro:=r.rep I.gnd.avlt;obtain⟨T,id,t1,t2,t3,q1,q2,t5⟩:=Hx (prog:=prog) (w:=w) hm ro;refine⟨T,id,t1,t2,t3,q1,q2,iQ c4 (iP hbad hA h (I.k k1) hf1.b (fun vs s₂ us k2 r1 r2 e2=>?_) (he.back k1))⟩;exact Yd.fin (t5 A s₂ vs _ (ro.k I.gnd.fav k2) ⟨r1,r2⟩) ⟨e2,hf.2⟩ fun v s' u r e=>hq.step (k1.tr k2) r e
theorem Hz{rec:Expr→R V}{o:Expr}{as:List Expr}{p pos ap cp:Pos}(hg:isG sc "list" = true)(hh:hd=false)(h:aC prog w mg mb base n hd l sc σ o (rec o)) :
  aC prog w mg mb base n hd l sc σ (.Call (.Name "list" p) [.Call (.Attribute o "items" ap) as [] cp] [] pos) (uX rec o ap cp as):=by
 intro A env s av hA I β k fin Q E hf hq he;cases as with
 |cons=>exact hf.no.elim
 |nil =>
  obtain⟨hc,hf⟩:=Fin.ite hf;refine PySem.Call_name1 rfl (eP I hg rfl (gO (.inr ⟨_,rfl⟩) (wpAny_Call_method_lateS (xB hc.1 "items" env) (mX rfl (Nat.zero_le _) cp env) hc.2 (h A env s av hA I hf.b (fun ov s₁ u k1 r h1=>?_) he))));have ro:=r.rep I.gnd.avlt;generalize dOf u=d at ro h1;cases d with
  |dict l =>
   obtain⟨a,kvs,rfl,_,h2,_⟩:=ro.dict_inv;exact⟨"dict", "dict.items", F.plainAttrs_dict,F.slot_dict_items,by kernel_rfl,h2.typeIs,xA h2,iQ rfl (wpAny_items_nil (Yd.fin (Hb (hA.handled hh) (I.gnd.k k1).avlt ro) ⟨h1,hf.2⟩ fun v s' u r e=>hq.step k1 r e))⟩
  |_=>exact(Fin.no ⟨h1,hf.2⟩).elim
theorem H0{rec:Expr→R V}(hbad:∀ e,bad e=true→rec e=.no){f:Str}{a:Expr}{p pos:Pos}(hg:isG sc f=true)(hb:iF f=true)(h:aC prog w mg mb base n hd l sc σ a (rec a))
  (hsub:∀ g as kws q,a=.Call g as kws q→(∀ x∈as,aC prog w mg mb base n hd l sc σ x (rec x))∧∀ o m ap,g=.Attribute o m ap→aC prog w mg mb base n hd l sc σ o (rec o)) :
  aC prog w mg mb base n hd l sc σ (.Call (.Name f p) [a] [] pos) (pN rec hd sc f a):=by
 have B:=Hp (p:=p) (pos:=pos) hbad hg hb h;unfold pN;cases hv:gH a with
 |some c =>
  obtain⟨g,as,kws,cp⟩:=c;have ea:a=.Call g as kws cp:=qG hv;obtain⟨s1,s2⟩:=hsub g as kws cp ea;show aC prog w mg mb base n hd l sc σ _ (u0 rec hd sc f a as kws cp (vw g));cases hw:vw g with
  |name g' =>
   obtain⟨gp,eg⟩:=cX hw;intro A env s av hA I β k fin Q E hf hq he;replace hf:Fin (if g' = "set" then uY rec hd sc f as kws else fR rec hd f a) k fin:=hf
   by_cases e:g' = "set"
   ·rw[if_pos e] at hf;obtain⟨c,hf1⟩:=Fin.ite hf;clear hf;cases kws with
    |cons=>exact hf1.no.elim
    |nil =>
     obtain⟨rfl,c2⟩:=c;subst e eg ea;exact Ht hbad hg c2 s1 A env s av hA I hf1 hq he
   ·rw[if_neg e] at hf;exact B A env s av hA I hf hq he
  |attr o m ap =>
   have eg:g=_:=cX hw;intro A env s av hA I β k fin Q E hf hq he;replace hf:Fin (if m = "items" then uZ rec hd f o ap cp as kws else fR rec hd f a) k fin:=hf
   by_cases e:m = "items"
   ·rw[if_pos e] at hf;obtain⟨c,hf1⟩:=Fin.ite hf;clear hf;cases kws with
    |cons=>exact hf1.no.elim
    |nil =>
     obtain⟨rfl,c2⟩:=c;subst e eg ea;exact Hz hg c2 (s2 o _ ap rfl) A env s av hA I hf1 hq he
   ·rw[if_neg e] at hf;exact B A env s av hA I hf hq he
  |_=>exact B
 |none=>exact B
theorem H5{rec:Expr→R V}(hbad:∀ e,bad e=true→rec e=.no){as:List Expr}{p pos:Pos}(hg:isG sc "isinstance" = true)(h:∀ e∈as,aC prog w mg mb base n hd l sc σ e (rec e)) :
  aC prog w mg mb base n hd l sc σ (.Call (.Name "isinstance" p) as [] pos) (u3 rec sc as):=by
 intro A env s av hA I β k fin Q E hf hq he;cases as with
 |nil=>exact hf.no.elim
 |cons a r =>
  cases r with
  |nil=>exact hf.no.elim
  |cons b r =>
   replace hf:Fin (u1 rec sc a r (bD b)) k fin:=hf;refine ocs (bD b) (fun hn=>?_) fun t hn=>?_
   ·try rewrite[hn]
    rw[hn] at hf;exact hf.no.elim
   ·try rewrite[hn]
    rw[hn] at hf;cases r with
    |cons=>exact hf.no.elim
    |nil =>
     obtain⟨ht,hf1⟩:=Fin.ite hf;obtain⟨q,rfl⟩:=c9 hn;exact Hs hbad hg ht (h a List.mem_cons_self) A env s av hA I hf1 hq he
theorem H6{C:Ctx}(hK:KSound prog w mg mb base n C){rec:Expr→R V}(hbad:∀ e,bad e=true→rec e=.no){f:Str}{as:List Expr}{p pos:Pos}
  (h:∀ e∈as,aC prog w mg mb base n C.hd l sc σ e (rec e))
  (hsub:∀ a∈as,∀ g bs kws q,a=.Call g bs kws q→(∀ x∈bs,aC prog w mg mb base n C.hd l sc σ x (rec x))∧∀ o m ap,g=.Attribute o m ap→aC prog w mg mb base n C.hd l sc σ o (rec o)):aC prog w mg mb base n C.hd l sc σ (.Call (.Name f p) as [] pos) (lY rec C sc σ f as):=by
 intro A env s av hA I β k fin Q E hf0 hq he;obtain⟨hg,hf⟩:=Fin.ite hf0;clear hf0
 by_cases e:f = "isinstance"
 ·rw[if_pos e] at hf;subst e;exact H5 hbad hg h A env s av hA I hf hq he
 rw[if_neg e] at hf
 by_cases e:f = "min"
 ·rw[if_pos e] at hf
  by_cases c:as.any bad=true∨C.hd=true
  ·rw[if_pos c] at hf;exact hf.no.elim
  ·rw[if_neg c] at hf;simp only[not_or,Bool.not_eq_true] at c;subst e;exact Hr hbad hg c.1 c.2 h A env s av hA I hf hq he
 rw[if_neg e] at hf
 by_cases hb:iF f=true
 ·rw[if_pos hb] at hf;cases as with
  |nil=>exact hf.no.elim
  |cons a r =>
   cases r with
   |cons=>exact hf.no.elim
   |nil=>exact H0 hbad hg hb (h a List.mem_cons_self) (hsub a List.mem_cons_self) A env s av hA I hf hq he
 rw[if_neg hb] at hf
 by_cases c:as.any bad=true∨C.has f=false
 ·rw[if_pos c] at hf;exact hf.no.elim
 ·rw[if_neg c] at hf;simp only[not_or,Bool.not_eq_true,Bool.not_eq_false] at c;exact Hm hK hbad hg c.1 c.2 h A env s av hA I hf hq he
end
end Mine
namespace Mine
open PySem
section
variable {prog:Program} {w:World} {mg mb:Str→Option Value} {base:Heap} {n:Nat} {hd:Bool} {l:List Env} {sc:Scope} {σ:aA}
noncomputable def PR(prog:Program)(w:World)(h:Heap)(av:Addr→Prop):List (Value×Value)→List (PyData×PyData)→Prop
 | [],[]=>True
 |kv::r,d::t=>Rep prog w h av kv.1 d.1∧Rep prog w h av kv.2 d.2∧PR prog w h av r t
 |_,_=>False
noncomputable def mY(env:Env)(pos:Pos):List (Option Expr)→List Expr→List (Sem Value×Sem Value)
 |some k::ks,e::es=>(eval k env,(do let x ← eval e env;standAt pos;pure x))::mY env pos ks es
 |_,_=>[]
theorem xC(env:Env)(pos:Pos):∀ {ks:List (Option Expr)} {es:List Expr},ks.all Option.isSome=true→ks.length=es.length →
  (evalEachOpt ks env).zip ((evalEach es env).map fun v=>do let x ← v;standAt pos;pure x)=(mY env pos ks es).map (fun p=>(some p.1,p.2))∧(mY env pos ks es).length=es.length
 | [],[],_,_=>⟨rfl,rfl⟩
 | [],_::_,_,h=>by cases h
 |_::_,[],_,h=>by cases h
 |none::ks,e::es,h,_=>by exact bft h
 |some k::ks,e::es,h,h'=>by
  obtain⟨i1,i2⟩:=xC env pos (ks:=ks) (es:=es) h (Nat.succ.inj h');exact⟨congrArg ((some (eval k env),_)::·) i1,congrArg Nat.succ i2⟩
theorem H7{rec:Expr→R V}{env:Env}{pos:Pos}{A:Around}{av:Addr→Prop}(hA:Room n hd l A):∀ {ks:List (Option Expr)} {es:List Expr} {s:Shared},(∀ k,some k∈ks→aC prog w mg mb base n hd l sc σ k (rec k)) →
  (∀ e∈es,aC prog w mg mb base n hd l sc σ e (rec e))→Inv0 prog w mg mb base l env sc σ av s →
  ∀ {β:Type} {k:List (PyData×PyData)→R β} {fin:R β} {Q:List (Value×Value)→Shared→Prop} {E:Value→Shared→Prop},Fin (lP rec ks es) k fin→(∀ vs s' ds,K l s s'→PR prog w s'.heap av vs ds→ds.length=es.length→k ds=fin→Q vs s')→EH prog w mg l s av fin E →
   wpAny (model prog w) A (evalPairs (mY env pos ks es)) Q E s
 := by
 intro ks
 induction ks with
 |nil =>
  intro es s _ _ _ β k fin Q E hf hq _;cases es with
  |nil=>exact evalPairs_nil (hq _ _ [] (K.rf l s) trivial rfl hf.ok)
  |cons=>exact hf.no.elim
 |cons ko ks ih =>
  intro es s hk he I β k fin Q E hf hq hE;cases ko with
  |none =>
   cases es with
   |nil=>exact hf.no.elim
   |cons=>exact hf.no.elim
  |some kx =>
   cases es with
   |nil=>exact hf.no.elim
   |cons e es =>
    refine evalPairs_cons (hk kx List.mem_cons_self A env s av hA I (Fin.b hf) (fun kv s₁ u k1 r h1=>?_) hE);have I1:=I.k k1;refine wpAny_bind (he e List.mem_cons_self A env s₁ av hA I1 (Fin.b ⟨h1,hf.2⟩) (fun vv s₂ u2 k2 r2 h2=>wpAny_bind (wpAny_standAt (wpAny_pure ?_))) (hE.back k1));refine ih (fun x hx=>hk x (List.mem_cons_of_mem _ hx)) (fun x hx=>he x (List.mem_cons_of_mem _ hx)) (I1.k k2) (Fin.b ⟨h2,hf.2⟩) (fun vs s₃ ds k3 r3 hl h3=>?_) (hE.back (k1.tr k2));exact hq _ _ ((dOf u,dOf u2)::ds) ((k1.tr k2).tr k3) ⟨((r.rep I.gnd.avlt).k I.gnd.fav k2).k I.gnd.fav k3,(r2.rep I1.gnd.avlt).k I.gnd.fav k3,r3⟩ (congrArg Nat.succ hl) h3
theorem cH.mono{h h':Heap}{av av':Addr→Prop}(hk:∀ b o,h.get? b=some o→h'.get? b=some o)(ha:∀ b o,h.get? b=some o→av' b→av b){v:Value}{u:V}(r:cH prog w mg l h av v u):cH prog w mg l h' av' v u:=by
 cases u with
 |fz d=>exact(show Rep prog w h av v d from r).mono (fun b o _ e=>hk b o e) ha
 |own d=>obtain⟨a,e,f,r⟩:=r;exact⟨a,e,f,r.mono (fun b o _ e=>hk b o e) ha fun o e=>hk _ o e⟩
 |ex x=>obtain⟨e,h,r⟩:=r;exact⟨e,h,r.mono (fun b o _ e=>hk b o e) ha⟩
theorem a9.keeps{env:Env}{h h':Heap}{x:Str}{u:Value}(v:a9 env h x u)(hk:∀ b o,h.get? b=some o→h'.get? b=some o):a9 env h' x u:=by
 rcases v with ⟨k,m,hn,e⟩ | ⟨k,c,e,hc⟩
 ·exact .inl ⟨k,m,hn.keeps hk,e⟩
 ·exact .inr ⟨k,c,e,hc.keeps hk⟩
theorem Gnd.apart{av:Addr→Prop}{s:Shared}(G:Gnd prog w mg mb base l av s)(o:Obj)(ho:o.isFreed=false):Gnd prog w mg mb base l (fun b=>av b∨b=s.heap.objs.size) { s with heap:=s.heap.push o } where
 glo:=G.glo
 stay:=fun b o e=>Heap.get?_push_of_some _ (G.stay b o e)
 ff:=(G.k (K.of (Kp.push' s o))).ff
 fav:=fun b f=>.inl (G.fav b f)
 avlt:=fun b hb=>hb.elim (fun hb=>by obtain⟨o,e⟩:=G.avlt b hb;exact⟨o,Heap.get?_push_of_some _ e⟩) fun hb=>⟨o,hb▸cY _ _ ho⟩
 avS:=.inl G.avS
theorem Inv0.apart{env:Env}{av:Addr→Prop}{s:Shared}(I:Inv0 prog w mg mb base l env sc σ av s)(o:Obj)(ho:o.isFreed=false) :
  Inv0 prog w mg mb base l env sc σ (fun b=>av b∨b=s.heap.objs.size) { s with heap:=s.heap.push o } :=
 { I with
  gnd:=I.gnd.apart o ho
  get:=fun x v hl e=>let ⟨u,h1,h2⟩:=I.get x v hl e
   ⟨u,h1.keeps fun b o e=>Heap.get?_push_of_some _ e,h2.mono (fun b o e=>Heap.get?_push_of_some _ e) fun b o e hb=>hb.elim id fun hb=>by (rw[hb,bZ] at e;exact ns e)⟩ }
theorem ExAt.less{h:Heap}{av av':Addr→Prop}(ha:∀ b,av' b→av b){e:Addr}{x:X}(r:ExAt prog w mg h av e x):ExAt prog w mg h av' e x:=r.mono (fun _ _ _ e=>e) fun b _ _ x=>ha b x
theorem EH.apart{β:Type}{s:Shared}{av:Addr→Prop}{fin:R β}{E:Value→Shared→Prop}(h:EH prog w mg l s av fin E)(o:Obj):EH prog w mg l { s with heap:=s.heap.push o } (fun b=>av b∨b=s.heap.objs.size) fin E :=
 fun x v s'' e f=>h x v s'' e (by obtain⟨k',e,h1,h2,h3,h4⟩:=f;exact Fly.back (K.of (Kp.push' s o)) ⟨k',e,h1,h2,h3.less fun _ x=>.inl x,h4⟩)
theorem H8{h:Heap}{av:Addr→Prop}:∀ {vs:List (Value×Value)} {ds:List (PyData×PyData)} {ps:List (Str×PyData)},PR prog w h av vs ds→keys? ds=some ps→(∃ kvs,Carries (strKind prog w) vs kvs∧PS prog w h av kvs ps)∧ps.length=ds.length
 := by
 intro vs
 induction vs with
 |nil =>
  intro ds ps x e;cases ds with
  |nil=>obtain rfl:=si e;exact⟨⟨[],trivial,trivial⟩,rfl⟩
  |cons=>exact x.elim
 |cons p vs ih =>
  obtain⟨key,v⟩:=p;intro ds ps x e;cases ds with
  |nil=>exact x.elim
  |cons q ds =>
   obtain⟨dk,d⟩:=q;obtain⟨x1,x2,x3⟩:=x;cases dk with
   |str k =>
    obtain⟨t,e1,hk⟩:=x1.str_inv;obtain rfl:key=.str k t:=e1;obtain⟨ps',e',rfl⟩:=Option.map_eq_some_iff.mp (show(keys? ds).map ((k,d)::·)=some ps from e);obtain⟨⟨kvs,y1,y2⟩,y3⟩:=ih x3 e';exact⟨⟨(k,v)::kvs,⟨dQ k t,rfl,y1⟩,rfl,hk,x2,y2⟩,congrArg Nat.succ y3⟩
   |_=>exact ns e
theorem K.but{s s₁:Shared}{o:Obj}{h':Heap}{tk:Nat}(k:K l { s with heap:=s.heap.push o } s₁)(hs:Heap.SameBut s.heap.objs.size s₁.heap h'):K l s { s₁ with heap:=h',toks:=tk }:=by
 obtain⟨hh,tt,rfl,kk,uu⟩:=k;have ne:∀ b o',s.heap.get? b=some o'→b≠s.heap.objs.size:=fun b o' e x=>by rw[x,bZ] at e;exact ns e
 refine⟨h',tk,rfl,fun b o' f e=>?_,fun b o' e=>?_⟩
 ·rw[hs.2 b (ne b o' e)];exact kk b o' f (Heap.get?_push_of_some _ e)
 ·rw[hs.2 b (ne b o' e)];exact uu b o' (Heap.get?_push_of_some _ e)
theorem H9{h h':Heap}{D:Addr}{av:Addr→Prop}(hs:Heap.SameBut D h h'):∀ b o,¬ (av b∨b=D)→h.get? b=some o→h'.get? b=some o:=fun b o hb e=>by
 rw[hs.2 b (fun x=>hb (.inr x))];exact e
theorem Ia{rec:Expr→R V}{ks:List (Option Expr)}{es:List Expr}{pos:Pos}(hk:∀ k,some k∈ks→aC prog w mg mb base n hd l sc σ k (rec k))(he:∀ e∈es,aC prog w mg mb base n hd l sc σ e (rec e)) :
  aC prog w mg mb base n hd l sc σ (.Dict ks es pos) (if ks.all Option.isSome=true∧ks.length=es.length∧es.length≤15 then rb (lP rec ks es) fun l=>ofP (iG l) else .no):=by
 intro A env s av hA I β k fin Q E hf hq hE;obtain⟨⟨c1,c2,c3⟩,hf⟩:=Fin.ite hf;obtain⟨g1,g2⟩:=xC env pos c1 c2;cases es with
 |nil =>
  obtain rfl:ks=[]:=List.length_eq_zero_iff.mp c2;exact wpAny_Dict_empty (hq.step (u:=.own (.dict [])) (K.rf l s) (wT (kvs:=[]) (ps:=[]) (Kp.rfl' s) (Kp.push' s _) (bZ _) (mU I.gnd) (Heap.DictOf.new s.heap) (Nat.zero_le _) trivial) hf.1)
 |cons e es =>
  refine wpAny_Dict_pairs (knd:=strKind prog w) g1 (fun h=>by rw[h] at g2;cases g2) (g2.symm▸c3) (H7 hA hk he (I.apart _ rfl) hf.b (fun vs s₁ ds k1 r hl h1=>?_) (hE.apart _));obtain⟨v,e1,e2⟩:=Fin.p ⟨h1,hf.2⟩;unfold iG at e1;refine ocs (keys? ds) (fun hds=>?_) fun ps hds=>?_
  ·try rewrite[hds]
   rw[hds] at e1;exact pno e1
  ·try rewrite[hds]
   rw[hds] at e1;obtain rfl:=pi e1;obtain⟨⟨kvs,q1,q2⟩,q3⟩:=H8 r hds;have hd0:s₁.heap.DictOf (strKind prog w) s.heap.objs.size []:=by
    obtain⟨o,es,ep,e,r⟩:=Heap.DictOf.new (knd:=strKind prog w) s.heap;exact⟨o,es,ep,k1.at (fun f=>by obtain⟨o,e⟩:=I.gnd.avlt _ (I.gnd.fav _ f);rw[bZ] at e;exact ns e) e,r⟩
   refine⟨kvs,q1,hd0,fun h' hd hs=>hq _ _ (.own (.dict (cW ps []))) (K.but k1 hs) ?_ e2⟩;obtain⟨y1,y2⟩:=KV.sets q2 (acc:=[]) List.nodup_nil (show KV prog w s₁.heap _ [] [] from trivial) nofun;have hkv:=(y1.mono (h':=h') (av':=fun b=>av b∨b=s.heap.objs.size) (H9 hs) fun _ _ _ x=>x).out;refine⟨s.heap.objs.size,rfl,bZ _,merged [] kvs,hd,⟨Nat.le_trans (merged_length_le [] kvs) ?_,y2⟩,mU I.gnd,hkv.1,hkv.2⟩;rw[q2.length,q3,hl];exact Nat.le_trans (by simpa using c3) (by decide:15≤sizeLine)
end
end Mine
namespace Mine
open PySem
section
variable {prog:Program} {w:World} {mg mb:Str→Option Value} {base:Heap} {n:Nat} {hd:Bool} {l:List Env} {sc:Scope} {σ:aA}
structure Src(prog:Program)(w:World)(A:Around)(h0:Heap)(av0:Addr→Prop)(target:Expr)(it:Value)(wr:Addr→Prop)(St:Nat→Heap→Prop)(ds:List PyData):Prop where
 live:∀ i h,St i h→∀ b,wr b→∃ o,h.get? b=some o
 frame:∀ i h h',St i h→(∀ b o,wr b→h.get? b=some o→h'.get? b=some o)→(∀ b o,h0.get? b=some o→¬ av0 b→h'.get? b=some o)→St i h'
 item:∀ i d (s:Shared) (E:Value→Shared→Prop) (Q:Value→Shared→Prop),ds[i]?=some d→St i s.heap →
  (∀ v h' tk,(∀ b o,¬ wr b→s.heap.get? b=some o→h'.get? b=some o)→St (i+1) h' →
   (∀ avn:Addr→Prop,(∀ b,avn b→∃ o,s.heap.get? b=some o)→(∀ b o,h0.get? b=some o→avn b→av0 b)→Rep prog w h' avn v d)→Q v { s with heap:=h',toks:=tk }) →
  wpAny (model prog w) A (pyNext it) (fun r s₁=>match r with | none=>False | some v=>wpAny (model prog w) A (letOwnedTupleGo target it v) (fun _ s₂=>Q v s₂) E s₁) E s
 done:∀ (s:Shared) (E:Value→Shared→Prop) (Q:Shared→Prop),St ds.length s.heap→(∀ h' tk,(∀ b o,¬ wr b→s.heap.get? b=some o→h'.get? b=some o)→Q { s with heap:=h',toks:=tk }) →
  wpAny (model prog w) A (pyNext it) (fun r s₁=>match r with | none=>Q s₁ | some _=>False) E s
 self:∀ i (s:Shared) (Q:Value→Shared→Prop) (E:Value→Shared→Prop),St i s.heap→Q it s→wpAny (model prog w) A (pyIter it) Q E s
noncomputable def rA(n:String):Bool:=["enumerate", "zip", "dict_itemiterator", "dict_reverseitemiterator", "odict_iterator", "itertools.zip_longest", "itertools.pairwise"].contains n
theorem Ib{M:Model}{A:Around}{E:Value→Shared→Prop}{s:Shared}{target:Expr}{I:Addr}{v:Value}{o:Obj}{n:String}{Q:Unit→Shared→Prop}(hI:s.heap.get? I=some o)(hc:o.cls=.type n)(hn:rA n=false)(h:Q () s) :
  wpAny M A (letOwnedTupleGo target (.ref I) v) Q E s:=by
 have key:wpAny M A (match (Value.ref I,v) with
  | (.ref r,.ref a)=>(do
   let o ← load r
   match o.cls,o.data with
   | .type n,.fields vs=>if ["enumerate", "zip", "dict_itemiterator", "dict_reverseitemiterator", "odict_iterator", "itertools.zip_longest", "itertools.pairwise"].contains n&&vs[0]?==some (rawInt a) then do
     rule "for.unpacks-the-owned-tuple"; updateField r 0 .none else pure ()
   |_,_=>pure ():Sem Unit)
  |_=>pure ()) Q E s:=by
  cases v with
  |ref a =>
   refine wpAny_bind (wpAny_load hI ?_);rw[hc];cases o.data<;>first | exact wpAny_pure h | skip;have:["enumerate", "zip", "dict_itemiterator", "dict_reverseitemiterator", "odict_iterator", "itertools.zip_longest", "itertools.pairwise"].contains n=false:=hn;simp only[this,Bool.false_and,Bool.false_eq_true,if_false];exact wpAny_pure h
  |_=>exact wpAny_pure h
 cases target with
 |Tuple=>exact key
 |List=>exact key
 |_=>exact wpAny_pure h
theorem rB{α:Type}{ds:List α}{i:Nat}{d:α}(h:ds[i]?=some d):i < ds.length:=(List.getElem?_eq_some_iff.mp h).1
theorem Src.ofWalks{A:Around}{h0:Heap}{av0:Addr→Prop}{target:Expr}{I:Addr}{fp:List Addr}{ds:List PyData}{n:Nat}{P:Nat→Value→Prop}{St0:Nat→Heap→Prop}(W:Walks prog w A I fp [I] n P St0)(hn:n=ds.length)
  (hfp:∀ b∈fp,b=I∨((∃ o,h0.get? b=some o)∧¬ av0 b)) (hcls:∀ i h,St0 i h→∃ o T,h.get? I=some o∧o.cls=.type T∧rA T=false)
  (hI0:h0.get? I=none) (hP:∀ i v d,P i v→ds[i]?=some d→Rep prog w h0 av0 v d) :
  Src prog w A h0 av0 target (.ref I) (fun b=>b=I) (fun i h=>St0 i h∧∀ b o,h0.get? b=some o→¬ av0 b→h.get? b=some o) ds where
 live:=fun i h st b hb=>by obtain⟨o,T,e,_⟩:=hcls i h st.1;exact⟨o,(show b=I from hb)▸e⟩
 frame:=fun i h h' st hk hk0=>⟨W.frame i h h' st.1 fun b hb o e=>by
  rcases hfp b hb with rfl | ⟨⟨o',e'⟩,hav⟩
  ·exact hk b o rfl e
  ·have:=st.2 b o' e' hav;rw[e] at this;obtain rfl:=si this;exact hk0 b o e' hav,hk0⟩
 item:=fun i d s E Q hd st hQ=>by
  refine W.item i s _ E (hn▸rB hd) st.1 fun v h' tk hPv st' hk=>?_;obtain⟨o,T,e1,e2,e3⟩:=hcls _ _ st';have hk':∀ b o,¬ (b=I)→s.heap.get? b=some o→h'.get? b=some o:=fun b o hb e=>hk b o (fun h=>hb (List.mem_singleton.mp h)) e;have hkk:∀ b o,h0.get? b=some o→¬ av0 b→h'.get? b=some o:=fun b o e hav=>hk' b o (fun x=>by rw[x,hI0] at e;exact ns e) (st.2 b o e hav);refine Ib (s:={ s with heap:=h',toks:=tk }) e1 e2 e3 (hQ v h' tk hk' ⟨st',hkk⟩ fun avn hlive hsub=>?_);exact(hP i v d hPv hd).mono (fun b o hb e=>hkk b o e hb) hsub
 done:=fun s E Q st hQ=>W.done s _ E (show St0 n s.heap from hn▸st.1) fun h' tk hk=>hQ h' tk fun b o hb e=>hk b o (fun h=>hb (List.mem_singleton.mp h)) e
 self:=fun i s Q E st hQ=>W.self i s Q E st.1 hQ
inductive IterAt(prog:Program)(w:World)(A:Around)(l:List Env)(target:Expr)(s:Shared)(av:Addr→Prop)(it:Value)(s':Shared)(ds:List PyData):Prop where
 |mk (s₁ wr St) (a:K l s s₁) (b:Src prog w A s₁.heap av target it wr St ds) (c:St 0 s'.heap) (d:∀ b,wr b→s₁.heap.get? b=none∧∃ o,s'.heap.get? b=some o) (e:Kp s₁ s') (f:ds.length≤sizeLine):IterAt prog w A l target s av it s' ds
theorem mZ{h:Heap}{a:Addr}{o:Obj}(e:h.get? a=some o):a≠h.objs.size:=fun x=>by rw[x,bZ] at e;exact ns e
theorem gP{A:Around}{target:Expr}{s₀ s:Shared}{av:Addr→Prop}{ds:List PyData}{o:Obj}(k0:K l s₀ s)(ho:o.isFreed=false){fp:List Addr}{n:Nat}{P:Nat→Value→Prop}{St0:Nat→Heap→Prop}
  (W:Walks prog w A s.heap.objs.size fp [s.heap.objs.size] n P St0) (hn:n=ds.length) (hz:ds.length≤sizeLine)
  (hfp:∀ b∈fp,b=s.heap.objs.size∨((∃ o,s.heap.get? b=some o)∧¬ av b)) (hcls:∀ i h,St0 i h→∃ o T,h.get? s.heap.objs.size=some o∧o.cls=.type T∧rA T=false)
  (hP:∀ i v d,P i v→ds[i]?=some d→Rep prog w s.heap av v d) (hst:St0 0 (s.heap.push o)) :
  IterAt prog w A l target s₀ av (.ref s.heap.objs.size) { s with heap:=s.heap.push o } ds :=
 ⟨s,_,_,k0,Src.ofWalks W hn hfp hcls (bZ _) hP,⟨hst,fun b o' e _=>Heap.get?_push_of_some _ e⟩,fun b hb=>(show b=s.heap.objs.size from hb)▸⟨bZ _,o,cY _ _ ho⟩,Kp.push' s o,hz⟩
theorem fp2{s:Shared}{av:Addr→Prop}{a:Addr}{o:Obj}(e:s.heap.get? a=some o)(h1:¬ av a):∀ b∈[s.heap.objs.size,a],b=s.heap.objs.size∨((∃ o,s.heap.get? b=some o)∧¬ av b):=fun b hb=>by
 rcases List.mem_cons.mp hb with hb | hb
 ·exact .inl hb
 ·exact .inr (List.mem_singleton.mp hb▸⟨⟨_,e⟩,h1⟩)
theorem Ic{A:Around}{target:Expr}{s₀ s:Shared}{av:Addr→Prop}{v:Value}{d:PyData}{ds:List PyData}(k0:K l s₀ s)(hh:A.handled=none)(r:Rep prog w s.heap av v d)(hi:items d=.ok ds)
  {Q:Value→Shared→Prop} {E:Value→Shared→Prop} (hq:∀ it s',IterAt prog w A l target s₀ av it s' ds→Q it s'):wpAny (model prog w) A (pyIter v) Q E s:=by
 cases d with
 |list dl =>
  obtain rfl:=pi hi;obtain⟨a,vs,rfl,h1,⟨n,e⟩,h3,h4,h5⟩:=r.list_inv;exact wpAny_pyIter_list ⟨_,e,rfl,_,rfl⟩ (hq _ _ (gP k0 rfl (Walks.list hh s.heap.objs.size a (mZ e) vs.toArray) (by simpa using h3) (h3▸h4) (fp2 e h1) (fun i h st=>by obtain⟨⟨o,e,c,_⟩,_⟩:=st;exact⟨o,_,e,c,by decide⟩)
   (fun i v d hP hd=>h5 i v d (by simpa using hP) hd) ⟨⟨_,cY _ _ rfl,rfl,rfl⟩,⟨_,Heap.get?_push_of_some _ e,rfl,_,rfl⟩⟩))
 |tuple dl =>
  obtain rfl:=pi hi;obtain⟨a,vs,rfl,h1,⟨n,e⟩,h3,h4,h5⟩:=r.tuple_inv;exact wpAny_pyIter_tuple ⟨_,e,rfl,_,rfl⟩ (hq _ _ (gP k0 rfl (Walks.tuple hh s.heap.objs.size a (mZ e) vs.toArray) (by simpa using h3) (h3▸h4) (fp2 e h1) (fun i h st=>by obtain⟨⟨o,e,c,_⟩,_⟩:=st;exact⟨o,_,e,c,by decide⟩)
   (fun i v d hP hd=>h5 i v d (by simpa using hP) hd) ⟨⟨_,cY _ _ rfl,rfl,rfl⟩,⟨_,Heap.get?_push_of_some _ e,rfl,_,rfl⟩⟩))
 |dict dl =>
  obtain rfl:=pi hi;obtain⟨a,kvs,rfl,h1,⟨o,es,ep,e,hd⟩,h3,h4,h5,h6⟩:=r.dict_inv;have hl:dl.length=kvs.length:=by simpa using congrArg List.length h5
  refine wpAny_pyIter_dict (knd:=strKind prog w) (kvs:=kvs) (ep:=ep) h4 ⟨o,es,e,hd⟩ (hq _ _ (gP k0 rfl (Walks.dictKeys (knd:=strKind prog w) hh s.heap.objs.size a (mZ e) kvs ep) (by simp[hl]) (by simpa[hl] using h3.1) (fp2 e h1) (fun i h st=>by obtain⟨⟨o,e,c,_⟩,_⟩:=st;exact⟨o,_,e,c,by decide⟩)
   (fun i v d hP hd=>?_) ⟨⟨_,cY _ _ rfl,rfl,rfl⟩,⟨o,es,Heap.get?_push_of_some _ e,hd⟩⟩))
  obtain⟨k,x,e3,e4⟩:=hP;obtain⟨t,rfl⟩:=Value.isStrOf_shape e4;rw[h5,List.getElem?_map,e3] at hd;obtain rfl:=si hd;exact .str k t (h3.2 _ (List.mem_of_getElem? e3))
 |str x =>
  obtain rfl:=pi hi;obtain⟨t,rfl,hx⟩:=r.str_inv;refine wpAny_pyIter_strU (hq _ _ ?_);have hP:∀ (i:Nat) (v:Value) (d:PyData),SignAt x i v→(x.cps.toList.map bT)[i]?=some d→Rep prog w s.heap av v d:=fun i v d hP hd=>by
   obtain⟨c,u,e1,rfl⟩:=hP;rw[List.getElem?_map,Array.getElem?_toList,e1] at hd;obtain rfl:=si hd;exact .str _ u (by rw[sizeLine_eq];exact Nat.le_of_ble_eq_true rfl)
  have hfp:∀ b∈[s.heap.objs.size],b=s.heap.objs.size∨((∃ o,s.heap.get? b=some o)∧¬ av b):=fun b hb=>.inl (List.mem_singleton.mp hb);have hz:(x.cps.toList.map bT).length≤sizeLine:=by simpa using (show x.cps.size≤sizeLine from hx)
  by_cases ha:x.cps.all (· < 128)=true
  ·rw[show strIterType x = "str_ascii_iterator" from if_pos ha];exact gP k0 rfl (Walks.strAscii hh s.heap.objs.size x t) (by simp) hz hfp (fun i h st=>by obtain⟨o,e,c,_⟩:=st;exact⟨o,_,e,c,by decide⟩) hP ⟨_,cY _ _ rfl,rfl,rfl⟩
  ·rw[show strIterType x = "str_iterator" from if_neg ha];exact gP k0 rfl (Walks.strWide hh s.heap.objs.size x t) (by simp) hz hfp (fun i h st=>by obtain⟨o,e,c,_⟩:=st;exact⟨o,_,e,c,by decide⟩) hP ⟨_,cY _ _ rfl,rfl,rfl⟩
 |_=>exact pno hi
end
end Mine
namespace Mine
open PySem
section
variable {prog:Program} {w:World} {mg mb:Str→Option Value} {base:Heap} {n:Nat} {hd:Bool} {l:List Env} {sc:Scope} {σ:aA}
theorem xD:∀ (n:Nat) (a:Int) (i:Nat) (d:PyData),(cR a n)[i]?=some d→d=.int (a+i)
 |0,a,i,d,h=>by exact ns h
 |n+1,a,0,d,h=>by obtain rfl:=si h;rw[show a+((0:Nat):Int)=a from Int.add_zero a]
 |n+1,a,i+1,d,h=>by
  rw[xD n (a+1) i d h];congr 1;push_cast;exact uB
theorem xE:∀ (n:Nat) (a:Int),(cR a n).length=n:=by
 intro v0
 induction v0 with
 |zero =>
  intro _;exact rfl
 |succ n ih =>
  intro a;exact congrArg Nat.succ (ih (a+1))
theorem Id{A:Around}{target:Expr}{s₀ s:Shared}{av:Addr→Prop}{r:Addr}{b:Int}{t u v:Tok}(k0:K l s₀ s)(hh:A.handled=none)(hr:IsRange s.heap r 0 b 1 t u v)(h4:b≤4096)
  {Q:Value→Shared→Prop} {E:Value→Shared→Prop} (hq:∀ it s',IterAt prog w A l target s₀ av it s' (cR 0 b.toNat)→Q it s') (hb:-10000≤b):wpAny (model prog w) A (pyIter (.ref r)) Q E s:=by
 have hsz:Builtin.Range.rangeSize 0 b 1=(b.toNat:Int):=by
  rw[rangeSize_one]
  split<;>lia
 have hsm:Builtin.Range.small 0 b 1=true:=by
  unfold Builtin.Range.small;rw[hsz];have f:∀ i:Int,-10000≤i→i≤10000→Builtin.Range.rangeFitsLong i=true:=fun i q1 q2=>by
   unfold Builtin.Range.rangeFitsLong;simp only[Bool.and_eq_true,decide_eq_true_eq];lia
  rw[f 0 (by lia) (by lia),f b hb (by lia),f 1 (by lia) (by lia),f _ (by lia) (by lia)];have:((1:Int) > 0):=by lia
  simp only[this,if_true,Bool.and_self,Bool.true_and];rw[f (b+(1 - 1)) (by exact Bx hb) (by exact By h4)];simp
 refine wpAny_pyIter_range hr hsm (hq _ _ (gP k0 rfl (Walks.range hh s.heap.objs.size 0 1 b.toNat) (by rw[xE]) (by rw[xE,sizeLine_eq];exact Bz h4) (fun x hx=>.inl (List.mem_singleton.mp hx)) (fun i h st=>⟨_,_,st,rfl,by decide⟩) (fun i v d hP hd=>?_) ?_))
 ·obtain⟨t,rfl⟩:=hP;rw[xD _ _ _ _ hd,Int.mul_one];exact .int _ _
 ·show(s.heap.push _).get? _=_;rw[cY _ _ rfl,hsz];simp
noncomputable def iR(prog:Program)(w:World)(mg mb:Str→Option Value)(base:Heap)(n:Nat)(hd:Bool)(l:List Env)(sc:Scope)(σ:aA)(target e:Expr)(r:R (List PyData)):Prop :=
 ∀ (A:Around) (env:Env) (s:Shared) (av:Addr→Prop),Room n hd l A→Inv0 prog w mg mb base l env sc σ av s →
  ∀ {β:Type} {k:List PyData→R β} {fin:R β} {Q:Value→Shared→Prop} {E:Value→Shared→Prop},Fin r k fin→(∀ it s' ds,IterAt prog w A l target s av it s' ds→k ds=fin→Q it s')→EH prog w mg l s av fin E →
   wpAny (model prog w) A (eval e env) (fun x s₁=>wpAny (model prog w) A (pyIter x) Q E s₁) E s
theorem Ie{rec:Expr→R V}{target e:Expr}(hh:hd=false)(h:aC prog w mg mb base n hd l sc σ e (rec e)):iR prog w mg mb base n hd l sc σ target e (iH rec e):=by
 intro A env s av hA I β k fin Q E hf hq he;refine h A env s av hA I (Fin.b hf) (fun v s₁ u k1 r h1=>?_) he;obtain⟨ds,e1,e2⟩:=Fin.p ⟨h1,hf.2⟩;exact Ic k1 (hA.handled hh) (r.rep I.gnd.avlt) e1 fun it s' x=>hq _ _ _ x e2
theorem Ig{rec:Expr→R V}{target a:Expr}{p q:Pos}(hbad:∀ e,bad e=true→rec e=.no)(hh:hd=false)(hg:isG sc "range" = true)(h:aC prog w mg mb base n hd l sc σ a (rec a)) :
  iR prog w mg mb base n hd l sc σ target (.Call (.Name "range" p) [a] [] q) (pI rec a):=by
 intro A env s av hA I β k fin Q E hf hq he;refine PySem.Call_name1 (eM (eN (hbad a) (Fin.b hf).ne)) (eP I hg rfl (gO (.inr ⟨_,rfl⟩) (h A env s av hA I (Fin.b hf) (fun v s₁ u k1 r h1=>?_) he)));obtain⟨ds,e1,e2⟩:=Fin.p ⟨h1,hf.2⟩;refine pcs (gI u) (fun hu=>?_) fun d hu=>?_
 ·try rewrite[hu]
  rw[hu] at e1;exact pno e1
 ·try rewrite[hu]
  rw[hu] at e1;cases qZ hu;cases d with
  |int i =>
   obtain⟨t,rfl⟩:=(show Rep prog w s₁.heap av v (.int i) from r).int_inv;have e1:(if -4096≤i∧i≤4096 then P.ok (cR 0 i.toNat) else .no)=.ok ds:=e1
   by_cases hc:-4096≤i∧i≤4096
   ·rw[if_pos hc] at e1;obtain rfl:=pi e1;refine call_range_1 ?_;exact Id (k1.trp (Kp.mk' fun b o e=>Heap.get?_push_of_some _ e)) (hA.handled hh) (cY _ _ rfl) hc.2 (fun it s' x=>hq _ _ _ x e2) (by exact B0 hc)
   ·rw[if_neg hc] at e1;exact pno e1
  |_=>exact pno e1
theorem xF:∀ (l:List PyData) (a:Int) (i:Nat) (d:PyData),(eA a l)[i]?=some d→∃ x,l[i]?=some x∧d=.tuple [.int (a+i),x]
 | [],a,i,d,h=>by exact ns h
 |x::l,a,0,d,h=>by obtain rfl:=si h;exact⟨x,rfl,by rw[show a+((0:Nat):Int)=a from Int.add_zero a]⟩
 |x::l,a,i+1,d,h=>by
  obtain⟨y,h1,h2⟩:=xF l (a+1) i d h;refine⟨y,h1,?_⟩;rw[h2,show a+1+(i:Int)=a+((i+1:Nat):Int) by push_cast;exact uB]
theorem rC:∀ (l:List PyData) (a:Int),(eA a l).length=l.length:=by
 intro v0
 induction v0 with
 |nil =>
  intro _;exact rfl
 |cons x l ih =>
  intro a;exact congrArg Nat.succ (ih (a+1))
theorem Ih{A:Around}{elts:List Expr}{kk:Nat}{pos:Pos}{s₀ s:Shared}{h':Heap}{av:Addr→Prop}{ad:Addr}{vs:List Value}{m:List PyData}{nn:Nat}{old:Value}(k0:K l s₀ s)(hh:A.handled=none)(e:s.heap.get? ad=some { cls:=.type "list", data:=.seq vs.toArray nn })(h1:¬ av ad)
  (h3:vs.length=m.length) (h4:vs.length≤sizeLine) (h5:∀ (i:Nat) (v:Value) (d:PyData),vs[i]?=some v→m[i]?=some d→Rep prog w s.heap av v d)
  (he:IsEnum h' (s.heap.objs.size+1) s.heap.objs.size 0 old) (hit:h'.IsListIter s.heap.objs.size ad 0) (hk:∀ b o,s.heap.get? b=some o→h'.get? b=some o) :
  IterAt prog w A l (.Tuple elts kk pos) s₀ av (.ref (s.heap.objs.size+1)) { s with heap:=h' } (eA 0 m):=by
 have halt:=Heap.lt_size e;have hei:s.heap.objs.size+1≠s.heap.objs.size:=Nat.ne_of_gt (Nat.lt_succ_self _);have hle:ad≠s.heap.objs.size+1:=Nat.ne_of_lt (Nat.lt_succ_of_lt halt);have hli:ad≠s.heap.objs.size:=Nat.ne_of_lt halt;have hn:∀ b,(b=s.heap.objs.size+1∨b=s.heap.objs.size)→s.heap.get? b=none:=fun b hb=>hb.elim (fun x=>x▸Heap.get?_none_of_le (Nat.le_succ _)) fun x=>x▸bZ _;refine⟨s,fun b=>b=s.heap.objs.size+1∨b=s.heap.objs.size,fun i h=>(∃ old,IsEnum h (s.heap.objs.size+1) s.heap.objs.size i old)∧h.IsListIter s.heap.objs.size ad i∧∀ b o,s.heap.get? b=some o→¬ av b→h.get? b=some o,k0,
  ⟨fun i h st b hb=>?_,fun i h g st hk' hk0=>?_,fun i d s₁ E Q hd st hQ=>?_,fun s₁ E Q st hQ=>?_,fun i s₁ Q E st hQ=>?_⟩,⟨⟨old,he⟩,hit,fun b o e _=>hk b o e⟩,fun b hb=>⟨hn b hb,?_⟩,Kp.mkh hk,by rw[rC,← h3];exact h4⟩
 ·obtain⟨⟨old,he⟩,⟨o,hit,_⟩,_⟩:=st;rcases hb with rfl | rfl
  ·exact⟨_,he⟩
  ·exact⟨o,hit⟩
 ·obtain⟨⟨old,he⟩,hit,hl⟩:=st;exact⟨⟨old,hk' _ _ (.inl rfl) he⟩,hit.at fun o x=>hk' _ o (.inr rfl) x,hk0⟩
 ·obtain⟨⟨old,he⟩,hit,hl⟩:=st;have hil:i < vs.length:=by have:=rB hd;rw[rC] at this;rw[h3];exact this
  have hL:s₁.heap.IsList ad vs.toArray:=⟨_,hl ad _ e h1,rfl,_,rfl⟩
  have hx:vs.toArray[i]?=some vs[i]:=by simp[hil]
  refine wpAny_pyNext_enum_item he hit hL hx hei fun h2 ho hit' hT hsz hk2=>?_;refine wpAny_letOwnedTupleGo_enum ho fun h3' he' hs'=>?_;have helt:s.heap.objs.size+1 < s₁.heap.objs.size:=Heap.lt_size he;have kept:∀ b o,¬ (b=s.heap.objs.size+1∨b=s.heap.objs.size)→s₁.heap.get? b=some o→h3'.get? b=some o:=fun b o hb e=>(hs'.2 b fun x=>hb (.inl x)).trans (hk2 b o (fun x=>hb (.inl x)) (fun x=>hb (.inr x)) e);have keep0:∀ b o,s.heap.get? b=some o→¬ av b→h3'.get? b=some o:=fun b o e hav=>kept b o (fun hb=>by rw[hn b hb] at e;exact ns e) (hl b o e hav);refine hQ (.ref s₁.heap.objs.size) h3' _ kept ⟨⟨_,by simpa using he'⟩,hit'.at fun o y=>(hs'.2 _ hei.symm).trans y,keep0⟩ fun avn hlive hsub=>?_;obtain⟨y,hy,rfl⟩:=xF _ _ _ _ hd;refine Rep.tuple (vs:=[.int i s₁.toks,vs[i]]) (fun hx=>?_) ⟨_,(hs'.2 _ (Nat.ne_of_gt helt)).trans hT⟩ rfl (by rw[sizeLine_eq];exact Nat.le_of_ble_eq_true rfl) fun j v e e2 e3=>?_
  ·obtain⟨o,e⟩:=hlive _ hx;rw[bZ] at e;exact ns e
  ·match j,e2,e3 with
   |0,e2,e3=>obtain rfl:=si e2;obtain rfl:=si e3;rw[Int.zero_add];exact .int _ _
   |1,e2,e3=>obtain rfl:=si e2;obtain rfl:=si e3;exact(h5 i _ _ (List.getElem?_eq_getElem hil) hy).mono (fun b o hb e=>keep0 b o e hb) hsub
 ·obtain⟨⟨old,he⟩,hit,hl⟩:=st;have hL:s₁.heap.IsList ad vs.toArray:=⟨_,hl ad _ e h1,rfl,_,rfl⟩
  rw[rC,← h3] at he hit;exact wpAny_pyNext_enum_end hh he hit hL (Array.getElem?_eq_none (by simp)) fun h'' hx=>hQ h'' s₁.toks fun b o hb y=>hx b o (fun e'=>hb (.inr e')) y
 ·obtain⟨⟨old,he⟩,_,_⟩:=st;exact wpAny_pyIter_enum he hQ
 ·rcases hb with rfl | rfl
  ·exact⟨_,he⟩
  ·obtain⟨o,eo,_⟩:=hit;exact⟨o,eo⟩
theorem Ii{rec:Expr→R V}{target a:Expr}{p q:Pos}(hbad:∀ e,bad e=true→rec e=.no)(hh:hd=false)(hg:isG sc "enumerate" = true)(ht:jR target=true)(h:aC prog w mg mb base n hd l sc σ a (rec a)) :
  iR prog w mg mb base n hd l sc σ target (.Call (.Name "enumerate" p) [a] [] q) (pK rec a):=by
 intro A env s av hA I β k fin Q E hf hq he;refine PySem.Call_name1 (eM (eN (hbad a) (Fin.b hf).ne)) (eP I hg rfl (gO (.inr ⟨_,rfl⟩) (h A env s av hA I (Fin.b hf) (fun v s₁ u k1 r h1=>?_) he)));obtain⟨ds,e1,e2⟩:=Fin.p ⟨h1,hf.2⟩;have rd:=r.rep I.gnd.avlt;generalize dOf u=d at rd e1;cases d with
 |list m =>
  obtain rfl:=pi e1;obtain⟨ad,vs,rfl,h1,⟨nn,e⟩,h3,h4,h5⟩:=rd.list_inv;refine call_enumerate_list ⟨_,e,rfl,_,rfl⟩ fun h' he' hit hsz hk=>?_;unfold jR at ht;generalize hv:vw target=tv at ht;cases tv with
  |tup elts =>
   obtain⟨kk,pos,rfl⟩:=cX hv;exact wpAny_pyIter_enum he' (hq _ _ _ (Ih k1 (hA.handled hh) e h1 h3 h4 h5 he' hit hk) e2)
  |_=>exact bft ht
 |_=>exact pno e1
theorem Ij{rec:Expr→R V}{target a:Expr}{p q:Pos}(hbad:∀ e,bad e=true→rec e=.no)(hh:hd=false)(hg:isG sc "reversed" = true)(h:aC prog w mg mb base n hd l sc σ a (rec a)) :
  iR prog w mg mb base n hd l sc σ target (.Call (.Name "reversed" p) [a] [] q) (pJ rec a):=by
 intro A env s av hA I β k fin Q E hf hq he;refine PySem.Call_name1 (eM (eN (hbad a) (Fin.b hf).ne)) (eP I hg rfl (gO (.inr ⟨_,rfl⟩) (h A env s av hA I (Fin.b hf) (fun v s₁ u k1 r h1=>?_) he)));obtain⟨ds,e1,e2⟩:=Fin.p ⟨h1,hf.2⟩;have rd:=r.rep I.gnd.avlt;generalize dOf u=d at rd e1;cases d with
 |list m =>
  obtain rfl:=pi e1;obtain⟨ad,vs,rfl,h1,⟨nn,e⟩,h3,h4,h5⟩:=rd.list_inv;have hlt:=Heap.lt_size e;have W:=Walks.listRev (prog:=prog) (w:=w) (hA.handled hh) s₁.heap.objs.size ad (Nat.ne_of_lt hlt) vs.toArray;have hst:0≤vs.toArray.size∧(s₁.heap.push (revObj ad ((vs.toArray.size:Int) - 1))).IsRevIter s₁.heap.objs.size ad ((vs.toArray.size:Int) - 1 - ((0:Nat):Int))∧(s₁.heap.push (revObj ad ((vs.toArray.size:Int) - 1))).IsList ad vs.toArray :=
   ⟨Nat.zero_le _,⟨_,cY _ _ rfl,rfl,by simp[revObj]⟩,⟨_,Heap.get?_push_of_some _ e,rfl,nn,rfl⟩⟩
  refine call_reversed_list ⟨_,e,rfl,nn,rfl⟩ (wpAny_pyIter_revIter hst.2.1 (hq _ _ _ (gP (o:=revObj ad ((vs.toArray.size:Int) - 1)) k1 rfl W (by simp[h3]) (by rw[List.length_reverse,← h3];exact h4) (fp2 e h1) (fun i h st=>let ⟨_,⟨o,ho,hc,_⟩,_⟩:=st;⟨o,_,ho,hc,by decide⟩) (fun i v d hP hd'=>?_) hst) e2));have hi:i < m.length:=by simpa using rB hd'
  rw[List.getElem?_reverse hi] at hd';exact h5 (m.length - 1 - i) v d (by simpa[h3] using hP) hd'
 |_=>exact pno e1
theorem xG{rec:Expr→R V}(hbad:∀ e,bad e=true→rec e=.no){target e:Expr}(h:aC prog w mg mb base n hd l sc σ e (rec e))
  (hsub:∀ f as kws q,e=.Call f as kws q→∀ a∈as,aC prog w mg mb base n hd l sc σ a (rec a)):iR prog w mg mb base n hd l sc σ target e (fD rec hd sc target e):=by
 unfold fD;cases hd with
 |true=>exact fun A env s av hA I _ _ _ _ _ hf _ _=>hf.no.elim
 |false =>
  rw[if_neg Bool.false_ne_true];have P:=Ie (target:=target) rfl h;refine ocs (iI e) (fun hc=>?_) fun c hc=>?_
  ·try rewrite[hc]
   exact P
  ·try rewrite[hc]
   obtain⟨x,as⟩:=c;obtain⟨p,q,rfl⟩:=vO hc;show iR prog w mg mb base n false l sc σ target _ (if x = "range" ∨ x = "enumerate" ∨ x = "reversed" ∨ x = "zip" then _ else iH rec _)
   by_cases hx:x = "range" ∨ x = "enumerate" ∨ x = "reversed" ∨ x = "zip"
   ·rw[if_pos hx];intro A env s av hA I β k fin Q E hf hq he;obtain⟨hg,hf1⟩:=Fin.ite hf;clear hf;cases as with
    |nil=>exact hf1.no.elim
    |cons a r =>
     cases r with
     |cons=>exact hf1.no.elim
     |nil =>
      have ha:=hsub _ _ _ _ rfl a List.mem_cons_self;replace hf1:Fin (if x = "range" then pI rec a else if x = "enumerate" ∧ jR target=true then pK rec a else if x = "reversed" then pJ rec a else .no) k fin:=hf1
      by_cases h1:x = "range"
      ·rw[if_pos h1] at hf1;subst h1;exact Ig hbad rfl hg ha A env s av hA I hf1 hq he
      rw[if_neg h1] at hf1
      by_cases h2:x = "enumerate" ∧ jR target=true
      ·rw[if_pos h2] at hf1;obtain⟨rfl,h2⟩:=h2;exact Ii hbad rfl hg h2 ha A env s av hA I hf1 hq he
      rw[if_neg h2] at hf1
      by_cases h3:x = "reversed"
      ·rw[if_pos h3] at hf1;subst h3;exact Ij hbad rfl hg ha A env s av hA I hf1 hq he
      ·rw[if_neg h3] at hf1;exact hf1.no.elim
   ·rw[if_neg hx];exact P
end
end Mine
namespace Mine
open PySem
section
variable {prog:Program} {w:World} {mg mb:Str→Option Value} {base:Heap} {n:Nat} {hd:Bool} {l:List Env}
theorem Ik{env:Env}:∀ (names:List (Str×NameKind)) (acc:List (Str×Addr)),(∀ p∈names,p.2=.free→∃ c,env.cells.lookup p.1=some c)→(∀ q∈acc,env.cells.lookup q.1=some q.2) →
  ∃ cl,(forIn names acc (fun (x:Str×NameKind) (cs:List (Str×Addr))=>if (x.2==NameKind.free)=true then (do let c ← cellOf env x.1;pure (ForInStep.yield ((x.1,c)::cs))) else pure (ForInStep.yield cs)):Sem (List (Str×Addr)))=pure cl ∧
   (∀ q∈cl,env.cells.lookup q.1=some q.2)∧(∀ q∈acc,q∈cl)∧∀ p∈names,p.2=.free→∃ c,(p.1,c)∈cl:=by
 intro v0
 induction v0 with
 |nil =>
  intro acc _ ha;exact⟨acc,by simp,ha,fun _ h=>h,fun _ h=>by simp at h⟩
 |cons pp r ih =>
  obtain⟨x,k⟩:=pp;intro acc hn ha;rw[List.forIn_cons]
  by_cases hk:k=.free
  ·subst hk;obtain⟨c,hc⟩:=hn (x,.free) (by simp) rfl;obtain⟨cl,h1,h2,h3,h4⟩:=ih ((x,c)::acc) (fun p hp=>hn p (List.mem_cons_of_mem _ hp)) (fun q hq=>by
    rcases List.mem_cons.mp hq with rfl | hq
    ·exact hc
    ·exact ha q hq)
   refine⟨cl,?_,h2,fun q hq=>h3 q (List.mem_cons_of_mem _ hq),fun p hp hpk=>?_⟩
   ·have e:cellOf env x=pure c:=by unfold cellOf;rw[hc]
    simp only[e];exact h1
   ·rcases List.mem_cons.mp hp with rfl | hp
    ·exact⟨c,h3 _ (by simp)⟩
    ·exact h4 p hp hpk
  ·obtain⟨cl,h1,h2,h3,h4⟩:=ih acc (fun p hp=>hn p (List.mem_cons_of_mem _ hp)) ha;refine⟨cl,?_,h2,h3,fun p hp hpk=>?_⟩
   ·have e:(k==NameKind.free)=false:=beq_eq_false_iff_ne.mpr hk;simp only[e];exact h1
   ·rcases List.mem_cons.mp hp with rfl | hp
    ·exact absurd hpk hk
    ·exact h4 p hp hpk
theorem xH{α:Type}:∀ {l:List (Str×α)} {x:Str} {c:α},(x,c)∈l→∃ c',l.lookup x=some c'∧(x,c')∈l
 | (y,d)::r,x,c,h=>by
  by_cases hxy:x=y
  ·subst hxy;exact⟨d,by simp[List.lookup],by simp⟩
  ·rcases List.mem_cons.mp h with h | h
   ·exact absurd (congrArg Prod.fst h) hxy
   ·obtain⟨c',h1,h2⟩:=xH h;have:(x==y)=false:=beq_eq_false_iff_ne.mpr hxy;exact⟨c',by simp only[List.lookup,this];exact h1,List.mem_cons_of_mem _ h2⟩
theorem eQ{α:Type}:∀ {l:List (Str×α)} {x:Str} {c:α},l.lookup x=some c→(x,c)∈l
 | (y,d)::r,x,c,h=>by
  by_cases hxy:x=y
  ·subst hxy;simp[List.lookup] at h;simp[h]
  ·have:(x==y)=false:=beq_eq_false_iff_ne.mpr hxy;simp only[List.lookup,this] at h;exact List.mem_cons_of_mem _ (eQ h)
theorem Il{env:Env}{scope:Scope}(h:∀ p∈scope.names,p.2=.free→∃ c,env.cells.lookup p.1=some c):∃ cl,closureFor scope env=pure cl∧∀ x c,(x,NameKind.free)∈scope.names→env.cells.lookup x=some c→cl.lookup x=some c:=by
 obtain⟨cl,h1,h2,_,h4⟩:=Ik (env:=env) scope.names [] h (by simp);refine⟨cl,?_,fun x c hx hc=>?_⟩
 ·unfold closureFor;show(forIn scope.names [] _:Sem _) >>= _=_;have:(forIn scope.names [] (fun (x:Str×NameKind) (cs:List (Str×Addr))=>if (x.2==NameKind.free)=true then (do let c ← cellOf env x.1;pure (ForInStep.yield ((x.1,c)::cs))) else pure (ForInStep.yield cs)):Sem (List (Str×Addr)))=pure cl:=h1;rw[show(forIn scope.names [] (fun (x:Str×NameKind) (cs:List (Str×Addr))=>_):Sem (List (Str×Addr)))=pure cl from this];rfl
 ·obtain⟨c',hc'⟩:=h4 (x,.free) hx rfl;obtain⟨c'',e1,e2⟩:=xH hc';have:=h2 _ e2;rw[hc] at this;rw[e1];exact this.symm▸rfl
noncomputable def CpE(prog:Program)(w:World)(A:Around)(acc:Value)(G:Shared→Prop)(X:Value→Shared→Prop):Value→Shared→Prop:=fun x s=>wpAny (model prog w) A (call (.builtin "list.append") [acc,x]) (fun _ s=>G s) X s
noncomputable def CpT(prog:Program)(w:World)(A:Around)(elt:Expr)(env:Env)(acc:Value)(G:Shared→Prop)(X:Value→Shared→Prop):Bool→Shared→Prop:=fun ok s=>if ok=true then wpAny (model prog w) A (eval elt env) (CpE prog w A acc G X) X s else G s
noncomputable def CpA(prog:Program)(w:World)(A:Around)(ifs:List Expr)(elt:Expr)(env:Env)(acc:Value)(G:Shared→Prop)(X:Value→Shared→Prop):Unit→Shared→Prop:=fun _ s =>
 wpAny (model prog w) A (forIn ifs true fun c r=>if r=true then do let ok ← isTrue c env (eval c env);pure (ForInStep.yield ok) else pure (ForInStep.yield r)) (CpT prog w A elt env acc G X) X s
noncomputable def CpN(prog:Program)(w:World)(A:Around)(R:Result→Shared→Prop)(target:Expr)(it:Value)(ifs:List Expr)(elt:Expr)(env:Env)(acc:Value)(G:Shared→Prop)(X:Value→Shared→Prop):Option Value→Shared→Prop:=fun r s=>match r with
 |none=>R (.ok .next) s
 |some v=>wpAny (model prog w) A (letOwnedTupleGo target it v) (fun _ s=>wpAny (model prog w) A (assign target env v) (CpA prog w A ifs elt env acc G X) X s) X s
theorem Im{A:Around}{R:Result→Shared→Prop}{s:Shared}{elt target iter:Expr}{ifs:List Expr}{scope:Scope}{pos:Pos}{it acc:Value}{env:Env}(I:Nat→Shared→Prop)
  (turn:∀ n s,I n s→wpAny (model prog w) A (pyNext it) (CpN prog w A R target it ifs elt env acc (fun s=>∃ m,m < n∧I m s) (notedBy (model prog w) A env fun e s'=>R (.error e) s')) (notedBy (model prog w) A env fun e s'=>R (.error e) s') s)
  (n:Nat) (h:I n s) :
  codeAny (model prog w) A (.compLoop (.ListComp elt [⟨target,iter,ifs,0⟩] scope pos) 0 it acc env) R s:=by
 refine codeAny_loop rfl I (fun n s hI=>?_) n h;show wpAny _ A ((compTurn (.ListComp elt [⟨target,iter,ifs,0⟩] scope pos) 0 it acc env).onRaise (fun x=>do noteFrame x env;theTreesLotGoes x)) _ _ s;refine wpAny_noted ?_;rw[compTurn_list];refine wpAny_bind (wpAny_standAt (wpAny_bind (wpAny_mono (turn n s hI) (fun r s₁ h₁=>?_) fun _ _ h'=>h')));cases r with
 |none=>exact wpAny_pure h₁
 |some v =>
  refine wpAny_bind (wpAny_mono h₁ (fun _ s₁ h₁=>?_) fun _ _ h'=>h');refine wpAny_bind (wpAny_mono h₁ (fun _ s₂ h₂=>wpAny_bind (wpAny_mono h₂ (fun ok s₃ h₃=>?_) fun _ _ h'=>h')) fun _ _ h'=>h');cases ok with
  |false=>exact wpAny_pure ⟨rfl,h₃⟩
  |true =>
   replace h₃:wpAny (model prog w) A (eval elt env) (CpE prog w A acc _ _) _ s₃:=h₃;exact wpAny_bind (wpAny_bind (wpAny_mono h₃ (fun x s₄ h₄=>wpAny_bind (wpAny_mono h₄ (fun _ s₅ h₅=>wpAny_pure (wpAny_pure ⟨rfl,h₅⟩)) fun _ _ h'=>h')) fun _ _ h'=>h'))
noncomputable def gQ(env:Env)(x:Str)(k:NameKind):NameKind:=if (k==NameKind.free&&env.scope.kind==ScopeKind.function&&env.kindOf x==some NameKind.cell)=true then NameKind.cell else k
theorem Io(f:Str→NameKind→NameKind)(x:Str):∀ (names:List (Str×NameKind)),(names.map fun p=>(p.1,f p.1 p.2)).lookup x=(names.lookup x).map (f x):=by
 intro v0
 induction v0 with
 |nil =>
  exact rfl
 |cons pp r ih =>
  obtain⟨y,k⟩:=pp
  by_cases hxy:x=y
  ·subst hxy;simp[List.lookup]
  ·have h2:(x==y)=false:=beq_eq_false_iff_ne.mpr hxy;simp only[List.map_cons,List.lookup,h2];exact ih
theorem Ip(env:Env)(sc':Scope):(relabel sc' env).names=sc'.names.map fun p=>(p.1,gQ env p.1 p.2):=by
 unfold relabel;show List.map _ sc'.names=_;refine List.map_congr_left fun p _=>?_;obtain⟨n,k⟩:=p;show(if _ then (n,NameKind.cell) else (n,k))=(n,gQ env n k);unfold gQ
 split<;>rfl
theorem kA{sc':Scope}{cl:List (Str×Addr)}{C:Addr}{env:Env}(x:Str):(compEnvC sc' cl C env).kindOf x=(sc'.names.lookup x).map (gQ env x):=by
 show(relabel sc' env).names.lookup x=_;rw[Ip];exact Io (gQ env) x sc'.names
structure CompOk(sc sc':Scope)(x:Str):Prop where
 kind:sc'.kind=.function
 loc:∀ p∈sc'.names,p.2=.local→(p.1 = ".0" ∨ p.1=x)∧sc'.names.lookup p.1=some .local
 cell:∀ p∈sc'.names,p.2≠.cell
 free:∀ p∈sc'.names,p.2=.free→lT (sc.names.lookup p.1)=true
 ne:x ≠ ".0"
 tgt:sc'.names.lookup x=some .local
 dbg:sc'.names.lookup (Str.ofString "__debug__")=none
 cld:sc'.names.lookup (Str.ofString "__classdict__")=none
theorem Iq{sc sc':Scope}{x:Str}(h:lU sc sc' x=true):CompOk sc sc' x:=by
 unfold lU at h;simp only[Bool.and_eq_true] at h;obtain⟨⟨⟨⟨⟨h1,h2⟩,h3⟩,h4⟩,h5⟩,h6⟩:=h;have h2':=List.all_eq_true.mp h2;refine⟨eq_of_beq h1,fun p hp hk=>?_,fun p hp hk=>?_,fun p hp hk=>?_,bne_iff_ne.mp h3,eq_of_beq h4,Option.isNone_iff_eq_none.mp h5,Option.isNone_iff_eq_none.mp h6⟩<;>have:=h2' p hp<;>rw[hk] at this
 ·simp only[Bool.and_eq_true,Bool.or_eq_true,beq_iff_eq] at this;exact this
 ·exact bft this
 ·exact this
theorem aA.get_cons_ne{x y:Str}{v:Option V}{σ:aA}(h:x≠y):aA.get ((y,v)::σ) x=aA.get σ x:=by
 show(if x=y then some v else aA.get σ x)=_;rw[if_neg h]
theorem aA.get_cons_eq{x:Str}{v:Option V}{σ:aA}:aA.get ((x,v)::σ) x=some v:=by
 show(if x=x then some v else aA.get σ x)=_;rw[if_pos rfl]
theorem xI{x:Str}{d:PyData}{σ:aA}:aA.get (bnd x d σ) ".0" = some none∧∀ y:Str,y ≠ ".0" → y≠x→aA.get (bnd x d σ) y=aA.get σ y :=
 ⟨aA.get_cons_eq,fun y h0 hy=>(aA.get_cons_ne h0).trans (aA.get_cons_ne hy)⟩
theorem Inv0.comp{env:Env}{sc sc':Scope}{σ:aA}{av avn:Addr→Prop}{s s':Shared}{z:Str}{d:PyData}{cl:List (Str×Addr)}{C:Addr}{m:Str→Option Value}(I:Inv0 prog w mg mb base l env sc σ av s)(hok:CompOk sc sc' z)
  (hcl:∀ x c,(x,NameKind.free)∈sc'.names→env.cells.lookup x=some c→cl.lookup x=some c) (k:K l s s') (hav:∀ b o,s.heap.get? b=some o→avn b→av b) (hva:∀ b,av b→avn b)
  (hlive:∀ b,avn b→∃ o,s'.heap.get? b=some o) (hns:s'.heap.Ns C m) (hm:∃ u,m z=some u∧Rep prog w s'.heap avn u d) :
  Inv0 prog w mg mb base l (compEnvC sc' cl C env) sc' (bnd z d σ) avn s' where
 gnd:={ I.gnd.k k with fav:=fun b f=>hva b (I.gnd.fav b f),avlt:=hlive,avS:=hva _ I.gnd.avS }
 kind:=hok.kind
 eg:=I.eg
 eb:=I.eb
 dbg:=hok.dbg
 cld:=hok.cld
 glob:=fun x hx=>by
  unfold isG at hx;rw[kA,eq_of_beq hx];rfl
 kinds:=fun x hx=>by
  refine ocs (sc'.names.lookup x) (fun hl=>?_) fun k hl=>?_
  ·try rewrite[hl]
   rw[hl] at hx;exact bft hx
  ·try rewrite[hl]
   rw[hl] at hx;have hmem:=eQ hl;cases k with
   |free =>
    obtain⟨h1,c,h2⟩:=I.kinds x (hok.free _ hmem rfl);rw[kA,hl];refine⟨?_,c,hcl x c hmem h2⟩;simp only[Option.map_some];unfold gQ
    split<;>rfl
   |cell=>exact absurd rfl (hok.cell _ hmem)
   |_=>exact bft hx
 get:=fun x v hl hg=>by
  have hx0:x ≠ ".0" := fun e=>by rw[e,xI.1] at hg;cases hg
  unfold isL at hl;cases hk':sc'.names.lookup x with
  |none=>rw[hk'] at hl;exact bft hl
  |some kk =>
   rw[hk'] at hl;have hmem:=eQ hk';cases kk with
   | «local» =>
    obtain rfl:x=z:=(hok.loc _ hmem rfl).1.resolve_left hx0;obtain⟨u,h1,h2⟩:=hm;rw[bnd,aA.get_cons_ne hx0,aA.get_cons_eq] at hg;cases hg;exact⟨u,.inl ⟨by rw[kA,hk'];rfl,m,hns,h1⟩,h2⟩
   |cell=>exact absurd rfl (hok.cell _ hmem)
   |free =>
    have hcf:=hok.free _ hmem rfl;have hnt:x≠z:=fun ht=>by have:=hok.tgt;rw[← ht,hk'] at this;cases this
    rw[xI.2 x hx0 hnt] at hg;have hsl:isL sc x=true:=by
     unfold isL;refine ocs (sc.names.lookup x) (fun h=>?_) fun k h=>?_
     ·try rewrite[h]
      rw[h] at hcf;exact bft hcf
     ·try rewrite[h]
      cases k<;>first | rfl | (rw[h] at hcf;cases hcf)
    obtain⟨u,h1,h2⟩:=I.get x v hsl hg;obtain⟨k1,c,k2⟩:=I.kinds x hcf;refine⟨u,?_,?_⟩
    ·rcases h1.k k with ⟨e,_⟩ | ⟨_,c',e1,e2⟩
     ·rw[e] at k1;exact bft k1
     ·refine .inr ⟨?_,c',hcl x c' hmem e1,e2⟩;rw[kA,hk'];simp only[Option.map_some];unfold gQ
      split
      ·exact .inl rfl
      ·exact .inr rfl
    ·exact(cH.mono (fun _ _ e=>e) hav h2).k (av:=avn) (fun b f=>hva b (I.gnd.fav b f)) k
   |_=>exact bft hl
theorem Ir{A:Around}{E:Value→Shared→Prop}{s:Shared}{env:Env}{x:Str}{p:Pos}{d:PyData}{avn:Addr→Prop}{v:Value}{m:Str→Option Value}{Q:Unit→Shared→Prop}
  (hv:Rep prog w s.heap avn v d) (hC:avn env.locals) (hn:s.heap.Ns env.locals m) (hl:env.kindOf x=some .local) (hf:env.scope.kind=.function)
  (h:∀ h' tk m',h'.Ns env.locals m'→(∀ b o,b≠env.locals→s.heap.get? b=some o→h'.get? b=some o)→(∃ u,m' x=some u∧Rep prog w h' avn u d)→Q () { s with heap:=h',toks:=tk }) :
  wpAny (model prog w) A (assign (.Name x p) env v) Q E s:=by
 refine wpAny_assign_Name (wpAny_storeName_local hl hn (fun h' hn' hs'=>?_) (by rw[hf];rfl));exact h h' _ _ hn' (fun b o hb e=>by rw[hs'.2 b hb];exact e) ⟨v,if_pos rfl,hv.mono (fun b o hb e=>by rw[hs'.2 b (fun x=>hb (x▸hC))];exact e) fun _ _ _ x=>x⟩
end
end Mine
namespace Mine
open PySem
section
variable {prog:Program} {w:World} {mg mb:Str→Option Value} {base:Heap} {n:Nat} {hd:Bool} {l:List Env}
theorem Fin.nx{α β:Type}{r:R α}{k:α→R β}{fin:R β}(h:Fin (nx r) k fin):∃ a,r=.ok a∧k a=fin:=by
 cases r with
 |ok a=>exact⟨a,rfl,h.1⟩
 |_=>exact(Fin.no h).elim
theorem EH.ok{β:Type}{s:Shared}{av:Addr→Prop}{b:β}{E:Value→Shared→Prop}:EH prog w mg l s av (.ok b) E:=fun _ _ _ e=>nomatch e
noncomputable def m0(prog:Program)(w:World)(mg mb:Str→Option Value)(base:Heap)(n:Nat)(hd:Bool)(l:List Env)(sc:Scope)(σ:aA)(ifs:List Expr)(r:R Bool):Prop :=
 ∀ (A:Around) (env:Env) (s:Shared) (av:Addr→Prop),Room n hd l A→Inv0 prog w mg mb base l env sc σ av s→∀ {b:Bool} {Q:Bool→Shared→Prop} {E:Value→Shared→Prop},r=.ok b→(∀ s',K l s s'→Q b s') →
  wpAny (model prog w) A (forIn ifs true fun c r=>if r=true then do let ok ← isTrue c env (eval c env);pure (ForInStep.yield ok) else pure (ForInStep.yield r)) Q E s
theorem aC.val{sc:Scope}{σ:aA}{e:Expr}{r:R V}(h:aC prog w mg mb base n hd l sc σ e r){A:Around}{env:Env}{s:Shared}{av:Addr→Prop}(hA:Room n hd l A)(I:Inv0 prog w mg mb base l env sc σ av s){u:V}{Q:Value→Shared→Prop}{E:Value→Shared→Prop}(hr:r=.ok u)
  (hq:∀ v s',K l s s'→bB prog w s s'.heap av v u→Q v s'):wpAny (model prog w) A (eval e env) Q E s :=
 h A env s av hA I (k:=.ok) (fin:=.ok u) ⟨by rw[hr];rfl,nofun⟩ (fun v s' u' k r e=>by cases e;exact hq v s' k r) EH.ok
theorem It{sc:Scope}{σ:aA}:m0 prog w mg mb base n hd l sc σ [] (.ok true):=fun A env s av _ _ _ _ _ hr hq=>by cases hr;exact wpAny_tests_nil (hq _ (K.rf l s))
theorem Iu{sc:Scope}{σ:aA}{c:Expr}{r:R V}(h:bQ prog w mg mb base n hd l sc σ c r):m0 prog w mg mb base n hd l sc σ [c] (tst r):=fun A env s av hA I b _ _ hr hq =>
 wpAny_tests_one (h A env s av hA I (k:=.ok) (fin:=.ok b) ⟨by rw[hr];rfl,nofun⟩ (fun b' s' k e=>by cases e;exact hq s' k) EH.ok)
structure Cst(prog:Program)(w:World)(l:List Env)(s₁:Shared)(avn:Addr→Prop)(D C:Addr)(xs:List PyData)(st:Shared):Prop where
 k:K l s₁ st
 ns:∃ m,st.heap.Ns C m
 lst:∃ ys:List Value,st.heap.PlainList D ys.toArray∧ys.length=xs.length∧∀ (j:Nat) (v:Value) (d:PyData),ys[j]?=some v→xs[j]?=some d→Rep prog w st.heap avn v d
theorem K.on{s s':Shared}{h':Heap}{tk:Nat}{c:Addr}(k:K l s s')(hc:s.heap.get? c=none)(hk:∀ b o,b≠c→s'.heap.get? b=some o→h'.get? b=some o):K l s { s' with heap:=h',toks:=tk }:=by
 obtain⟨h,t,rfl,k1,k2⟩:=k;have ne:∀ b o,s.heap.get? b=some o→b≠c:=fun b o e x=>by rw[x,hc] at e;exact ns e
 exact⟨h',tk,rfl,fun b o n e=>hk b o (ne b o e) (k1 b o n e),fun b o e=>by obtain⟨sl,e'⟩:=k2 b o e;exact⟨sl,hk b _ (ne b o e) e'⟩⟩
theorem K.onw{s s':Shared}{h':Heap}{tk:Nat}{c:Addr→Prop}(k:K l s s')(hc:∀ b,c b→s.heap.get? b=none)(hk:∀ b o,¬ c b→s'.heap.get? b=some o→h'.get? b=some o):K l s { s' with heap:=h',toks:=tk }:=by
 obtain⟨h,t,rfl,k1,k2⟩:=k;have ne:∀ b o,s.heap.get? b=some o→¬ c b:=fun b o e x=>by rw[hc b x] at e;exact ns e
 exact⟨h',tk,rfl,fun b o n e=>hk b o (ne b o e) (k1 b o n e),fun b o e=>by obtain⟨sl,e'⟩:=k2 b o e;exact⟨sl,hk b _ (ne b o e) e'⟩⟩
theorem xJ{h:Heap}{av:Addr→Prop}{ys:List Value}{xs:List PyData}{v:Value}{x:PyData}(hl:ys.length=xs.length)(hr:∀ (j:Nat) (v:Value) (d:PyData),ys[j]?=some v→xs[j]?=some d→Rep prog w h av v d)(hx:Rep prog w h av v x) :
  ∀ (j:Nat) (v':Value) (d:PyData),(ys++[v])[j]?=some v'→(xs++[x])[j]?=some d→Rep prog w h av v' d :=
 vV hl (bs:=[x]) rfl hr fun j v' d e1 e2=>by
  cases j with
  |zero=>obtain rfl:=si e1;obtain rfl:=si e2;exact hx
  |succ j=>exact ns e1
inductive CTurn(prog:Program)(w:World)(l:List Env)(s₁:Shared)(av':Addr→Prop)(D C:Addr)(n:Nat)(St:Nat→Heap→Prop)(P:Nat→List PyData→Prop)(m:Nat)(st:Shared):Prop where
 |mk (i:Nat) (xs:List PyData) (hi:i+m=n) (hx:xs.length≤i) (F:Cst prog w l s₁ av' D C xs st) (hs:St i st.heap) (hp:P i xs):CTurn prog w l s₁ av' D C n St P m st
theorem Iv{A:Around}{env:Env}{sc sc':Scope}{σ:aA}{av:Addr→Prop}{s₁:Shared}{z:Str}{zp:Pos}{elt iter:Expr}{ifs:List Expr}{pos:Pos}{cl:List (Str×Addr)}{it:Value}{wr:Addr→Prop}{St:Nat→Heap→Prop}{ds:List PyData}{D C:Addr}
  {test:aA→R Bool} {eltF:aA→R V} (hA:Room n hd l A) (I:Inv0 prog w mg mb base l env sc σ av s₁) (hok:CompOk sc sc' z) (hcl:∀ x c,(x,NameKind.free)∈sc'.names→env.cells.lookup x=some c→cl.lookup x=some c)
  (hT:∀ d,m0 prog w mg mb base n hd l sc' (bnd z d σ) ifs (test (bnd z d σ))) (hE:∀ d,aC prog w mg mb base n hd l sc' (bnd z d σ) elt (eltF (bnd z d σ)))
  (S:Src prog w A s₁.heap av (.Name z zp) it wr St ds) (hwr:∀ b,wr b→s₁.heap.get? b=none)
  (hD:s₁.heap.get? D=none) (hC:s₁.heap.get? C=none) (hDC:D≠C) (hlen:ds.length≤sizeLine) (hDwr:¬ wr D) (hCwr:¬ wr C)
  {R:Result→Shared→Prop} {β:Type} {k:List PyData→Mine.R β} {fin:Mine.R β} (hne:fin≠.no) (hR:∀ xs st',xs.length≤sizeLine→Cst prog w l s₁ (fun b=>av b∨wr b∨b=D∨b=C) D C xs st'→k xs=fin→R (.ok .next) st')
  {st:Shared} (h:Cst prog w l s₁ (fun b=>av b∨wr b∨b=D∨b=C) D C [] st) (hst:St 0 st.heap) (hf:rb (fQ test eltF z σ ds) k=fin) :
  codeAny (model prog w) A (.compLoop (.ListComp elt [⟨.Name z zp,iter,ifs,0⟩] sc' pos) 0 it (.ref D) (compEnvC sc' cl C env)) R st:=by
 have nf:∀ b,(wr b∨b=D∨b=C)→¬ frs l b:=fun b hb f=>by
  obtain⟨o,e⟩:=I.gnd.avlt _ (I.gnd.fav _ f);rcases hb with hb | rfl | rfl
  ·rw[hwr b hb] at e;exact ns e
  ·rw[hD] at e;exact ns e
  ·rw[hC] at e;exact ns e
 have new:∀ b o,s₁.heap.get? b=some o→(av b∨wr b∨b=D∨b=C)→av b:=fun b o e hb=>by
  rcases hb with hb | hb | rfl | rfl
  ·exact hb
  ·rw[hwr b hb] at e;exact ns e
  ·rw[hD] at e;exact ns e
  ·rw[hC] at e;exact ns e
 have fvn:∀ b,frs l b→(av b∨wr b∨b=D∨b=C):=fun b f=>.inl (I.gnd.fav b f);obtain⟨P,hP⟩:∃ P:Nat→List PyData→Prop,∀ i xs,P i xs↔rb (fQ test eltF z σ (ds.drop i)) (fun ys=>k (xs++ys))=fin:=⟨_,fun _ _=>Iff.rfl⟩
 refine Im (I:=CTurn prog w l s₁ (fun b=>av b∨wr b∨b=D∨b=C) D C ds.length St P) ?_ ds.length ⟨0,[],Nat.zero_add _,Nat.le_refl _,h,hst,(hP _ _).mpr hf⟩;clear h hst hf st
 rintro m st ⟨i,xs,hi,hx,F,hst,hp⟩
 replace hp:=(hP _ _).mp hp;obtain⟨kk,⟨mm,hns⟩,ys,hpl,hyl,hys⟩:=F;have live:∀ (st':Shared),K l s₁ st'→(∃ m,st'.heap.Ns C m)→st'.heap.PlainList D ys.toArray→(∀ b,wr b→∃ o,st'.heap.get? b=some o)→∀ b,(av b∨wr b∨b=D∨b=C)→∃ o,st'.heap.get? b=some o:=fun st' kk hn hp hw b hb=>by
  rcases hb with hb | hb | rfl | rfl
  ·obtain⟨o,e⟩:=I.gnd.avlt b hb;obtain⟨sl,e'⟩:=kk.up e;exact⟨_,e'⟩
  ·exact hw b hb
  ·obtain⟨nn,e⟩:=hp;exact⟨_,e⟩
  ·obtain⟨_,o,_,_,e,_⟩:=hn;exact⟨o,e⟩
 by_cases hend:i=ds.length
 ·subst hend;rw[List.drop_length] at hp;have hp:k (xs++[])=fin:=hp;rw[List.append_nil] at hp;refine wpAny_mono (S.done st _ (fun s'=>R (.ok .next) s') hst fun h' tk hk=>hR xs _ (Nat.le_trans hx hlen) ⟨kk.onw hwr hk,⟨mm,hns.at' fun o e=>hk C o hCwr e⟩,ys,hpl.at fun o e=>hk D o hDwr e,hyl,fun j v d e1 e2 =>
   (hys j v d e1 e2).mono (fun b o hb e=>hk b o (fun hw=>hb (.inr (.inl hw))) e) fun _ _ _ x=>x⟩ hp) (fun r s₁ h₁=>?_) fun _ _ x=>x
  cases r with
  |none=>exact h₁
  |some v=>exact h₁.elim
 ·have hlt:i < ds.length:=by exact uC hi hend
  rw[List.drop_eq_getElem_cons hlt] at hp;replace hp:Fin (rb (nx (test (bnd z ds[i] σ))) fun b=>if b then rb (nx (eltF (bnd z ds[i] σ))) fun v=>rb (fQ test eltF z σ (ds.drop (i+1))) fun xs=>.ok (dOf v::xs) else fQ test eltF z σ (ds.drop (i+1))) (fun ys=>k (xs++ys)) fin:=⟨hp,hne⟩
  obtain⟨b,ht,hp⟩:=hp.b.nx;refine wpAny_mono (S.item i ds[i] st _ ?QQ (List.getElem?_eq_getElem hlt) hst ?body) ?link fun _ _ x=>x
  case link =>
   intro r s₁ h₁;cases r with
   |none=>exact h₁.elim
   |some v=>exact h₁
  intro v h1 tk1 hk1 st1 hrep;have rv:=hrep (fun b=>av b∨wr b∨b=D∨b=C) (live st kk ⟨mm,hns⟩ hpl (S.live i _ hst)) new;refine Ir rv (.inr (.inr (.inr rfl))) (hns.at' fun o e=>hk1 C o hCwr e) (by rw[kA,hok.tgt];rfl) hok.kind fun h2 tk2 m2 hn2 hk2 hm2=>?_;have k2:K l s₁ { st with heap:=h2,toks:=tk2 }:=K.on (s':={ st with heap:=h1,toks:=tk1 }) (c:=C) (kk.onw (tk:=tk1) hwr hk1) hC hk2;have st2:St (i+1) h2:=S.frame _ _ _ st1 (fun b o hb e=>hk2 b o (fun x=>hCwr ((show b=C from x)▸hb)) e) fun b o e hav=>k2.at (fun f=>hav (I.gnd.fav b f)) e;have pl2:h2.PlainList D ys.toArray:=hpl.at fun o e=>hk2 D o (fun x=>hDC x) (hk1 D o hDwr e);have ys2:∀ (j:Nat) (v:Value) (d:PyData),ys[j]?=some v→xs[j]?=some d→Rep prog w h2 (fun b=>av b∨wr b∨b=D∨b=C) v d:=fun j v d e1 e2 =>
   (hys j v d e1 e2).mono (fun b o hb e=>hk2 b o (fun x=>hb (.inr (.inr (.inr x)))) (hk1 b o (fun hw=>hb (.inr (.inl hw))) e)) fun _ _ _ x=>x
  have I2:Inv0 prog w mg mb base l (compEnvC sc' cl C env) sc' (bnd z ds[i] σ) (fun b=>av b∨wr b∨b=D∨b=C) { st with heap:=h2,toks:=tk2 } :=
   I.comp hok hcl k2 new (fun _ x=>.inl x) (live { st with heap:=h2,toks:=tk2 } k2 ⟨m2,hn2⟩ pl2 (S.live _ _ st2)) hn2 hm2
  refine hT ds[i] A _ _ _ hA I2 ht fun s₃ k3=>?_;have kk3:=k2.tr k3;have st3:St (i+1) s₃.heap:=S.frame _ _ _ st2 (fun b o hb e=>k3.at (nf b (.inl hb)) e) fun b o e hav=>kk3.at (fun f=>hav (I.gnd.fav b f)) e;have pl3:s₃.heap.PlainList D ys.toArray:=pl2.at fun o e=>k3.at (nf D (.inr (.inl rfl))) e;have ns3:s₃.heap.Ns C m2:=hn2.at' fun o e=>k3.at (nf C (.inr (.inr rfl))) e;have ys3:=fun j v d e1 e2=>Rep.k fvn k3 (ys2 j v d e1 e2);cases b with
  |false=>exact(show ∃ m',m' < m∧CTurn prog w l s₁ _ D C ds.length St P m' s₃ from ⟨m - 1,by exact oV hi hend,i+1,xs,by exact oW hi hend,by exact B3 hx,⟨kk3,⟨m2,ns3⟩,ys,pl3,hyl,ys3⟩,st3,(hP _ _).mpr hp⟩)
  |true =>
   replace hp:Fin (rb (nx (eltF (bnd z ds[i] σ))) fun v=>rb (fQ test eltF z σ (ds.drop (i+1))) fun xs=>.ok (dOf v::xs)) (fun ys=>k (xs++ys)) fin:=⟨hp,hne⟩
   obtain⟨u,hu,hp⟩:=hp.b.nx;have I3:=I2.k k3;refine(hE ds[i]).val hA I3 hu fun xv s₄ k4 r4=>?_;have rx:=r4.rep I3.gnd.avlt;have kk4:=kk3.tr k4;have pl4:s₄.heap.PlainList D ys.toArray:=pl3.at fun o e=>k4.at (nf D (.inr (.inl rfl))) e;refine wpAny_list_append_plain pl4 (fun h5 pl5 hs5=>?_) (by simp;exact B4 hlen hi hx hyl);have k45:∀ b o,b≠D→s₄.heap.get? b=some o→h5.get? b=some o:=fun b o hb e=>by rw[hs5.2 b hb];exact e
   have kk5:K l s₁ { s₄ with heap:=h5 }:=kk4.on (tk:=s₄.toks) hD k45;have hp:rb (fQ test eltF z σ (ds.drop (i+1))) (fun ys=>k ((xs++[dOf u])++ys))=fin:=by
    rw[← hp,qH];congr 1;funext ys;show k _=k _;rw[List.append_assoc];rfl
   refine⟨m - 1,by exact oV hi hend,i+1,xs++[dOf u],by exact oW hi hend,by simp;exact B5 hx,⟨kk5,⟨m2,?_⟩,ys++[xv],by simpa using pl5,by simp[hyl],xJ hyl (fun j v d e1 e2=>?_) ?_⟩,?_,(hP _ _).mpr hp⟩
   ·exact ns3.at' fun o e=>k45 C o (fun x=>hDC x.symm) (k4.at (nf C (.inr (.inr rfl))) e)
   ·exact(Rep.k fvn k4 (ys3 j v d e1 e2)).mono (fun b o hb e=>k45 b o (fun x=>hb (.inr (.inr (.inl x)))) e) fun _ _ _ x=>x
   ·exact rx.mono (fun b o hb e=>k45 b o (fun x=>hb (.inr (.inr (.inl x)))) e) fun _ _ _ x=>x
   ·exact S.frame _ _ _ st3 (fun b o hb e=>k45 b o (fun x=>hDwr (x▸hb)) (k4.at (nf b (.inl hb)) e)) fun b o e hav=>kk5.at (fun f=>hav (I.gnd.fav b f)) e
end
end Mine
namespace Mine
open PySem
section
variable {prog:Program} {w:World} {mg mb:Str→Option Value} {base:Heap} {n:Nat} {hd:Bool} {l:List Env}
theorem Iw{av:Addr→Prop}{s s₁:Shared}{wr:Addr→Prop}{D C:Addr}{xs:List PyData}{st:Shared}{h':Heap}(k0:K l s s₁)(hD:s₁.heap.get? D=none)(hC:s₁.heap.get? C=none)(hDC:D≠C)
  (F:Cst prog w l s₁ (fun b=>av b∨wr b∨b=D∨b=C) D C xs st) (hl:xs.length≤sizeLine) (hs:Heap.SameBut C st.heap h'):K l s { st with heap:=h' }∧bB prog w s h' av (.ref D) (.own (.list xs)):=by
 obtain⟨kk,_,ys,hpl,hyl,hys⟩:=F;have hk:∀ b o,b≠C→st.heap.get? b=some o→h'.get? b=some o:=fun b o hb e=>by rw[hs.2 b hb];exact e
 refine⟨k0.tr (kk.on (tk:=st.toks) hC hk),D,rfl,k0.non hD,ys,hpl.at fun o e=>hk D o hDC e,hyl,by rw[hyl];exact hl,fun j v d e1 e2=>?_⟩;refine(hys j v d e1 e2).mono (fun b o hb e=>hk b o (fun x=>hb (.inr (.inr (.inr x)))) e) fun b o _ hb=>?_;rcases hb with hb | hb
 ·exact .inl hb
 ·exact .inr (.inr (.inl hb))
theorem xK{rec:Expr→R V}{sc:Scope}{target e:Expr}(hbad:∀ e,bad e=true→rec e=.no)(h:bad e=true):fD rec hd sc target e=.no:=by
 have h0:iH rec e=.no:=by unfold iH;rw[hbad e h];rfl
 unfold fD
 split
 ·rfl
 ·unfold bad at h;unfold iI gH;generalize vw e=v at h;cases v<;>first | exact h0 | cases h
theorem xL{rec:Scope→aA→Expr→R V}{sc sc':Scope}{σ:aA}{elt:Expr}{g:Comprehension}{pos cpos:Pos}(hbad:∀ e,bad e=true→rec sc σ e=.no)
  (hit:aC prog w mg mb base n hd l sc σ g.iter (rec sc σ g.iter)) (hsub:∀ f as kws q,g.iter=.Call f as kws q→∀ a∈as,aC prog w mg mb base n hd l sc σ a (rec sc σ a))
  (hT:∀ c∈g.ifs,∀ σ',bQ prog w mg mb base n hd l sc' σ' c (rec sc' σ' c)) (hE:∀ σ',aC prog w mg mb base n hd l sc' σ' elt (rec sc' σ' elt))
  {A:Around} {env:Env} {s:Shared} {av:Addr→Prop} (hA:Room n hd l A) (I:Inv0 prog w mg mb base l env sc σ av s) {β:Type} {k:V→R β} {fin:R β} {Q:Value→Shared→Prop} {E:Value→Shared→Prop} {use:Option (Value→Sem Unit)}
  (hf:Fin (iK rec hd sc σ elt g sc') k fin) (he:EH prog w mg l s av fin E)
  (hq:∀ (s₁:Shared) (wr:Addr→Prop) (D C:Addr) (xs:List PyData) (st':Shared),K l s s₁→s₁.heap.get? D=none→s₁.heap.get? C=none→D≠C→xs.length≤sizeLine→Cst prog w l s₁ (fun b=>av b∨wr b∨b=D∨b=C) D C xs st'→k (.own (.list xs))=fin→compPost (model prog w) A E use Q (.ref D) C (.ok .next) st') :
  wpAny (model prog w) A (comprehension (.ListComp elt [g] sc' pos) sc' env cpos (newList []) (firstAsync [g]) (firstIter [g] env) use) Q E s:=by
 obtain⟨target,iter,ifs,as⟩:=g;unfold iK at hf;replace hf:Fin (match bD target with
  |none=>.no
  |some x=>if (lU sc sc' x&&as==0)=true then match pO rec sc' ifs with
   |none=>.no
   |some t=>rb (rb (fD (rec sc σ) hd sc target iter) fun l=>fQ t (fun σ'=>rec sc' σ' elt) x σ l) fun r=>ofP (own (.list r))
  else .no) k fin:=hf
 cases hn:bD target with
 |none=>rw[hn] at hf;exact hf.no.elim
 |some z =>
  rw[hn] at hf;obtain⟨hc,hf1⟩:=Fin.ite hf;clear hf;obtain⟨zp,rfl⟩:=c9 hn;simp only[Bool.and_eq_true,beq_iff_eq] at hc;obtain⟨c1,rfl⟩:=hc;have hok:=Iq c1;refine ocs (pO rec sc' ifs) (fun htt=>?_) fun t htt=>?_
  ·try rewrite[htt]
   rw[htt] at hf1;exact hf1.no.elim
  ·try rewrite[htt]
   rw[htt] at hf1;have hT':∀ d,m0 prog w mg mb base n hd l sc' (bnd z d σ) ifs (t (bnd z d σ)):=fun d=>by
    cases ifs with
    |nil=>obtain rfl:=si htt;exact It
    |cons c r =>
     cases r with
     |nil=>obtain rfl:=si htt;exact Iu (hT c List.mem_cons_self _)
     |cons=>cases htt
   have hb:bad iter=false:=eN (fun e=>xK hbad e) hf1.b.b.ne;obtain⟨cl,hclos,hcl⟩:=Il (env:=env) (scope:=sc') fun p hp hk=>(I.kinds p.1 (hok.free p hp hk)).2;have hs:∀ x,foldedSetIterable iter env x=pure x:=fun x=>by
    unfold foldedSetIterable;cases iter<;>first | rfl | cases hb
   refine wpAny_comprehension_free (g:=⟨.Name z zp,iter,ifs,0⟩) (gs:=[]) rfl hs hclos hok.kind (fun p hp hk=>(hok.loc p hp hk).2) ?_;refine xG (target:=.Name z zp) hbad hit hsub A env s av hA I hf1.b.b (fun it s₂ ds x h1=>?_) he;obtain⟨s₁,wr,St,k0,S,hst,hwr,k2,hlen⟩:=x;refine wpAny_newObj_type (wpAny_newFunctionEnv hok.cell (by intro y hy;simp at hy) (fun h₁ hns₁ hsb₁=>?_) hok.kind);dsimp only at hns₁ hsb₁ ⊢;generalize hH2:s₂.heap.push { cls:=.type "list", dict:=none,data:=.seq ([]:List Value).toArray }=H2 at hns₁ hsb₁ ⊢;have hC:H2.objs.size=s₂.heap.objs.size+1:=by rw[← hH2,Heap.size_push]
   have hDC:s₂.heap.objs.size≠H2.objs.size:=by rw[hC];exact Nat.ne_of_lt (Nat.lt_succ_self _)
   have below:∀ b,b < s₂.heap.objs.size→b≠H2.objs.size:=fun b hb=>by rw[hC];exact Nat.ne_of_lt (Nat.lt_succ_of_lt hb)
   have old:∀ b o,s₂.heap.get? b=some o→h₁.get? b=some o:=fun b o e=>hsb₁.extBut b o (below b (Heap.lt_size e)) (Heap.get?_push_of_some _ (hH2▸Heap.get?_push_of_some _ e));have hacc:h₁.PlainList s₂.heap.objs.size #[]:=⟨_,hsb₁.extBut _ _ hDC (Heap.get?_push_of_some _ (hH2▸Heap.get?_push_size _ rfl))⟩
   have hD2:s₂.heap.get? s₂.heap.objs.size=none:=bZ _;have hC2:s₂.heap.get? H2.objs.size=none:=Heap.get?_none_of_le (by rw[hC];exact Nat.le_succ _);have kk2:K l s₁ s₂:=K.of k2;have hst₁:St 0 h₁:=S.frame _ _ _ hst (fun b o _ e=>old b o e) fun b o e _=>old b o (k2.heap b o e);have loop:∀ s₃:Shared,s₃={ s₂ with heap:=h₁,toks:=s₂.toks+([]:List (Str×Value)).length } →
     codeAny (model prog w) A (.compLoop (.ListComp elt [⟨.Name z zp,iter,ifs,0⟩] sc' pos) 0 it (.ref s₂.heap.objs.size) (compEnvC sc' cl H2.objs.size env)) (compPost (model prog w) A E use Q (.ref s₂.heap.objs.size) H2.objs.size) s₃:=by
    rintro s₃ rfl
    refine Iv (s₁:=s₁) (wr:=wr) hA (I.k k0) hok hcl hT' (fun d=>hE _) S (fun b hb=>(hwr b hb).1) (kk2.non hD2) (kk2.non hC2) hDC hlen (fun hw=>?_) (fun hw=>?_) hf1.2 (fun xs st' hz F e=>?_) ⟨kk2.trp (Kp.mk' old),⟨_,hns₁⟩,[],hacc,rfl,nofun⟩ hst₁ h1
    ·obtain⟨o,e⟩:=(hwr _ hw).2;rw[hD2] at e;exact ns e
    ·obtain⟨o,e⟩:=(hwr _ hw).2;rw[hC2] at e;exact ns e
    ·exact hq s₁ wr _ _ xs st' k0 (kk2.non hD2) (kk2.non hC2) hDC hz F e
   exact codeAny_compStart_list (loop _ rfl) (S.self 0 _ _ _ hst₁ (loop _ rfl))
theorem Ix{rec:Scope→aA→Expr→R V}{sc sc':Scope}{σ:aA}{elt:Expr}{g:Comprehension}{pos:Pos}(hbad:∀ e,bad e=true→rec sc σ e=.no)
  (hit:aC prog w mg mb base n hd l sc σ g.iter (rec sc σ g.iter)) (hsub:∀ f as kws q,g.iter=.Call f as kws q→∀ a∈as,aC prog w mg mb base n hd l sc σ a (rec sc σ a))
  (hT:∀ c∈g.ifs,∀ σ',bQ prog w mg mb base n hd l sc' σ' c (rec sc' σ' c)) (hE:∀ σ',aC prog w mg mb base n hd l sc' σ' elt (rec sc' σ' elt)) :
  aC prog w mg mb base n hd l sc σ (.ListComp elt [g] sc' pos) (iK rec hd sc σ elt g sc'):=by
 intro A env s av hA I β k fin Q E hf hq he;rw[eval_ListComp];refine xL hbad hit hsub hT hE hA I hf he fun s₁ wr D C xs st' k0 hD hC hDC hz F e=>?_;obtain⟨m,hn⟩:=F.ns;exact⟨m,hn,fun h' hs=>by obtain⟨a,b⟩:=Iw k0 hD hC hDC F hz hs;exact hq _ _ (.own (.list xs)) a b e⟩
end
end Mine
namespace Mine
open PySem
section
variable {prog:Program} {w:World} {mg mb:Str→Option Value} {base:Heap} {n:Nat} {l:List Env}
theorem xM{rec:Scope→aA→Expr→R V}{C:Ctx}{sc:Scope}{σ:aA}{e:Expr}(h:bad e=true):eK rec C sc σ e=.no:=by
 cases e<;>first | rfl | cases h
theorem P.bindI{α β:Type}{p:P α}{f:α→P β}{b:β}(h:p.bind f=.ok b):∃ a,p=.ok a∧f a=.ok b:=by
 cases p with
 |no=>exact pno h
 |ok a=>exact⟨a,rfl,h⟩
theorem Iy{o:Option (Option V)}{x:X}(h:u5 o=some x):o=some (some (.ex x)):=by
 cases o with
 |none=>exact ns h
 |some v =>
  cases v with
  |none=>exact ns h
  |some v =>
   cases v with
   |ex y=>obtain rfl:=si h;rfl
   |_=>exact ns h
theorem Iz{fs:List (Str×PyData)}{p:Str}{d:PyData}(h:jZ fs p=some d):(p,d)∈fs:=by
 induction fs with
 |nil=>exact ns h
 |cons q r ih =>
  obtain⟨y,e⟩:=q;replace h:(if p=y then some e else jZ r p)=some d:=h
  by_cases hy:p=y
  ·rw[if_pos hy] at h;obtain rfl:=si h;rw[hy];exact List.mem_cons_self
  ·rw[if_neg hy] at h;exact List.mem_cons_of_mem _ (ih h)
theorem Rep.handed{h:Heap}{av:Addr→Prop}{v:Value}{d:PyData}(r:Rep prog w h av v d):handedOut v=pure v:=by cases r<;>rfl
theorem iS{α:Type}{o:Option α}{x:α}(h:ofO o=.ok x):o=some x:=by
 cases o with
 |none=>exact pno h
 |some y=>obtain rfl:=pi h;rfl
theorem I0{C:Ctx}(hK:KSound prog w mg mb base n C){sc:Scope}{σ:aA}{o:Expr}{m:Str}{p:Pos}:aC prog w mg mb base n C.hd l sc σ (.Attribute o m p) (ofP (u6 C sc σ o m)):=by
 intro A env s av hA I β k fin Q E hf hq he;obtain⟨u,e0,e2⟩:=hf.p;obtain⟨z,h1,e1⟩:=P.bindI e0;obtain⟨pz,rfl⟩:=c9 (iS h1)
 by_cases hl:isL sc z=true
 case neg=>rw[if_neg hl] at e1;exact pno e1
 rw[if_pos hl] at e1;obtain⟨x,h2,e1⟩:=P.bindI e1;obtain⟨i,h3,e1⟩:=P.bindI e1;obtain⟨ps,h4,e1⟩:=P.bindI e1
 by_cases hm:ps.contains m=true
 case neg=>rw[if_neg hm] at e1;exact pno e1
 rw[if_pos hm] at e1;obtain⟨d,h5,e1⟩:=P.bindI e1;obtain rfl:=pi e1;have hi:(bG x.cls prog.main.body).map (·.2)=some (some ps):=by
  rw[← iS h4,← iS h3,hK.init]
 obtain⟨pc,hpc,hps⟩:=Option.map_eq_some_iff.mp hi;obtain⟨v,hva,e,rfl,na,ob,vs,Ca,g1,g2,g3,g4,g5⟩:=I.get z (.ex x) hl (Iy (iS h2));obtain⟨C',bm,c1,c2,_⟩:=I.gnd.glo.cls x.cls pc hpc;rw[g4] at c1;obtain rfl:=Value.ref.inj (si c1);rcases g5 with g5 | ⟨dd,mm,ed,nn,hns,r⟩
 ·rw[g5] at h5;exact ns (iS h5)
 obtain⟨v',hv1,hv2⟩:=r m d (Iz (iS h5));rw[arm_eval_Attribute];refine wpAny_bind ?_;show wpAny (model prog w) A (eval (.Name z pz) env) _ _ _;refine eO I hl hva (wpAny_bind (wpAny_standAt (wpAny_bind (wpAny_holding (c2.fld ps hps m (List.contains_iff_mem.mp hm) A s e dd ob vs mm v' E _ I.gnd.stay g1 g3 g2 ed hns hv1 hv2.handed fun tk=>?_)))));exact wpAny_bind (wpAny_pure (wpAny_pure (hq v' _ (.fz d) (K.of ⟨s.heap,tk,rfl,fun _ _ e=>e⟩) hv2 e2)))
theorem I4{C:Ctx}(hK:KSound prog w mg mb base n C){rec:Scope→aA→Expr→R V}(hbad:∀ sc σ e,bad e=true→rec sc σ e=.no)
  (ih:∀ sc σ e,aC prog w mg mb base n C.hd l sc σ e (rec sc σ e)∧bQ prog w mg mb base n C.hd l sc σ e (rec sc σ e)) (sc:Scope) (σ:aA) (e:Expr) :
  aC prog w mg mb base n C.hd l sc σ e (eK rec C sc σ e)∧bQ prog w mg mb base n C.hd l sc σ e (eK rec C sc σ e):=by
 have hE:∀ e,aC prog w mg mb base n C.hd l sc σ e (rec sc σ e):=fun e=>(ih sc σ e).1;have hT:∀ e,bQ prog w mg mb base n C.hd l sc σ e (rec sc σ e):=fun e=>(ih sc σ e).2;have tv:∀ {e p},aC prog w mg mb base n C.hd l sc σ e p→(∀ env whole,PySem.isTrue e env whole=(do let v ← whole;standAt e.pos;holding [v] (truthy v)))→aC prog w mg mb base n C.hd l sc σ e p∧bQ prog w mg mb base n C.hd l sc σ e p:=fun h he=>⟨h,vZ h he⟩
 have tn:∀ {e},aC prog w mg mb base n C.hd l sc σ e .no∧bQ prog w mg mb base n C.hd l sc σ e .no:=⟨fun _ _ _ _ _ _ _ _ _ _ _ hf=>hf.no.elim,fun _ _ _ _ _ _ _ _ _ _ _ hf=>(Fin.b hf).no.elim⟩
 cases e with
 |Constant c k p=>exact tv Fd fun _ _=>rfl
 |Name x p=>exact tv (Fc hK.const) fun _ _=>rfl
 |BoolOp op vs p =>
  cases op with
  |And=>exact⟨fun A env s av hA I _ _ _ _ _ hf hq he=>Fu hA (fun e _=>hE e) I hf hq he,fun A env s av hA I _ _ _ _ _ hf hq he=>Fw hA (fun e _=>hT e) I hf hq he⟩
  |Or=>exact⟨fun A env s av hA I _ _ _ _ _ hf hq he=>Fv hA (fun e _=>hE e) I hf hq he,fun A env s av hA I _ _ _ _ _ hf hq he=>Fx hA (fun e _=>hT e) I hf hq he⟩
 |BinOp l op r p=>exact tv (Fp (hE l) (hE r)) fun _ _=>rfl
 |UnaryOp op x p =>
  refine⟨vY (hE x),?_⟩;cases op with
  |Not=>exact Fs (hT x)
  |_=>exact vZ (vY (hE x)) fun _ _=>rfl
 |IfExp t b o p=>exact⟨Fq (hT t) (hE b) (hE o),Ft (hT t) (hT b) (hT o)⟩
 |Dict ks vs p=>exact tv (Ia (fun k _=>hE k) fun e _=>hE e) fun _ _=>rfl
 |List es p=>exact tv (F1 (hbad sc σ) fun e _=>hE e) fun _ _=>rfl
 |Tuple es k p=>exact tv (F2 (hbad sc σ) fun e _=>hE e) fun _ _=>rfl
 |ListComp elt gens sc' p =>
  cases gens with
  |nil=>exact tn
  |cons g gs =>
   cases gs with
   |nil=>exact tv (Ix (hbad sc σ) (hE _) (fun _ _ _ _ _ a _=>hE a) (fun c _ σ'=>(ih sc' σ' c).2) fun σ'=>(ih sc' σ' elt).1) fun _ _=>rfl
   |cons=>exact tn
 |Compare l ops es p=>exact⟨Fy (hbad sc σ) (hE l) fun e _=>hE e,Fz (hbad sc σ) (hE l) fun e _=>hE e⟩
 |Subscript o i p=>exact tv (Ge (hE o) (hE i) fun c _=>⟨fun x _=>hE x,fun x _=>hE x⟩) fun _ _=>rfl
 |Attribute o m p=>exact tv (I0 hK) fun _ _=>rfl
 |Call f as kws p =>
  cases kws with
  |cons=>exact tn
  |nil =>
   show aC prog w mg mb base n C.hd l sc σ _ (match vw f with | .attr o m ap=>jY (rec sc σ) o m ap as p | .name f=>lY (rec sc σ) C sc σ f as | _=>.no)∧bQ prog w mg mb base n C.hd l sc σ _ (match vw f with | .attr o m ap=>jY (rec sc σ) o m ap as p | .name f=>lY (rec sc σ) C sc σ f as | _=>.no);cases hv:vw f with
   |attr o m ap =>
    have ef:f=_:=cX hv;subst ef;exact tv (Hy (hbad sc σ) (hE o) fun e _=>hE e) fun _ _=>rfl
   |name x =>
    obtain⟨q,rfl⟩:=cX hv;exact tv (H6 hK (hbad sc σ) (fun e _=>hE e) fun _ _ _ _ _ _ _=>⟨fun x _=>hE x,fun o _ _ _=>hE o⟩) fun _ _=>rfl
   |_=>exact tn
 |_=>exact tn
theorem kB{C:Ctx}(hK:KSound prog w mg mb base n C):∀ (k:Nat) (sc:Scope) (σ:aA) (e:Expr),aC prog w mg mb base n C.hd l sc σ e (evE C k sc σ e)∧bQ prog w mg mb base n C.hd l sc σ e (evE C k sc σ e):=by
 intro v0
 induction v0 with
 |zero =>
  intro _ _ _;exact⟨fun _ _ _ _ _ _ _ _ _ _ _ hf=>hf.no.elim,fun _ _ _ _ _ _ _ _ _ _ _ hf=>(Fin.b hf).no.elim⟩
 |succ k ih =>
  intro sc σ e;exact I4 hK (rec:=evE C k) (fun sc σ e hb=>by cases k with | zero=>rfl | succ k=>exact xM hb) (fun sc σ e=>ih sc σ e) sc σ e
end
end Mine
namespace Mine
open PySem
section
variable {prog:Program} {w:World} {mg mb:Str→Option Value} {base:Heap} {l₀:List Env} {env:Env} {sc:Scope} {av₀:Addr→Prop} {s₀:Shared}
theorem IsCell.uniq{h:Heap}{c:Addr}{v v':Option Value}(x:h.IsCell c v)(y:h.IsCell c v'):v=v':=by
 obtain⟨o,e,d⟩:=x;obtain⟨o',e',d'⟩:=y;rw[e] at e';cases e';rw[d] at d';cases d';rfl
theorem a9.uniq{h:Heap}{x:Str}{u u':Value}(a:a9 env h x u)(b:a9 env h x u'):u=u':=by
 rcases a with ⟨k,m,hn,e⟩ | ⟨k,c,e,hc⟩
 ·rcases b with ⟨k',m',hn',e'⟩ | ⟨k',c',e',hc'⟩
  ·rw[hn.eq_nsMap] at e;rw[hn'.eq_nsMap] at e';rw[e] at e';exact Option.some.inj e'
  ·rw[k] at k';rcases k' with k' | k'<;>cases k'
 ·rcases b with ⟨k',m',hn',e'⟩ | ⟨k',c',e',hc'⟩
  ·rw[k'] at k;rcases k with k | k<;>cases k
  ·rw[e] at e';cases e';exact Option.some.inj (IsCell.uniq hc hc')
noncomputable def Mn(env:Env)(b:Addr):Prop:=b=env.locals∨∃ y,env.cells.lookup y=some b
noncomputable def bL(env:Env)(σ:aA)(h:Heap)(x:Str)(a:Addr):Prop:=(∃ d,aA.get σ x=some (some (.own d)))∧a9 env h x (.ref a)
structure Act(prog:Program)(w:World)(mg mb:Str→Option Value)(base:Heap)(l₀:List Env)(env:Env)(sc:Scope)(av₀:Addr→Prop)(s₀:Shared)(σ:aA)(av:Addr→Prop)(s:Shared):Prop where
 inv:Inv0 prog w mg mb base (env::l₀) env sc σ av s
 stay0:∀ b o,base.get? b=some o→s₀.heap.get? b=some o
 frm:env.frame=some env.locals
 fr0:∀ b,frs l₀ b→av₀ b∧∃ o,s₀.heap.get? b=some o
 k0:K l₀ s₀ s
 bas:∀ b,av₀ b→av b
 ns:∃ m,s.heap.Ns env.locals m
 cells:∀ x c,env.cells.lookup x=some c→c≠env.locals∧∃ v,s.heap.IsCell c v
 fresh:∀ b,Mn env b→av b∧s₀.heap.get? b=none∧¬ av₀ b
 capart:∀ x y c,env.cells.lookup x=some c→env.cells.lookup y=some c→x=y
 names:∀ x v,aA.get σ x=some v→isL sc x=true∧(env.kindOf x=some .local∨(env.kindOf x=some .cell∧∃ c,env.cells.lookup x=some c))
 ownA:∀ x a,bL env σ s.heap x a→av a∧s₀.heap.get? a=none∧¬ av₀ a∧¬ Mn env a
 ownI:∀ x y a,bL env σ s.heap x a→bL env σ s.heap y a→x=y
 loc:∀ x,sc.names.lookup x=some .local→env.kindOf x=some .local
theorem gR{b:Addr}(hf:env.frame=some env.locals):frs (env::l₀) b↔b=env.locals∨frs l₀ b:=by
 unfold frs;rw[List.filterMap_cons,hf,List.mem_cons]
theorem Act.liveMn{σ:aA}{av:Addr→Prop}{s:Shared}(X:Act prog w mg mb base l₀ env sc av₀ s₀ σ av s){b:Addr}(h:Mn env b):∃ o,s.heap.get? b=some o:=by
 rcases h with rfl | ⟨y,h⟩
 ·obtain⟨m,o,es,ep,e,_⟩:=X.ns;exact⟨o,e⟩
 ·obtain⟨_,v,o,e,_⟩:=X.cells y b h;exact⟨o,e⟩
theorem Act.newNot{σ:aA}{av:Addr→Prop}{s:Shared}(X:Act prog w mg mb base l₀ env sc av₀ s₀ σ av s){b:Addr}(h:s.heap.get? b=none):¬ Mn env b∧¬ av b∧¬ av₀ b∧s₀.heap.get? b=none∧¬ frs (env::l₀) b :=
 have hav:¬ av b:=fun x=>by obtain⟨o,e⟩:=X.inv.gnd.avlt b x;rw[h] at e;cases e
 ⟨fun x=>(by obtain⟨o,e⟩:=X.liveMn x;rw[h] at e;cases e),hav,fun x=>hav (X.bas b x),X.k0.non h,fun x=>hav (X.inv.gnd.fav b x)⟩
theorem cH.mono'{l:List Env}{h h':Heap}{av av':Addr→Prop}(hk:∀ b o,¬ av b→h.get? b=some o→h'.get? b=some o)(ha:∀ b o,h.get? b=some o→av' b→av b){u:Value}{v:V}
  (hs:∀ d a,v=.own d→u=.ref a→∀ o,h.get? a=some o→h'.get? a=some o) (r:cH prog w mg l h av u v):cH prog w mg l h' av' u v:=by
 cases v with
 |fz d=>exact Rep.mono hk ha r
 |own d=>obtain⟨a,e,n,r⟩:=r;exact⟨a,e,n,r.mono hk ha (hs d a rfl e)⟩
 |ex x=>obtain⟨e,h,r⟩:=r;exact⟨e,h,r.mono hk ha⟩
theorem FunFrames.to{h h' base:Heap}:∀ {l:List Env},h.FunFrames base l→(∀ b o,frs l b→h.get? b=some o→(∀ vs,o.data≠.fields vs)→∃ o',h'.get? b=some o'∧∀ vs,o'.data≠.fields vs)→h'.FunFrames base l
 := by
 intro l
 induction l with
 |nil=>exact fun _ _=>trivial
 |cons env r ih =>
  intro f k;obtain⟨hk,⟨L,o,hf,hn,ho,hd⟩,hr⟩:=f;obtain⟨o',ho',hd'⟩:=k L o (by unfold frs;rw[List.filterMap_cons,hf];exact List.mem_cons_self) ho hd;exact⟨hk,⟨L,o',hf,hn,ho',hd'⟩,ih hr fun b o f=>k b o (by unfold frs;rw[List.filterMap_cons,hf];exact List.mem_cons_of_mem _ f)⟩
theorem a9.kept{h h':Heap}{x:Str}{u:Value}(v:a9 env h x u)(hk:∀ b o,Mn env b→h.get? b=some o→h'.get? b=some o):a9 env h' x u:=by
 rcases v with ⟨k,m,hn,e⟩ | ⟨k,c,e,o,e1,e2⟩
 ·exact .inl ⟨k,m,hn.at' fun o e=>hk _ o (.inl rfl) e,e⟩
 ·exact .inr ⟨k,c,e,o,hk c o (.inr ⟨x,e⟩) e1,e2⟩
theorem Act.varBack{σ:aA}{av:Addr→Prop}{s:Shared}{h':Heap}(X:Act prog w mg mb base l₀ env sc av₀ s₀ σ av s){x:Str}{v:V}{u:Value}(hg:aA.get σ x=some (some v))(hk:∀ u,a9 env s.heap x u→a9 env h' x u)(hv:a9 env h' x u):a9 env s.heap x u:=by
 obtain⟨u',h1,_⟩:=X.inv.get x v (X.names x _ hg).1 hg;have:=a9.uniq (hk _ h1) hv;exact this▸h1
theorem Act.ownBack{σ:aA}{av:Addr→Prop}{s:Shared}{h':Heap}(X:Act prog w mg mb base l₀ env sc av₀ s₀ σ av s){x:Str}{a:Addr}(hk:∀ u,a9 env s.heap x u→a9 env h' x u)(h:bL env σ h' x a):bL env σ s.heap x a :=
 let ⟨⟨d,hg⟩,hv⟩:=h;⟨⟨d,hg⟩,X.varBack hg hk hv⟩
theorem K.drop{s s':Shared}(hf:env.frame=some env.locals)(h0:s₀.heap.get? env.locals=none)(x:K l₀ s₀ s)(y:K (env::l₀) s s'):K l₀ s₀ s':=by
 obtain⟨h,t,rfl,k,u⟩:=x;obtain⟨h',t',rfl,k',u'⟩:=y;refine⟨h',t',rfl,fun b o n e=>k' b o (fun f=>?_) (k b o n e),fun b o e=>by obtain⟨_,e1⟩:=u b o e;exact by obtain⟨sl,e2⟩:=u' b _ e1;exact⟨sl,e2⟩⟩;rcases(gR hf).mp f with f | f
 ·simp only[f,h0] at e;exact ns e
 ·exact n f
theorem Act.k{σ:aA}{av:Addr→Prop}{s s':Shared}(X:Act prog w mg mb base l₀ env sc av₀ s₀ σ av s)(k:K (env::l₀) s s'):Act prog w mg mb base l₀ env sc av₀ s₀ σ av s' :=
 { X with
  inv:=X.inv.k k
  k0:=X.k0.drop X.frm (X.fresh _ (.inl rfl)).2.1 k
  ns:=by obtain⟨m,hn⟩:=X.ns;exact⟨m,k.upTo.ns hn⟩
  cells:=fun x c e=>by obtain⟨h1,v,o,h2,h3⟩:=X.cells x c e;exact by obtain⟨_,e'⟩:=k.up h2;exact⟨h1,v,_,e',h3⟩
  ownA:=fun x a h=>X.ownA x a (X.ownBack (fun u h=>h.k k) h)
  ownI:=fun x y a h1 h2=>X.ownI x y a (X.ownBack (fun u h=>h.k k) h1) (X.ownBack (fun u h=>h.k k) h2) }
theorem Gnd.grow{l:List Env}{av S:Addr→Prop}{s:Shared}(G:Gnd prog w mg mb base l av s)(hl:∀ a,S a→∃ o,s.heap.get? a=some o):Gnd prog w mg mb base l (fun b=>av b∨S b) s :=
 { G with fav:=fun b h=>.inl (G.fav b h),avlt:=fun b h=>h.elim (G.avlt b) (hl b),avS:=.inl G.avS }
theorem Act.growS{σ:aA}{av:Addr→Prop}{s s':Shared}{S:Addr→Prop}(X:Act prog w mg mb base l₀ env sc av₀ s₀ σ av s)(k:K (env::l₀) s s')(hn:∀ a,S a→s.heap.get? a=none)(hl:∀ a,S a→∃ o,s'.heap.get? a=some o) :
  Act prog w mg mb base l₀ env sc av₀ s₀ σ (fun b=>av b∨S b) s':=by
 have Y:=X.k k;refine { Y with inv:={ Y.inv with gnd:=Y.inv.gnd.grow hl,get:=fun x v hl' hg=>?_ },bas:=fun b hb=>.inl (X.bas b hb),fresh:=fun b h=>by obtain⟨h1,h2⟩:=X.fresh b h;exact⟨.inl h1,h2⟩,ownA:=fun x a h=>by obtain⟨h1,h2⟩:=Y.ownA x a h;exact⟨.inl h1,h2⟩ };obtain⟨u,h1,h2⟩:=X.inv.get x v hl' hg;refine⟨u,h1.k k,?_⟩;have h3:cH prog w mg (env::l₀) s.heap (fun b=>av b∨S b) u v:=h2.mono' (fun _ _ _ e=>e) (fun b o e hb=>hb.elim id fun hb=>by rw[hn b hb] at e;cases e) fun _ _ _ _ _ e=>e;exact h3.k (fun b h=>.inl (X.inv.gnd.fav b h)) k
theorem aA.get_clear(xs:List Str)(x:Str):∀ σ:aA,aA.get (aA.clear σ xs) x=(aA.get σ x).map fun v=>if xs.contains x then v.map V.clear else v
 | []=>rfl
 | (y,v)::r=>by
  show(if x=y then some (if xs.contains y then v.map V.clear else v) else aA.get (aA.clear r xs) x)=(if x=y then some v else aA.get r x).map _
  by_cases h:x=y
  ·subst h;rw[if_pos rfl,if_pos rfl];rfl
  ·rw[if_neg h,if_neg h];exact aA.get_clear xs x r
theorem xN{xs:List Str}{x:Str}{σ:aA}{v:V}(h:aA.get (aA.clear σ xs) x=some (some v)):∃ v0,aA.get σ x=some (some v0)∧(v=v0∧(xs.contains x=true→∀ d,v0≠.own d)∨xs.contains x=true∧∃ d,v0=.own d∧v=.fz d):=by
 rw[aA.get_clear] at h;refine ocs (aA.get σ x) (fun hg=>?_) fun o hg=>?_
 ·try rewrite[hg]
  rw[hg] at h;exact ns h
 ·try rewrite[hg]
  rw[hg] at h;have h:=Option.some.inj h;cases o with
  |none=>revert h;cases xs.contains x<;>exact fun h=>by exact ns h
  |some v0 =>
   refine⟨v0,rfl,?_⟩
   revert h
   cases xs.contains x with
   |false=>exact fun h=>.inl ⟨(Option.some.inj h).symm,fun h=>by exact bft h⟩
   |true =>
    intro h;have h:v0.clear=v:=Option.some.inj h;cases v0 with
    |own d=>exact .inr ⟨rfl,d,rfl,h.symm⟩
    |_=>exact .inl ⟨h.symm,fun _ _ h=>by cases h⟩
theorem Act.clear{σ:aA}{av:Addr→Prop}{s:Shared}(X:Act prog w mg mb base l₀ env sc av₀ s₀ σ av s)(xs:List Str):∃ av1,Act prog w mg mb base l₀ env sc av₀ s₀ (aA.clear σ xs) av1 s∧∀ b,av1 b→av b:=by
 let Z:Addr→Prop:=fun b=>∃ x,xs.contains x=true∧bL env σ s.heap x b
 have back:∀ x a,bL env (aA.clear σ xs) s.heap x a→xs.contains x=false∧bL env σ s.heap x a:=fun x a ⟨⟨d,h⟩,hv⟩=>by
  obtain⟨v0,hg,⟨e,hc⟩ | ⟨_,d',_,e⟩⟩:=xN h
  ·exact⟨Bool.not_eq_true _▸fun h=>hc h d e.symm,⟨d,e▸hg⟩,hv⟩
  ·cases e
 have nZ:∀ b,(s₀.heap.get? b≠none∨av₀ b∨Mn env b)→¬ Z b:=by
  rintro b hb ⟨x,_,h⟩
  obtain⟨_,h2,h3,h4⟩:=X.ownA x b h;rcases hb with hb | hb | hb
  ·exact hb h2
  ·exact h3 hb
  ·exact h4 hb
 have hmods:s₀.heap.get? sysModules≠none:=fun e=>by
  obtain⟨mm,o,es,ep,h,_⟩:=X.inv.gnd.glo.mods;rw[X.stay0 _ _ h] at e;exact sn e
 refine⟨fun b=>av b∧¬ Z b,{ X with inv:=?_,bas:=fun b hb=>⟨X.bas b hb,nZ b (.inr (.inl hb))⟩,fresh:=fun b h=>by obtain⟨h1,h2⟩:=X.fresh b h;exact⟨⟨h1,nZ b (.inr (.inr h))⟩,h2⟩,names:=fun x v h=>?_,ownA:=fun x a h=>?_,ownI:=fun x y a h1 h2=>X.ownI x y a (back x a h1).2 (back y a h2).2 },fun b h=>h.1⟩
 ·refine { X.inv with gnd:={ X.inv.gnd with fav:=fun b h=>?_,avlt:=fun b hb=>X.inv.gnd.avlt b hb.1,avS:=⟨X.inv.gnd.avS,nZ _ (.inl hmods)⟩ },get:=fun x v hl hg=>?_ }
  ·refine⟨X.inv.gnd.fav b h,nZ b ?_⟩;rcases(gR X.frm).mp h with h | h
   ·exact .inr (.inr (.inl h))
   ·exact .inr (.inl (X.fr0 b h).1)
  ·obtain⟨v0,hg0,⟨rfl,hc⟩ | ⟨hc,d,rfl,rfl⟩⟩:=xN hg
   ·obtain⟨u,h1,h2⟩:=X.inv.get x v hl hg0;exact⟨u,h1,h2.mono' (fun _ _ n e=>e) (fun _ _ _ h=>h.1) fun _ _ _ _ _ e=>e⟩
   ·obtain⟨u,h1,a,rfl,_,r⟩:=X.inv.get x _ hl hg0;exact⟨_,h1,bH.rep (fun h=>h.2 ⟨x,hc,⟨d,hg0⟩,h1⟩) (r.mono (fun _ _ _ e=>e) (fun _ _ _ h=>h.1) fun _ e=>e)⟩
 ·rw[aA.get_clear] at h;obtain⟨v0,hg,_⟩:=Option.map_eq_some_iff.mp h;exact X.names x v0 hg
 ·obtain⟨hc,h⟩:=back x a h;obtain⟨h1,h2⟩:=X.ownA x a h;exact⟨⟨h1,fun hh=>by obtain⟨y,hcy,hy⟩:=hh;exact by rw[X.ownI x y a h hy,hcy] at hc;exact btf hc⟩,h2⟩
theorem Act.weaken{av₁:Addr→Prop}{σ:aA}{av:Addr→Prop}{s:Shared}(X:Act prog w mg mb base l₀ env sc av₁ s₀ σ av s)(h:∀ b,av₀ b→av₁ b)(hf:∀ b,frs l₀ b→av₀ b):Act prog w mg mb base l₀ env sc av₀ s₀ σ av s :=
 { X with fr0:=fun b hb=>⟨hf b hb,(X.fr0 b hb).2⟩,bas:=fun b hb=>X.bas b (h b hb),fresh:=fun b hb=>by obtain⟨h1,h2,h3⟩:=X.fresh b hb;exact⟨h1,h2,fun x=>h3 (h b x)⟩,ownA:=fun x a hb=>by obtain⟨h1,h2,h3,h4⟩:=X.ownA x a hb;exact⟨h1,h2,fun x=>h3 (h a x),h4⟩ }
theorem Act.pin{σ:aA}{av S:Addr→Prop}{s s':Shared}(X:Act prog w mg mb base l₀ env sc av₀ s₀ σ av s)(k:K (env::l₀) s s')(hn:∀ a,S a→s.heap.get? a=none)(hl:∀ a,S a→∃ o,s'.heap.get? a=some o) :
  Act prog w mg mb base l₀ env sc (fun b=>av₀ b∨S b) s₀ σ (fun b=>av b∨S b) s':=by
 have Y:=X.growS k hn hl;refine { Y with fr0:=fun b h=>by obtain⟨h1,h2⟩:=X.fr0 b h;exact⟨.inl h1,h2⟩,bas:=fun b hb=>hb.imp (X.bas b) id,fresh:=fun b h=>by obtain⟨h1,h2,h3⟩:=Y.fresh b h;exact⟨h1,h2,fun x=>x.elim h3 fun x=>(X.newNot (hn b x)).1 h⟩,ownA:=fun x a h=>?_ };obtain⟨h1,h2,h3,h4⟩:=X.ownA x a (X.ownBack (fun u h=>h.k k) h);exact⟨.inl h1,h2,fun x=>x.elim h3 fun x=>(X.newNot (hn a x)).2.1 h1,h4⟩
theorem Act.gndS{σ:aA}{av av' S:Addr→Prop}{s:Shared}{h':Heap}{tk:Nat}(X:Act prog w mg mb base l₀ env sc av₀ s₀ σ av s)(h0:∀ b,S b→s₀.heap.get? b=none)(hs:∀ b o,¬ S b→s.heap.get? b=some o→h'.get? b=some o)
  (hL:∃ m,h'.Ns env.locals m)
  (h1:∀ b,av' b→av b) (h2:∀ b,av b→¬ S b→av' b) (h3:∀ b,av' b→S b→∃ o,h'.get? b=some o) (h4:∀ b,frs (env::l₀) b→av' b):Gnd prog w mg mb base (env::l₀) av' { s with heap:=h',toks:=tk }∧K l₀ s₀ { s with heap:=h',toks:=tk }:=by
 have hbase:∀ b o,base.get? b=some o→¬ S b:=fun b o e h=>by have:=X.stay0 b o e;rw[h0 b h] at this;cases this
 refine⟨{ X.inv.gnd with stay:=fun b o e=>hs b o (hbase b o e) (X.inv.gnd.stay b o e),ff:=?_,fav:=h4,avlt:=fun b hb=>?_,avS:=h2 _ X.inv.gnd.avS ?_ },?_⟩
 ·refine FunFrames.to X.inv.gnd.ff fun b o f e hd=>?_;rcases(gR X.frm).mp f with f | f
  ·obtain⟨m,o',es,ep,e',d',_⟩:=hL;exact⟨o',f▸e',fun vs q=>by rw[d'] at q;cases q⟩
  ·exact⟨o,hs b o (fun x=>by obtain⟨_,o',e'⟩:=X.fr0 b f;rw[h0 b x] at e';cases e') e,hd⟩
 ·by_cases hb':S b
  ·exact h3 b hb hb'
  ·obtain⟨o,e⟩:=X.inv.gnd.avlt b (h1 b hb);exact⟨o,hs b o hb' e⟩
 ·obtain⟨mm,o,es,ep,e,_⟩:=X.inv.gnd.glo.mods;exact hbase _ _ e
 ·obtain⟨h,t,rfl,k,u⟩:=X.k0;exact⟨h',tk,rfl,fun b o n e=>hs b o (fun x=>by rw[h0 b x] at e;cases e) (k b o n e),fun b o e=>by obtain⟨sl,e1⟩:=u b o e;exact⟨sl,hs b _ (fun x=>by rw[h0 b x] at e;cases e) e1⟩⟩
end
end Mine
namespace Mine
open PySem
section
variable {prog:Program} {w:World} {mg mb:Str→Option Value} {base:Heap} {l₀:List Env} {env:Env} {sc:Scope} {av₀:Addr→Prop} {s₀:Shared}
theorem Act.upd{σ σ':aA}{av av' S:Addr→Prop}{s:Shared}{h':Heap}{tk:Nat}(X:Act prog w mg mb base l₀ env sc av₀ s₀ σ av s)(h0:∀ b,S b→s₀.heap.get? b=none)(hs:∀ b o,¬ S b→s.heap.get? b=some o→h'.get? b=some o)
  (hL:∃ m,h'.Ns env.locals m) (hC:∀ x c,env.cells.lookup x=some c→∃ v,h'.IsCell c v) (h1:∀ b,av' b→av b) (h2:∀ b,av b→¬ S b→av' b) (h3:∀ b,av' b→S b→∃ o,h'.get? b=some o) (h4:∀ b,av₀ b→av' b) (hM:∀ b,Mn env b→av' b)
  (hN:∀ x v,aA.get σ' x=some v→∃ v0,aA.get σ x=some v0) (hG:∀ x v,isL sc x=true→aA.get σ' x=some (some v)→∃ u,a9 env h' x u∧cH prog w mg (env::l₀) h' av' u v)
  (hA:∀ x a,bL env σ' h' x a→av' a∧s₀.heap.get? a=none∧¬ av₀ a∧¬ Mn env a) (hI:∀ x y a,bL env σ' h' x a→bL env σ' h' y a→x=y):Act prog w mg mb base l₀ env sc av₀ s₀ σ' av' { s with heap:=h',toks:=tk }:=by
 have g:=X.gndS (tk:=tk) h0 hs hL h1 h2 h3 fun b f=>((gR X.frm).mp f).elim (fun f=>hM b (.inl f)) fun f=>h4 b (X.fr0 b f).1;exact { X with inv:={ X.inv with gnd:=g.1,get:=hG },k0:=g.2,bas:=h4,ns:=hL,cells:=fun x c e=>⟨(X.cells x c e).1,hC x c e⟩,fresh:=fun b h=>⟨hM b h,(X.fresh b h).2⟩,names:=fun x v h=>by obtain⟨v0,e⟩:=hN x v h;exact X.names x v0 e,ownA:=hA,ownI:=hI }
theorem Act.wildS{σ:aA}{av av' S:Addr→Prop}{s:Shared}{h':Heap}{tk:Nat}(X:Act prog w mg mb base l₀ env sc av₀ s₀ σ av s)(hS:∀ b,S b→av b)(h0:∀ b,S b→s₀.heap.get? b=none)(hM:∀ b,Mn env b→¬ S b)
  (ho:∀ x a,bL env σ s.heap x a→¬ S a) (hs:∀ b o,¬ S b→s.heap.get? b=some o→h'.get? b=some o)
  (h1:∀ b,av' b→av b) (h2:∀ b,av b→¬ S b→av' b) (h3:∀ b,av' b→S b→∃ o,h'.get? b=some o) (h4:∀ b,av₀ b→av' b):Act prog w mg mb base l₀ env sc av₀ s₀ σ av' { s with heap:=h',toks:=tk }:=by
 have hvar:∀ y u,a9 env s.heap y u→a9 env h' y u:=fun y u h=>h.kept fun b o m e=>hs b o (hM b m) e;refine X.upd h0 hs (by obtain⟨m,hn⟩:=X.ns;exact⟨m,hn.at' fun o e=>hs _ o (hM _ (.inl rfl)) e⟩) (fun y c e=>by obtain⟨_,v,o,e1,e2⟩:=X.cells y c e;exact⟨v,o,hs c o (hM c (.inr ⟨y,e⟩)) e1,e2⟩) h1 h2 h3 h4 (fun b h=>h2 b (X.fresh b h).1 (hM b h)) (fun x v h=>⟨v,h⟩) (fun x v hl hg=>?_)
  (fun x a h=>?_) fun x y a hx hy=>X.ownI x y a (X.ownBack (hvar x) hx) (X.ownBack (hvar y) hy)
 ·obtain⟨u,g1,g2⟩:=X.inv.get x v hl hg;refine⟨u,hvar _ _ g1,g2.mono' (fun b o n e=>hs b o (fun h=>n (hS b h)) e) (fun b _ _ h=>h1 b h) fun d a e1 e2 o e=>hs a o (ho x a ⟨⟨d,e1▸hg⟩,e2▸g1⟩) e⟩
 ·have h:=X.ownBack (hvar x) h;obtain⟨q1,q2⟩:=X.ownA x a h;exact⟨h2 a q1 (ho x a h),q2⟩
theorem aA.get_set(x:Str)(u:V)(y:Str):∀ σ:aA,aA.get (aA.set σ x u) y=if y=x then (aA.get σ x).map (fun _=>some u) else aA.get σ y
 | []=>by
  show none=if y=x then none else none
  split<;>rfl
 | (z,v)::r=>by
  have ih:=aA.get_set x u y r
  by_cases hxz:x=z
  ·subst hxz;have e:aA.set ((x,v)::r) x u=(x,some u)::r:=if_pos rfl;rw[e]
   by_cases hy:y=x
   ·subst hy;rw[aA.get_cons_eq,if_pos rfl,aA.get_cons_eq];rfl
   ·rw[aA.get_cons_ne hy,if_neg hy,aA.get_cons_ne hy]
  ·have e:aA.set ((z,v)::r) x u=(z,v)::aA.set r x u:=if_neg hxz;rw[e,aA.get_cons_ne hxz]
   by_cases hy:y=z
   ·subst hy;rw[aA.get_cons_eq,if_neg (fun h=>hxz h.symm),aA.get_cons_eq]
   ·rw[aA.get_cons_ne hy,ih,aA.get_cons_ne hy]
theorem fW{σ:aA}{x y:Str}{u:V}{o:Option V}(hy:y≠x)(h:aA.get (aA.set σ x u) y=some o):aA.get σ y=some o:=by
 rw[aA.get_set,if_neg hy] at h;exact h
theorem m1{σ:aA}{x:Str}{u w:V}(h:aA.get (aA.set σ x u) x=some (some w)):w=u:=by
 rw[aA.get_set,if_pos rfl] at h;refine ocs (aA.get σ x) (fun hg=>?_) fun o hg=>?_
 ·try rewrite[hg]
  rw[hg] at h;exact ns h
 ·try rewrite[hg]
  rw[hg] at h;cases h;rfl
theorem rD{σ:aA}{x y:Str}{u:V}{o:Option V}(h:aA.get (aA.set σ x u) y=some o):∃ v0,aA.get σ y=some v0:=by
 by_cases hy:y=x
 ·subst hy;rw[aA.get_set,if_pos rfl] at h;refine ocs (aA.get σ y) (fun hg=>?_) fun o hg=>?_
  ·try rewrite[hg]
   rw[hg] at h;exact ns h
  ·try rewrite[hg]
   exact⟨o,rfl⟩
 ·exact⟨o,fW hy h⟩
theorem Act.put1{σ:aA}{av:Addr→Prop}{s:Shared}{x:Str}{u:Value}{v:V}{p:Addr}{h':Heap}{tk:Nat}(X:Act prog w mg mb base l₀ env sc av₀ s₀ σ av s)(hv:cH prog w mg (env::l₀) s.heap av u v)
  (ho:∀ d a,v=.own d→u=.ref a→av a∧s₀.heap.get? a=none∧¬ av₀ a∧¬ Mn env a∧∀ y,y≠x→¬ bL env σ s.heap y a) (hp:Mn env p) (hs:Heap.SameBut p s.heap h') (hns:∃ m,h'.Ns env.locals m) (hcells:∀ y c,env.cells.lookup y=some c→∃ v,h'.IsCell c v)
  (hvx:a9 env h' x u) (hvy:∀ y w',y≠x→a9 env s.heap y w'→a9 env h' y w'):Act prog w mg mb base l₀ env sc av₀ s₀ (aA.set σ x v) av { s with heap:=h',toks:=tk }:=by
 have kept:∀ b o,¬ b=p→s.heap.get? b=some o→h'.get? b=some o:=fun b o hb e=>by rw[hs.2 b hb];exact e
 obtain⟨p1,p2,p3⟩:=X.fresh p hp;have back:∀ y a,bL env (aA.set σ x v) h' y a→(y=x∧(∃ d,v=.own d)∧u=.ref a)∨(y≠x∧bL env σ s.heap y a):=fun y a ⟨⟨d,hg⟩,hv'⟩=>by
  by_cases hy:y=x
  ·subst hy;exact .inl ⟨rfl,⟨d,(m1 hg).symm⟩,a9.uniq hvx hv'⟩
  ·have hg:=fW hy hg;exact .inr ⟨hy,⟨d,hg⟩,X.varBack hg (fun u=>hvy y u hy) hv'⟩
 refine X.upd (S:=fun b=>b=p) (fun b h=>h▸p2) kept hns hcells (fun _ h=>h) (fun _ h _=>h) (fun b _ h=>?_) X.bas (fun b h=>(X.fresh b h).1) (fun _ _ h=>rD h) (fun y w' hl h=>?_) (fun y a h=>?_) fun y z a h1 h2=>?_
 ·subst h;rcases hp with rfl | ⟨y,h⟩
  ·obtain⟨m,o,es,ep,e,_⟩:=hns;exact⟨o,e⟩
  ·obtain⟨v,o,e,_⟩:=hcells y b h;exact⟨o,e⟩
 ·have hk:∀ b o,¬ av b→s.heap.get? b=some o→h'.get? b=some o:=fun b o n e=>kept b o (fun h=>n (h▸p1)) e
  by_cases hy:y=x
  ·subst hy;cases m1 h;exact⟨u,hvx,hv.mono' hk (fun _ _ _ h=>h) fun d a e1 e2 o e=>kept a o (fun h=>(ho d a e1 e2).2.2.2.1 (h▸hp)) e⟩
  ·have h:=fW hy h;obtain⟨u',h1,h2⟩:=X.inv.get y w' hl h;exact⟨u',hvy y u' hy h1,h2.mono' hk (fun _ _ _ h=>h) fun d a e1 e2 o e=>kept a o (fun h'=>(X.ownA y a ⟨⟨d,e1▸h⟩,e2▸h1⟩).2.2.2 (h'▸hp)) e⟩
 ·rcases back y a h with ⟨_,⟨d,e1⟩,e2⟩ | ⟨_,h⟩
  ·obtain⟨q1,q2,q3,q4,_⟩:=ho d a e1 e2;exact⟨q1,q2,q3,q4⟩
  ·exact X.ownA y a h
 ·rcases back y a h1 with ⟨ey,⟨d,e1⟩,e2⟩ | ⟨ny,h1⟩
  ·rcases back z a h2 with ⟨ez,_⟩ | ⟨nz,h2⟩
   ·rw[ey,ez]
   ·exact absurd h2 ((ho d a e1 e2).2.2.2.2 z nz)
  ·rcases back z a h2 with ⟨ez,⟨d,e1⟩,e2⟩ | ⟨nz,h2⟩
   ·exact absurd h1 ((ho d a e1 e2).2.2.2.2 y ny)
   ·exact X.ownI y z a h1 h2
theorem Act.put{A:Around}{E:Value→Shared→Prop}{σ:aA}{av:Addr→Prop}{s:Shared}{x:Str}{v0:Option V}{u:Value}{v:V}{Q:Unit→Shared→Prop}(X:Act prog w mg mb base l₀ env sc av₀ s₀ σ av s)(hx:aA.get σ x=some v0)(hv:cH prog w mg (env::l₀) s.heap av u v)
  (ho:∀ d a,v=.own d→u=.ref a→av a∧s₀.heap.get? a=none∧¬ av₀ a∧¬ Mn env a∧∀ y,y≠x→¬ bL env σ s.heap y a)
  (hq:∀ s',Act prog w mg mb base l₀ env sc av₀ s₀ (aA.set σ x v) av s'→(∀ b o,¬ Mn env b→s.heap.get? b=some o→s'.heap.get? b=some o)→a9 env s'.heap x u→(∀ y w',y≠x→a9 env s.heap y w'→a9 env s'.heap y w')→Q () s'):wpAny (model prog w) A (storeName env x u) Q E s:=by
 obtain⟨hlx,hkx⟩:=X.names x v0 hx;have hp:(env.scope.kind==.class||(env.scope.kind==.module&&env.locals != env.globals))=false:=by rw[X.inv.kind];rfl
 have fin:∀ (p:Addr) (h':Heap) (tk:Nat),Mn env p→Heap.SameBut p s.heap h'→(∃ m,h'.Ns env.locals m)→(∀ y c,env.cells.lookup y=some c→∃ v,h'.IsCell c v) →
   a9 env h' x u→(∀ y w',y≠x→a9 env s.heap y w'→a9 env h' y w')→Q () { s with heap:=h',toks:=tk }:=fun p h' tk m hs hns hc hvx hvy =>
  hq _ (X.put1 hv ho m hs hns hc hvx hvy) (fun b o n e=>by rw[hs.2 b fun h=>n (h▸m)];exact e) hvx hvy
 obtain⟨m,hn⟩:=X.ns;rcases hkx with hk | ⟨hk,c,hc⟩
 ·refine wpAny_storeName_local hk hn (fun h' hn' hs'=>?_) hp;refine fin env.locals h' _ (.inl rfl) hs' ⟨_,hn'⟩ (fun y c e=>?_) (.inl ⟨hk,_,hn',by simp⟩) fun y w' hy hv'=>?_
  ·obtain⟨q3,v,o,e1,e2⟩:=X.cells y c e;exact⟨v,o,by rw[hs'.2 c q3];exact e1,e2⟩
  ·rcases hv' with ⟨k',m',hn2,e⟩ | ⟨k',c',e,o,e1,e2⟩
   ·have:m'=m:=hn2.eq_nsMap.trans hn.eq_nsMap.symm;subst this;exact .inl ⟨k',_,hn',by simp[hy,e]⟩
   ·exact .inr ⟨k',c',e,o,by rw[hs'.2 c' (X.cells y c' e).1];exact e1,e2⟩
 ·obtain⟨q3,v1,q4⟩:=X.cells x c hc;refine wpAny_storeName_cell X.inv.kind hk hc q4 fun h' hc' hs'=>?_;have hn':h'.Ns env.locals m:=hn.at' fun o e=>by rw[hs'.2 _ (fun h=>q3 h.symm)];exact e
  refine fin c h' _ (.inr ⟨x,hc⟩) hs' ⟨m,hn'⟩ (fun y c' e=>?_) (.inr ⟨.inl hk,c,hc,hc'⟩) fun y w' hy hv'=>?_
  ·by_cases hcc:c'=c
   ·subst hcc;exact⟨_,hc'⟩
   ·obtain⟨_,v,o,e1,e2⟩:=X.cells y c' e;exact⟨v,o,by rw[hs'.2 c' hcc];exact e1,e2⟩
  ·rcases hv' with ⟨k',m',hn2,e⟩ | ⟨k',c',e,o,e1,e2⟩
   ·have:m'=m:=hn2.eq_nsMap.trans hn.eq_nsMap.symm;subst this;exact .inl ⟨k',_,hn',e⟩
   ·have hcc:c'≠c:=fun h=>hy (X.capart y x c (h▸e) hc);exact .inr ⟨k',c',e,o,by rw[hs'.2 c' hcc];exact e1,e2⟩
theorem bH.live{h:Heap}{av:Addr→Prop}{a:Addr}{d:PyData}(r:bH prog w h av a d):∃ o,h.get? a=some o:=by
 cases d with
 |list ds=>obtain⟨vs,⟨n,e⟩,_⟩:=r;exact⟨_,e⟩
 |dict ds=>obtain⟨kvs,⟨o,es,ep,e,_⟩,_⟩:=r;exact⟨_,e⟩
 |_=>exact r.elim
theorem Act.mut{σ:aA}{av:Addr→Prop}{s:Shared}{x:Str}{d d':PyData}{a:Addr}{h':Heap}{tk:Nat}(X:Act prog w mg mb base l₀ env sc av₀ s₀ σ av s)(hx:aA.get σ x=some (some (.own d)))(hv:a9 env s.heap x (.ref a))
  (hs:Heap.SameBut a s.heap h') (hb:bH prog w h' av a d'):Act prog w mg mb base l₀ env sc av₀ s₀ (aA.set σ x (.own d')) av { s with heap:=h',toks:=tk }:=by
 have hox:bL env σ s.heap x a:=⟨⟨d,hx⟩,hv⟩
 obtain⟨q1,q2,q3,q4⟩:=X.ownA x a hox;have kept:∀ b o,¬ b=a→s.heap.get? b=some o→h'.get? b=some o:=fun b o hb e=>by rw[hs.2 b hb];exact e
 have nM:∀ b,Mn env b→¬ b=a:=fun b m h=>q4 (h▸m);have hvar:∀ y u,a9 env s.heap y u→a9 env h' y u:=fun y u h=>h.kept fun b o m e=>kept b o (nM b m) e;have back:∀ y b,bL env (aA.set σ x (.own d')) h' y b→bL env σ s.heap y b:=fun y b ⟨⟨e,hg⟩,h⟩=>by
  by_cases hy:y=x
  ·subst hy;exact X.ownBack (hvar y) ⟨⟨d,hx⟩,h⟩
  ·exact X.ownBack (hvar y) ⟨⟨e,fW hy hg⟩,h⟩
 refine X.upd (S:=fun b=>b=a) (fun b h=>h▸q2) kept (by obtain⟨m,hn⟩:=X.ns;exact⟨m,hn.at' fun o e=>kept _ o (nM _ (.inl rfl)) e⟩) (fun y c e=>by obtain⟨_,v,o,e1,e2⟩:=X.cells y c e;exact⟨v,o,kept c o (nM c (.inr ⟨y,e⟩)) e1,e2⟩) (fun _ h=>h) (fun _ h _=>h) (fun b _ h=>h▸hb.live) X.bas
  (fun b h=>(X.fresh b h).1) (fun _ _ h=>rD h) (fun y w' hl h=>?_) (fun y b h=>X.ownA y b (back y b h)) fun y z b h1 h2=>X.ownI y z b (back y b h1) (back z b h2)
 by_cases hy:y=x
 ·subst hy;cases m1 h;obtain⟨u,h1,a',e,f,_⟩:=X.inv.get y _ hl hx;cases e;cases a9.uniq h1 hv;exact⟨.ref a,hvar _ _ hv,a,rfl,f,hb⟩
 ·have h:=fW hy h;obtain⟨u',h1,h2⟩:=X.inv.get y w' hl h;exact⟨u',hvar _ _ h1,h2.mono' (fun b o n e=>kept b o (fun h=>n (h▸q1)) e) (fun _ _ _ h=>h) fun e b e1 e2 o eo=>kept b o (fun hba=>hy (X.ownI y x a ⟨⟨e,e1▸h⟩,hba▸e2▸h1⟩ hox)) eo⟩
end
end Mine
namespace Mine
open PySem
section
variable {prog:Program} {w:World} {mg mb:Str→Option Value} {base:Heap} {n:Nat} {hd:Bool} {l₀:List Env} {env:Env} {sc:Scope} {av₀:Addr→Prop} {s₀:Shared} {σ:aA} {av:Addr→Prop} {s:Shared}
structure Fr(l:List Env)(av₀:Addr→Prop)(s:Shared)(av:Addr→Prop)(s':Shared)(av':Addr→Prop):Prop where
 keep:∀ b o,s.heap.get? b=some o→¬ av b→s'.heap.get? b=some o
 grow:∀ b o,s.heap.get? b=some o→av' b→av b
 pins:∀ b o,av₀ b→¬ frs l b→s.heap.get? b=some o→s'.heap.get? b=some o
theorem Fr.tr{l:List Env}{s s' s'':Shared}{av av' av'':Addr→Prop}(x:Fr l av₀ s av s' av')(y:Fr l av₀ s' av' s'' av''):Fr l av₀ s av s'' av'' where
 keep:=fun b o e hb=>y.keep b o (x.keep b o e hb) fun h=>hb (x.grow b o e h)
 grow:=fun b o e h=>Classical.byContradiction fun hb=>hb (x.grow b o e (y.grow b o (x.keep b o e hb) h))
 pins:=fun b o hb n e=>y.pins b o hb n (x.pins b o hb n e)
theorem Fr.rf(l:List Env)(s:Shared)(av:Addr→Prop):Fr l av₀ s av s av:=⟨fun _ _ e _=>e,fun _ _ _ h=>h,fun _ _ _ _ e=>e⟩
theorem Fr.sub{l:List Env}{s:Shared}{av av1:Addr→Prop}(h:∀ b,av1 b→av b):Fr l av₀ s av s av1:=⟨fun _ _ e _=>e,fun b _ _ x=>h b x,fun _ _ _ _ e=>e⟩
theorem Fr.weaken{l:List Env}{av₁:Addr→Prop}{s s':Shared}{av av':Addr→Prop}(h:∀ b,av₀ b→av₁ b)(x:Fr l av₁ s av s' av'):Fr l av₀ s av s' av':=⟨x.keep,x.grow,fun b o hb n e=>x.pins b o (h b hb) n e⟩
theorem Fr.ofK{l:List Env}{s s':Shared}{av:Addr→Prop}(fav:∀ b,frs l b→av b)(k:K l s s'):Fr l av₀ s av s' av:=⟨fun b o e n=>k.at (fun f=>n (fav b f)) e,fun _ _ _ h=>h,fun b o _ n e=>k.at n e⟩
theorem Act.frk(X:Act prog w mg mb base l₀ env sc av₀ s₀ σ av s){s':Shared}(k:K (env::l₀) s s'):Fr (env::l₀) av₀ s av s' av:=Fr.ofK X.inv.gnd.fav k
theorem Act.frPut(X:Act prog w mg mb base l₀ env sc av₀ s₀ σ av s){s':Shared}(f:∀ b o,¬ Mn env b→s.heap.get? b=some o→s'.heap.get? b=some o):Fr (env::l₀) av₀ s av s' av :=
 ⟨fun b o e n=>f b o (fun m=>n (X.fresh b m).1) e,fun _ _ _ h=>h,fun b o hb _ e=>f b o (fun m=>(X.fresh b m).2.2 hb) e⟩
theorem Act.frMut(X:Act prog w mg mb base l₀ env sc av₀ s₀ σ av s){s':Shared}{x:Str}{d:PyData}{a:Addr}(hx:aA.get σ x=some (some (.own d)))(hv:a9 env s.heap x (.ref a))(hs:Heap.SameBut a s.heap s'.heap):Fr (env::l₀) av₀ s av s' av :=
 have hk:∀ b o,b≠a→s.heap.get? b=some o→s'.heap.get? b=some o:=fun b o hb e=>by rw[hs.2 b hb];exact e
 have q:=X.ownA x a ⟨⟨d,hx⟩,hv⟩
 ⟨fun b o e hb=>hk b o (fun h=>hb (h▸q.1)) e,fun _ _ _ h=>h,fun b o hb _ e=>hk b o (fun h=>q.2.2.1 (h▸hb)) e⟩
noncomputable def Mk(h:Heap)(e:Addr):Prop:=∃ oe vs,h.get? e=some oe∧oe.data=.fields vs∧vs[1]?=some .none
inductive Upx(prog:Program)(w:World)(mg:Str→Option Value)(base:Heap)(l₀:List Env)(env:Env)(s₀:Shared)(av₀:Addr→Prop)(x:X)(v:Value)(s':Shared):Prop where
 |mk (k:K l₀ s₀ s') (ff:s'.heap.FunFrames base (env::l₀)) (st:∀ b o,base.get? b=some o→s'.heap.get? b=some o) (e:Addr) (a:v=.ref e) (n:s₀.heap.get? e=none) (xa:ExAt prog w mg s'.heap (fun b=>av₀ b∨frs (env::l₀) b) e x) (t:Tb s₀ s'.heap e .none∨Mk s'.heap e):Upx prog w mg base l₀ env s₀ av₀ x v s'
theorem Upx.weaken{av₁:Addr→Prop}{x:X}{v:Value}{s':Shared}(h:∀ b,av₀ b→av₁ b)(u:Upx prog w mg base l₀ env s₀ av₁ x v s'):Upx prog w mg base l₀ env s₀ av₀ x v s' :=
 by obtain⟨h1,h2,h3,e,h4,h5,h6,h7⟩:=u;exact⟨h1,h2,h3,e,h4,h5,h6.mono (fun _ _ _ e=>e) fun b _ _ x=>x.imp (h b) id,h7⟩
theorem Act.up(X:Act prog w mg mb base l₀ env sc av₀ s₀ σ av s){x:Mine.X}{v:Value}{s':Shared}(f:Fly prog w mg (env::l₀) s av x v s'):Upx prog w mg base l₀ env s₀ av₀ x v s':=by
 obtain⟨k,e,h1,h2,h3,oe,vs,T,oT,ts,g1,g2,g3,g4,g5,g6,g7,g8⟩:=f;have Y:=X.k k;exact⟨Y.k0,Y.inv.gnd.ff,Y.inv.gnd.stay,e,h1,X.k0.non h2,h3.mono (fun _ _ _ e=>e) fun b _ _ x=>x.elim (X.bas b) (X.inv.gnd.fav b),.inl ⟨oe,vs,T,oT,ts,g1,g2,g3,X.k0.non g4,g5,g6,g7,g8⟩⟩
variable (prog w mg mb base) in
noncomputable def aQ(n:Nat)(hd:Bool)(l₀:List Env)(env:Env)(sc:Scope)(s₀:Shared)(σ:aA)(t:Sem Flow)(r:KN→KR→R V):Prop :=
 ∀ (av₀:Addr→Prop) (A:Around) (s:Shared) (av:Addr→Prop),Room n hd (env::l₀) A→Act prog w mg mb base l₀ env sc av₀ s₀ σ av s →
  ∀ {kn:KN} {kr:KR} {fin:R V} {Q:Flow→Shared→Prop} {E:Value→Shared→Prop},r kn kr=fin→fin≠.no→PassesOwn (model prog w) A env E →
  (∀ s' σ' av',Act prog w mg mb base l₀ env sc av₀ s₀ σ' av' s'→Fr (env::l₀) av₀ s av s' av'→kn σ'=fin→Q .next s') →
  (∀ v s' u,K l₀ s₀ s'→bB prog w s₀ s'.heap av₀ v u→kr u=fin→Q (.ret v) s') →
  (∀ x v s',fin=.exc x→Upx prog w mg base l₀ env s₀ av₀ x v s'→E v s')→wpAny (model prog w) A t Q E s
theorem aQ.no{t:Sem Flow}:aQ prog w mg mb base n hd l₀ env sc s₀ σ t fun _ _=>.no:=fun _ _ _ _ _ _ _ _ _ _ _ hf hne _=>absurd hf.symm hne
theorem kC{rec:Stmt→aA→KN→KR→R V}:∀ {b:List Stmt} {σ:aA},(∀ st∈b,∀ σ,aQ prog w mg mb base n hd l₀ env sc s₀ σ (exec st env) (rec st σ))→aQ prog w mg mb base n hd l₀ env sc s₀ σ (execs b env) (blk rec b σ)
 | [],σ,_=>fun av₀ A s av hA X _ _ _ _ _ hf hne hp hn hr he=>wpAny_execs_nil (hn s σ av X (Fr.rf _ s av) hf)
 |st::r,σ,h=>fun av₀ A s av hA X kn kr fin Q E hf hne hp hn hr he=>by
  refine wpAny_execs_cons (h st List.mem_cons_self σ av₀ A s av hA X hf hne hp (fun s' σ' av' Y fr e=>?_) (fun v s' u k r e=>hr v s' u k r e) he);exact kC (b:=r) (fun st hst=>h st (List.mem_cons_of_mem _ hst)) av₀ A s' av' hA Y e hne hp (fun s'' σ'' av'' Z fr' e'=>hn s'' σ'' av'' Z (fr.tr fr') e') hr he
theorem bB.out(X:Act prog w mg mb base l₀ env sc av₀ s₀ σ av s){h:Heap}{v:Value}{u:V}(r:bB prog w s h av v u):bB prog w s₀ h av₀ v u:=by
 have r':=r.back X.k0;cases u with
 |ex x=>exact r
 |fz d=>exact(show Rep prog w h av v d from r).mono (fun _ _ _ e=>e) fun b _ _ x=>X.bas b x
 |own d =>
  obtain⟨a,e,hn,rb⟩:=r';exact⟨a,e,hn,rb.mono (fun _ _ _ e=>e) (fun b _ _ x=>x.imp (X.bas b) id) fun _ e=>e⟩
theorem aC.st{e:Expr}{r:R V}(h:aC prog w mg mb base n hd (env::l₀) sc σ e r){A:Around}(hA:Room n hd (env::l₀) A)(X:Act prog w mg mb base l₀ env sc av₀ s₀ σ av s){k:V→R V}{fin:R V}{Q:Value→Shared→Prop}{E:Value→Shared→Prop}(hf:rb r k=fin)(hne:fin≠.no)
  (hq:∀ v s' u,K (env::l₀) s s'→bB prog w s s'.heap av v u→k u=fin→Q v s') (he:∀ x v s',fin=.exc x→Upx prog w mg base l₀ env s₀ av₀ x v s'→E v s'):wpAny (model prog w) A (eval e env) Q E s :=
 h A env s av hA X.inv ⟨hf,hne⟩ hq fun x v s' e f=>he x v s' e (X.up f)
theorem xO{e:Expr}{pos:Pos}{xs:List Str}{p:R V}(h:aC prog w mg mb base n hd (env::l₀) sc (aA.clear σ xs) e p):aQ prog w mg mb base n hd l₀ env sc s₀ σ (exec (.Return (some e) pos) env) fun _ kr=>rb p kr:=by
 intro av₀ A s av hA X kn kr fin Q E hf hne hp hn hr he;obtain⟨av1,Y,_⟩:=X.clear xs;exact wpAny_Return_some (h.st hA Y hf hne (fun v s' u k r e=>hr v s' u (Y.k k).k0 (r.out Y) e) he)
theorem xP:∀ σ:aA,aA.clear σ []=σ
 | []=>rfl
 | (_,_)::r=>congrArg _ (xP r)
theorem I5{ev:EV}{F:Nat}{e:Expr}{pos:Pos}(h:∀ σ,aC prog w mg mb base n hd (env::l₀) sc σ e (ev σ e)):aQ prog w mg mb base n hd l₀ env sc s₀ σ (exec (.Return (some e) pos) env) fun _ kr=>pT ev F sc σ e kr:=by
 unfold pT;refine ocs (bD e) (fun hx=>?_) fun x hx=>?_
 ·try rewrite[hx]
  exact xO (h _)
 ·try rewrite[hx]
  obtain⟨p,rfl⟩:=c9 hx;show aQ prog w mg mb base n hd l₀ env sc s₀ σ _ fun _ kr=>match jV sc σ x with
   |some d=>kr (.own d)
   |none=>rb (ev σ (.Name x p)) kr
  refine ocs (jV sc σ x) (fun ho=>?_) fun d ho=>?_
  ·try rewrite[ho]
   exact xO (xs:=[]) (p:=ev σ (.Name x p)) ((xP σ).symm▸h σ)
  ·try rewrite[ho]
   intro av₀ A s av hA X kn kr fin Q E hf hne hp hn hr he;obtain⟨hl,hg⟩:=wH ho;obtain⟨u,h1,a,rfl,_,h2⟩:=X.inv.get x _ hl hg;obtain⟨q1,q2,_⟩:=X.ownA x a ⟨⟨d,hg⟩,h1⟩;exact wpAny_Return_some (eO X.inv hl h1 (hr _ _ (.own d) X.k0 ⟨a,rfl,q2,h2.mono (fun _ _ _ e=>e) (fun b _ _ h=>h.elim (X.bas b) fun h=>h▸q1) fun _ e=>e⟩ hf))
theorem eR{x:Str}{u:V}{σ σ':aA}(h:cM x u σ=.ok σ'):∃ v0,aA.get σ x=some v0∧σ'=aA.set σ x u:=by
 unfold cM at h;refine ocs (aA.get σ x) (fun hg=>?_) fun v0 hg=>?_
 ·try rewrite[hg]
  rw[hg] at h;exact pno h
 ·try rewrite[hg]
  rw[hg] at h;obtain rfl:=pi h;exact⟨v0,rfl,rfl⟩
theorem cC{α:Type}{p:P α}{k:α→R V}{fin:R V}(h:rb (ofP p) k=fin)(hne:fin≠.no):∃ a,p=.ok a∧k a=fin:=Fin.p ⟨h,hne⟩
theorem Act.bindVal{A:Around}{E:Value→Shared→Prop}{s₁:Shared}{x:Str}{v0:Option V}{v:Value}{u:V}{Q:Unit→Shared→Prop}(X:Act prog w mg mb base l₀ env sc av₀ s₀ σ av s)(k:K (env::l₀) s s₁)(r:bB prog w s s₁.heap av v u)
  (hx:aA.get σ x=some v0) (hq:∀ s' av',Act prog w mg mb base l₀ env sc av₀ s₀ (aA.set σ x u) av' s'→Fr (env::l₀) av₀ s av s' av'→Q () s'):wpAny (model prog w) A (storeName env x v) Q E s₁:=by
 cases u with
 |ex x=>exact r.elim
 |fz d=>exact(X.k k).put hx (show cH prog w mg (env::l₀) s₁.heap av v (.fz d) from r) (fun _ _ e=>by cases e) fun s' Y f _ _=>hq s' av Y ((X.frk k).tr ((X.k k).frPut f))
 |own d =>
  obtain⟨a,rfl,hn,rb⟩:=r;have Y:=X.growS (S:=fun b=>b=a) k (fun b h=>h▸hn) fun b h=>h▸rb.live;obtain⟨n1,n2,n3,n4,n5⟩:=X.newNot hn;have g:Fr (env::l₀) av₀ s av s₁ (fun b=>av b∨b=a):=⟨(X.frk k).keep,fun b o e h=>h.elim id (fun h=>by simp only[h,hn] at e;cases e),(X.frk k).pins⟩
  refine Y.put hx (show cH prog w mg (env::l₀) s₁.heap _ (.ref a) (.own d) from ⟨a,rfl,n5,rb⟩) (fun d' a' e1 e2=>?_) fun s' Z f _ _=>hq s' _ Z (g.tr (Y.frPut f));cases e2;exact⟨.inr rfl,n4,n3,n1,fun y _ h=>n2 (X.ownA y a (X.ownBack (fun u h=>h.k k) h)).1⟩
theorem I6{e:Expr}{x:Str}{p pos:Pos}{xs:List Str}{q:R V}(hs:swapsWith e (some (.Name x p)) pos.line env=pure false)(h:aC prog w mg mb base n hd (env::l₀) sc (aA.clear σ xs) e q) :
  aQ prog w mg mb base n hd l₀ env sc s₀ σ (exec (.Assign [.Name x p] e pos) env) fun kn _=>rb q fun v=>rb (ofP (cM x v (aA.clear σ xs))) kn:=by
 intro av₀ A s av hA X kn kr fin Q E hf hne hp hn hr he;obtain⟨av1,Y,hsub⟩:=X.clear xs;refine wpAny_Assign_Name (h.st hA Y hf hne (fun v s' u k r e=>?_) he) hs;obtain⟨σ',hσ,e⟩:=cC e hne;obtain⟨v0,hg,rfl⟩:=eR hσ;exact Y.bindVal k r hg fun s'' av' Z fr=>hn _ _ _ Z ((Fr.sub hsub).tr fr) e
theorem I7{t:Expr}{b o:List Stmt}{pos:Pos}{xs:List Str}{q:R V}{kb ko:KN→KR→R V}(h:bQ prog w mg mb base n hd (env::l₀) sc (aA.clear σ xs) t q)
  (hb:aQ prog w mg mb base n hd l₀ env sc s₀ (aA.clear σ xs) (execs b env) kb) (ho:aQ prog w mg mb base n hd l₀ env sc s₀ (aA.clear σ xs) (execs o env) ko) :
  aQ prog w mg mb base n hd l₀ env sc s₀ σ (exec (.If t b o pos) env) fun kn kr=>rb (tst q) fun c=>if c then kb kn kr else ko kn kr:=by
 intro av₀ A s av hA X kn kr fin Q E hf hne hp hn hr he;obtain⟨av1,Y,hsub⟩:=X.clear xs;refine wpAny_If (h A env s av1 hA Y.inv ⟨hf,hne⟩ (fun c s' k e=>?_) fun x v s' e f=>he x v s' e (Y.up f));have fr:Fr (env::l₀) av₀ s av s' av1:=(Fr.sub hsub).tr (Y.frk k);cases c with
 |true=>exact hb av₀ A s' av1 hA (Y.k k) e hne hp (fun s'' σ' av' Z f e'=>hn s'' σ' av' Z (fr.tr f) e') hr he
 |false=>exact ho av₀ A s' av1 hA (Y.k k) e hne hp (fun s'' σ' av' Z f e'=>hn s'' σ' av' Z (fr.tr f) e') hr he
theorem I8{e:Expr}{pos:Pos}{xs:List Str}{q:R V}(hc:lN e=false)(h:aC prog w mg mb base n hd (env::l₀) sc (aA.clear σ xs) e q) :
  aQ prog w mg mb base n hd l₀ env sc s₀ σ (exec (.Expr e pos) env) fun kn _=>rb q fun _=>kn (aA.clear σ xs):=by
 intro av₀ A s av hA X kn kr fin Q E hf hne hp hn hr he;obtain⟨av1,Y,hsub⟩:=X.clear xs;have hsw:swapsWith e none pos.line env=pure false:=by
  unfold swapsWith;cases e<;>first | rfl | cases hc
 exact wpAny_Expr_any (h.st hA Y hf hne (fun v s' u k r e=>hn _ _ _ (Y.k k) ((Fr.sub hsub).tr (Y.frk k)) e) he) (by unfold interactive;rw[X.inv.kind];rfl) hsw
end
end Mine
namespace Mine
open PySem
section
variable {prog:Program} {w:World} {mg mb:Str→Option Value} {base:Heap} {n:Nat} {hd:Bool} {l₀:List Env} {env:Env} {sc:Scope} {av₀:Addr→Prop} {s₀:Shared} {σ:aA} {av:Addr→Prop} {s:Shared}
theorem m3{x:Str}{d:PyData}(h:fT σ x=.ok d):aA.get σ x=some (some (.own d)):=by
 unfold fT at h;refine ocs (aA.get σ x) (fun hg=>?_) fun o hg=>?_
 ·try rewrite[hg]
  rw[hg] at h;exact pno h
 ·try rewrite[hg]
  rw[hg] at h;cases o with
  |none=>exact pno h
  |some v =>
   cases v with
   |own d'=>obtain rfl:=pi h;rfl
   |_=>exact pno h
theorem I9{y:Str}{v:Value}{r:List (Str×Value)}{k:Str}(hn:(((y,v)::r).map (·.1)).Nodup):without ((y,v)::r) k=if k=y then r else (y,v)::without r k:=by
 by_cases h:k=y
 ·subst h;rw[if_pos rfl];have hnot:k∉r.map (·.1):=(List.nodup_cons.mp (show(k::r.map (·.1)).Nodup from hn)).1;have:without ((k,v)::r) k=without r k:=by
   unfold without;simp
  rw[this,without_of_not_mem r k hnot]
 ·rw[if_neg h];unfold without;have:(decide ((y,v).1≠k))=true:=by simp;exact fun e=>h e.symm
  rw[List.filter_cons,if_pos this]
theorem KV.del{h:Heap}{av:Addr→Prop}{k:Str}:∀ {kvs:List (Str×Value)} {ds:List (PyData×PyData)},(kvs.map (·.1)).Nodup→KV prog w h av kvs ds→KV prog w h av (without kvs k) (c8 ds k)
 | [],[],_,_=>trivial
 | (y,v0)::r,(dk,d0)::t,hn,x=>by
  obtain⟨x1,x2,x3⟩:=x;have x1:dk=.str y:=x1;subst x1;rw[I9 hn];show KV prog w h av _ (if k=y then t else (.str y,d0)::c8 t k)
  split
  ·exact x3
  ·exact⟨rfl,x2,KV.del (List.nodup_cons.mp (show(y::r.map (·.1)).Nodup from hn)).2 x3⟩
 | [],_::_,_,x=>x.elim
 |_::_,[],_,x=>x.elim
theorem KV.ps{h:Heap}{av:Addr→Prop}:∀ {kvs:List (Str×Value)} {ds:List (PyData×PyData)} {ps:List (Str×PyData)},KV prog w h av kvs ds→(∀ kv∈kvs,kv.1.length≤sizeLine)→keys? ds=some ps→PS prog w h av kvs ps
 | [],[],_,_,_,e=>by obtain rfl:=si e;trivial
 | (y,v)::r,(dk,d)::t,ps,x,hz,e=>by
  obtain⟨x1,x2,x3⟩:=x;have x1:dk=.str y:=x1;subst x1;have e:(keys? t).map ((y,d)::·)=some ps:=e;obtain⟨ps',e1,rfl⟩:=Option.map_eq_some_iff.mp e;exact⟨rfl,hz _ List.mem_cons_self,x2,KV.ps x3 (fun kv h=>hz kv (List.mem_cons_of_mem _ h)) e1⟩
 | [],_::_,_,x,_,_=>x.elim
 |_::_,[],_,x,_,_=>x.elim
theorem m4{h:Heap}{a:Addr}{kvs:List (Str×Value)}(x:h.DictOf (strKind prog w) a kvs):(kvs.map (·.1)).Nodup:=by
 obtain⟨o,es,ep,_,_,_,_,_,hn⟩:=x;exact hn
theorem fJ{h h':Heap}{a:Addr}(ha:av a)(hs:Heap.SameBut a h h')(b:Addr)(o:Obj)(hb:¬ av b)(e:h.get? b=some o):h'.get? b=some o:=by rw[hs.2 b (fun h=>hb (h▸ha))];exact e
theorem m9{h':Heap}{a:Addr}{kvs:List (Str×Value)}{ds:List (PyData×PyData)}(hd:h'.DictOf (strKind prog w) a kvs)(hz:kvs.length≤sizeLine∧∀ kv∈kvs,kv.1.length≤sizeLine)(hm:(a==sysModules)=false)(x:KV prog w h' av kvs ds):bH prog w h' av a (.dict ds) :=
 by obtain⟨g1,g2⟩:=x.out;exact⟨kvs,hd,hz,hm,g1,g2⟩
theorem xQ{A:Around}{a:Addr}{v:Value}{l:List (PyData×PyData)}{k:Str}{d:PyData}{Q:Value→Shared→Prop}{E:Value→Shared→Prop}(ha:av a)(hb:bH prog w s.heap av a (.dict l))(r:Rep prog w s.heap av v (.str k))(hg:bS l k=some d)
  (hq:∀ u h' tk,Heap.SameBut a s.heap h'→Rep prog w h' av u d→bH prog w h' av a (.dict (c8 l k))→Q u { s with heap:=h',toks:=tk }):wpAny (model prog w) A (call (.builtin "dict.pop") [.ref a,v]) Q E s:=by
 obtain⟨kvs,h2,h3,h4,h5,h6⟩:=hb;obtain⟨t,rfl,hkl⟩:=r.str_inv;rcases mP k h5 with ⟨_,hno⟩ | ⟨i,u,d',hu,hd',e1,e2⟩
 ·rw[hno] at hg;exact ns hg
 ·rw[hd'] at hg;obtain rfl:=si hg;refine call_meetsIn F.slot_dict_pop h2.typeIs F.entry_dict_pop (F.args_dict_pop_2 _ _) (meets_dict_pop_there (strKind prog w) a (dQ k t) [] (.inl rfl) rfl) ⟨kvs,u,h2,h3.1,hu,fun h' hdo hs=>?_⟩;refine hq u h' _ hs ((h6 i _ _ e1 e2).mono (fJ ha hs) fun _ _ _ x=>x) (m9 hdo ⟨Nat.le_trans (List.length_filter_le _ _) h3.1,fun kv hkv=>h3.2 kv (List.mem_filter.mp hkv).1⟩ h4 ((KV.del (k:=k) (m4 h2) (KV.of h5 h6)).mono (fJ ha hs) fun _ _ _ x=>x))
theorem Ja{A:Around}{a:Addr}{v:Value}{l:List PyData}{d:PyData}{Q:Value→Shared→Prop}{E:Value→Shared→Prop}(ha:av a)(hb:bH prog w s.heap av a (.list l))(rv:Rep prog w s.heap av v d)(hl:l.length < aV)
  (hq:∀ h',Heap.SameBut a s.heap h'→bH prog w h' av a (.list (l++[d]))→Q .none { s with heap:=h' }):wpAny (model prog w) A (call (.builtin "list.append") [.ref a,v]) Q E s:=by
 obtain⟨xs,hp,hxl,hxz,hxr⟩:=hb;refine wpAny_list_append_plain hp (fun h' hp' hs=>hq h' hs ⟨xs++[v],by simpa using hp',by simp[hxl],?_,xJ hxl (fun i u du e1 e2=>(hxr i u du e1 e2).mono (fJ ha hs) fun _ _ _ x=>x) (rv.mono (fJ ha hs) fun _ _ _ x=>x)⟩) (by simp;exact hxz);have:aV=sizeLine:=rfl;rw[List.length_append,hxl];exact this▸hl
theorem Jb{A:Around}{a:Addr}{v:Value}{l m:List (PyData×PyData)}{ps:List (Str×PyData)}{Q:Value→Shared→Prop}{E:Value→Shared→Prop}(ha:av a)(hb:bH prog w s.heap av a (.dict l))(rv:Rep prog w s.heap av v (.dict m))(hk:keys? m=some ps)(hl:l.length+ps.length < 4096)
  (hq:∀ h',Heap.SameBut a s.heap h'→bH prog w h' av a (.dict (cW ps l))→Q .none { s with heap:=h' }):wpAny (model prog w) A (call (.builtin "dict.update") [.ref a,v]) Q E s:=by
 obtain⟨kvs,h2,h3,h4,h5,h6⟩:=hb;obtain⟨o,mvs,rfl,g1,g2,g3,g4,g5,g6⟩:=rv.dict_inv;have ps':=KV.ps (KV.of g5 g6) g3.2 hk;have e1:kvs.length=l.length:=by have:=congrArg List.length h5;simpa using this.symm
 have e2:mvs.length=ps.length:=ps'.length;have hsz:kvs.length+mvs.length≤sizeLine:=by
  have:sizeLine=16777216:=rfl;exact B6 hl e1 e2 this
 refine call_meetsIn F.slot_dict_update h2.typeIs F.entry_dict_update (F.args_dict_update_2 _ _) (meets_dict_update (strKind prog w) a o (fun e=>g1 (e▸ha)) g4) ⟨kvs,mvs,h2,g2,hsz,fun h' hdo _ hs=>hq h' hs ?_⟩;obtain⟨q1,q2⟩:=KV.sets ps' (m4 h2) (KV.of h5 h6) h3.2;exact m9 hdo ⟨Nat.le_trans (merged_length_le kvs mvs) hsz,q2⟩ h4 (q1.mono (fJ ha hs) fun _ _ _ x=>x)
inductive MutThere(prog:Program)(w:World)(m:Str)(od:PyData):Prop where
 |mk (T id) (a:PlainAttrs T) (b:Slot T m id) (c:typeOf (.builtin id)=pure (.type "method_descriptor")) (d:∀ (s:Shared) (av:Addr→Prop) (a:Addr),bH prog w s.heap av a od→s.TypeIs (.ref a) T∧∃ ob,s.heap.get? a=some ob∧ob.dict=none)
  (e:∀ (A:Around) (s:Shared) (av:Addr→Prop) (a:Addr) (vs:List Value) (ds:List PyData) (od':PyData) (Q:Value→Shared→Prop) (E:Value→Shared→Prop),av a→bH prog w s.heap av a od→RL prog w s.heap av vs ds→dJ m od ds=.ok od' →
   (∀ v h' tk,Heap.SameBut a s.heap h'→bH prog w h' av a od'→Q v { s with heap:=h',toks:=tk })→wpAny (model prog w) A (call (.builtin id) (.ref a::vs)) Q E s):MutThere prog w m od
theorem rE{l:List (PyData×PyData)}{s:Shared}{av:Addr→Prop}{a:Addr}(hb:bH prog w s.heap av a (.dict l)):s.TypeIs (.ref a) "dict" ∧ ∃ ob,s.heap.get? a=some ob∧ob.dict=none:=by
 obtain⟨kvs,h2,_⟩:=hb;refine⟨h2.typeIs,?_⟩;obtain⟨ob,es,ep,e,c,_⟩:=h2;exact⟨ob,e,c.2.1⟩
theorem rF{m:Str}{od:PyData}{ds:List PyData}{od':PyData}(h:dJ m od ds=.ok od'):∃ d,ds=[d]:=by
 cases ds with
 |nil=>exact pno h
 |cons d r =>
  cases r with
  |nil=>exact⟨d,rfl⟩
  |cons=>exact pno h
theorem Jc{m:Str}{od:PyData}(hm:iL m od=true):MutThere prog w m od:=by
 cases od with
 |list l =>
  obtain rfl:m = "append" := of_decide_eq_true hm;refine⟨"list", "list.append", F.plainAttrs_list,F.slot_list_append,by kernel_rfl,fun s av a hb=>?_,fun A s av a vs ds od' Q E ha hb r hmu hq=>?_⟩
  ·obtain⟨vs,⟨n,e⟩,_⟩:=hb;exact⟨⟨_,e,rfl⟩,_,e,rfl⟩
  ·obtain⟨d,rfl⟩:=rF hmu;obtain⟨v,vs,rfl,rv,r⟩:=r.cons;obtain rfl:=r.nil;replace hmu:(if l.length < aV then P.ok (.list (l++[d])) else .no)=.ok od':=hmu
   by_cases hc:l.length < aV
   ·rw[if_pos hc] at hmu;obtain rfl:=pi hmu;exact Ja ha hb rv hc fun h' hs hb'=>hq _ h' _ hs hb'
   ·rw[if_neg hc] at hmu;exact pno hmu
 |dict l =>
  rcases Bool.or_eq_true_iff.mp hm with hm | hm
  ·obtain rfl:m = "pop" := of_decide_eq_true hm;refine⟨"dict", "dict.pop", F.plainAttrs_dict,F.slot_dict_pop,by kernel_rfl,fun s av a hb=>rE hb,fun A s av a vs ds od' Q E ha hb r hmu hq=>?_⟩;obtain⟨d,rfl⟩:=rF hmu;obtain⟨v,vs,rfl,rv,r⟩:=r.cons;obtain rfl:=r.nil;replace hmu:vB l d=.ok od':=hmu;cases d with
   |str k =>
    replace hmu:(if (bS l k).isSome then P.ok (.dict (c8 l k)) else .no)=.ok od':=hmu;refine ocs (bS l k) (fun hg=>?_) fun d hg=>?_
    ·try rewrite[hg]
     rw[hg] at hmu;exact pno hmu
    ·try rewrite[hg]
     rw[hg] at hmu;obtain rfl:=pi hmu;exact xQ ha hb rv hg fun u h' tk hs _ hb'=>hq u h' tk hs hb'
   |_=>exact pno hmu
  ·obtain rfl:m = "update" := of_decide_eq_true hm;refine⟨"dict", "dict.update", F.plainAttrs_dict,F.slot_dict_update,by kernel_rfl,fun s av a hb=>rE hb,fun A s av a vs ds od' Q E ha hb r hmu hq=>?_⟩;obtain⟨d,rfl⟩:=rF hmu;obtain⟨v,vs,rfl,rv,r⟩:=r.cons;obtain rfl:=r.nil;replace hmu:vC l d=.ok od':=hmu;cases d with
   |dict m =>
    replace hmu:((ofO (keys? m)).bind fun m=>if l.length+m.length < 4096 then P.ok (.dict (cW m l)) else .no)=.ok od':=hmu;refine ocs (keys? m) (fun hk=>?_) fun ps hk=>?_
    ·try rewrite[hk]
     rw[hk] at hmu;exact pno hmu
    ·try rewrite[hk]
     rw[hk] at hmu;replace hmu:(if l.length+ps.length < 4096 then P.ok (.dict (cW ps l)) else .no)=.ok od':=hmu
     by_cases hc:l.length+ps.length < 4096
     ·rw[if_pos hc] at hmu;obtain rfl:=pi hmu;exact Jb ha hb rv hk hc fun h' hs hb'=>hq _ h' _ hs hb'
     ·rw[if_neg hc] at hmu;exact pno hmu
   |_=>exact pno hmu
 |_=>exact bft hm
theorem P.bind_ok{α β:Type}{p:P α}{f:α→P β}{b:β}(h:p.bind f=.ok b):∃ a,p=.ok a∧f a=.ok b:=by
 cases p with
 |no=>exact pno h
 |ok a=>exact⟨a,rfl,h⟩
theorem Jd{ev:EV}(hbad:∀ σ e,bad e=true→ev σ e=.no){x m:Str}{as:List Expr}{xp ap cp pos:Pos}{xs:List Str}(h:∀ e∈as,aC prog w mg mb base n hd (env::l₀) sc (aA.clear σ xs) e (ev (aA.clear σ xs) e)) :
  aQ prog w mg mb base n hd l₀ env sc s₀ σ (exec (.Expr (.Call (.Attribute (.Name x xp) m ap) as [] cp) pos) env) fun kn _=>l8 ev (aA.clear σ xs) x m ap as cp kn:=by
 intro av₀ A s av hA X kn kr fin Q E hf hne hp hn hr he;obtain⟨av1,Y,hsub⟩:=X.clear xs;replace hf:l8 ev (aA.clear σ xs) x m ap as cp kn=fin:=hf;unfold l8 at hf
 by_cases hc:(ap.endLine==cp.line)=false∨as.any bad=true∨3 < as.length
 ·rw[if_pos hc] at hf;exact absurd hf.symm hne
 rw[if_neg hc] at hf;simp only[not_or,Bool.not_eq_true,Bool.not_eq_false,Nat.not_lt] at hc;obtain⟨c3,c4,c5⟩:=hc;obtain⟨od,hod,hf⟩:=cC hf hne;have hg:=m3 hod;obtain⟨hlx,_⟩:=Y.names x _ hg;obtain⟨u,hv,a,rfl,hfr,hb⟩:=Y.inv.get x _ hlx hg;have ha:=(Y.ownA x a ⟨⟨od,hg⟩,hv⟩).1;refine bcs (iL m od) (fun hm=>?_) fun hm=>?_
 ·try rewrite[hm]
  rw[hm] at hf;exact absurd hf.symm hne
 ·try rewrite[hm]
  rw[hm] at hf;replace hf:rb (evs (ev (aA.clear σ xs)) as) _=fin:=hf;obtain⟨T,id,t1,t2,t3,t4,t5⟩:=Jc (prog:=prog) (w:=w) hm;obtain⟨q1,q2⟩:=t4 s av1 a hb;refine wpAny_Expr_any ?_ (by unfold interactive;rw[X.inv.kind];rfl) rfl;refine wpAny_Call_method_lateS rfl (mX c4 c5 cp env) c3 (eO Y.inv hlx hv ⟨T,id,t1,t2,t3,q1,fun a' e=>by cases e;exact q2,iQ c4 (iP (hbad _) hA h Y.inv ⟨hf,hne⟩ (fun vs s₂ us k2 r1 r2 e2=>?_) fun x v s' e f=>he x v s' e (Y.up f))⟩);obtain⟨od',hmu,e2⟩:=cC e2 hne;obtain⟨σ',hσ,e3⟩:=cC e2 hne;obtain⟨v0,_,rfl⟩:=eR hσ;have Y2:=Y.k k2;refine t5 A s₂ av1 a vs _ od' _ E ha (hb.k Y.inv.gnd.fav k2 hfr) ⟨r1,r2⟩ hmu fun v h' tk hs hb'=>?_;exact hn _ _ _ (Y2.mut (tk:=tk) hg (hv.k k2) hs hb') ((Fr.sub hsub).tr ((Y.frk k2).tr (Y2.frMut (s':={ s₂ with heap:=h',toks:=tk }) hg (hv.k k2) hs))) e3
end
end Mine
namespace Mine
open PySem
section
variable {prog:Program} {w:World} {mg mb:Str→Option Value} {base:Heap} {n:Nat} {hd:Bool} {l₀:List Env} {env:Env} {sc:Scope} {av₀:Addr→Prop} {s₀:Shared} {σ:aA} {av:Addr→Prop} {s:Shared}
theorem Je(f:Array Value→Array Value)(its:Array Value)(n:Nat):∃ n',Obj.mapSeq f { cls:=.type "list", data:=.seq its n }={ cls:=.type "list", data:=.seq (f its) n' }:=⟨_,rfl⟩
theorem Jf{A:Around}{E:Value→Shared→Prop}{s:Shared}{l:Addr}{items:Array Value}{k:Int}{t:Tok}{v:Value}{Q:Unit→Shared→Prop}(hp:s.heap.PlainList l items)
  (h0:0≤k) (hfit:k < 2 ^ 63) (hn:k < items.size)
  (hQ:∀ h',h'.PlainList l (items.setIfInBounds k.toNat v)→Heap.SameBut l s.heap h'→Q () { s with heap:=h' }) :
  wpAny (model prog w) A (PySem.setItem (.ref l) (.int k t) v) Q E s:=by
 have hl:=hp.isList;obtain⟨ne,ho⟩:=hp;unfold PySem.setItem
 try with_reducible refine wpAny_holding ?_
 first | refine wpAny_bind (wpAny_pure ?_) | skip
 refine wpAny_bind (wpAny_sequenceKey hl.typeIs (by decide) ?_);refine wpAny_bind (wpAny_callSpecial?_slot (name:=Str.ofString "__setitem__") hl.typeIs slot_list_setitem
  (wpAny_call_entry slot_list_setitem hl.typeIs entry_list_setitem ?_ (args_list_setitem _ _ _)))
 show wpAny _ _ (Builtin.List.listSubscript? (.int k t) >>= _) _ _ s;refine wpAny_bind (wpAny_listSubscript_int (fitsIndex_of h0 hfit) ?_);clear hfit;obtain⟨j,rfl⟩:=Int.eq_ofNat_of_zero_le h0;have hj:j < items.size:=by exact B7 hn
 have hx':items[j]?=some items[j]:=Array.getElem?_eq_getElem hj;show wpAny _ _ ((seqItemAt l j >>= fun r=>pure (r.map (j,·))) >>= _) _ _ s;refine wpAny_bind (wpAny_bind (wpAny_seqItemAt ho rfl (wpAny_pure ?_)));rw[hx'];show wpAny _ _ (setSeqItemAt l j v >>= _) _ _ s;obtain⟨n',hm⟩:=Je (·.setIfInBounds j v) items ne;have hfin:(s.heap.update l (Obj.mapSeq (·.setIfInBounds j v))).PlainList l (items.setIfInBounds j v) :=
  ⟨n',by rw[Heap.get?_update_self _ ho (by rw[hm];rfl),hm]⟩
 refine wpAny_bind (wpAny_setSeqItemAt ho rfl ?_)
 first
  |exact wpAny_bind (wpAny_pure (wpAny_pure ⟨.none,rfl,wpAny_pure (hQ _ hfin (Heap.SameBut.update ..))⟩))
  |exact wpAny_pure ⟨.none,rfl,wpAny_pure (hQ _ hfin (Heap.SameBut.update ..))⟩
theorem xR(kvs:List (Str×Value))(k:Str)(v:Value):(stored kvs k v).length≤kvs.length+1:=by
 unfold stored
 split
 ·simp
 ·simp
theorem xS{A:Around}{a:Addr}{vi vd:Value}{o i d o':PyData}{Q:Unit→Shared→Prop}{E:Value→Shared→Prop}(ha:av a)(hb:bH prog w s.heap av a o)(ri:Rep prog w s.heap av vi i)(rd:Rep prog w s.heap av vd d)
  (hs:setItem o i d=.ok o') (hq:∀ h' tk,Heap.SameBut a s.heap h'→bH prog w h' av a o'→Q () { s with heap:=h',toks:=tk }):wpAny (model prog w) A (PySem.setItem (.ref a) vi vd) Q E s:=by
 cases o with
 |dict l =>
  replace hs:u9 l d i=.ok o':=hs;cases i with
  |str k =>
   replace hs:(if l.length < aV then P.ok (.dict (bY l k d)) else .no)=.ok o':=hs
   by_cases hc:l.length < aV
   ·rw[if_pos hc] at hs;obtain rfl:=pi hs;obtain⟨kvs,h2,h3,h4,h5,h6⟩:=hb;obtain⟨t,rfl,hkl⟩:=ri.str_inv;have hlen:kvs.length=l.length:=by
     have:=congrArg List.length h5;simpa using this.symm
    refine wpAny_setItem_pairs (dQ k t) h2 (fun h' hd' hsb=>hq h' _ hsb (m9 hd' ⟨?_,qV h3.2 hkl⟩ h4 (KV.set (k:=k) (rd.mono (fJ ha hsb) fun _ _ _ x=>x) (m4 h2) ((KV.of h5 h6).mono (fJ ha hsb) fun _ _ _ x=>x)))) h3.1;have h1:=xR kvs k vd;have h2:aV=sizeLine:=rfl;exact uD hc hlen h1 h2
   ·rw[if_neg hc] at hs;exact pno hs
  |_=>exact pno hs
 |list l =>
  replace hs:vA l d i=.ok o':=hs;cases i with
  |int k =>
   replace hs:(if 0≤k∧k < l.length then P.ok (.list (l.set k.toNat d)) else .no)=.ok o':=hs
   by_cases hc:0≤k∧k < l.length
   ·rw[if_pos hc] at hs;obtain rfl:=pi hs;obtain⟨xs,hp,hxl,hxz,hxr⟩:=hb;obtain⟨t,rfl⟩:=ri.int_inv;have hN:sizeLine=16777216:=rfl;refine Jf hp hc.1 (by lia) (by simp;exact B8 hc hxl) fun h' hp' hsb=>hq h' _ hsb ⟨xs.set k.toNat vd,?_,by simp[hxl],by simpa using hxz,fun i u du e1 e2=>?_⟩
    ·have:(xs.set k.toNat vd).toArray=xs.toArray.setIfInBounds k.toNat vd:=by simp
     rw[this];exact hp'
    ·rw[List.getElem?_set] at e1 e2
     by_cases hj:k.toNat=i
     ·rw[if_pos hj] at e1 e2
      split at e1
      ·split at e2
       ·obtain rfl:=si e1;obtain rfl:=si e2;exact rd.mono (fJ ha hsb) fun _ _ _ x=>x
       ·exact ns e2
      ·exact ns e1
     ·rw[if_neg hj] at e1 e2;exact(hxr i u du e1 e2).mono (fJ ha hsb) fun _ _ _ x=>x
   ·rw[if_neg hc] at hs;exact pno hs
  |_=>exact pno hs
 |_=>exact pno hs
theorem xT{A:Around}{x:Str}{i:Expr}{xp:Pos}{vd:Value}{d:PyData}{ri:R V}(hi:aC prog w mg mb base n hd (env::l₀) sc σ i ri)(hA:Room n hd (env::l₀) A)(X:Act prog w mg mb base l₀ env sc av₀ s₀ σ av s)(rd:Rep prog w s.heap av vd d)
  {kn:KN} {fin:R V} {Q:Flow→Shared→Prop} {E:Value→Shared→Prop} (hf:rb (ofP (fT σ x)) (fun o=>rb ri fun iv=>rb (ofP (setItem o (dOf iv) d)) fun o=>rb (ofP (cM x (.own o) σ)) kn)=fin) (hne:fin≠.no)
  (hn:∀ s' σ' av',Act prog w mg mb base l₀ env sc av₀ s₀ σ' av' s'→Fr (env::l₀) av₀ s av s' av'→kn σ'=fin→Q .next s') (he:∀ x v s',fin=.exc x→Upx prog w mg base l₀ env s₀ av₀ x v s'→E v s') :
  wpAny (model prog w) A (eval (.Name x xp) env) (fun ov s₂=>wpAny (model prog w) A (eval i env) (fun iv s₃=>wpAny (model prog w) A (PySem.setItem ov iv vd) (fun _=>Q Flow.next) E s₃) E s₂) E s:=by
 obtain⟨od,hod,hf⟩:=cC hf hne;have hg:=m3 hod;obtain⟨hlx,_⟩:=X.names x _ hg;obtain⟨u',hv,a,rfl,hfr,hb⟩:=X.inv.get x _ hlx hg;have ha:=(X.ownA x a ⟨⟨od,hg⟩,hv⟩).1;refine eO X.inv hlx hv (hi.st hA X hf hne (fun iv s₂ ui k2 r2 e2=>?_) he);obtain⟨od',hso,e2⟩:=cC e2 hne;obtain⟨σ',hσ,e3⟩:=cC e2 hne;obtain⟨v0,_,rfl⟩:=eR hσ;have X2:=X.k k2;refine xS ha (hb.k X.inv.gnd.fav k2 hfr) (r2.rep X.inv.gnd.avlt) (rd.k X.inv.gnd.fav k2) hso fun h' tk hs hb'=>?_;exact hn _ _ _ (X2.mut (tk:=tk) hg (hv.k k2) hs hb') ((X.frk k2).tr (X2.frMut (s':={ s₂ with heap:=h',toks:=tk }) hg (hv.k k2) hs)) e3
theorem rG{α:Type}{c:Prop}[Decidable c]{r fin:R α}(h:(if c then .no else r)=fin)(hne:fin≠.no):¬ c∧r=fin:=by
 by_cases hc:c
 ·rw[if_pos hc] at h;exact absurd h.symm hne
 ·rw[if_neg hc] at h;exact⟨hc,h⟩
theorem nA(e o i:Expr)(p:Pos)(line:Nat):swapsWith e (some (.Subscript o i p)) line env=pure false:=by
 unfold swapsWith;cases e<;>rfl
theorem xU{ev:EV}{x:Str}{i e:Expr}{xp p pos:Pos}{xs:List Str}(h:∀ σ e,aC prog w mg mb base n hd (env::l₀) sc σ e (ev σ e)) :
  aQ prog w mg mb base n hd l₀ env sc s₀ σ (exec (.Assign [.Subscript (.Name x xp) i p] e pos) env) fun kn _=>l0 ev (aA.clear σ xs) x i e kn:=by
 intro av₀ A s av hA X kn kr fin Q E hf hne hp hn hr he;obtain⟨av1,Y,hsub⟩:=X.clear xs;obtain⟨_,hf⟩:=rG hf hne;refine wpAny_Assign_Subscript ((h _ e).st hA Y hf hne (fun v s₁ u k1 r e1=>?_) he) (nA ..);exact xT (h _ i) hA (Y.k k1) ((r.rep Y.inv.gnd.avlt)) e1 hne (fun s' σ' av' Z f e=>hn s' σ' av' Z ((Fr.sub hsub).tr ((Y.frk k1).tr f)) e) he
theorem Jg{l:List (PyData×PyData)}{k:PyData}{q:PyData×PyData}(h:l5 l k=.ok q):∃ x,k=.str x∧bS l x=some q.1∧q.2=.dict (c8 l x):=by
 cases k with
 |str x =>
  replace h:((ofO (bS l x)).bind fun d=>P.ok (d,.dict (c8 l x)))=.ok q:=h;refine ocs (bS l x) (fun hg=>?_) fun d hg=>?_
  ·try rewrite[hg]
   rw[hg] at h;exact pno h
  ·try rewrite[hg]
   rw[hg] at h;obtain rfl:=pi h;exact⟨x,rfl,hg,rfl⟩
 |_=>exact pno h
theorem Jh{d:PyData}{l:List (PyData×PyData)}(h:fU d=.ok l):d=.dict l:=by
 cases d with
 |dict l'=>obtain rfl:=pi h;rfl
 |_=>exact pno h
theorem Ji{ev:EV}{x y:Str}{i:Expr}{as:List Expr}{xp yp ap cp p pos:Pos}{xs:List Str}(h:∀ σ e,aC prog w mg mb base n hd (env::l₀) sc σ e (ev σ e)) :
  aQ prog w mg mb base n hd l₀ env sc s₀ σ (exec (.Assign [.Subscript (.Name x xp) i p] (.Call (.Attribute (.Name y yp) "pop" ap) as [] cp) pos) env) fun kn _=>pU ev (aA.clear σ xs) x i y ap as cp kn:=by
 intro av₀ A s av hA X kn kr fin Q E hf hne hp hn hr he;obtain⟨av1,Y,hsub⟩:=X.clear xs;obtain⟨hc,hf⟩:=rG hf hne;simp only[not_or,Bool.not_eq_true,Bool.not_eq_false] at hc;obtain⟨c3,c4,_⟩:=hc;cases as with
 |nil=>exact absurd hf.symm hne
 |cons k r =>
  cases r with
  |cons=>exact absurd hf.symm hne
  |nil =>
   obtain⟨l,hl,hf⟩:=cC hf hne;obtain⟨od,hod,hl⟩:=P.bind_ok hl;cases Jh hl;have hg:=m3 hod;obtain⟨hly,_⟩:=Y.names y _ hg;obtain⟨u,hv,a,rfl,hfr,hb⟩:=Y.inv.get y _ hly hg;have ha:=(Y.ownA y a ⟨⟨_,hg⟩,hv⟩).1;obtain⟨q1,q2⟩:=rE hb;refine wpAny_Assign_Subscript (wpAny_Call_method_lateS rfl (mX c4 (Nat.le_of_ble_eq_true rfl) cp env) c3 (eO Y.inv hly hv ⟨"dict", "dict.pop", F.plainAttrs_dict,F.slot_dict_pop,by kernel_rfl,q1,fun a' e=>by cases e;exact q2,iQ c4 (wpAny_items_cons ((h _ k).st hA Y hf hne (fun kv s₁ ku k1 r1 e1=>wpAny_items_nil ?_) he) (eM (Bool.or_eq_false_iff.mp c4).1))⟩)) (nA ..);obtain⟨q',hp,e1⟩:=cC e1 hne;obtain⟨σ',hσ,e2⟩:=cC e1 hne;obtain⟨v0,_,rfl⟩:=eR hσ;obtain⟨z,hz,g1,g2⟩:=Jg hp;have Y1:=Y.k k1;refine xQ ha (hb.k Y.inv.gnd.fav k1 hfr) (hz▸r1.rep Y.inv.gnd.avlt) g1 fun u h' tk hs ru hb'=>?_;have Y2:=Y1.mut (tk:=tk) hg (hv.k k1) hs (g2.symm▸hb');exact xT (h _ i) hA Y2 ru e2 hne (fun s' σ' av' Z f e=>hn s' σ' av' Z ((Fr.sub hsub).tr ((Y.frk k1).tr ((Y1.frMut (s':={ s₁ with heap:=h',toks:=tk }) hg (hv.k k1) hs).tr f))) e) he
end
end Mine
namespace Mine
open PySem
section
variable {prog:Program} {w:World} {mg mb:Str→Option Value} {base:Heap} {n:Nat} {hd:Bool} {l₀:List Env} {env:Env} {sc:Scope} {av₀:Addr→Prop} {s₀:Shared} {σ:aA} {av:Addr→Prop} {s:Shared}
theorem Jj(e:Expr)(x:Str)(p:Pos)(line:Nat):∃ b:Bool,swapsWith e (some (.Name x p)) line env=pure b:=by
 unfold swapsWith;cases e<;>exact⟨_,rfl⟩
theorem Jk{e:Expr}{x:Str}{p:Pos}{line:Nat}(h:swapsWith e (some (.Name x p)) line env=pure true):lN e=true:=by
 have hne:(pure false:Sem Bool)≠pure true:=fun h=>by cases h
 cases e<;>first
  |rfl
  |exact absurd h hne
theorem Jl{elt:Expr}{g:Comprehension}{sc':Scope}{cpos:Pos}{x:Str}{p pos:Pos}{xs:List Str}{rec:Scope→aA→Expr→R V}
  (hs:swapsWith (.ListComp elt [g] sc' cpos) (some (.Name x p)) pos.line env=pure true) (hbad:∀ e,bad e=true→rec sc (aA.clear σ xs) e=.no)
  (hit:aC prog w mg mb base n hd (env::l₀) sc (aA.clear σ xs) g.iter (rec sc (aA.clear σ xs) g.iter)) (hsub:∀ f as kws q,g.iter=.Call f as kws q→∀ a∈as,aC prog w mg mb base n hd (env::l₀) sc (aA.clear σ xs) a (rec sc (aA.clear σ xs) a))
  (hT:∀ c∈g.ifs,∀ σ',bQ prog w mg mb base n hd (env::l₀) sc' σ' c (rec sc' σ' c)) (hE:∀ σ',aC prog w mg mb base n hd (env::l₀) sc' σ' elt (rec sc' σ' elt)) :
  aQ prog w mg mb base n hd l₀ env sc s₀ σ (exec (.Assign [.Name x p] (.ListComp elt [g] sc' cpos) pos) env) fun kn _=>rb (iK rec hd sc (aA.clear σ xs) elt g sc') fun v=>rb (ofP (cM x v (aA.clear σ xs))) kn:=by
 intro av₀ A s av hA X kn kr fin Q E hf hne hp hn hr he;obtain⟨av1,Y,hsb⟩:=X.clear xs;rw[exec_Assign_Name_used _ _ _ _ hs];refine wpAny_bind (wpAny_standAt (wpAny_bind ?_));rw[arm_evalThenUse_ListComp];refine wpAny_bind (wpAny_mono (xL (Q:=fun _ s'=>Q .next s') hbad hit hsub hT hE hA Y.inv ⟨hf,hne⟩ (fun x v s' e f=>he x v s' e (Y.up f)) fun s₁ wr D C zs st' k0 hD hC hDC hz F e=>?_) (fun _ s' hq=>wpAny_pure (wpAny_pure hq)) fun _ _ e=>e);obtain⟨σ',hσ,e⟩:=cC e hne;obtain⟨v0,hg,rfl⟩:=eR hσ;obtain⟨kk,⟨mC,hnsC⟩,ys,hpl,hyl,hys⟩:=F;have k:=k0.tr kk;have sD:=k0.non hD;have sC:=k0.non hC;obtain⟨d1,d2,d3,d4,d5⟩:=Y.newNot sD;obtain⟨c1,c2,c3,c4,c5⟩:=Y.newNot sC;have Z:=Y.growS (S:=fun b=>b=D∨b=C) k (fun a ha=>ha.elim (fun h=>h▸sD) fun h=>h▸sC) (fun a ha=>ha.elim (fun h=>by obtain⟨n,e⟩:=hpl;exact⟨_,h▸e⟩) fun h=>by obtain⟨o,es,ep,e,_⟩:=hnsC;exact⟨o,h▸e⟩);have notO:∀ b,¬ av1 b→∀ y,¬ bL env (aA.clear σ xs) st'.heap y b:=fun b hb y h=>hb (Y.ownA y b (Y.ownBack (fun u h=>h.k k) h)).1;have g:Fr (env::l₀) av₀ s av1 st' (fun b=>av1 b∨b=D∨b=C):=⟨(Y.frk k).keep,fun b o e h=>h.elim id (fun h=>by
  rcases h with h | h
  ·rw[h,sD] at e;exact ns e
  ·rw[h,sC] at e;exact ns e),(Y.frk k).pins⟩
 refine wpAny_assign_Name (Z.put hg (v:=.own (.list zs)) ⟨D,rfl,d5,ys,hpl,hyl,by rw[hyl];exact hz,fun j v d e1 e2=>?_⟩ (fun d a e1 e2=>?_) fun s' Z' f hvx hvy=>?_)
 ·exact(hys j v d e1 e2).mono (fun _ _ _ e=>e) fun b o _ hb=>hb.imp id .inr
 ·cases e2;exact⟨.inr (.inl rfl),d4,d3,d1,fun y _=>notO D d2 y⟩
 ·have hown:∀ y a,bL env (aA.set (aA.clear σ xs) x (.own (.list zs))) s'.heap y a→¬ a=C:=fun y a ⟨⟨d',hgy⟩,hv⟩ ha=>by
   subst ha
   by_cases hyx:y=x
   ·subst hyx;cases a9.uniq hvx hv;exact hDC rfl
   ·have hgy:=fW hyx hgy;exact notO a c2 y ⟨⟨d',hgy⟩,Z.varBack hgy (fun u=>hvy y u hyx) hv⟩
  refine⟨mC,hnsC.at' fun o e=>f C o c1 e,fun h' hs'=>?_⟩;have hkeep:∀ b o,¬ b=C→s'.heap.get? b=some o→h'.get? b=some o:=fun b o hb e=>by rw[hs'.2 b hb];exact e
  have W:=Z'.wildS (S:=fun b=>b=C) (av':=fun b=>(av1 b∨b=D∨b=C)∧b≠C) (h':=h') (tk:=s'.toks) (fun b hb=>.inr (.inr hb)) (fun b hb=>hb▸c4) (fun b m h=>c1 (h▸m)) hown hkeep
   (fun b hb=>hb.1) (fun b hb hb'=>⟨hb,hb'⟩) (fun b hb hb'=>absurd hb' hb.2) (fun b hb=>⟨.inl (Y.bas b hb),fun h=>c3 (h▸hb)⟩)
  have fr:Fr (env::l₀) av₀ s' (fun b=>av1 b∨b=D∨b=C) { s' with heap:=h' } (fun b=>(av1 b∨b=D∨b=C)∧b≠C):=⟨fun b o e hb=>hkeep b o (fun h=>hb (.inr (.inr h))) e,fun _ _ _ h=>h.1,fun b o hb _ e=>hkeep b o (fun h=>c3 (h▸hb)) e⟩
  exact hn _ _ _ W ((Fr.sub hsb).tr (g.tr ((Z.frPut f).tr fr))) e
theorem Jm:∀ {es:List Expr} {xs:List Str},eB es=some xs→(assignEach es env).length=xs.length∧(assignEach es env).findIdx? (·.1)=none:=by
 intro v0
 induction v0 with
 |nil =>
  intro xs h;obtain rfl:=si h;exact⟨rfl,rfl⟩
 |cons e es ih =>
  intro xs h;replace h:((bD e).bind fun x=>(eB es).map (x::·))=some xs:=h;refine ocs (bD e) (fun hx=>?_) fun x hx=>?_
  ·try rewrite[hx]
   rw[hx] at h;exact ns h
  ·try rewrite[hx]
   rw[hx] at h;obtain⟨p,rfl⟩:=c9 hx;have h:(eB es).map (x::·)=some xs:=h;obtain⟨ys,h1,rfl⟩:=Option.map_eq_some_iff.mp h;obtain⟨g1,g2⟩:=ih h1;have e0:assignEach (.Name x p::es) env=(false,assign (.Name x p) env)::assignEach es env:=rfl;rw[e0];refine⟨by simp[g1],?_⟩;rw[List.findIdx?_cons];simp[g2]
theorem Act.putF{A:Around}{E:Value→Shared→Prop}{x:Str}{v0:Option V}{u:Value}{d:PyData}{Q:Unit→Shared→Prop}(X:Act prog w mg mb base l₀ env sc av₀ s₀ σ av s)(hx:aA.get σ x=some v0)(hv:Rep prog w s.heap av u d)
  (hq:∀ s',Act prog w mg mb base l₀ env sc av₀ s₀ (aA.set σ x (.fz d)) av s'→Fr (env::l₀) av₀ s av s' av→Q () s'):wpAny (model prog w) A (storeName env x u) Q E s :=
 X.put hx (show cH prog w mg (env::l₀) s.heap av u (.fz d) from hv) (fun _ _ e=>by cases e) fun s' Y f _ _=>hq s' Y (X.frPut f)
theorem Jn{A:Around}{E:Value→Shared→Prop}{Q:Unit→Shared→Prop}:∀ {es:List Expr} {xs:List Str} {ds:List PyData} {vs:List Value} {σ σ':aA} {s:Shared},eB es=some xs→lZ xs ds σ=.ok σ'→RL prog w s.heap av vs ds →
  Act prog w mg mb base l₀ env sc av₀ s₀ σ av s→(∀ s',Act prog w mg mb base l₀ env sc av₀ s₀ σ' av s'→Fr (env::l₀) av₀ s av s' av→Q () s')→wpAny (model prog w) A (assignInOrder ((assignEach es env).map (·.2)) vs) Q E s:=by
 intro v0
 induction v0 with
 |nil =>
  intro xs ds vs σ σ' s hn hs r X hq;obtain rfl:=si hn;cases ds with
  |cons=>exact pno hs
  |nil =>
   obtain rfl:=pi hs;obtain rfl:=r.nil;exact wpAny_assignInOrder_none (hq s X (Fr.rf _ s av))
 |cons e es ih =>
  intro xs ds vs σ σ' s hn hs r X hq;replace hn:((bD e).bind fun x=>(eB es).map (x::·))=some xs:=hn;refine ocs (bD e) (fun hx=>?_) fun x hx=>?_
  ·try rewrite[hx]
   rw[hx] at hn;exact ns hn
  ·try rewrite[hx]
   rw[hx] at hn;obtain⟨p,rfl⟩:=c9 hx;have hn:(eB es).map (x::·)=some xs:=hn;obtain⟨ys,h1,rfl⟩:=Option.map_eq_some_iff.mp hn;cases ds with
   |nil=>exact pno hs
   |cons d ds =>
    obtain⟨v,vs,rfl,rv,r⟩:=r.cons;obtain⟨σ1,h2,h3⟩:=P.bind_ok hs;obtain⟨v0,hg,rfl⟩:=eR h2;show wpAny _ A (assignInOrder (assign (.Name x p) env::(assignEach es env).map (·.2)) (v::vs)) Q E s;refine wpAny_assignInOrder_more (wpAny_assign_Name (X.putF hg rv fun s1 Y1 f1=>?_));exact ih h1 h3 ⟨r.1,fun i v' d' e1 e2=>(r.2 i v' d' e1 e2).mono (fun b o hb e=>f1.keep b o e hb) fun _ _ _ h=>h⟩ Y1 fun s' Z fr=>hq s' Z (f1.tr fr)
theorem xV:∀ {xs:List Str} {ds:List PyData} {σ σ':aA},lZ xs ds σ=.ok σ'→xs.length=ds.length
 | [],[],_,_,_=>rfl
 | [],_::_,_,_,h=>by exact pno h
 |_::_,[],_,_,h=>by exact pno h
 |x::xs,d::ds,σ,σ',h=>by
  obtain⟨σ1,_,h2⟩:=P.bind_ok h;have:=xV h2;simp[this]
theorem Jo{d:PyData}{l:List PyData}(h:uU d=.ok l):d=.tuple l:=by
 cases d with
 |tuple l'=>obtain rfl:=pi h;rfl
 |_=>exact pno h
theorem xW{A:Around}{E:Value→Shared→Prop}{σ':aA}{target:Expr}{v:Value}{d:PyData}{Q:Unit→Shared→Prop}(hh:A.handled=none)(X:Act prog w mg mb base l₀ env sc av₀ s₀ σ av s)(r:Rep prog w s.heap av v d)(ha:aT target d σ=.ok σ')
  (hq:∀ s',Act prog w mg mb base l₀ env sc av₀ s₀ σ' av s'→Fr (env::l₀) av₀ s av s' av→Q () s'):wpAny (model prog w) A (assign target env v) Q E s:=by
 unfold aT at ha;cases hv:vw target with
 |name x =>
  rw[hv] at ha;obtain⟨p,rfl⟩:=cX hv;obtain⟨v0,hg,rfl⟩:=eR ha;exact wpAny_assign_Name (X.putF hg r hq)
 |tup es =>
  rw[hv] at ha;obtain⟨k,p,rfl⟩:=cX hv;obtain⟨ds,h1,ha1⟩:=P.bind_ok ha;clear ha;cases Jo h1;obtain⟨xs,h2,ha⟩:=P.bind_ok ha1;clear ha1;refine ocs (eB es) (fun hn=>?_) fun ys hn=>?_
  ·try rewrite[hn]
   rw[hn] at h2;exact pno h2
  ·try rewrite[hn]
   rw[hn] at h2;obtain rfl:=pi h2;obtain⟨ad,vs,rfl,g1,g2,g3,g4,g5⟩:=r.tuple_inv;obtain⟨e1,e2⟩:=Jm (env:=env) hn;refine wpAny_assign_Tuple hh g2.isTuple (by rw[e1,xV ha,← g3];simp) e2 fun h1 he=>?_;have k1:∀ b o,s.heap.get? b=some o→h1.get? b=some o:=fun b o e=>he b o (mZ e) e;have kk:K (env::l₀) s { s with heap:=h1 }:=K.of ⟨h1,s.toks,rfl,k1⟩;exact Jn hn ha ⟨g3,fun i v d q1 q2=>(g5 i v d q1 q2).keeps k1⟩ (X.k kk) fun s' Z fr=>hq s' Z ((X.frk kk).tr fr)
 |_=>rw[hv] at ha;exact pno ha
theorem Jp{e:Expr}(h:pF e=true):∃ f as kws q,e=.Call f as kws q:=by
 unfold pF at h;cases hv:vw e with
 |call f as kws q=>exact⟨f,as,kws,q,cX hv⟩
 |_=>rw[hv] at h;exact bft h
theorem fX{α:Type}{c:Prop}[Decidable c]{r fin:R α}(h:(if c then r else .no)=fin)(hne:fin≠.no):c∧r=fin:=by
 by_cases hc:c
 ·rw[if_pos hc] at h;exact⟨hc,h⟩
 ·rw[if_neg hc] at h;exact absurd h.symm hne
theorem Jq{ev:EV}{es:List Expr}{k:Nat}{p:Pos}{e:Expr}{pos:Pos}{xs:List Str}(h:aC prog w mg mb base n hd (env::l₀) sc (aA.clear σ xs) e (ev (aA.clear σ xs) e)) :
  aQ prog w mg mb base n hd l₀ env sc s₀ σ (exec (.Assign [.Tuple es k p] e pos) env) fun kn _=>vD ev hd (aA.clear σ xs) (.Tuple es k p) e kn:=by
 intro av₀ A s av hA X kn kr fin Q E hf hne hp hn hr he;obtain⟨av1,Y,hsub⟩:=X.clear xs;obtain⟨hc,hf⟩:=fX hf hne;obtain⟨f,as,kws,q,rfl⟩:=Jp hc.1;refine wpAny_Assign_stores (h.st hA Y hf hne (fun v s₁ u k1 r e1=>?_) he) rfl rfl;obtain⟨σ',hσ,e2⟩:=cC e1 hne;exact xW (hA.handled hc.2) (Y.k k1) (r.rep Y.inv.gnd.avlt) hσ fun s' Z fr=>hn _ _ _ Z ((Fr.sub hsub).tr ((Y.frk k1).tr fr)) e2
theorem xX{e:Expr}{c:Str×Str×Pos×List Expr×Pos}(h:j0 e=some c):∃ p,e=.Call (.Attribute (.Name c.1 p) c.2.1 c.2.2.1) c.2.2.2.1 [] c.2.2.2.2:=by
 obtain⟨c1,h1,h⟩:=ob h;obtain⟨a,h2,h⟩:=ob h;obtain⟨x,h3,h⟩:=ob h;have e1:=qG h1;have e2:=vM h2;obtain⟨p,e3⟩:=c9 h3;obtain⟨f,as,kws,q⟩:=c1;obtain⟨o,m,ap⟩:=a;cases kws with
 |cons=>exact ns h
 |nil =>
  obtain rfl:=si h;exact⟨p,by rw[e1,show f=_ from e2,show o=_ from e3]⟩
theorem Jr{rec:Scope→aA→Expr→R V}{C:Ctx}{F:Nat}(hbad:∀ sc σ e,bad e=true→rec sc σ e=.no)(hc:C.hd=hd)
  (ihr:∀ sc σ e,aC prog w mg mb base n hd (env::l₀) sc σ e (rec sc σ e)∧bQ prog w mg mb base n hd (env::l₀) sc σ e (rec sc σ e))
  (h:∀ σ e,aC prog w mg mb base n hd (env::l₀) sc σ e (eK rec C sc σ e)) {t e:Expr} {pos:Pos}:aQ prog w mg mb base n hd l₀ env sc s₀ σ (exec (.Assign [t] e pos) env) fun kn _=>pV (eK rec C sc) F hd σ t e kn:=by
 unfold pV;cases hv:vw t with
 |name x =>
  obtain⟨p,rfl⟩:=cX hv;obtain⟨b,hsw⟩:=Jj (env:=env) e x p pos.line;cases b with
  |false=>exact I6 hsw (h _ e)
  |true =>
   have hcomp:=Jk hsw;cases e with
   |ListComp elt gens sc' cpos =>
    cases gens with
    |nil=>exact aQ.no
    |cons g gs =>
     cases gs with
     |cons=>exact aQ.no
     |nil =>
      show aQ prog w mg mb base n hd l₀ env sc s₀ σ _ fun kn _=>rb (iK rec C.hd sc _ elt g sc') fun v=>rb (ofP (cM x v _)) kn;rw[hc];exact Jl hsw (hbad sc _) (ihr _ _ _).1 (fun _ _ _ _ _ a _=>(ihr _ _ a).1) (fun c _ σ'=>(ihr _ _ c).2) fun σ'=>(ihr _ _ elt).1
   |SetComp=>exact aQ.no
   |DictComp=>exact aQ.no
   |_=>exact bft hcomp
 |sub o i =>
  obtain⟨p,rfl⟩:=cX hv;show aQ prog w mg mb base n hd l₀ env sc s₀ σ _ fun kn _=>match bD o with | some x=>l6 (eK rec C sc) F σ x i e kn | none=>.no
  cases hn:bD o with
  |none=>exact aQ.no
  |some x =>
   obtain⟨q,rfl⟩:=c9 hn;show aQ prog w mg mb base n hd l₀ env sc s₀ σ _ fun kn _=>l6 (eK rec C sc) F σ x i e kn;unfold l6;cases hm:j0 e with
   |none=>exact xU h
   |some c =>
    obtain⟨y,m,ap,as,cp⟩:=c;show aQ prog w mg mb base n hd l₀ env sc s₀ σ _ fun kn _=>if m = "pop" then pU (eK rec C sc) (aA.clear σ (as.flatMap (esc F))) x i y ap as cp kn else l0 (eK rec C sc) (aA.clear σ (esc F e)) x i e kn
    by_cases hp:m = "pop"
    ·subst hp;simp only[if_true];obtain⟨yp,rfl⟩:=xX hm;exact Ji h
    ·simp only[if_neg hp];exact xU h
 |tup es =>
  obtain⟨k,p,rfl⟩:=cX hv;exact Jq (h _ e)
 |_=>exact aQ.no
theorem Js{ev:EV}(hbad:∀ σ e,bad e=true→ev σ e=.no)(h:∀ σ e,aC prog w mg mb base n hd (env::l₀) sc σ e (ev σ e)){F:Nat}{e:Expr}{pos:Pos}:aQ prog w mg mb base n hd l₀ env sc s₀ σ (exec (.Expr e pos) env) fun kn _=>pW ev F σ e kn:=by
 unfold pW;cases hm:j0 e with
 |some c =>
  obtain⟨x,m,ap,as,cp⟩:=c;obtain⟨xp,rfl⟩:=xX hm;exact Jd hbad fun e _=>h _ e
 |none =>
  cases hc:lN e with
  |true=>exact aQ.no
  |false=>exact I8 hc (h _ e)
end
end Mine
namespace Mine
open PySem
section
variable {prog:Program} {w:World} {mg mb:Str→Option Value} {base:Heap} {n:Nat} {hd:Bool} {l₀:List Env} {env:Env} {sc:Scope} {av₀:Addr→Prop} {s₀:Shared} {σ:aA} {av:Addr→Prop} {s:Shared}
theorem bB.weaken{av₁:Addr→Prop}{h:Heap}{v:Value}{u:V}(hw:∀ b,av₀ b→av₁ b)(r:bB prog w s₀ h av₁ v u):bB prog w s₀ h av₀ v u:=by
 cases u with
 |ex x=>exact r
 |fz d=>exact(show Rep prog w h av₁ v d from r).mono (fun _ _ _ e=>e) fun b _ _ x=>hw b x
 |own d=>obtain⟨a,e,hn,rb⟩:=r;exact⟨a,e,hn,rb.mono (fun _ _ _ e=>e) (fun b _ _ x=>x.imp (hw b) id) fun _ e=>e⟩
theorem Jt{A:Around}{s₂:Shared}{t:Expr}{b:List Stmt}{it:Value}{wr:Addr→Prop}{St:Nat→Heap→Prop}{ds:List PyData}{body:aA→KN→KR→R V}
  (hA:Room n hd (env::l₀) A) (hh:A.handled=none) (Y:Act prog w mg mb base l₀ env sc av₀ s₀ σ av s) (hb:∀ σ,aQ prog w mg mb base n hd l₀ env sc s₀ σ (execs b env) (body σ))
  (k:Kp s s₂) (S:Src prog w A s.heap av t it wr St ds) (hst:St 0 s₂.heap) (hwr:∀ b,wr b→s.heap.get? b=none∧∃ o,s₂.heap.get? b=some o)
  {kn:KN} {kr:KR} {fin:R V} {Q:Flow→Shared→Prop} {E:Value→Shared→Prop} (hf:aP body t ds σ kn kr=fin) (hne:fin≠.no) (hp:PassesOwn (model prog w) A env E)
  (hn:∀ s' σ' av',Act prog w mg mb base l₀ env sc av₀ s₀ σ' av' s'→Fr (env::l₀) av₀ s av s' av'→kn σ'=fin→Q .next s') (hr:∀ v s' u,K l₀ s₀ s'→bB prog w s₀ s'.heap av₀ v u→kr u=fin→Q (.ret v) s')
  (he:∀ x v s',fin=.exc x→Upx prog w mg base l₀ env s₀ av₀ x v s'→E v s') :
  codeAny (model prog w) A (.forLoop t it b [] env) (fun r s'=>match r with | .ok f=>Q f s' | .error e=>cameBackBy (model prog w) A env E e s') s₂:=by
 have kk:K (env::l₀) s s₂:=K.of k;have Z:=Y.pin (S:=wr) kk (fun a ha=>(hwr a ha).1) (fun a ha=>(hwr a ha).2);have fr0:Fr (env::l₀) av₀ s av s₂ (fun b=>av b∨wr b):=⟨(Y.frk kk).keep,fun b o e h=>h.elim id (fun h=>by rw[(hwr b h).1] at e;exact ns e),(Y.frk kk).pins⟩
 have nw:∀ b,wr b→¬ Mn env b∧¬ av b∧¬ av₀ b∧s₀.heap.get? b=none∧¬ frs (env::l₀) b:=fun b h=>Y.newNot (hwr b h).1;have hM:∀ b,Mn env b→¬ wr b:=fun b m h=>(nw b h).1 m;have not0:∀ b,av₀ b→¬ wr b:=fun b x h=>(nw b h).2.2.1 x;have hf0:∀ b,frs l₀ b→av₀ b:=fun b h=>(Y.fr0 b h).1;refine codeAny_forLoop_any (fun k st=>∃ (i:Nat) (σi:aA) (avi:Addr→Prop),i+k=ds.length∧Act prog w mg mb base l₀ env sc (fun b=>av₀ b∨wr b) s₀ σi avi st∧Fr (env::l₀) av₀ s av st avi∧St i st.heap∧aP body t (ds.drop i) σi kn kr=fin) ?_ ds.length
  ⟨0,σ,_,Nat.zero_add _,Z,fr0,hst,hf⟩
 rintro k' st ⟨i,σi,avi,hi,X,fr,sti,hfi⟩
 by_cases hend:i=ds.length
 ·subst hend;rw[List.drop_length] at hfi;refine wpAny_mono (S.done st _ (fun s'=>Q .next s') sti fun h' tk hk=>hn _ σi (fun b=>avi b∧¬ wr b) ?_ (fr.tr ⟨fun b o e hb=>hk b o (fun hw=>hb (X.bas b (.inr hw))) e,fun _ _ _ h=>h.1,fun b o hb _ e=>hk b o (not0 b hb) e⟩) hfi) (fun r s₁ h₁=>?_) fun _ _ x=>x
  ·exact(X.weaken (fun b hb=>.inl hb) hf0).wildS (S:=wr) (fun b hb=>X.bas b (.inr hb)) (fun b h=>(nw b h).2.2.2.1) hM (fun x a h hw=>(X.ownA x a h).2.2.1 (.inr hw)) hk (fun b hb=>hb.1) (fun b hb hw=>⟨hb,hw⟩) (fun b hb hw=>absurd hw hb.2) (fun b hb=>⟨X.bas b (.inl hb),not0 b hb⟩)
  ·cases r with
   |none=>exact wpAny_execs_nil h₁
   |some v=>exact h₁.elim
 ·have hlt:i < ds.length:=by exact uC hi hend
  rw[List.drop_eq_getElem_cons hlt] at hfi;obtain⟨σ1,hasg,hfi⟩:=cC (show rb (ofP (aT t ds[i] σi)) (fun σ=>body σ (fun σ=>aP body t (ds.drop (i+1)) σ kn kr) kr)=fin from hfi) hne;refine wpAny_mono (S.item i ds[i] st _ ?QQ (List.getElem?_eq_getElem hlt) sti ?body) ?link fun _ _ x=>x
  case link =>
   intro r s₁ h₁;cases r with
   |none=>exact h₁.elim
   |some v=>exact h₁
  intro v h1 tk1 hk1 st1 hrep;have X1:Act prog w mg mb base l₀ env sc (fun b=>av₀ b∨wr b) s₀ σi avi { st with heap:=h1,toks:=tk1 } :=
   X.wildS (S:=wr) (fun b hb=>X.bas b (.inr hb)) (fun b h=>(nw b h).2.2.2.1) hM (fun x a h hw=>(X.ownA x a h).2.2.1 (.inr hw)) hk1 (fun b hb=>hb) (fun b hb _=>hb) (fun b _ hw=>S.live _ _ st1 b hw) X.bas
  have rv:=hrep avi X.inv.gnd.avlt fr.grow;have fr1:Fr (env::l₀) av₀ st avi { st with heap:=h1,toks:=tk1 } avi:=⟨fun b o e hb=>hk1 b o (fun hw=>hb (X.bas b (.inr hw))) e,fun _ _ _ h=>h,fun b o hb _ e=>hk1 b o (not0 b hb) e⟩
  refine xW hh X1 rv hasg fun s2 Y2 fr2=>wpAny_passesOwn hp ?_;refine hb σ1 _ A s2 avi hA Y2 hfi hne hp (fun s3 σ3 av3 Y3 fr3 e3=>?_) (fun v s' u k r e=>hr v s' u k (r.weaken fun _ h=>.inl h) e) fun x v s' e u=>he x v s' e (u.weaken fun _ h=>.inl h);have frA:=fr1.tr ((fr2.weaken fun b hb=>.inl hb).tr (fr3.weaken fun b hb=>.inl hb));refine⟨k' - 1,by exact oV hi hend,i+1,σ3,av3,by exact oW hi hend,Y3,fr.tr frA,S.frame _ _ _ st1 (fun b o hw e=>fr3.pins b o (.inr hw) (nw b hw).2.2.2.2 (fr2.pins b o (.inr hw) (nw b hw).2.2.2.2 e)) (fr.tr frA).keep,e3⟩
theorem Ju{rec:Expr→R V}{t it:Expr}{k:List PyData→R V}{fin:R V}(h:rb (fD rec hd sc t it) k=fin)(hne:fin≠.no):hd=false:=by
 cases hd with
 |false=>rfl
 |true=>exact absurd h.symm hne
theorem Jv{ev:EV}(hbad:∀ σ e,bad e=true→ev σ e=.no)(h:∀ σ e,aC prog w mg mb base n hd (env::l₀) sc σ e (ev σ e)){t it:Expr}{b:List Stmt}{pos:Pos}{xs:List Str}{body:aA→KN→KR→R V}
  (hb:∀ σ,aQ prog w mg mb base n hd l₀ env sc s₀ σ (execs b env) (body σ)) :
  aQ prog w mg mb base n hd l₀ env sc s₀ σ (exec (.For t it b [] pos) env) fun kn kr=>rb (fD (ev (aA.clear σ xs)) hd sc t it) fun l=>aP body t l (aA.clear σ xs) kn kr:=by
 intro av₀ A s av hA X kn kr fin Q E hf hne hp hn hr he;obtain⟨av1,Y,hsb⟩:=X.clear xs;have hh:=hA.handled (Ju hf hne);have hb':bad it=false:=eN (fun e=>xK (hbad _) e) (Fin.ne ⟨hf,hne⟩);have hs:∀ x,foldedSetIterable it env x=pure x:=fun x=>by
  unfold foldedSetIterable;cases it<;>first | rfl | cases hb'
 refine wpAny_For (xG (target:=t) (hbad _) (h _ it) (fun _ _ _ _ _ a _=>h _ a) A env s av1 hA Y.inv ⟨hf,hne⟩ (fun itv s₂ ds x e=>?_) fun x v s' e f=>he x v s' e (Y.up f)) hs;obtain⟨s₁,wr,St,k0,S,hst,hwr,k2,_⟩:=x;exact Jt hA hh (Y.k k0) hb k2 S hst hwr e hne hp (fun s' σ' av' Z f e=>hn s' σ' av' Z ((Fr.sub hsb).tr ((Y.frk k0).tr f)) e) hr he
end
end Mine
namespace Mine
open PySem
theorem xY(x y:Str)(σ:aA):aA.get (eL σ x) y=(aA.get σ y).map fun o=>if x=y then none else o:=by
 induction σ with
 |nil=>rfl
 |cons p r ih =>
  obtain⟨z,v⟩:=p;show aA.get ((if x=z then (z,none) else (z,v))::eL r x) y=(if y=z then some v else aA.get r y).map _
  by_cases h:x=z
  ·subst h;rw[if_pos rfl];show(if y=x then some none else aA.get (eL r x) y)=_
   by_cases h2:y=x
   ·subst h2;rw[if_pos rfl,if_pos rfl];simp
   ·rw[if_neg h2,if_neg h2];exact ih
  ·rw[if_neg h];show(if y=z then some v else aA.get (eL r x) y)=_
   by_cases h2:y=z
   ·subst h2;rw[if_pos rfl,if_pos rfl];simp[h]
   ·rw[if_neg h2,if_neg h2];exact ih
theorem xZ{x y:Str}{σ:aA}{v:V}(h:aA.get (eL σ x) y=some (some v)):x≠y∧aA.get σ y=some (some v):=by
 rw[xY] at h
 by_cases e:x=y
 ·obtain⟨o,_,h⟩:=Option.map_eq_some_iff.mp h;rw[if_pos e] at h;exact ns h
 ·obtain⟨o,h1,h⟩:=Option.map_eq_some_iff.mp h;rw[if_neg e] at h;exact⟨e,by rw[h1,h]⟩
section
variable {prog:Program} {w:World} {mg mb:Str→Option Value} {base:Heap} {n:Nat} {hd:Bool} {l₀:List Env} {env:Env} {sc:Scope} {av₀:Addr→Prop} {s₀:Shared} {σ:aA} {av:Addr→Prop} {s:Shared}
theorem Act.hid{x:Str}{a:Addr}(X:Act prog w mg mb base l₀ env sc av₀ s₀ σ av s)(o:bL env σ s.heap x a):Act prog w mg mb base l₀ env sc (fun c=>av₀ c∨c=a) s₀ (eL σ x) av s:=by
 obtain⟨q1,q2,q3,q4⟩:=X.ownA x a o;have back:∀ y c,bL env (eL σ x) s.heap y c→x≠y∧bL env σ s.heap y c:=fun y c h=>by
  obtain⟨⟨d,hg⟩,hv⟩:=h;obtain⟨h1,h2⟩:=xZ hg;exact⟨h1,⟨d,h2⟩,hv⟩
 refine { X with inv:={ X.inv with get:=fun y v hl hg=>X.inv.get y v hl (xZ hg).2 },fr0:=fun b h=>⟨.inl (X.fr0 b h).1,(X.fr0 b h).2⟩,bas:=fun b h=>h.elim (X.bas b) fun e=>e▸q1,fresh:=fun b h=>?_,names:=fun y v h=>?_,ownA:=fun y c h=>?_,ownI:=fun y z c h1 h2=>X.ownI y z c (back y c h1).2 (back z c h2).2 }
 ·obtain⟨h1,h2,h3⟩:=X.fresh b h;exact⟨h1,h2,fun e=>e.elim h3 fun e=>q4 (e▸h)⟩
 ·rw[xY] at h;obtain⟨o,h,_⟩:=Option.map_eq_some_iff.mp h;exact X.names y o h
 ·obtain⟨h1,h2⟩:=back y c h;obtain⟨r1,r2,r3,r4⟩:=X.ownA y c h2;exact⟨r1,r2,fun e=>e.elim r3 fun e=>h1 (X.ownI x y a o (e▸h2)),r4⟩
structure HidS(env:Env)(l₀:List Env)(av₀:Addr→Prop)(s₀:Shared)(a b:Addr)(kvs:List (Str×Value))(k:Str):Prop where
 a0:s₀.heap.get? a=none
 aa:¬ av₀ a
 aM:¬ Mn env a
 aF:¬ frs (env::l₀) a
 b0:s₀.heap.get? b=none
 ba:¬ av₀ b
 bM:¬ Mn env b
 bF:¬ frs (env::l₀) b
 ne:a≠b
 sm:(a==sysModules)=false
 sz:(stored kvs k (.ref b)).length≤sizeLine∧∀ kv∈stored kvs k (.ref b),kv.1.length≤sizeLine
 nd:(kvs.map (·.1)).Nodup
variable (prog w mg mb base l₀ env sc av₀ s₀) in
structure Hid(x:Str)(a b:Addr)(kvs:List (Str×Value))(l:List (PyData×PyData))(k:Str)(d:PyData)(σ:aA)(av:Addr→Prop)(s:Shared):Prop where
 act:Act prog w mg mb base l₀ env sc (fun c=>(av₀ c∨c=a)∨c=b) s₀ σ av s
 var:a9 env s.heap x (.ref a)
 dic:s.heap.DictOf (strKind prog w) a (stored kvs k (.ref b))
 old:KV prog w s.heap av kvs l
 bod:bH prog w s.heap av b d
variable {x:Str} {a b:Addr} {kvs:List (Str×Value)} {l:List (PyData×PyData)} {k:Str} {d:PyData}
theorem DictOf.at'{h h':Heap}{a:Addr}{kvs:List (Str×Value)}(p:h.DictOf (strKind prog w) a kvs)(hs:∀ o,h.get? a=some o→h'.get? a=some o):h'.DictOf (strKind prog w) a kvs:=by
 obtain⟨o,es,ep,e,r⟩:=p;exact⟨o,es,ep,hs _ e,r⟩
theorem Hid.kp(S:HidS env l₀ av₀ s₀ a b kvs k){s':Shared}(H:Hid prog w mg mb base l₀ env sc av₀ s₀ x a b kvs l k d σ av s)(kk:K (env::l₀) s s'):Hid prog w mg mb base l₀ env sc av₀ s₀ x a b kvs l k d σ av s' where
 act:=H.act.k kk
 var:=H.var.k kk
 dic:=DictOf.at' H.dic fun _ e=>kk.at S.aF e
 old:=H.old.mono (fun _ _ n e=>kk.at (fun f=>n (H.act.inv.gnd.fav _ f)) e) fun _ _ _ x=>x
 bod:=H.bod.k H.act.inv.gnd.fav kk S.bF
theorem Hid.clear(H:Hid prog w mg mb base l₀ env sc av₀ s₀ x a b kvs l k d σ av s)(xs:List Str):∃ av1,Hid prog w mg mb base l₀ env sc av₀ s₀ x a b kvs l k d (aA.clear σ xs) av1 s∧∀ b,av1 b→av b:=by
 obtain⟨av1,Y,h⟩:=H.act.clear xs;exact⟨av1,⟨Y,H.var,H.dic,H.old.mono (fun _ _ _ e=>e) fun c _ _ x=>h c x,H.bod.mono (fun _ _ _ e=>e) (fun c _ _ x=>h c x) fun _ e=>e⟩,h⟩
theorem Hid.mut(S:HidS env l₀ av₀ s₀ a b kvs k){d':PyData}{h':Heap}{tk:Nat}(H:Hid prog w mg mb base l₀ env sc av₀ s₀ x a b kvs l k d σ av s)(hs:Heap.SameBut b s.heap h')(hb:bH prog w h' av b d'):Hid prog w mg mb base l₀ env sc av₀ s₀ x a b kvs l k d' σ av { s with heap:=h',toks:=tk }:=by
 have hav:av b:=H.act.bas b (.inr rfl);have kept:∀ c o,¬ c=b→s.heap.get? c=some o→h'.get? c=some o:=fun c o n e=>by rw[hs.2 c n];exact e
 refine⟨H.act.wildS (S:=fun c=>c=b) (fun c e=>e▸hav) (fun c e=>e▸S.b0) (fun c m e=>S.bM (e▸m)) (fun y c o e=>(H.act.ownA y c o).2.2.1 (.inr e)) kept (fun _ h=>h) (fun _ h _=>h) (fun c _ e=>e▸hb.live) H.act.bas,?_,DictOf.at' H.dic fun o e=>kept a o S.ne e,H.old.mono (fun c o n e=>kept c o (fun e'=>n (e'▸hav)) e) fun _ _ _ x=>x,hb⟩;exact H.var.kept fun c o m e=>kept c o (fun e'=>S.bM (e'▸m)) e
theorem Hid.done(S:HidS env l₀ av₀ s₀ a b kvs k)(H:Hid prog w mg mb base l₀ env sc av₀ s₀ x a b kvs l k d σ av s):Act prog w mg mb base l₀ env sc av₀ s₀ (aA.set σ x (.own (.dict (bY l k d)))) (fun c=>av c∧c≠b) s:=by
 have X:=H.act;have W:Act prog w mg mb base l₀ env sc av₀ s₀ σ av s:=X.weaken (fun c h=>.inl (.inl h)) fun c f=>by
  rcases(X.fr0 c f).1 with (h | h) | h
  ·exact h
  ·exact absurd ((gR X.frm).mpr (.inr (h▸f))) S.aF
  ·exact absurd ((gR X.frm).mpr (.inr (h▸f))) S.bF
 have hav:av a:=X.bas a (.inl (.inr rfl));have low:∀ c o,s.heap.get? c=some o→av c∧c≠b→av c:=fun _ _ _ h=>h.1;have hb:bH prog w s.heap (fun c=>av c∧c≠b) a (.dict (bY l k d)):=by
  refine m9 H.dic S.sz S.sm (KV.set ?_ S.nd (H.old.mono (fun _ _ _ e=>e) low));exact bH.rep (fun h=>h.2 rfl) (H.bod.mono (fun _ _ _ e=>e) low fun _ e=>e)
 have back:∀ y c,bL env (aA.set σ x (.own (.dict (bY l k d)))) s.heap y c→(y=x∧c=a)∨(y≠x∧bL env σ s.heap y c):=fun y c h=>by
  obtain⟨⟨e,hg⟩,hv⟩:=h
  by_cases hy:y=x
  ·subst hy;exact .inl ⟨rfl,Value.ref.inj (a9.uniq hv H.var)⟩
  ·exact .inr ⟨hy,⟨e,fW hy hg⟩,hv⟩
 have own:∀ y c,bL env σ s.heap y c→(av c∧c≠b)∧s₀.heap.get? c=none∧¬ av₀ c∧¬ Mn env c∧c≠a:=fun y c h=>by
  obtain⟨q1,q2,q3,q4⟩:=X.ownA y c h;exact⟨⟨q1,fun e=>q3 (.inr e)⟩,q2,fun e=>q3 (.inl (.inl e)),q4,fun e=>q3 (.inl (.inr e))⟩
 refine W.upd (S:=fun c=>c=b) (h':=s.heap) (tk:=s.toks) (fun c e=>e▸S.b0) (fun _ _ _ e=>e) X.ns (fun y c e=>(X.cells y c e).2) (fun _ h=>h.1) (fun _ h n=>⟨h,n⟩) (fun _ h e=>absurd e h.2) (fun c h=>⟨W.bas c h,fun e=>S.ba (e▸h)⟩) (fun c m=>⟨(X.fresh c m).1,fun e=>S.bM (e▸m)⟩)
  (fun _ _ h=>rD h) (fun y v hl h=>?_) (fun y c h=>?_) fun y z c h1 h2=>?_
 ·by_cases hy:y=x
  ·subst hy;cases m1 h;exact⟨_,H.var,a,rfl,S.aF,hb⟩
  ·obtain⟨u,h1,h2⟩:=X.inv.get y v hl (fW hy h);exact⟨u,h1,h2.mono' (fun _ _ _ e=>e) low fun _ _ _ _ _ e=>e⟩
 ·rcases back y c h with ⟨_,rfl⟩ | ⟨_,h⟩
  ·exact⟨⟨hav,S.ne⟩,S.a0,S.aa,S.aM⟩
  ·obtain⟨q1,q2,q3,q4,_⟩:=own y c h;exact⟨q1,q2,q3,q4⟩
 ·rcases back y c h1 with ⟨ey,ec⟩ | ⟨ny,h1⟩
  ·rcases back z c h2 with ⟨ez,_⟩ | ⟨nz,h2⟩
   ·rw[ey,ez]
   ·exact absurd ec (own z c h2).2.2.2.2
  ·rcases back z c h2 with ⟨ez,ec⟩ | ⟨nz,h2⟩
   ·exact absurd ec (own y c h1).2.2.2.2
   ·exact W.ownI y z c h1 h2
theorem Jw{u:V}{d:PyData}(h:bW u=.ok d):u=.own d:=by
 cases u with
 |own e=>exact congrArg V.own (pi h)
 |_=>exact pno h
theorem yA{i:PyData}{k:Str}(h:j5 i=.ok k):i=.str k:=by
 cases i with
 |str e=>exact congrArg PyData.str (pi h)
 |_=>exact pno h
theorem Jx{o:P PyData}{l:List (PyData×PyData)}(h:o.bind fU=.ok l):o=.ok (.dict l):=by
 cases o with
 |no=>exact pno h
 |ok d =>
  cases d with
  |dict m=>exact congrArg (fun m=>P.ok (PyData.dict m)) (pi h)
  |_=>exact pno h
theorem Jy{k:Str}{v:Value}:∀ {kvs:List (Str×Value)},(kvs.map (·.1)).Nodup→valueAt (stored kvs k v) k=some v:=by
 intro kvs
 induction kvs with
 |nil=>intro _;simp[stored,valueAt]
 |cons p r ih =>
  intro hn;obtain⟨y,v0⟩:=p;rw[wS hn]
  by_cases h:k=y
  ·rw[if_pos h,h];simp[valueAt]
  ·rw[if_neg h];have:=ih (List.nodup_cons.mp (show(y::r.map (·.1)).Nodup from hn)).2;unfold valueAt at this ⊢;rw[List.find?_cons_of_neg (by simpa using fun e=>h e.symm)];exact this
theorem Fr.off{l:List Env}{av₀ av:Addr→Prop}{s:Shared}{h':Heap}{tk:Nat}{c:Addr}(h1:av c)(h2:¬ av₀ c)(hs:Heap.SameBut c s.heap h'):Fr l av₀ s av { s with heap:=h',toks:=tk } av :=
 ⟨fun b o e n=>by show h'.get? b=_;rw[hs.2 b fun e'=>n (e'▸h1)];exact e,fun _ _ _ h=>h,fun b o n _ e=>by show h'.get? b=_;rw[hs.2 b fun e'=>h2 (e'▸n)];exact e⟩
theorem Jz(S:HidS env l₀ av₀ s₀ a b kvs k)(H:Hid prog w mg mb base l₀ env sc av₀ s₀ x a b kvs l k d σ av s){A:Around}(hA:Room n hd (env::l₀) A)(hlx:isL sc x=true){ev:EV}(h:∀ e,aC prog w mg mb base n hd (env::l₀) sc σ e (ev σ e)){q:Nst}(hx:q.x=x)(hb:bad q.i'=false)
  {kn:KN} {fin:R V} {Q:Flow→Shared→Prop} {E:Value→Shared→Prop} {xp p p' pos:Pos} (hf:vF ev σ q l k d kn=fin) (hne:fin≠.no)
  (hn:∀ s' d',Hid prog w mg mb base l₀ env sc av₀ s₀ x a b kvs l k d' σ av s'→Fr (env::l₀) av₀ s av s' av→rb (ofP (cM x (.own (.dict (bY l k d'))) σ)) kn=fin→Q .next s')
  (he:∀ x v s',fin=.exc x→Upx prog w mg base l₀ env s₀ (fun c=>(av₀ c∨c=a)∨c=b) x v s'→E v s') :
  wpAny (model prog w) A (exec (.Assign [.Subscript (.Subscript (.Name x xp) q.i' p) q.j p'] q.e' pos) env) Q E s:=by
 subst hx;refine wpAny_Assign_Subscript ((h q.e').st hA H.act hf hne (fun v s₁ u k1 r e1=>?_) he) (nA ..);have H1:=H.kp S k1;refine qP ⟨_,fun _ _=>vN hb⟩ (eO H1.act.inv hlx H1.var ((h q.i').st hA H1.act e1 hne (fun iv s₂ ui k2 r2 e2=>?_) he));obtain⟨k',hk,e2⟩:=cC e2 hne;obtain⟨hkk,e2⟩:=fX e2 hne;have ri:=r2.rep H1.act.inv.gnd.avlt;rw[yA hk] at ri;obtain⟨t,rfl,hkl⟩:=ri.str_inv;subst hkk;have H2:=H1.kp S k2;refine⟨⟨"dict", _,H2.dic.typeIs,F.slot_dict_getitem.lookup⟩,wpAny_getItem_of (dQ k' t) H2.dic.mapOf (Jy S.nd) ?_⟩;have kt:K (env::l₀) s₁ { s₂ with toks:=s₂.toks+1 }:=k2.trp (Kp.tok' s₂ _);have H3:=H1.kp S kt;refine(h q.j).st hA H3.act e2 hne (fun jv s₃ uj k3 r3 e3=>?_) he;obtain⟨d',hd',e3⟩:=cC e3 hne;have H4:=H3.kp S k3;refine xS (H4.act.bas b (.inr rfl)) H4.bod (r3.rep H3.act.inv.gnd.avlt) ((r.rep H.act.inv.gnd.avlt).k H.act.inv.gnd.fav (kt.tr k3)) hd' fun h' tk hs hb'=>?_;exact hn _ d' (H4.mut S hs hb') ((Fr.ofK H.act.inv.gnd.fav (k1.tr (kt.tr k3))).tr (Fr.off (H4.act.bas b (.inr rfl)) S.ba hs)) e3
theorem J0(S:HidS env l₀ av₀ s₀ a b kvs k)(H:Hid prog w mg mb base l₀ env sc av₀ s₀ x a b kvs l k d σ av s){A:Around}(hA:Room n hd (env::l₀) A)(hlx:isL sc x=true){ev:EV}{F:Nat}(h:∀ σ e,aC prog w mg mb base n hd (env::l₀) sc σ e (ev σ e))(ht:∀ σ e,bQ prog w mg mb base n hd (env::l₀) sc σ e (ev σ e)){q:Nst}(hx:q.x=x)(hb:bad q.i'=false)
  {kn:KN} {fin:R V} {Q:Flow→Shared→Prop} {E:Value→Shared→Prop} {xp p p' pos pos':Pos} (hf:vG ev F σ q l k d kn=fin) (hne:fin≠.no)
  (hn:∀ s' σ' av',Act prog w mg mb base l₀ env sc av₀ s₀ σ' av' s'→Fr (env::l₀) av₀ s av s' av'→kn σ'=fin→Q .next s')
  (he:∀ x v s',fin=.exc x→Upx prog w mg base l₀ env s₀ av₀ x v s'→E v s') :
  wpAny (model prog w) A (exec (.If q.c [.Assign [.Subscript (.Subscript (.Name x xp) q.i' p) q.j p'] q.e' pos] [] pos') env) Q E s:=by
 have he':∀ x v s',fin=.exc x→Upx prog w mg base l₀ env s₀ (fun c=>(av₀ c∨c=a)∨c=b) x v s'→E v s':=fun x v s' e f=>he x v s' e (f.weaken fun c h=>.inl (.inl h));have fin':∀ {σ:aA} {av av':Addr→Prop} {s s':Shared} {d:PyData},Hid prog w mg mb base l₀ env sc av₀ s₀ x a b kvs l k d σ av' s'→Fr (env::l₀) av₀ s av s' av'→Fr (env::l₀) av₀ s av s' (fun c=>av' c∧c≠b):=fun _ f=>f.tr (Fr.sub fun _ h=>h.1);obtain⟨av1,H1,hs1⟩:=H.clear (esc F q.c);refine wpAny_If (ht _ q.c A env s av1 hA H1.act.inv ⟨hf,hne⟩ (fun c s' kk e=>?_) fun x v s' e f=>he' x v s' e (H1.act.up f));have fr:Fr (env::l₀) av₀ s av s' av1:=(Fr.sub hs1).tr (Fr.ofK H1.act.inv.gnd.fav kk);have H2:=H1.kp S kk;cases c with
 |true =>
  obtain⟨av2,H3,hs2⟩:=H2.clear (esc F q.e');refine wpAny_execs_cons (Jz S H3 hA hlx (h _) hx hb e hne (fun s'' d' H4 f e=>wpAny_execs_nil ?_) he');obtain⟨σ',hσ,e⟩:=cC e hne;obtain⟨v0,_,rfl⟩:=eR hσ;exact hn _ _ _ (H4.done S) (fin' H4 (fr.tr ((Fr.sub hs2).tr f))) e
 |false =>
  obtain⟨σ',hσ,e⟩:=cC (show rb (ofP (cM q.x (.own (.dict (bY l k d))) (aA.clear σ (esc F q.c)))) kn=fin from e) hne;obtain⟨v0,_,rfl⟩:=eR hσ;subst hx;exact wpAny_execs_nil (hn _ _ _ (H2.done S) (fin' H2 fr) e)
theorem J1{ev:EV}{F:Nat}{q:Nst}{xp p pos xp1 p1 p2 pos1 pos2:Pos}(h:∀ σ e,aC prog w mg mb base n hd (env::l₀) sc σ e (ev σ e))(ht:∀ σ e,bQ prog w mg mb base n hd (env::l₀) sc σ e (ev σ e)) :
  aQ prog w mg mb base n hd l₀ env sc s₀ σ (execs [.Assign [.Subscript (.Name q.x xp) q.i p] q.e pos,.If q.c [.Assign [.Subscript (.Subscript (.Name q.x xp1) q.i' p1) q.j p2] q.e' pos1] [] pos2] env) fun kn _=>qA ev F σ q kn:=by
 intro av₀ A s av hA X kn kr fin Q E hf hne hp hn hr he;obtain⟨hbd,hf⟩:=rG hf hne;obtain⟨av1,Y,hsub⟩:=X.clear (esc F q.e);refine wpAny_execs_cons (wpAny_Assign_Subscript ((h _ q.e).st hA Y hf hne (fun v s₁ u k1 r e1=>?_) he) (nA ..));obtain⟨d,hd1,e11⟩:=cC e1 hne;clear e1;obtain rfl:=Jw hd1;obtain⟨l,hl,e12⟩:=cC e11 hne;obtain⟨hlen,e1⟩:=fX e12 hne;have hg:=m3 (Jx hl);obtain⟨b,rfl,hbn,hbb⟩:=r;obtain⟨hlx,_⟩:=Y.names q.x _ hg;obtain⟨u',hv,a,rfl,hfr,hb⟩:=Y.inv.get q.x _ hlx hg;have oA:bL env (aA.clear σ (esc F q.e)) s.heap q.x a:=⟨⟨_,hg⟩,hv⟩
 obtain⟨q1,q2,q3,q4⟩:=Y.ownA _ _ oA;obtain⟨b1,b2,b3,b4,b5⟩:=Y.newNot hbn;have hab:a≠b:=fun e=>b2 (e▸q1);have Z:=(Y.hid oA).pin (S:=fun c=>c=b) k1 (fun c e=>e▸hbn) (fun c e=>e▸hbb.live);refine eO Z.inv hlx (hv.k k1) ((h _ q.i).st hA Z e1 hne (fun iv s₂ ui k2 r2 e2=>?_) fun x v s' e f=>he x v s' e (f.weaken fun c h=>.inl (.inl h)));obtain⟨k,hk,e2⟩:=cC e2 hne;have ri:=r2.rep Z.inv.gnd.avlt;rw[yA hk] at ri;obtain⟨t,rfl,hkl⟩:=ri.str_inv;have Z2:=Z.k k2;obtain⟨kvs,h2,h3,h4,h5,h6⟩:=hb;have kk:=k1.tr k2;have hlk:kvs.length=l.length:=by
  have:=congrArg List.length h5;simpa using this.symm
 have hsz:(stored kvs k (.ref b)).length≤sizeLine:=by
  have h1:=xR kvs k (.ref b);have h2:aV=sizeLine:=rfl;exact uD hlen hlk h1 h2
 have S:HidS env l₀ av₀ s₀ a b kvs k:=⟨q2,q3,q4,hfr,b4,b3,b1,b5,hab,h4,⟨hsz,qV h3.2 hkl⟩,m4 h2⟩
 refine wpAny_setItem_pairs (dQ k t) (DictOf.at' h2 fun o e=>kk.at hfr e) (fun h' hd' hsb=>?_) h3.1;have kept:∀ c o,¬ c=a→s₂.heap.get? c=some o→h'.get? c=some o:=fun c o n e=>by rw[hsb.2 c n];exact e
 have up:∀ c o,s.heap.get? c=some o→av1 c∨c=b→av1 c:=fun c o e h=>h.elim id fun h=>by rw[h,hbn] at e;exact ns e
 have H:Hid prog w mg mb base l₀ env sc av₀ s₀ q.x a b kvs l k d (eL (aA.clear σ (esc F q.e)) q.x) (fun c=>av1 c∨c=b) { s₂ with heap:=h',toks:=s₂.toks+1 }:=by
  refine⟨Z2.wildS (S:=fun c=>c=a) (fun c e=>.inl (e▸q1)) (fun c e=>e▸q2) (fun c m e=>q4 (e▸m)) (fun y c o e=>(Z2.ownA y c o).2.2.1 (.inl (.inr e))) kept (fun _ h=>h) (fun _ h _=>h) (fun c _ e=>?_) Z2.bas,(hv.k kk).kept fun c o m e=>kept c o (fun e'=>q4 (e'▸m)) e,hd',?_,?_⟩
  ·obtain⟨o,es,ep,e',_⟩:=hd';exact⟨o,e▸e'⟩
  ·refine((KV.of h5 h6).mono (fun _ _ _ e=>e) up).mono (fun c o n e=>kept c o (fun e'=>n (.inl (e'▸q1))) (kk.at (fun f=>n (.inl (Y.inv.gnd.fav _ f))) e)) fun _ _ _ x=>x
  ·refine(hbb.k Z.inv.gnd.fav k2 b5).mono (fun c o n e=>kept c o (fun e'=>n (.inl (e'▸q1))) e) (fun _ _ _ x=>x) fun o e=>kept b o (fun e'=>hab e'.symm) e
 have g:Fr (env::l₀) av₀ s av1 s₂ (fun c=>av1 c∨c=b):=⟨(Y.frk kk).keep,up,(Y.frk kk).pins⟩
 exact wpAny_execs_cons (J0 S H hA hlx h ht rfl (by simpa using hbd) e2 hne (fun s' σ' av' Z f e=>wpAny_execs_nil (hn s' σ' av' Z ((Fr.sub hsub).tr (g.tr ((Fr.off (.inl q1) q3 hsb).tr f))) e)) he)
theorem yB{s:Stmt}{g:Expr×Expr×Expr}(h:pX s=some g):∃ p pos,s=.Assign [.Subscript g.1 g.2.1 p] g.2.2 pos:=by
 cases s with
 |Assign ts e pos =>
  cases ts with
  |nil=>exact ns h
  |cons t r =>
   cases r with
   |cons=>exact ns h
   |nil =>
    replace h:(match vw t with | .sub o i=>some (o,i,e) | _=>none)=some g:=h;cases hv:vw t with
    |sub o i =>
     rw[hv] at h;obtain rfl:=si h;obtain⟨p,rfl⟩:=cX hv;exact⟨p,pos,rfl⟩
    |_=>rw[hv] at h;exact ns h
 |_=>exact ns h
theorem J2{s:Stmt}{f:Expr×Stmt}(h:vE s=some f):∃ pos,s=.If f.1 [f.2] [] pos:=by
 cases s with
 |If c b o pos =>
  cases b with
  |nil=>exact ns h
  |cons s r =>
   cases r with
   |cons=>exact ns h
   |nil =>
    cases o with
    |cons=>exact ns h
    |nil=>obtain rfl:=si h;exact⟨pos,rfl⟩
 |_=>exact ns h
theorem J3{e:Expr}{h:Expr×Expr}(q:pY e=some h):∃ p,e=.Subscript h.1 h.2 p:=by
 unfold pY at q;cases hv:vw e with
 |sub o i =>
  rw[hv] at q;obtain rfl:=si q;exact cX hv
 |_=>rw[hv] at q;exact ns q
inductive NestB(b:List Stmt)(q:Nst):Prop where
 |mk (xp p pos xp1 p1 p2 pos1 pos2:Pos) (e:b=[.Assign [.Subscript (.Name q.x xp) q.i p] q.e pos,.If q.c [.Assign [.Subscript (.Subscript (.Name q.x xp1) q.i' p1) q.j p2] q.e' pos1] [] pos2]):NestB b q
theorem J4{b:List Stmt}{q:Nst}(h:pZ b=some q):NestB b q:=by
 cases b with
 |nil=>exact ns h
 |cons s r =>
  cases r with
  |nil=>exact ns h
  |cons s2 r2 =>
   cases r2 with
   |cons=>exact ns h
   |nil =>
    obtain⟨a,h1,h⟩:=ob h;obtain⟨f,h2,h⟩:=ob h;obtain⟨g,h3,h⟩:=ob h;obtain⟨u,h4,h⟩:=ob h;obtain⟨x,h5,h⟩:=ob h;obtain⟨x',h6,h⟩:=ob h
    by_cases hx:x=x'
    ·rw[if_pos hx] at h;obtain rfl:=si h;obtain⟨p,pos,rfl⟩:=yB h1;obtain⟨pos2,rfl⟩:=J2 h2;obtain⟨p2,pos1,e3⟩:=yB h3;obtain⟨p1,e4⟩:=J3 h4;obtain⟨xp,e5⟩:=c9 h5;obtain⟨xp1,e6⟩:=c9 h6;exact⟨xp,p,pos,xp1,p1,p2,pos1,pos2,by rw[e3,e4,e5,e6,hx]⟩
    ·rw[if_neg hx] at h;exact ns h
theorem J5{ev:EV}{F:Nat}{rec:Stmt→aA→KN→KR→R V}{b:List Stmt}{σ:aA}(h:∀ σ e,aC prog w mg mb base n hd (env::l₀) sc σ e (ev σ e))(ht:∀ σ e,bQ prog w mg mb base n hd (env::l₀) sc σ e (ev σ e))
  (hb:∀ st∈b,∀ σ,aQ prog w mg mb base n hd l₀ env sc s₀ σ (exec st env) (rec st σ)):aQ prog w mg mb base n hd l₀ env sc s₀ σ (execs b env) (gK ev F rec b σ):=by
 cases hq:pZ b with
 |none =>
  have:gK ev F rec b σ=blk rec b σ:=by funext kn kr;unfold gK;rw[hq]
  rw[this];exact kC hb
 |some q =>
  have:gK ev F rec b σ=fun kn _=>qA ev F σ q kn:=by funext kn kr;unfold gK;rw[hq]
  rw[this];obtain⟨xp,p,pos,xp1,p1,p2,pos1,pos2,rfl⟩:=J4 hq;exact J1 h ht
end
end Mine
namespace Mine
open PySem
section
variable {M:Model} {A:Around} {E:Value→Shared→Prop} {env:Env}
variable {nm q:Str} {C N:Addr} {bs bm:List Value} {hdct:Bool} {sn:List Str} {sub:List Value} {ab:Bool} {col:Option Bool} {dd:Option Addr} {k0 k1 k2 k3 k5:Option Value} {newId:String}
theorem J6{s:Shared}{x:Sem Value}{Q:Flow→Shared→Prop}(hbase:bm.contains (.type "BaseException")=true)(hh:A.handled=none)
  (h:wpAny M A x (fun v s₁=>∃ (e:Addr) (dx:Option Addr) (t:Addr),v=.ref e∧s₁.heap.get? C=some (excClassObj nm q C N bs bm hdct sn sub ab col dd k0 k1 k2 k3 k5 newId)∧s₁.heap.get? e=some { cls:=.ref C,dict:=dx,data:=.fields #[.ref t,.none,.none,.none,.bool false,.none] }∧E (.ref e) s₁) E s) :
  wpAny M A (raiseStmt env (some x) none) Q E s:=by
 have hcB:(Value.ref C::bm).contains (.type "BaseException")=true:=by rw[List.contains_cons,hbase,Bool.or_true]
 unfold raiseStmt;refine wpAny_bind (wpAny_mono h (fun v s₁ h₁=>?_) fun _ _ x=>x);obtain⟨e,dx,t,rfl,hC,he,hE⟩:=h₁;obtain⟨hp,g,d,tk,os⟩:=s₁
 repeat (first | with_reducible refine wpAny_loadPart_at he ?_ | with_reducible refine wpAny_loadPart_at hC ?_ | (with_reducible refine wpAny_isSubtype_exc hC ?_;rw[hcB]) | wp_step)
 exact wpAny_raiseNew_none hh hE
theorem J7{s:Shared}{x:Str}{np cpos pos:Pos}{args:List Expr}{Q:Flow→Shared→Prop}(hbase:bm.contains (.type "BaseException")=true)(hh:A.handled=none)(hs:args.any bad=false)
  (h:wpAny M A (eval (.Name x np) env) (fun f s₁=>f=.ref C∧wpAny M A (spliced (backTo cpos (starEach args env))) (fun vs s₂=>s₂.heap.get? C=some (excClassObj nm q C N bs bm hdct sn sub ab col dd k0 k1 k2 k3 k5 newId) ∧
   wpAny M A (call (.ref C) vs) (fun v s₃=>∃ (e:Addr) (dx:Option Addr) (t:Addr),v=.ref e∧s₃.heap.get? C=some (excClassObj nm q C N bs bm hdct sn sub ab col dd k0 k1 k2 k3 k5 newId)∧s₃.heap.get? e=some { cls:=.ref C,dict:=dx,data:=.fields #[.ref t,.none,.none,.none,.bool false,.none] }∧E (.ref e) s₃) E s₂) E s₁) E s) :
  wpAny M A (exec (.Raise (some (.Call (.Name x np) args [] cpos)) none pos) env) Q E s:=by
 have hplain:=qY (env:=env) (pos:=cpos) hs;rw[arm_exec_Raise];refine wpAny_bind (wpAny_standAt (J6 (C:=C) (nm:=nm) (q:=q) (N:=N) (bs:=bs) (bm:=bm) (hdct:=hdct) (sn:=sn) (sub:=sub) (ab:=ab) (col:=col) (dd:=dd) (k0:=k0) (k1:=k1) (k2:=k2) (k3:=k3) (k5:=k5) (newId:=newId) hbase hh ?_));refine wpAny_bind (wpAny_mono (wpAny_Call_ofName (wpAny_mono h (fun f s₁ h₁=>?_) fun _ _ x=>x)) (fun v s₃ h₃=>wpAny_bind (wpAny_standAt (wpAny_pure h₃))) fun _ _ x=>x);obtain⟨rfl,h₁⟩:=h₁;unfold callWith;refine wpAny_bind (wpAny_holding (qX hs (wpAny_mono h₁ (fun a s₂ h₂=>wpAny_bind (wpAny_standAt ?_)) fun _ _ x=>x)));obtain⟨hC,h₂⟩:=h₂;simp only[hplain];obtain⟨hp,g,d,tk,os⟩:=s₂;refine wpAny_bind (wpAny_keeperOf_exc hC ?_);exact wpAny_bind (wpAny_mono h₂ (fun v s₃ h₃=>wpAny_bind (wpAny_holding (wpAny_point (wpAny_pure h₃)))) fun _ _ x=>x)
end
section
variable {prog:Program} {w:World} {A:Around} {E:Value→Shared→Prop} {h:Heap} {g:Array GenState} {d:Drawn} {t:Nat} {os:OsState}
variable {nm q:Str} {C N:Addr} {bs bm bmB:List Value} {hdct:Bool} {sn:List Str} {sub:List Value} {ab:Bool} {col:Option Bool} {dd:Option Addr} {k0 k1 k2 k3 k5:Option Value} {B newId initId:String}
theorem J8(F:ExcBaseFacts B newId initId bmB)(T:OwnTail h bmB bm){mN:Str→Option Value}{rest:List Value}{fI:Addr}{oI:Obj}{Q:Value→Shared→Prop}
  (hC:h.get? C=some (excClassObj nm q C N bs bm hdct sn sub ab col dd k0 k1 k2 k3 k5 newId)) (hn:h.Ns N mN) (hi:mN "__init__" = some (.ref fI)) (hfI:h.get? fI=some oI) (hfc:oI.cls=.type "function") (hrest:rest.length≤sizeLine)
  (hq:∀ h' e,Heap.MadeExcOf h h' e (.ref C) rest →
   wpAny (model prog w) (A.under (.builtin "type.__call__" ⟨.ref C::rest,[]⟩)) (call (.ref fI) (.ref e::rest)) (fun r s'=>r=.none∧Q (.ref e) s') E ⟨h',g,d,t,os⟩) :
  wpAny (model prog w) A (call (.ref C) rest) Q E ⟨h,g,d,t,os⟩:=by
 have f1:=tc_lookup;have f2:=tc_bind (.ref C);have hT:(⟨h,g,d,t,os⟩:Shared).TypeIs (.ref C) "type" := ⟨_,hC,rfl⟩
 refine wpAny_call (codeAny_of_tree ?_);show wpAny _ _ (callAny (.ref C) _) _ _ _
 repeat (any_goals (first | assumption | with_reducible refine wpAny_loadPart_at hC ?_ | wp_step))
 refine⟨rfl,?_⟩;refine codeAny_call_builtin_at (Code.quiet_builtin _ (by decide +kernel)) entry_typeCall (wpAny_check_type_call_sub hC ?_)
 repeat (first | with_reducible refine wpAny_loadPart_at hC ?_ | with_reducible refine wpAny_madeBy_exc hC ?_ | wp_step)
 refine codeAny_call_builtin_code (Code.quiet_builtin _ F.quiet) (wpAny_check_new_subT F T hC (codeAny_exc_new_subT F T hC ?_ hrest));show wpAny _ _ _ _ _ ⟨(h.push { cls:=.type "tuple", data:=.seq rest.toArray }).push { cls:=.ref C,data:=.fields #[.ref h.objs.size,.none,.none,.none,.bool false,.none] },g,d,t,os⟩;generalize hH:(h.push { cls:=.type "tuple", data:=.seq rest.toArray }).push { cls:=.ref C,data:=.fields #[.ref h.objs.size,.none,.none,.none,.bool false,.none] }=H;have up:∀ b o,h.get? b=some o→H.get? b=some o:=fun b o e=>hH▸Heap.get?_push_of_some _ (Heap.get?_push_of_some _ e);have hget:H.get? (h.objs.size+1)=some { cls:=.ref C,data:=.fields #[.ref h.objs.size,.none,.none,.none,.bool false,.none] }:=by subst hH;heap_get
 have htup:H.get? h.objs.size=some { cls:=.type "tuple", data:=.seq rest.toArray }:=by subst hH;exact Heap.get?_push_of_some _ (Heap.get?_push_at rfl rfl)
 have hC₁:=up _ _ hC;have hcC:(Value.ref C::bm).contains (.ref C)=true:=by simp
 unfold isInstance
 repeat (first | with_reducible refine wpAny_loadPart_at hget ?_ | (with_reducible refine wpAny_isSubtype_exc hC₁ ?_;rw[hcC]) | wp_step)
 show wpAny _ _ (typeLookup (.ref C) _) _ _ _;refine wpAny_typeLookup_tail hC₁ (hn.keeps up) (T.keeps up) F.mroIs F.init.lookup ?_;rw[hi];refine wpAny_holding (wpAny_bind ?_);unfold bindSpecial;refine wpAny_bind (wpAny_typeOf (T := "function") ⟨_,up _ _ hfI,hfc⟩ ?_);rw[if_pos (by decide)];refine wpAny_pure (wpAny_bind (wpAny_mono (hq H (h.objs.size+1) ⟨up,Heap.get?_none_of_le (Nat.le_succ _),h.objs.size,hget,Heap.get?_none_of_le (Nat.le_refl _),htup⟩) (fun r s' hr=>?_) fun _ _ x=>x));obtain⟨rfl,hQ⟩:=hr
 wp_walk
 exact hQ
end
end Mine
namespace Mine
open PySem Builtin Builtin.ObjectAttr
inductive TailN(h:Heap)(bmB:List Value)(ns:List Str):List Value→Prop
 |base:TailN h bmB ns bmB
 |own {A:Addr} {c0:Value} {dd:Option Addr} {cd:ClassData} {sl:Array (Option Value)} {mA:Str→Option Value} {tl:List Value} :
   h.get? A=some { cls:=c0,dict:=dd,data:=.cls cd,slots:=sl }→h.Ns cd.ns mA→(∀ n∈ns,mA n=none)→TailN h bmB ns tl→TailN h bmB ns (.ref A::tl)
theorem TailN.tail{h:Heap}{bmB tl:List Value}{ns:List Str}(hi:Str.ofString "__init__" ∈ ns)(T:TailN h bmB ns tl):OwnTail h bmB tl:=by
 induction T with
 |base=>exact .base
 |own h1 h2 h3 _ ih=>exact .own h1 h2 (h3 _ hi) ih
theorem TailN.keeps{h h':Heap}{bmB tl:List Value}{ns:List Str}(hk:∀ b o,h.get? b=some o→h'.get? b=some o)(T:TailN h bmB ns tl):TailN h' bmB ns tl:=by
 induction T with
 |base=>exact .base
 |own h1 h2 h3 _ ih=>exact .own (hk _ _ h1) (h2.keeps hk) h3 ih
theorem TailN.less{h:Heap}{bmB tl:List Value}{ns ns':List Str}(hs:∀ n∈ns',n∈ns)(T:TailN h bmB ns tl):TailN h bmB ns' tl:=by
 induction T with
 |base=>exact .base
 |own h1 h2 h3 _ ih=>exact .own h1 h2 (fun n hn=>h3 n (hs n hn)) ih
theorem TailN.refuse{h:Heap}{bmB tl:List Value}{ns:List Str}(T:TailN h bmB ns tl){self:Value}{what:Str}(hp:refuseLoop self what bmB=pure ()):refuseLoop self what tl=pure ():=by
 induction T with
 |base=>exact hp
 |own _ _ _ _ ih=>rw[refuseLoop_ref];exact ih
section
variable {M:Model} {A:Around} {E:Value→Shared→Prop} {h:Heap} {g:Array GenState} {d:Drawn} {t:Nat} {os:OsState}
variable {nm q:Str} {C N:Addr} {bs bm bmB:List Value} {hdct:Bool} {sn:List Str} {sub:List Value} {ab:Bool} {col:Option Bool} {dd:Option Addr} {k0 k1 k2 k3 k5:Option Value} {B newId:String} {mN:Str→Option Value} {ns:List Str}
theorem J9{tl:List Value}{n:Str}{y:Option Value}{Q:Option Value→Shared→Prop}(T:TailN h bmB ns tl)(hn:n∈ns)(hrest:lookupAlong bmB n=pure y)(hq:Q y ⟨h,g,d,t,os⟩):wpAny M A (lookupAlong tl n) Q E ⟨h,g,d,t,os⟩:=by
 induction T with
 |base=>rw[hrest];exact wpAny_pure hq
 |own h1 h2 h3 _ ih =>
  rw[lookupAlong_cons];refine wpAny_bind (wpAny_classOwn_cls h1 h2 ?_);rw[h3 n hn];exact ih
theorem kD{n:Str}{y:Option Value}{Q:Option Value→Shared→Prop}(hC:h.get? C=some (excClassObj nm q C N bs bm hdct sn sub ab col dd k0 k1 k2 k3 k5 newId))(hN:h.Ns N mN)(T:TailN h bmB ns bm)(hbm:mroOf (.type B)=pure bmB)(hn:n∈ns)(h0:mN n=none)
  (hB:typeLookup (.type B) n=pure y) (hq:Q y ⟨h,g,d,t,os⟩):wpAny M A (typeLookup (.ref C) n) Q E ⟨h,g,d,t,os⟩:=by
 have hrest:lookupAlong bmB n=pure y:=by rw[typeLookup_eq,hbm] at hB;exact hB
 rw[typeLookup_eq];refine wpAny_bind (wpAny_mroOf_exc hC ?_);rw[lookupAlong_cons];refine wpAny_bind (wpAny_classOwn_exc hC hN ?_);rw[h0];exact J9 T hn hrest hq
end
inductive InD(G:Addr→Prop)(h:Heap)(e:Addr)(ns:List Str)(m:Str→Option Value)(dx:Option Addr):Prop where
 |mk (d:Addr) (e1:dx=some d) (n:d≠e) (g:¬ G d) (hn:h.Ns1 d m) (w:Within m ns):InD G h e ns m dx
inductive InE(G:Addr→Prop)(h:Heap)(e C t:Addr)(ns:List Str)(m:Str→Option Value):Prop where
 |mk (dx:Option Addr) (he:h.get? e=some { cls:=.ref C,dict:=dx,data:=.fields #[.ref t,.none,.none,.none,.bool false,.none] }) (hd:(dx=none∧∀ y,m y=none)∨InD G h e ns m dx):InE G h e C t ns m
section
variable {prog:Program} {w:World} {A:Around} {E:Value→Shared→Prop} {h:Heap} {g:Array GenState} {d:Drawn} {t:Nat} {os:OsState}
variable {nm q:Str} {C N e tt:Addr} {bs bm bmB:List Value} {sn:List Str} {sub:List Value} {ab:Bool} {col:Option Bool} {dd:Option Addr} {k0 k1 k2 k3 k5:Option Value} {B newId sa owner:String} {mN:Str→Option Value} {ns vs:List Str} {name:Str} {v:Value}
theorem Ka{M:Model}{o:Obj}{nameV:Value}{Q:Unit→Shared→Prop}(SF:StoreFacts B bmB sa owner)(hb:bm.contains (.type owner)=true)
  (hC:h.get? C=some (excClassObj nm q C N bs bm true sn sub ab col dd k0 k1 k2 k3 k5 newId)) (hx:h.get? e=some o) (hc:o.cls=.ref C) (hq:Q () ⟨h,g,d,t,os⟩) :
  wpAny M A (checkBuiltinCall sa ⟨[.ref e,nameV,v],[]⟩) Q E ⟨h,g,d,t,os⟩:=by
 have hcB:(Value.ref C::bm).contains (.type owner)=true:=by rw[List.contains_cons,hb,Bool.or_true]
 have ha:=SF.args (.ref e) nameV v;simp only[checkBuiltinCall,SF.kind,SF.split];refine wpAny_bind ?_;unfold isInstance
 repeat (first | (with_reducible refine wpAny_loadPart_at hx ?_;rw[hc]) | (with_reducible refine wpAny_isSubtype_exc hC ?_;rw[hcB]) | wp_step)
 cases hsig:Manifest.signature? sa with
 |none=>exact wpAny_pure hq
 |some sig =>
  simp only[argsOk,hsig] at ha;have h2:Bind.checkArgs sa sig ⟨[.ref e,nameV,v],[]⟩=pure ():=ha;show wpAny M A (Bind.checkArgs sa sig ⟨[.ref e,nameV,v],[]⟩) Q E _;rw[h2];exact wpAny_pure hq
theorem yC{dx:Addr}{m:Str→Option Value}{tk:Tok}{Q:PySem.Fin→Shared→Prop}(hn:h.Ns1 dx m)(hw:Within m vs)(hl:vs.length < 100)
  (hq:∀ h' tk',h'.Ns1 dx (fun y=>if y=name then some v else m y)→Heap.SameBut dx h h'→Q (.done (.ret .none)) ⟨h',g,d,tk',os⟩):wpAny (model prog w) A (storeInDict dx (.str name tk) name v) Q E ⟨h,g,d,t,os⟩:=by
 unfold storeInDict newKeyGuard;refine wpAny_bind (wpAny_pure (wpAny_bind (wpAny_nsSet1 hn fun h' hn' hs=>?_)));obtain⟨oD,esD,epD,hoD,hdD,hcD⟩:=hn'.count (Within.cons name v hw);refine wpAny_bind (wpAny_lookBehind hoD (by rw[hdD];exact pastItsLine_dict (Nat.le_trans hcD (by rw[List.length_cons,sizeLine_eq];exact B9 hl))) ?_)
 wp_walk
 exact hq h' _ hn' hs
theorem Kb{G:Addr→Prop}{m:Str→Option Value}{Q:Unit→Shared→Prop}(SF:StoreFacts B bmB sa owner)(hb:bm.contains (.type owner)=true)(hC:h.get? C=some (excClassObj nm q C N bs bm true sn sub ab col dd k0 k1 k2 k3 k5 newId))(hN:h.Ns N mN)(T:TailN h bmB ns bm)
  (hs0:Str.ofString "__setattr__" ∈ ns) (hs1:mN "__setattr__" = none) (hn0:name∈ns) (hn1:mN name=none) (hB:typeLookup (.type B) name=pure none) (I:InE G h e C tt vs m) (hG:∀ b,G b→b≠e∧∃ o,h.get? b=some o) (hl:vs.length < 100)
  (hq:∀ h' tk,InE G h' e C tt (name::vs) (fun y=>if y=name then some v else m y)→(∀ b o,G b→h.get? b=some o→h'.get? b=some o)→Q () ⟨h',g,d,tk,os⟩):wpAny (model prog w) A (setAttr (.ref e) name v) Q E ⟨h,g,d,t,os⟩:=by
 obtain⟨dx,hx,hd⟩:=I;have f3:=SF.slot.bind (.ref e);have hpass:=T.refuse (SF.passes (.ref e));have hZ:sizeLine=16777216:=rfl;unfold setAttr callSpecial? specialOf
 repeat (any_goals (first | assumption | with_reducible refine wpAny_loadPart_at hx ?_ | with_reducible refine kD hC hN T SF.mro hs0 hs1 SF.slot.lookup ?_ | wp_step))
 refine codeAny_call_builtin SF.slot.plain SF.entry (Ka SF hb hC hx rfl ?_);unfold Builtin.«object.__setattr__»
 repeat (first | rw[refuse_eq] | (rw[refuseLoop_ref,hpass]) | with_reducible refine wpAny_loadPart_at hx ?_ | with_reducible refine wpAny_mroOf_exc hC ?_ | with_reducible refine kD hC hN T SF.mro hn0 hn1 hB ?_ | wp_step)
 rcases hd with ⟨rfl,hm0⟩ | ⟨dx,rfl,hne,hGd,hns,hw⟩
 ·have hxs:e≠h.objs.size:=Nat.ne_of_lt (Heap.lt_size hx);have hx₁:(h.push { cls:=.type "dict", data:=.dict #[] }).get? e=_:=Heap.get?_push_of_some _ hx;rw[if_neg (by simp[typeHasDict])];refine wpAny_bind (wpAny_alloc' (wpAny_bind (wpAny_update' hx₁ (wpAny_pure ?_))));generalize hH:((h.push { cls:=.type "dict", data:=.dict #[] }).update e fun o=>{ cls:=o.cls,dict:=some h.objs.size,data:=o.data,slots:=o.slots })=H;have hgd:H.get? h.objs.size=some { cls:=.type "dict", data:=.dict #[] }:=by subst hH;exact(Heap.get?_update_ne _ _ _ _ hxs.symm).trans (Heap.get?_push_at rfl rfl)
  have hge:H.get? e=some { cls:=.ref C,dict:=some h.objs.size,data:=.fields #[.ref tt,.none,.none,.none,.bool false,.none] }:=by subst hH;exact Heap.get?_update_self _ hx₁ rfl
  have hgo:∀ b o,b≠e→h.get? b=some o→H.get? b=some o:=fun b o hb e=>by subst hH;exact(Heap.get?_update_ne _ _ _ _ hb).trans (Heap.get?_push_of_some _ e)
  have hnd:H.Ns h.objs.size (fun _=>none):=⟨_,#[],_,hgd,rfl,fun e he=>absurd he (by simp),fun _=>rfl⟩
  obtain rfl:m=fun _=>none:=funext hm0;refine yC (vs:=vs) (Heap.Ns1.of_empty hnd) (fun _ h=>absurd rfl h) hl fun h' tk' hn' hs=>wpAny_pure (wpAny_pure (hq h' _ ⟨some h.objs.size,(hs.2 e hxs).trans hge,.inr ⟨_,rfl,hxs.symm,fun x=>?_,hn',Within.cons name v fun _ h=>absurd rfl h⟩⟩ fun b o hb eb=>?_))
  ·obtain⟨_,o,ho⟩:=hG _ x;rw[bZ] at ho;cases ho
  ·exact(hs.2 b (Nat.ne_of_lt (Heap.lt_size eb))).trans (hgo b o (hG b hb).1 eb)
 ·refine wpAny_pure (yC hns hw hl fun h' tk' hn' hs=>wpAny_pure (wpAny_pure (hq h' _ ⟨some dx,(hs.2 e hne.symm).trans hx,.inr ⟨_,rfl,hne,hGd,hn',Within.cons name v hw⟩⟩ fun b o hb eb=>(hs.2 b fun x=>hGd (x▸hb)).trans eb)))
end
end Mine
namespace Mine
open PySem
theorem rH{α:Type}:∀ {ps:List Str} {us:List α} {x:Str} {v:α},(ps.zip us).lookup x=some v→∃ i:Nat,ps[i]?=some x∧us[i]?=some v
 | [],_,_,_,h=>by simp at h
 |_::_,[],_,_,h=>by simp at h
 |p::ps,u::us,x,v,h=>by
  rw[List.zip_cons_cons,List.lookup_cons] at h;refine bcs (x==p) (fun hb=>?_) fun hb=>?_
  ·try rewrite[hb]
   rw[hb] at h;obtain⟨i,h1,h2⟩:=rH h;exact⟨i+1,by simpa using h1,by simpa using h2⟩
  ·try rewrite[hb]
   rw[hb] at h;obtain rfl:=si h;exact⟨0,by simp[beq_iff_eq.mp hb],rfl⟩
theorem rI{α:Type}:∀ {ps:List Str} {us:List α} {x:Str} {v:α} {i:Nat},ps.Nodup→ps[i]?=some x→us[i]?=some v→(ps.zip us).lookup x=some v
 | [],_,_,_,_,_,h,_=>by simp at h
 |_::_,[],_,_,_,_,_,h=>by simp at h
 |p::ps,u::us,x,v,i,hn,h1,h2=>by
  rw[List.zip_cons_cons,List.lookup_cons];cases i with
  |zero =>
   simp at h1 h2;subst h1;subst h2;simp
  |succ i =>
   simp at h1 h2;have hne:(x==p)=false:=by
    rw[beq_eq_false_iff_ne];intro e;subst e;exact(List.nodup_cons.mp hn).1 (List.mem_of_getElem? h1)
   rw[hne];exact rI (List.nodup_cons.mp hn).2 h1 h2
theorem yD:∀ (ps:List Str) (vs:List Value) (f:Str→Option Value),ps.length=vs.length→(∀ (i:Nat) x v,ps[i]?=some x→vs[i]?=some v→f x=some v)→(ps.filterMap fun n=>(f n).map (n,·))=ps.zip vs
 | [],[],_,_,_=>rfl
 | [],_::_,_,h,_=>by simp at h
 |_::_,[],_,h,_=>by simp at h
 |p::ps,v::vs,f,hl,h=>by
  have h0:=h 0 p v rfl rfl;rw[List.filterMap_cons,h0,List.zip_cons_cons];simp only[Option.map_some];rw[yD ps vs f (by simpa using hl) fun i x v' h1 h2=>h (i+1) x v' (by simpa using h1) (by simpa using h2)]
theorem yE{α:Type}{c:Bool}{x y z:α}(h:c=false)(e:y=z):(if c=true then x else y)=z:=by rw[h];exact e
theorem yF{fd:FuncData}{as:List Arg}{kwd:List (Option Expr)}{dfl:List Expr}{vals:List Value}(hp:fd.params=⟨[],as,none,[],kwd,none,dfl⟩)(hd:fd.defaults=.none)(hl:as.length=vals.length)(hn:(as.map (·.arg)).Nodup) :
  bindArgs fd ⟨vals,[]⟩=pure ((as.map (·.arg)).zip vals):=by
 have hf:((as.map (·.arg)).filterMap fun n=>(((as.map (·.arg)).zip vals).lookup n).map (n,·))=(as.map (·.arg)).zip vals :=
  yD _ _ _ (by simpa using hl) fun i x v h1 h2=>rI hn h1 h2
 have hm:((as.map (·.arg)).filter fun n=>(((as.map (·.arg)).zip vals).lookup n).isNone)=[]:=by
  rw[List.filter_eq_nil_iff];intro x hx;obtain⟨i,hi⟩:=List.mem_iff_getElem?.mp hx;have hlt:i < vals.length:=by
   have:=(List.getElem?_eq_some_iff.mp hi).1;simp at this;exact Cb hl this
  rw[rI hn hi (List.getElem?_eq_getElem hlt)];simp
 obtain⟨nm,qn,pr,bd,sc,gl,cl,df,kd,dc,pm,an,cd,ct,bt⟩:=fd;obtain rfl:pr=_:=hp;obtain rfl:df=_:=hd;refine yE (c:=decide (vals.length > (as.map (·.arg)).length)&&true) (by simp[hl]) ?_;dsimp only [List.map_nil,List.nil_append,Option.getD_none,Array.toList_empty,List.length_nil,List.append_nil];simp only[List.drop_nil];refine yE (c:=!(List.filter (fun n=>(((as.map (·.arg)).zip vals).lookup n).isNone) (List.take ((as.map (·.arg)).length - 0) (as.map (·.arg)))).isEmpty) ?_ ?_
 ·rw[Nat.sub_zero,List.take_length];exact congrArg (fun l=>!List.isEmpty l) hm
 ·dsimp only [List.length_nil,Nat.sub_zero];simp only[List.drop_length];exact congrArg (pure (f:=Sem)) ((congrArg (List.filterMap _) (List.append_nil _)).trans hf)
theorem yG{kindOf:Str→Option NameKind}:∀ {ps:List Str} {vs:List Value} {m:Str→Option Value} {x:Str},x∉ps→bindL kindOf (ps.zip vs) m x=m x
 | [],_,_,_,_=>rfl
 |_::_,[],_,_,_=>rfl
 |p::ps,v::vs,m,x,h=>by
  show bindL kindOf (ps.zip vs) _ x=m x;simp at h;rw[yG h.2]
  split
  ·exact if_neg h.1
  ·rfl
theorem rJ{kindOf:Str→Option NameKind}:∀ {ps:List Str} {vs:List Value} {m:Str→Option Value} {x:Str} {v:Value} {i:Nat},ps.Nodup→ps[i]?=some x→vs[i]?=some v→kindOf x=some .local→bindL kindOf (ps.zip vs) m x=some v
 | [],_,_,_,_,_,_,h,_,_=>by simp at h
 |_::_,[],_,_,_,_,_,_,h,_=>by simp at h
 |p::ps,u::vs,m,x,v,i,hn,h1,h2,hk=>by
  show bindL kindOf (ps.zip vs) _ x=some v;obtain⟨n1,n2⟩:=List.nodup_cons.mp hn;cases i with
  |zero =>
   simp at h1 h2;subst h1;subst h2;rw[yG n1,if_pos hk];exact if_pos rfl
  |succ i=>exact rJ n2 (by simpa using h1) (by simpa using h2) hk
theorem Kc{st:Stmt}{c:Str×Str×Str}(h:mG st=some c):∃ p1 p2 p3 pos,st=.Assign [.Attribute (.Name c.1 p1) c.2.1 p2] (.Name c.2.2 p3) pos:=by
 cases st with
 |Assign ts e pos =>
  cases ts with
  |nil=>exact ns h
  |cons t r =>
   cases r with
   |cons=>exact ns h
   |nil =>
    obtain⟨a,h1,h⟩:=ob h;obtain⟨x,h2,h⟩:=ob h;obtain⟨y,h3,h⟩:=ob h;obtain rfl:=si h;obtain⟨p1,e1⟩:=c9 h2;obtain⟨p3,rfl⟩:=c9 h3;exact⟨p1,a.2.2,p3,pos,by rw[vM h1,e1]⟩
 |_=>exact ns h
structure InitF(fd:FuncData)(sf:Str)(ps:List Str):Prop where
 params:∃ as kwd dfl,fd.params=⟨[],as,none,[],kwd,none,dfl⟩∧as.map (·.arg)=sf::ps
 body:∃ b,fd.body=.stmts b∧b.map mG=ps.map fun p=>some (sf,p,p)
 closure:fd.closure=[]
 defaults:fd.defaults=.none
 kind:fd.scope.kind=.function
 gen:fd.scope.isGenerator=false
 cor:fd.scope.isCoroutine=false
 nodup:(sf::ps).Nodup
 loc:∀ x∈sf::ps,fd.scope.names.lookup x=some .local∧(x==("__debug__" : Str))=false
 few:ps.length < 50
section
variable {prog:Program} {w:World} {A:Around} {E:Value→Shared→Prop}
variable {nm q:Str} {C N e tt:Addr} {bs bm bmB:List Value} {sn:List Str} {sub:List Value} {ab:Bool} {col:Option Bool} {dd:Option Addr} {k0 k1 k2 k3 k5:Option Value} {B newId sa owner:String} {mN:Str→Option Value}
theorem Kd{env:Env}{m:Str→Option Value}{self:Str}{ns:List Str}{h0 h1:Heap}(SF:StoreFacts B bmB sa owner)(hb:bm.contains (.type owner)=true)(hk:env.scope.kind=.function)
  (hC:h0.get? C=some (excClassObj nm q C N bs bm true sn sub ab col dd k0 k1 k2 k3 k5 newId)) (hN:h0.Ns N mN) (T:TailN h0 bmB ns bm) (h01:∀ b o,h0.get? b=some o→h1.get? b=some o) (he:h0.get? e=none) (hL:h1.Ns env.locals m) (hLe:env.locals≠e)
  (hs0:Str.ofString "__setattr__" ∈ ns) (hs1:mN "__setattr__" = none) (hself:m self=some (.ref e)) (hsl:env.kindOf self=some .local∧(self==("__debug__" : Str))=false) :
  ∀ {ps:List Str} {b:List Stmt} {vs:List Str} {F:Str→Option Value} {s:Shared} {Q:Flow→Shared→Prop},b.map mG=(ps.map fun p=>some (self,p,p))→(∀ p∈ps,p∈ns∧mN p=none∧typeLookup (.type B) p=pure none∧env.kindOf p=some .local∧(p==("__debug__" : Str))=false∧∃ v,m p=some v) →
   vs.length+ps.length < 100→InE (fun b=>b≠e∧∃ o,h1.get? b=some o) s.heap e C tt vs F→(∀ y∈vs,F y=m y)→(∀ b o,b≠e→h1.get? b=some o→s.heap.get? b=some o) →
   (∀ s' vs' F',(∃ h tk,s'={ s with heap:=h,toks:=tk })→InE (fun b=>b≠e∧∃ o,h1.get? b=some o) s'.heap e C tt vs' F'→(∀ y,y∈ps∨y∈vs→F' y=m y)→(∀ b o,b≠e→h1.get? b=some o→s'.heap.get? b=some o)→Q .next s')→wpAny (model prog w) A (execs b env) Q E s:=by
 intro ps
 induction ps with
 |nil =>
  intro b vs F s Q hb' _ _ I hF hk' hq;cases b with
  |nil=>exact wpAny_execs_nil (hq s vs F ⟨_,_,rfl⟩ I (fun y hy=>hF y (hy.elim (fun h=>cL h) id)) hk')
  |cons=>cases hb'
 |cons p ps ih =>
  intro b vs F s Q hb' hp hl I hF hk' hq;cases b with
  |nil=>cases hb'
  |cons st r =>
   injection hb' with hb1 hb2
   obtain⟨p1,p2,p3,pos,rfl⟩:=Kc hb1;obtain⟨q1,q2,q3,q4,q5,v,q6⟩:=hp p List.mem_cons_self;have up:∀ b o,h0.get? b=some o→s.heap.get? b=some o:=fun b o eo=>hk' b o (fun x=>by rw[x,he] at eo;cases eo) (h01 b o eo);have hns:s.heap.Ns env.locals m:=hL.at' fun o eo=>hk' _ o hLe eo;refine wpAny_execs_cons (plainObj_wpAny_Assign_Attribute (wpAny_Name (wpAny_loadName_local hk q4 hns q6 (wpAny_Name (wpAny_loadName_local hk hsl.1 hns hself ?_) hsl.2)) q5) rfl);obtain⟨hh,g,dr,tk,os⟩:=s;refine Kb SF hb (up _ _ hC) (hN.keeps up) (T.keeps up) hs0 hs1 q1 q2 q3 I (fun b hb=>⟨hb.1,by obtain⟨o,eo⟩:=hb.2;exact⟨o,hk' b o hb.1 eo⟩⟩) (by simp at hl;exact Cc hl) fun h' tk' I' kp=>?_;refine ih hb2 (fun p m=>hp p (List.mem_cons_of_mem _ m)) (by simp at hl ⊢;exact Cd hl) I' (fun y hy=>?_) (fun b o hb eo=>kp b o ⟨hb,o,eo⟩ (hk' b o hb eo)) fun s' vs' F' hs' I'' hF' hk''=>hq s' vs' F' ?_ I'' (fun y hy=>hF' y ?_) hk''
   ·show(if y=p then some v else F y)=m y
    by_cases e:y=p
    ·rw[if_pos e,e,q6]
    ·rw[if_neg e];exact hF y ((List.mem_cons.mp hy).resolve_left e)
   ·obtain⟨h2,t2,rfl⟩:=hs';exact⟨h2,t2,rfl⟩
   ·rcases hy with hy | hy
    ·rcases List.mem_cons.mp hy with rfl | hy
     ·exact .inr List.mem_cons_self
     ·exact .inl hy
    ·exact .inr (List.mem_cons_of_mem _ hy)
end
end Mine
namespace Mine
open PySem Builtin Builtin.ObjectAttr
section
variable {prog:Program} {w:World} {A:Around} {E:Value→Shared→Prop} {h:Heap} {g:Array GenState} {d:Drawn} {t:Nat} {os:OsState} {a dx:Addr} {o:Obj} {vs:Array Value}
 {nm q:Str} {C N:Addr} {bs bm:List Value} {hdct:Bool} {sn:List Str} {sub:List Value} {ab:Bool} {col:Option Bool} {dd:Option Addr} {k0 k1 k2 k3 k5:Option Value} {newId:String} {mN m:Str→Option Value} {ns:List Str} {name:Str} {v:Value}
theorem Ke{tk:Tok}{Q:PySem.Fin→Shared→Prop}(hC:h.get? C=some (excClassObj nm q C N bs bm true sn sub ab col dd k0 k1 k2 k3 k5 newId))(hN:h.Ns N mN)(T:TailN h bmV ns bm)(hn0:name∈ns)(hn1:mN name=none)(hB:typeLookup (.type "ValueError") name=pure none)
  (hx:h.get? a=some o) (hc:o.cls=.ref C) (hd:o.data=.fields vs) (hdx:o.dict=some dx) (hns:h.Ns dx m) (hv:m name=some v) (hq:Q (.done (.ret v)) ⟨h,g,d,t,os⟩) :
  wpAny (model prog w) A (Builtin.«object.__getattribute__» ⟨[.ref a,.str name tk],[]⟩) Q E ⟨h,g,d,t,os⟩:=by
 unfold Builtin.«object.__getattribute__»
 repeat (any_goals (first | assumption | (with_reducible refine wpAny_loadPart_at hx ?_;rw[hc]) | with_reducible refine kD hC hN T F.excBase_ValueError.mroIs hn0 hn1 hB ?_ | wp_step))
 rw[hd];show wpAny (model prog w) A (instanceDict a false) _ _ _;unfold instanceDict
 repeat (any_goals (first | assumption | (with_reducible refine wpAny_loadPart_at hx ?_;rw[hc]) | with_reducible refine wpAny_loadPart_at hC ?_ | wp_step))
 rw[hdx]
 repeat (any_goals (first | assumption | (with_reducible refine wpAny_nsGet hns ?_;rw[hv]) | wp_step))
theorem Kf{M:Model}{nameV:Value}{Q:Unit→Shared→Prop}(hC:h.get? C=some (excClassObj nm q C N bs bm true sn sub ab col dd k0 k1 k2 k3 k5 newId))(hbm:bm.contains (.type "BaseException")=true)
  (hx:h.get? a=some o) (hc:o.cls=.ref C) (hq:Q () ⟨h,g,d,t,os⟩):wpAny M A (checkBuiltinCall "BaseException.__getattribute__" ⟨[.ref a,nameV],[]⟩) Q E ⟨h,g,d,t,os⟩:=by
 have hk:builtinKind "BaseException.__getattribute__" = some .slot:=by decide +kernel
 have hsplit:splitId "BaseException.__getattribute__" = some ("BaseException", "__getattribute__"):=by decide +kernel
 have hcB:(Value.ref C::bm).contains (.type "BaseException")=true:=by rw[List.contains_cons,hbm,Bool.or_true]
 have ha:=F.args_bexc_ga (.ref a) nameV;simp only[checkBuiltinCall,hk,hsplit];refine wpAny_bind ?_;unfold isInstance
 repeat (first | (with_reducible refine wpAny_loadPart_at hx ?_;rw[hc]) | (with_reducible refine wpAny_isSubtype_exc hC ?_;rw[hcB]) | wp_step)
 exact hq
theorem Kg{expr:Bool}{Q:Value→Shared→Prop}(hC:h.get? C=some (excClassObj nm q C N bs bm true sn sub ab col dd k0 k1 k2 k3 k5 newId))(hN:h.Ns N mN)(T:TailN h bmV ns bm)(hbm:bm.contains (.type "BaseException")=true)
  (hg0:Str.ofString "__getattribute__" ∈ ns) (hg1:mN "__getattribute__" = none) (hh0:Str.ofString "__getattr__" ∈ ns) (hh1:mN "__getattr__" = none) (hn0:name∈ns) (hn1:mN name=none) (hB:typeLookup (.type "ValueError") name=pure none)
  (hx:h.get? a=some o) (hc:o.cls=.ref C) (hd:o.data=.fields vs) (hdx:o.dict=some dx) (hns:h.Ns dx m) (hv:m name=some v) (hv2:handedOut v=pure v) (hq:Q v ⟨h,g,d,t+1,os⟩) :
  wpAny (model prog w) A (getAttr (.ref a) name expr) Q E ⟨h,g,d,t,os⟩:=by
 have f3:=F.attrBase_ValueError.ga.bind (.ref a);have hx0:(expr&&onTheHeap (Value.builtin "BaseException.__getattribute__"))=false:=by cases expr<;>rfl
 have hx2:(Value.builtin "BaseException.__getattribute__" == Value.builtin "object.__getattribute__")=false:=by decide +kernel
 have hx1:(onTheHeap (Value.ref C)&&Value.builtin "BaseException.__getattribute__" == Value.builtin "object.__getattribute__")=false:=by rw[hx2];rfl
 unfold getAttr
 repeat (any_goals (first | assumption | (with_reducible refine wpAny_loadPart_at hx ?_;rw[hc]) | with_reducible refine kD hC hN T F.excBase_ValueError.mroIs hg0 hg1 F.attrBase_ValueError.ga.lookup ?_ | with_reducible refine kD hC hN T F.excBase_ValueError.mroIs hh0 hh1 F.attrBase_ValueError.noGetattr ?_ | wp_step))
 refine codeAny_call_builtin F.attrBase_ValueError.ga.plain F.entry_bexc_ga (Kf hC hbm hx hc (Ke hC hN T hn0 hn1 hB hx hc hd hdx hns hv ?_));show wpAny (model prog w) A (handedOut v) Q E _;rw[hv2];exact wpAny_pure hq
end
end Mine
namespace Mine
open PySem
section
variable {prog:Program} {w:World} {A:Around} {E:Value→Shared→Prop}
theorem Kh{C N e t:Addr}{bm bs:List Value}{nm q:Str}{sn:List Str}{sub:List Value}{ab:Bool}{col:Option Bool}{dd:Option Addr}{k0 k1 k2 k3 k5:Option Value}{newId:String}{mN:Str→Option Value}{fI:Addr}{oI:Obj}{fd:FuncData}{self:Str}{ps:List Str}{h0:Heap}{s:Shared}{vals:List Value}{Q:Value→Shared→Prop}
  (hb:bm.contains (.type "object")=true) (hC:h0.get? C=some (excClassObj nm q C N bs bm true sn sub ab col dd k0 k1 k2 k3 k5 newId)) (hN:h0.Ns N mN) (T:TailN h0 bmV (Str.ofString "__init__" :: Str.ofString "__setattr__" :: ps) bm) (hn:∀ n∈Str.ofString "__setattr__" :: ps,mN n=none)
  (ho:h0.get? fI=some oI) (hfd:oI.data=.func fd) (hcd:h0.CodeRec fd.code fd.qualname) (I:InitF fd self ps) (hB:∀ p∈ps,typeLookup (.type "ValueError") p=pure none) (hl:h0.NoLimit) (hroom:A.depth < recursionLimit) (hv:vals.length=ps.length)
  (h01:∀ b o,h0.get? b=some o→s.heap.get? b=some o) (he0:h0.get? e=none) (he:s.heap.get? e=some { cls:=.ref C,data:=.fields #[.ref t,.none,.none,.none,.bool false,.none] })
  (hq:∀ s' dx,(∃ h tk,s'={ s with heap:=h,toks:=tk })→s'.heap.get? e=some { cls:=.ref C,dict:=dx,data:=.fields #[.ref t,.none,.none,.none,.bool false,.none] }→(∀ b o,b≠e→s.heap.get? b=some o→s'.heap.get? b=some o)→(ps=[]∨MadeF s s' dx ps vals)→Q .none s'):wpAny (model prog w) A (call (.ref fI) (.ref e::vals)) Q E s:=by
 obtain⟨as,kwd,dfl,hp,has⟩:=I.params;obtain⟨b,hbody,hst⟩:=I.body;have hlen:as.length=(Value.ref e::vals).length:=by
  have:=congrArg List.length has;simp at this;simp[hv,this]
 refine wpAny_call (codeAny_call_cells (binds:=(self::ps).zip (.ref e::vals)) hroom (h01 _ _ ho) hfd (hl.keeps h01) (hcd.keeps h01) hbody (has▸yF hp I.defaults hlen (has▸I.nodup)) I.closure (fun x hx=>.inl (I.loc x.1 (List.of_mem_zip hx).1).1) (fun s₁ hin=>?_) I.cor I.gen I.kind);have at0:∀ {i:Nat} {x:Str} {v:Value},(self::ps)[i]?=some x→(Value.ref e::vals)[i]?=some v→bindL (callEnvC fd s.heap.objs.size fI).kindOf ((self::ps).zip (.ref e::vals)) (fun _=>none) x=some v:=fun h1 h2 =>
  rJ I.nodup h1 h2 (I.loc _ (List.mem_of_getElem? h1)).1
 have keep:=hin.toInCall.keep;have hLe:(callEnvC fd s.heap.objs.size fI).locals≠e:=fun x=>by
  have:=hin.toInCall.fresh;rw[x] at this;exact absurd (Heap.lt_size he) (Nat.not_lt.mpr this)
 refine Kd (tt:=t) (h1:=s₁.heap) (vs:=[]) F.store_ValueError hb I.kind hC hN T (fun b o eo=>keep b o (h01 b o eo)) he0 hin.toInCall.ns hLe (.tail _ (.head _)) (hn _ (.head _)) (at0 (i:=0) rfl rfl) (I.loc self (.head _)) hst (fun p hp=>?_) (by have:=I.few;simp;exact Ce this) ⟨none,keep _ _ he,.inl ⟨rfl,fun _=>rfl⟩⟩ (fun y hy=>cL hy) (fun b o _ eo=>eo) fun s' vs' F' hs' I' hF hk=>?_
 ·obtain⟨i,hi⟩:=List.mem_iff_getElem?.mp hp;have hlt:i < vals.length:=by rw[hv];exact(List.getElem?_eq_some_iff.mp hi).1
  exact⟨.tail _ (.tail _ hp),hn p (.tail _ hp),hB p hp,(I.loc p (.tail _ hp)).1,(I.loc p (.tail _ hp)).2,vals[i],at0 (i:=i+1) hi (List.getElem?_eq_getElem hlt)⟩
 ·obtain⟨h1,t1,rfl⟩:=hs';obtain⟨h2,t2,rfl⟩:=hin.toInCall.same;obtain⟨dx,hx,hdd⟩:=I';refine hq _ dx ⟨h1,t1,rfl⟩ hx (fun b o hb eo=>hk b o hb (keep b o eo)) ?_;have val:∀ (i:Nat) p v,ps[i]?=some p→vals[i]?=some v→F' p=some v:=fun i p v h1 h2=>(hF p (.inl (List.mem_of_getElem? h1))).trans (at0 (i:=i+1) h1 h2);rcases hdd with ⟨_,h0⟩ | ⟨d,rfl,hne,hg,hns,_⟩
  ·cases hps:ps with
   |nil=>exact .inl rfl
   |cons p r =>
    have hlt:0 < vals.length:=by rw[hv,hps];exact Nat.succ_pos _
    have:=val 0 p vals[0] (by rw[hps];rfl) (List.getElem?_eq_getElem hlt);rw[h0] at this;exact ns this
  ·refine .inr ⟨d,F',rfl,?_,hns.ns,val⟩;refine ocs (s.heap.get? d) id fun o ho=>?_;exact absurd ⟨hne,o,keep d o ho⟩ hg
inductive ClsI(h:Heap)(C:Addr)(bm:List Value)(ps:List Str):Prop where
 |mk (N nm q bs sn sub ab col dd k0 k1 k2 k3 k5 mN fI oI fd sf) (a:h.get? C=some (excClassObj nm q C N bs bm true sn sub ab col dd k0 k1 k2 k3 k5 "ValueError.__new__")) (b:h.Ns N mN) (c:mN "__init__" = some (.ref fI)) (d:∀ n∈Str.ofString "__setattr__" :: (ps++hid),mN n=none)
  (e:TailN h bmV (Str.ofString "__init__" :: Str.ofString "__setattr__" :: (ps++hid)) bm) (f:h.get? fI=some oI) (g:oI.cls=.type "function") (i:oI.data=.func fd) (j:h.CodeRec fd.code fd.qualname) (k:InitF fd sf ps) (l:∀ p∈ps,typeLookup (.type "ValueError") p=pure none):ClsI h C bm ps
inductive ClsP(h:Heap)(C:Addr)(bm:List Value):Prop where
 |mk (N nm q bs hdct sn sub ab col dd k0 k1 k2 k3 k5 mN) (a:h.get? C=some (excClassObj nm q C N bs bm hdct sn sub ab col dd k0 k1 k2 k3 k5 "ValueError.__new__")) (b:h.Ns N mN) (c:mN "__init__" = none) (d:OwnTail h bmV bm):ClsP h C bm
theorem OwnTail.has{h:Heap}{bm:List Value}(T:OwnTail h bmV bm){X:String}(hx:bmV.contains (.type X)=true):bm.contains (.type X)=true:=T.hasType hx
theorem ClsI.ok{base:Heap}{C:Addr}{bm:List Value}{ps:List Str}(hl:base.NoLimit)(x:ClsI base C bm ps):ClsOk prog w base C bm (some ps):=by
 obtain⟨N,nm,q,bs,sn,sub,ab,col,dd,k0,k1,k2,k3,k5,mN,fI,oI,fd,sf,hC,hN,hi,hn,T,ho,hfc,hfd,hcd,I,hB⟩:=x;have T':=T.tail (.head _);have s1:∀ n∈Str.ofString "__setattr__" :: ps,n∈Str.ofString "__setattr__" :: (ps++hid):=fun n h=>(List.mem_cons.mp h).elim (fun e=>e▸.head _) fun h=>.tail _ (List.mem_append_left _ h);have T2:=T.less (ns':=Str.ofString "__init__" :: Str.ofString "__setattr__" :: ps) fun n h=>(List.mem_cons.mp h).elim (fun e=>e▸.head _) fun h=>.tail _ (s1 n h);refine⟨⟨nm,q,N,bs,true,sn,sub,ab,col,dd,k0,k1,k2,k3,k5,_,hC⟩,OwnTail.has T' (by decide +kernel),OwnTail.has T' (by decide +kernel),fun A vals s E Q hd hb ha hq=>?_,fun ps' ep p hp A s e dx o vs m v E Q hb hx hc hd hdx hns hv hv2 hq=>by
  obtain rfl:=si ep;obtain⟨h,g,d,t,os⟩:=s;exact Kg (hb _ _ hC) (hN.keeps hb) (T.keeps hb) (OwnTail.has T' (by decide +kernel)) (.tail _ (.tail _ (List.mem_append_right _ (.head _)))) (hn _ (.tail _ (List.mem_append_right _ (.head _)))) (.tail _ (.tail _ (List.mem_append_right _ (.tail _ (.head _))))) (hn _ (.tail _ (List.mem_append_right _ (.tail _ (.head _))))) (.tail _ (.tail _ (List.mem_append_left _ hp))) (hn p (.tail _ (List.mem_append_left _ hp))) (hB p hp) hx hc hd hdx hns hv hv2 (hq _)⟩
 have ha:ps.length=vals.length:=ha;have hsz:vals.length≤sizeLine:=by
  have:=I.few;have hZ:sizeLine=16777216:=rfl;exact Cf ha this hZ
 obtain⟨h,g,d,t,os⟩:=s;refine J8 F.excBase_ValueError (T'.keeps hb) (hb _ _ hC) (hN.keeps hb) hi (hb _ _ ho) hfc hsz fun h' e m=>?_;obtain⟨tt,he,_,_⟩:=m.there;have hdp:(A.under (.builtin "type.__call__" ⟨.ref C::vals,[]⟩)).depth < recursionLimit:=hd;refine Kh (h0:=h) (OwnTail.has T' (by decide +kernel)) (hb _ _ hC) (hN.keeps hb) (T2.keeps hb) (fun n h=>hn n (s1 n h)) (hb _ _ ho) hfd (hcd.keeps hb) I hB (hl.keeps hb) hdp ha.symm m.keeps m.new he fun s' dx hs' hx hk hf=>⟨rfl,hq _ _ ?_⟩
 obtain⟨h2,t2,rfl⟩:=hs';refine⟨⟨h2,t2,rfl,fun b o eo=>hk b o (fun x=>by simp only[x,m.new] at eo;exact ns eo) (m.keeps b o eo)⟩,e,dx,tt,rfl,m.new,hx,fun ps' ep=>?_⟩;obtain rfl:=si ep;rcases hf with hf | ⟨d1,F',e1,n1,hn1,r1⟩
 ·exact .inl hf
 ·refine .inr ⟨d1,F',e1,?_,hn1,r1⟩;refine ocs (h.get? d1) id fun o ho=>?_;exact ns (n1.symm.trans (m.keeps d1 o ho))
theorem ClsP.ok{base:Heap}{C:Addr}{bm:List Value}(x:ClsP base C bm):ClsOk prog w base C bm none:=by
 obtain⟨N,nm,q,bs,hdct,sn,sub,ab,col,dd,k0,k1,k2,k3,k5,mN,hC,hN,hni,T⟩:=x;refine⟨⟨nm,q,N,bs,hdct,sn,sub,ab,col,dd,k0,k1,k2,k3,k5,_,hC⟩,OwnTail.has T (by decide +kernel),OwnTail.has T (by decide +kernel),fun A vals s E Q hd hb ha hq=>?_,fun ps' ep=>ns ep⟩;have ha:vals.length=1:=ha;obtain⟨h,g,d,t,os⟩:=s;refine wpAny_call_exc_subT F.excBase_ValueError (T.keeps hb) (hb _ _ hC) (hN.keeps hb) hni (fun h' e m=>?_) (by have hZ:sizeLine=16777216:=rfl;exact Cg ha hZ);obtain⟨tt,he,_,_⟩:=m.there;exact hq _ _ ⟨⟨h',t,rfl,m.keeps⟩,e,none,tt,rfl,m.new,he,fun ps' ep=>ns ep⟩
end
end Mine
namespace Mine
open PySem PyProof.Rows.TI
section
variable {prog:Program} {w:World} {mg mb:Str→Option Value} {base:Heap} {l l₀:List Env} {env:Env}
noncomputable def dK(h:Heap)(l:List Env)(e T:Addr):Heap:=gone h (e::T::l.filterMap (·.frame))
theorem nB{h:Heap}{e T:Addr}:(dK h l e T).StaysIn h:=fun _ _ x=>(gone_some x).2
theorem rK{h:Heap}{e T:Addr}:(dK h l e T).get? e=none:=gone_none List.mem_cons_self
theorem rL{h:Heap}{e T:Addr}:(dK h l e T).get? T=none:=gone_none (List.mem_cons_of_mem _ List.mem_cons_self)
theorem nC{h:Heap}{e T b:Addr}(f:frs l b):(dK h l e T).get? b=none:=gone_none (List.mem_cons_of_mem _ (List.mem_cons_of_mem _ f))
theorem rM{h:Heap}{e T b:Addr}{o:Obj}(h1:b≠e)(h2:b≠T)(h3:¬ frs l b)(x:h.get? b=some o):(dK h l e T).get? b=some o :=
 (gone_get fun m=>by
  rcases List.mem_cons.mp m with m | m
  ·exact h1 m
  ·rcases List.mem_cons.mp m with m | m
   ·exact h2 m
   ·exact h3 m).trans x
theorem nD{h B:Heap}:∀ {l:List Env},h.FunFrames base l→(∀ b,frs l b→B.get? b=none)→h.FunFrames B l
 := by
 intro l
 induction l with
 |nil=>exact fun _ _=>trivial
 |cons env r ih =>
  intro f k;obtain⟨hk,⟨L,o,hf,_,ho,hd⟩,hr⟩:=f;exact⟨hk,⟨L,o,hf,k L (by unfold frs;rw[List.filterMap_cons,hf];exact List.mem_cons_self),ho,hd⟩,ih hr fun b f=>k b (by unfold frs;rw[List.filterMap_cons,hf];exact List.mem_cons_of_mem _ f)⟩
theorem Rep.monoF{h h':Heap}{av:Addr→Prop}(hk:∀ b o,¬ av b→(∀ vs,o.data≠.fields vs)→h.get? b=some o→h'.get? b=some o){v:Value}{d:PyData}(r:Rep prog w h av v d):Rep prog w h' av v d:=by
 induction r with
 |none=>exact .none
 |bool b=>exact .bool b
 |int i t=>exact .int i t
 |str x t hx=>exact .str x t hx
 |list h1 h2 h3 h4 _ ih=>obtain⟨k,e⟩:=h2;exact .list h1 ⟨k,hk _ _ h1 nofun e⟩ h3 h4 ih
 |tuple h1 h2 h3 h4 _ ih=>obtain⟨k,e⟩:=h2;exact .tuple h1 ⟨k,hk _ _ h1 nofun e⟩ h3 h4 ih
 |dict h1 h2 h3 h4 h5 _ ih =>
  obtain⟨o,es,ep,e,x,hd,r⟩:=h2;exact .dict h1 ⟨o,es,ep,hk _ o h1 (fun vs q=>by rw[hd] at q;cases q) e,x,hd,r⟩ h3 h4 h5 ih
theorem fF.fly{h h':Heap}{av:Addr→Prop}{e T:Addr}{od:Option Addr}{fs:List (Str×PyData)}(f:fF prog w h av od fs)(st:(dK h l e T).StaysIn h')(fav:∀ b,frs l b→av b)
  (hE:∀ o,h.get? e=some o→∃ vs,o.data=.fields vs) (hT:∀ o,h.get? T=some o→∃ vs,o.data=.fields vs):fF prog w h' av od fs:=by
 have hk:∀ b o,¬ av b→(∀ vs,o.data≠.fields vs)→h.get? b=some o→h'.get? b=some o:=fun b o n hd e'=>st b o (rM (fun x=>by obtain⟨vs,q⟩:=hE o (x▸e');exact hd vs q) (fun x=>by obtain⟨vs,q⟩:=hT o (x▸e');exact hd vs q) (fun f=>n (fav b f)) e');rcases f with f | ⟨d,m,e1,n,hn,r⟩
 ·exact .inl f
 ·obtain⟨o,es,ep,ho,hd,hr⟩:=hn;refine .inr ⟨d,m,e1,n,⟨o,es,ep,hk d o n (fun vs q=>by rw[hd] at q;cases q) ho,hd,hr⟩,fun p x hp=>?_⟩;obtain⟨v,g1,g2⟩:=r p x hp;exact⟨v,g1,g2.monoF hk⟩
theorem Ki{s s':Shared}{h':Heap}{e T C:Addr}{a0 fl:Value}(k:K l s s')(ff:s'.heap.FunFrames base l)(se:s.heap.get? e=none)(sT:s.heap.get? T=none)
  (st:(dK s'.heap l e T).StaysIn h') (up:s'.heap.UpToSlots h') (tr:h'.TracedAtW (dK s'.heap l e T) e (.ref C) a0 fl) :
  K l s { s' with heap:=h' }∧Tb s h' e fl∧∃ oe vs,h'.get? e=some oe∧oe.cls=.ref C∧oe.data=.fields vs:=by
 have ne:∀ {b:Addr} {o:Obj},s.heap.get? b=some o→b≠e∧b≠T:=fun x=>⟨fun y=>(by rw[y,se] at x;exact ns x),fun y=>(by rw[y,sT] at x;exact ns x)⟩
 have at1:∀ b o,¬ frs l b→s.heap.get? b=some o→h'.get? b=some o:=fun b o n x=>st b o (rM (ne x).1 (ne x).2 n (k.at n x));have at2:∀ b o,frs l b→s.heap.get? b=some o→∃ sl,h'.get? b=some { o with slots:=sl }∧∀ vs,o.data≠.fields vs:=fun b o f x=>by
  obtain⟨sl,x'⟩:=k.up x;obtain⟨_,o',e1,e2⟩:=ff.mem f;rw[x'] at e1;obtain rfl:=si e1;obtain⟨sl',x''⟩:=up b _ x' e2;exact⟨sl',x'',e2⟩
 obtain⟨oe,vs,T',oT,ts,g1,⟨g2,g3⟩,g4,g5,g6,g7,g8,g9,g10⟩:=tr;refine⟨?_,⟨oe,vs,T',oT,ts,g1,g4,g5,?_,g7,g8,g9,g10⟩,oe,vs,g1,g2,g4⟩
 ·obtain⟨h,t,rfl,_,_⟩:=k;refine⟨h',t,rfl,at1,fun b o x=>?_⟩
  by_cases f:frs l b
  ·obtain⟨sl,h,_⟩:=at2 b o f x;exact⟨sl,h⟩
  ·exact⟨o.slots,at1 b o f x⟩
 ·refine ocs (s.heap.get? T') (fun x=>?_) fun o x=>?_
  ·try rewrite[x]
   rfl
  ·try rewrite[x]
   by_cases f:frs l T'
   ·obtain⟨sl,y,z⟩:=at2 T' o f x;rw[g8] at y;obtain rfl:=si y;exact absurd g9 (z ts)
   ·have:=at1 T' o f x;rw[rM (ne x).1 (ne x).2 f (k.at f x)] at g6;exact sn g6
theorem Tb.tr{s:Shared}{h B:Heap}{e C:Addr}{fl:Value}{oe:Obj}(x:Tb s h e fl)(he:h.get? e=some oe)(hc:oe.cls=.ref C)(hB:∀ T,(∃ vs,oe.data=.fields vs∧vs[1]?=some (.ref T))→B.get? T=none):∃ a0,h.TracedAtW B e (.ref C) a0 fl:=by
 obtain⟨oe',vs,T,oT,ts,g1,g2,g3,g4,g5,g6,g7,g8⟩:=x;rw[he] at g1;obtain rfl:=si g1;have hs:=(Array.getElem?_eq_some_iff.mp g3).1;exact⟨vs[0],oe,vs,T,oT,ts,he,⟨hc,Array.getElem?_eq_getElem (by omega)⟩,g2,g3,hB T ⟨vs,g2,g3⟩,g5,g6,g7,g8⟩
theorem Tb.place{s:Shared}{h:Heap}{e:Addr}{fl:Value}{oe:Obj}(x:Tb s h e fl)(he:h.get? e=some oe):∃ T,s.heap.get? T=none∧∀ T',(∃ vs,oe.data=.fields vs∧vs[1]?=some (.ref T'))→T'=T:=by
 obtain⟨oe',vs,T,oT,ts,g1,g2,g3,g4,_⟩:=x;rw[he] at g1;obtain rfl:=si g1;refine⟨T,g4,fun T' ⟨vs',h1,h2⟩=>?_⟩;rw[g2] at h1;cases h1;rw[g3] at h2;cases h2;rfl
end
end Mine
namespace Mine
open PySem
inductive Calm{α:Type}:Sem α→Prop where
 |pure (a:α):Calm (.pure a)
 |raise (e:Value):Calm (.raise e)
 |unsup (w:String):Calm (.unsupported w)
 |reg (a:Addr) (k:Unit→Sem α):Calm (.register a k)
 |load {a:Addr} {p:Option Value} {k:Obj→Sem α} (h:∀ o,Calm (k o)):Calm (.load a p k)
 |upd {a:Addr} {p:Option Value} {f:Obj→Obj} {k:Unit→Sem α} (hf:∀ o:Obj,(f o).dict=o.dict∧(f o).isFreed=o.isFreed) (h:Calm (k ())):Calm (.update a p f k)
 |alloc {o:Obj} {k:Addr→Sem α} (h:∀ a,Calm (k a)):Calm (.alloc o k)
 |stack {k:List (Code×Pos)→Sem α} (h:∀ l,Calm (k l)):Calm (.stack k)
noncomputable def DK(s s':Shared):Prop:=∀ b o,s.heap.get? b=some o→∃ o',s'.heap.get? b=some o'∧o'.dict=o.dict
theorem DK.rf(s:Shared):DK s s:=fun _ o e=>⟨o,e,rfl⟩
theorem DK.tr{s s' s'':Shared}(x:DK s s')(y:DK s' s''):DK s s'':=fun b o e=>by
 obtain⟨o1,e1,d1⟩:=x b o e;obtain⟨o2,e2,d2⟩:=y b o1 e1;exact⟨o2,e2,d2.trans d1⟩
theorem Calm.bind{α β:Type}{t:Sem α}{f:α→Sem β}(c:Calm t)(h:∀ a,Calm (f a)):Calm (t.bind f):=by
 induction c with
 |pure a=>exact h a
 |raise e=>exact .raise e
 |unsup w=>exact .unsup w
 |reg a k=>exact .reg a _
 |load _ ih=>exact .load fun o=>ih o
 |upd hf _ ih=>exact .upd hf ih
 |alloc _ ih=>exact .alloc fun a=>ih a
 |stack _ ih=>exact .stack fun l=>ih l
theorem DK.push(s:Shared)(o:Obj):DK s { s with heap:=s.heap.push o }:=fun _ x e=>⟨x,Heap.get?_push_of_some o e,rfl⟩
theorem DK.upd(s:Shared){a:Addr}{f:Obj→Obj}(hf:∀ o:Obj,(f o).dict=o.dict∧(f o).isFreed=o.isFreed):DK s { s with heap:=s.heap.update a f }:=fun b x e=>by
 by_cases h:a=b
 ·subst h;exact⟨f x,Heap.get?_update_self f e ((hf x).2.trans (Heap.get?_some_iff.mp e).2),(hf x).1⟩
 ·exact⟨x,(Heap.get?_update_other s.heap f h).trans e,rfl⟩
theorem Calm.keeps{α:Type}{M:Model}{Γ:PySem.Ctx}{t:Sem α}(c:Calm t):∀ {Q:α→Pos→Shared→Prop} {E:Value→Pos→Shared→Prop} {p:Pos} {s s0:Shared},DK s0 s→Sem.wp M Γ t Q E p s→Sem.wp M Γ t (fun a p s'=>Q a p s'∧DK s0 s') (fun e p s'=>E e p s'∧DK s0 s') p s:=by
 induction c with
 |pure a=>intro Q E p s s0 d h;exact⟨h,d⟩
 |raise e=>intro Q E p s s0 d h;exact⟨h,d⟩
 |unsup w=>intro Q E p s s0 d h;exact h.elim
 |reg a k=>intro Q E p s s0 d h;exact h.elim
 |load _ ih=>intro Q E p s s0 d h;obtain⟨o,e,h⟩:=h;exact⟨o,e,ih o d h⟩
 |upd hf _ ih=>intro Q E p s s0 d h;exact⟨h.1,ih (d.tr (DK.upd s hf)) h.2⟩
 |alloc _ ih=>intro Q E p s s0 d h;exact ih _ (d.tr (DK.push s _)) h
 |stack _ ih=>intro Q E p s s0 d h;exact ih _ d h
theorem Calm.any{α:Type}{M:Model}{A:Around}{t:Sem α}(c:Calm t){Q:α→Shared→Prop}{E:Value→Shared→Prop}{s:Shared}(h:wpAny M A t Q E s):wpAny M A t (fun a s'=>Q a s'∧DK s s') (fun e s'=>E e s'∧DK s s') s :=
 fun Γ p hΓ=>c.keeps (DK.rf s) (h Γ p hΓ)
theorem fK{α:Type}{c:Prop}[Decidable c]{a b:Sem α}(h1:Calm a)(h2:Calm b):Calm (if c then a else b):=by
 by_cases h:c
 ·rw[if_pos h];exact h1
 ·rw[if_neg h];exact h2
theorem nE(v:Value)(i:Nat):Calm (field v i):=by
 refine Calm.bind ?_ fun vs=>?_
 ·cases v with
  |ref a =>
   refine .load fun o=>?_;show Calm (match o.data with | .fields vs=>pure vs | _=>unsupported "internal:no-fields");cases o.data with
   |fields vs=>exact .pure _
   |_=>exact .unsup _
  |_=>exact .unsup _
 ·cases vs[i]? with
  |none=>exact .unsup _
  |some x=>exact .pure _
theorem Kj(f:Array Value→Array Value)(o:Obj):(Obj.mapFields f o).dict=o.dict∧(Obj.mapFields f o).isFreed=o.isFreed:=by
 obtain⟨c,d,dt,sl⟩:=o;cases dt<;>exact⟨rfl,rfl⟩
theorem yH(a:Addr){f:Obj→Obj}(hf:∀ o:Obj,(f o).dict=o.dict∧(f o).isFreed=o.isFreed):Calm (update a f):=.upd hf (.pure _)
theorem rN(v:Value)(i:Nat)(x:Value):Calm (setField v i x):=by
 cases v with
 |ref a =>
  refine .load fun o=>?_;show Calm (match o.data with | .fields vs=>if i < vs.size then update a (Obj.mapFields (·.setIfInBounds i x)) else unsupported "internal:no-such-field" | _=>unsupported "internal:write-to-non-record");cases o.data with
  |fields vs=>exact fK (yH a (Kj _)) (.unsup _)
  |_=>exact .unsup _
 |_=>exact .unsup _
theorem rO(v:Value)(f:Option Addr):Calm (setFlight v f) :=
 Calm.bind (nE v 1) fun _=>fK (rN ..) (.pure _)
theorem Kk(ty:String)(vs:List Value):Calm (newFields ty vs):=by
 unfold newFields newObj;exact fK (.unsup _) (.alloc fun _=>.pure _)
theorem Kl(env:Env)(outer:List Env):Calm (behindIsImport env outer) :=
 fK (.pure _) (fK (.pure _) (Calm.bind (nE _ _) fun _=>.pure _))
theorem Km(env:Env)(b:Bool)(outer:List Env):Calm (keptBack env b outer):=by
 cases outer with
 |nil=>exact fK (.pure _) (Calm.bind (Calm.bind (.stack fun _=>.pure _) fun _=>.pure _) fun _=>.pure _)
 |cons=>exact .pure _
theorem Kn(l:List Env):Calm (readyFrames l):=by
 induction l with
 |nil=>exact .pure _
 |cons env outer ih =>
  unfold readyFrames;cases env.frame with
  |none=>exact .unsup _
  |some f =>
   refine .load fun o=>fK (.pure _) (Calm.bind (Kl ..) fun b=>Calm.bind (Km ..) fun v=>Calm.bind (yH f fun o=>⟨rfl,by obtain⟨c,d,dt,sl⟩:=o;cases dt<;>rfl⟩) fun _=>ih)
theorem Ko(env:Env):Calm (frameOf env):=by
 refine Calm.bind (Calm.bind (.stack fun _=>.pure _) fun l=>.pure _) fun l=>Calm.bind ?_ fun o=>?_
 ·cases l.dropWhile (·.frame != env.frame) with
  |nil=>exact .pure _
  |cons e r=>exact Calm.bind (Kn _) fun _=>.pure _
 ·cases o with
  |none=>exact .unsup _
  |some f=>exact .pure _
theorem Kq(f:Addr)(b:Bool):Calm (entryPlaceOf f b):=by
 refine .stack fun acts=>?_;show Calm (match acts.find? fun (c,_)=>c.env?.bind (·.frame)==some f with | some (_,pos)=>_ | none=>_);cases acts.find? fun (c,_)=>c.env?.bind (·.frame)==some f with
 |none=>exact .pure _
 |some x=>exact .pure _
theorem yI(e:Value)(env:Env):Calm (noteFrame e env):=by
 have last:∀ (f:Addr) (head:Value),Calm (do PySem.setField e 1 (← EntryCells.newEntry head (← frameOf env) .none (rawInt f) .none (← entryPlaceOf f (head != .none)))):=fun f head =>
  Calm.bind (Ko env) fun _=>Calm.bind (Kq ..) fun _=>Calm.bind (Kk ..) fun _=>rN ..
 unfold noteFrame;cases env.frame with
 |none=>exact .unsup _
 |some f =>
  refine Calm.bind (nE e 1) fun head=>fK (Calm.bind (nE head 3) fun x=>fK (.pure _) (Calm.bind (rN ..) fun _=>last f head)) (last f head)
theorem Kr(env:Env)(e:Value):Calm (leaving env e):=Calm.bind (yI e env) fun _=>rO ..
end Mine
namespace Mine
open PySem PyProof.Rows.TI
section
variable {prog:Program} {w:World} {mg mb:Str→Option Value} {base:Heap} {n:Nat} {hd:Bool} {l₀:List Env} {env:Env} {sc:Scope} {av₀:Addr→Prop} {s₀:Shared} {σ:aA} {av:Addr→Prop} {s:Shared}
theorem K.wide{s s':Shared}(k:K l₀ s s'):K (env::l₀) s s':=by
 obtain⟨h,t,rfl,k,u⟩:=k;refine⟨h,t,rfl,fun b o n e=>k b o (fun f=>n ?_) e,u⟩;unfold frs at f ⊢;rw[List.filterMap_cons];cases env.frame with
 |none=>exact f
 |some L=>exact List.mem_cons_of_mem _ f
inductive Stn(s₀:Shared)(l:List Env)(e C:Addr)(s' s'':Shared):Prop where
 |mk (T:Addr) (h':Heap) (a0:Value) (sT:s₀.heap.get? T=none) (hT:∀ o,s'.heap.get? T=some o→∃ vs,o.data=.fields vs) (es:s''={ s' with heap:=h' }) (st:(dK s'.heap l e T).StaysIn h') (up:s'.heap.UpToSlots h') (tr:h'.TracedW (dK s'.heap l e T) e (.ref C) a0):Stn s₀ l e C s' s''
theorem Tb.placeF{s:Shared}{h:Heap}{e:Addr}{fl:Value}{oe:Obj}(x:Tb s h e fl)(he:h.get? e=some oe):∃ T,s.heap.get? T=none∧(∀ T',(∃ vs,oe.data=.fields vs∧vs[1]?=some (.ref T'))→T'=T)∧∀ o,h.get? T=some o→∃ vs,o.data=.fields vs:=by
 obtain⟨oe',vs,T,oT,ts,g1,g2,g3,g4,g5,g6,g7,g8⟩:=x;rw[he] at g1;obtain rfl:=si g1;refine⟨T,g4,fun T' h=>?_,fun o ho=>?_⟩
 ·obtain⟨vs',h1,h2⟩:=h;rw[g2] at h1;obtain rfl:=Data.fields.inj h1;rw[g3] at h2;exact(Value.ref.inj (si h2)).symm
 ·rw[g6] at ho;obtain rfl:=si ho;exact⟨ts,g7⟩
theorem Stn.on{s₀ s' s'':Shared}{l:List Env}{av:Addr→Prop}{e C:Addr}{x:X}{oe:Obj}{vs:Array Value}(S:Stn s₀ l e C s' s'')(dk:DK s' s'')(k:K l s₀ s')(ff:s'.heap.FunFrames base l)(se:s₀.heap.get? e=none)(fav:∀ b,frs l b→av b)
  (na:¬ av e) (he:s'.heap.get? e=some oe) (hd:oe.data=.fields vs) (hm:mg x.cls=some (.ref C)) (hx:fF prog w s'.heap av oe.dict x.fields):K l s₀ s''∧Tb s₀ s''.heap e .none∧ExAt prog w mg s''.heap av e x:=by
 obtain⟨T,h',a0,sT,hT,rfl,st,up,tr⟩:=S;obtain⟨k',t',oe',vs',e1,e2,e3⟩:=Ki k ff se sT st up tr.at;obtain⟨o2,f1,f2⟩:=dk e oe he;replace f1:h'.get? e=some o2:=f1;rw[e1] at f1;obtain rfl:=si f1;exact⟨k',t',na,oe',vs',C,e1,e3,e2,hm,f2.symm▸hx.fly st fav (fun o ho=>by rw[he] at ho;obtain rfl:=si ho;exact⟨vs,hd⟩) hT⟩
theorem Ks{A:Around}{x:X}{v:Value}{s':Shared}{Q:Unit→Shared→Prop}{E:Value→Shared→Prop}(hfr:A.frames=some (env::l₀))(hf:env.frame=some env.locals)(hL:s₀.heap.get? env.locals=none)(u:Upx prog w mg base l₀ env s₀ av₀ x v s')
  (hq:∀ s'',Fly prog w mg l₀ s₀ av₀ x v s''→Q () s''):wpAny (model prog w) A (leaving env v) Q E s':=by
 obtain⟨k,ff,st,e,rfl,se,⟨na,oe,vs,C,he,hd,hc,hm,hx⟩,ht⟩:=u;have key:wpAny (model prog w) A (leaving env (.ref e)) (fun _ s''=>Stn s₀ (env::l₀) e C s' s'') E s':=by
  rcases ht with ht | ⟨oe',vs',e1,e2,e3⟩
  ·obtain⟨T,sT,hT,hTf⟩:=ht.placeF he;obtain⟨a0,tr⟩:=ht.tr (B:=dK s'.heap (env::l₀) e T) he hc fun T' h=>hT T' h▸rL;exact wpAny_leaves_onW hfr hf ⟨nB,rK,nD ff fun b f=>nC f,tr⟩ fun h' fl up=>⟨T,h',a0,sT,hTf,rfl,fl.1,up,fl.2.2.2⟩
  ·rw[he] at e1;obtain rfl:=si e1;have hs:=(Array.getElem?_eq_some_iff.mp e3).1;exact wpAny_leaving_firstW (base:=dK s'.heap (env::l₀) e e) (a0:=vs'[0]) hfr (nD ff fun b f=>nC f) hf he nB rK e2 e3 (Array.getElem?_eq_getElem (by exact Ch hs)) fun h' h=>⟨e,h',_,se,fun o ho=>by rw[he] at ho;obtain rfl:=si ho;exact⟨_,hd⟩,rfl,h.1,h.2.2.2,hc▸h.2.2.1⟩
 refine wpAny_mono ((Kr env (.ref e)).any key) (fun _ s'' y=>?_) fun _ _ y=>y.1;obtain⟨k',t',xa⟩:=y.1.on y.2 k.wide ff se (fun b f=>.inr f) na he hd hm hx;exact hq _ ⟨K.drop hf hL (K.rf l₀ s₀) k',e,rfl,se,xa.mono (fun _ _ _ e=>e) fun b _ _ h=>.inl h,t'⟩
theorem Kt{A:Around}{x:X}{v:Value}{s':Shared}{Q:Unit→Shared→Prop}{E:Value→Shared→Prop}(hfr:A.frames=some (env::l₀))(hf:env.frame=some env.locals)(G:Gnd prog w mg mb base (env::l₀) av s)(u:Fly prog w mg (env::l₀) s av x v s')
  (hq:∀ s'',Fly prog w mg (env::l₀) s av x v s''→Q () s''):wpAny (model prog w) A (noteFrame v env) (fun _ s₂=>wpAny (model prog w) A (setFlight v none) Q E s₂) E s':=by
 obtain⟨k,e,rfl,se,⟨na,oe,vs,C,he,hd,hc,hm,hx⟩,ht⟩:=u;have ff:=(G.k k).ff;obtain⟨T,sT,hT,hTf⟩:=ht.placeF he;obtain⟨a0,tr⟩:=ht.tr (B:=dK s'.heap (env::l₀) e T) he hc fun T' h=>hT T' h▸rL;have key:wpAny (model prog w) A (noteFrame (.ref e) env) (fun _ s₂=>wpAny (model prog w) A (setFlight (.ref e) none) (fun _ s₃=>Stn s (env::l₀) e C s' s₃) (fun _ _=>False) s₂) (fun _ _=>False) s':=by
  refine wpAny_looks_onW hfr hf ⟨nB,rK,nD ff fun b f=>nC f,tr⟩ fun h' hh up=>?_;exact wpAny_landsW (s:={ s' with heap:=h' }) hh fun h'' fl up'=>⟨T,h'',a0,sT,hTf,rfl,fl.1,up.trans up',fl.2.2.2⟩
 refine wpAny_mono ((yI (.ref e) env).any key) (fun _ s₂ y=>?_) fun _ _ y=>y.1.elim;refine wpAny_mono ((rO (.ref e) none).any y.1) (fun _ s₃ z=>?_) fun _ _ z=>z.1.elim;obtain⟨k',t',xa⟩:=z.1.on (y.2.tr z.2) k ff se G.fav na he hd hm hx;exact hq _ ⟨k',e,rfl,se,xa,t'⟩
theorem Ku{A:Around}{x:X}{v:Value}{s':Shared}{Q:Unit→Shared→Prop}{E:Value→Shared→Prop}(G:Gnd prog w mg mb base (env::l₀) av s)(u:Fly prog w mg (env::l₀) s av x v s')
  (hq:∀ s'',Fly prog w mg (env::l₀) s av x v s''→Q () s''):wpAny (model prog w) A (setFlight v none) Q E s':=by
 obtain⟨k,e,rfl,se,⟨na,oe,vs,C,he,hd,hc,hm,hx⟩,ht⟩:=u;have ff:=(G.k k).ff;obtain⟨T,sT,hT,hTf⟩:=ht.placeF he;obtain⟨a0,tr⟩:=ht.tr (B:=dK s'.heap (env::l₀) e T) he hc fun T' h=>hT T' h▸rL;have key:wpAny (model prog w) A (setFlight (.ref e) none) (fun _ s₃=>Stn s (env::l₀) e C s' s₃) (fun _ _=>False) s' :=
  wpAny_setFlight_noneW (nB (l:=env::l₀) (e:=e) (T:=T)) (nD ff fun b f=>nC f) tr fun h' h1 h2 h3 h4=>⟨T,h',a0,sT,hTf,rfl,h1,fun b o e hn=>⟨o.slots,h4 b o e hn⟩,h3⟩
 refine wpAny_mono ((rO (.ref e) none).any key) (fun _ s₃ z=>?_) fun _ _ z=>z.1.elim;obtain⟨k',t',xa⟩:=z.1.on z.2 k ff se G.fav na he hd hm hx;exact hq _ ⟨k',e,rfl,se,xa,t'⟩
theorem Kv{ev:EV}{C:Ctx}(hK:KSound prog w mg mb base n C)(hh:C.hd=hd)(hbad:∀ σ e,bad e=true→ev σ e=.no)(h:∀ σ e,aC prog w mg mb base n hd (env::l₀) sc σ e (ev σ e)){F:Nat}{e:Expr}{pos:Pos} :
  aQ prog w mg mb base n hd l₀ env sc s₀ σ (exec (.Raise (some e) none pos) env) fun _ _=>mB ev F C sc σ e:=by
 intro av₀ A s av hA X kn kr fin Q E hf hne hp hn hr he;replace hf:mB ev F C sc σ e=fin:=hf;unfold mB at hf;refine ocs (iI e) (fun hc=>?_) fun c hc=>?_
 ·try rewrite[hc]
  rw[hc] at hf;exact absurd hf.symm hne
 ·try rewrite[hc]
  obtain⟨c,as⟩:=c;rw[hc] at hf;obtain⟨p,q,rfl⟩:=vO hc;obtain⟨⟨c1,c2,c3⟩,hf⟩:=fX hf hne;have hini:C.init c=(bG c prog.main.body).map (·.2):=by rw[hK.init]
  rw[hini] at hf;refine ocs (bG c prog.main.body) (fun hcl=>?_) fun pc hcl=>?_
  ·try rewrite[hcl]
   rw[hcl] at hf;exact absurd hf.symm hne
  ·try rewrite[hcl]
   rw[hcl] at hf;obtain⟨av1,Y,hsub⟩:=X.clear (as.flatMap (esc F));obtain⟨Ca,bm,g1,g2,_⟩:=Y.inv.gnd.glo.cls c pc hcl;obtain⟨nm,qn,N,bs,hdct,sn,sub,ab,col,dd,k0,k1,k2,k3,k5,newId,hC⟩:=g2.obj;have hf:rb (evs (ev (aA.clear σ (as.flatMap (esc F)))) as) (fun vs=>match pc.2 with | some ps=>if ps.length=vs.length then .exc ⟨c,ps.zip (bP vs)⟩ else .no | none=>if vs.length=1 then .exc ⟨c,[]⟩ else .no)=fin:=by
    rw[← hf];obtain⟨b0,ini⟩:=pc;cases ini<;>rfl
   refine J7 (C:=Ca) (bm:=bm) g2.exc (hA.handled (hh▸c3)) c2 (mO Y.inv c1 g1 ⟨rfl,iP (hbad _) hA (fun e _=>h _ e) Y.inv ⟨hf,hne⟩ (fun vs s₂ us k2' r1 r2 e2=>⟨(Y.inv.gnd.k k2').stay _ _ hC,?_⟩) fun x v s' e f=>he x v s' e (Y.up f)⟩);have hlen:vs.length=us.length:=by rw[r1];exact List.length_map _
   have:vP pc.2 vs.length∧fin=.exc ⟨c,match pc.2 with | some ps=>ps.zip (bP us) | none=>[]⟩:=by
    revert e2
    cases pc.2 with
    |none=>exact fun e2=>by obtain⟨a,b⟩:=fX e2 hne;exact⟨hlen.trans a,b.symm⟩
    |some ps=>exact fun e2=>by obtain⟨a,b⟩:=fX e2 hne;exact⟨a.trans hlen.symm,b.symm⟩
   obtain⟨ha,hfin⟩:=this;have Y2:=Y.k k2';refine g2.make A vs s₂ E _ (by have:=hA.depth;exact Ci this) Y2.inv.gnd.stay ha fun v s₃ m=>?_;obtain⟨k3',e,dx,t,rfl,en,et,mf⟩:=m;have nn:∀ {b:Addr},s₂.heap.get? b=none→¬ (av₀ b∨frs (env::l₀) b):=fun h x=>x.elim (Y2.newNot h).2.2.1 (Y2.newNot h).2.2.2.2;have flds:fF prog w s₃.heap (fun b=>av₀ b∨frs (env::l₀) b) dx (match pc.2 with | some ps=>ps.zip (bP us) | none=>[]):=by
    revert mf
    cases pc.2 with
    |none=>exact fun _=>.inl rfl
    |some ps =>
     intro mf;rcases mf ps rfl with rfl | ⟨d,m,e1,n1,hn1,r⟩
     ·exact .inl rfl
     ·refine .inr ⟨d,m,e1,nn n1,hn1,fun p x hp=>?_⟩;obtain⟨i,hi⟩:=List.mem_iff_getElem?.mp hp;obtain⟨h1,h2⟩:=List.getElem?_zip_eq_some.mp hi;have hlt:i < vs.length:=by rw[r1];exact(List.getElem?_eq_some_iff.mp h2).1
      exact⟨vs[i],r i p vs[i] h1 (List.getElem?_eq_getElem hlt),(Rep.k (l:=env::l₀) Y.inv.gnd.fav (K.of k3') (r2 i vs[i] x (List.getElem?_eq_getElem hlt) h2)).mono (fun _ _ _ e=>e) fun b _ _ h=>h.elim (Y.bas b) (Y.inv.gnd.fav b)⟩
   have Y3:=Y2.k (K.of k3');exact⟨e,dx,t,rfl,Y3.inv.gnd.stay _ _ hC,et,he _ _ _ hfin ⟨Y3.k0,Y3.inv.gnd.ff,Y3.inv.gnd.stay,e,rfl,(Y2.newNot en).2.2.2.1,⟨nn en,_,_,Ca,et,rfl,rfl,g1,flds⟩,.inr ⟨_,_,et,rfl,rfl⟩⟩⟩
end
end Mine
namespace Mine
open PySem
section
variable {M:Model} {A:Around} {E:Value→Shared→Prop}
variable {nm q nm' q':Str} {C N D N':Addr} {bs bm bs' bm':List Value} {hdct hdct':Bool} {sn sn':List Str} {sub sub':List Value} {ab ab':Bool} {col col':Option Bool} {dd dd':Option Addr} {k0 k1 k2 k3 k5 k0' k1' k2' k3' k5':Option Value} {newId newId':String}
theorem Kw{h:Heap}{g:Array GenState}{d:Drawn}{t:Nat}{os:OsState}{e:Addr}{oe:Obj}{Q:Bool→Shared→Prop}
  (hC:h.get? C=some (excClassObj nm q C N bs bm hdct sn sub ab col dd k0 k1 k2 k3 k5 newId)) (hD:h.get? D=some (excClassObj nm' q' D N' bs' bm' hdct' sn' sub' ab' col' dd' k0' k1' k2' k3' k5' newId')) (he:h.get? e=some oe) (hcls:oe.cls=.ref C) (hbase:bm'.contains (.type "BaseException")=true)
  (hcD:(Value.ref C::bm).contains (.ref D)=true) (hq:Q true ⟨h,g,d,t,os⟩):wpAny M A (excMatches (.ref e) (.ref D)) Q E ⟨h,g,d,t,os⟩:=by
 have hcB:(Value.ref D::bm').contains (.type "BaseException")=true:=by rw[List.contains_cons,hbase,Bool.or_true]
 have f:=tc_notTuple;unfold excMatches
 repeat (first | (with_reducible refine wpAny_loadPart_at he ?_;rw[hcls]) | with_reducible refine wpAny_loadPart_at hD ?_ | (with_reducible refine wpAny_isSubtype_exc hD ?_;rw[hcB]) | (with_reducible refine wpAny_isSubtype_exc hC ?_;rw[hcD]) | wp_step)
 exact hq
theorem Kx{base:Heap}{s:Shared}{C D e:Addr}{bm bm':List Value}{oe:Obj}{Q:Bool→Shared→Prop}(c2:ClsObj base C bm)(d2:ClsObj base D bm')(st:∀ a o,base.get? a=some o→s.heap.get? a=some o)
  (he:s.heap.get? e=some oe) (hcls:oe.cls=.ref C) (hbase:bm'.contains (.type "BaseException")=true) (hcD:(Value.ref C::bm).contains (.ref D)=true) (hq:Q true s):wpAny M A (excMatches (.ref e) (.ref D)) Q E s:=by
 obtain⟨_,_,_,_,_,_,_,_,_,_,_,_,_,_,_,_,hC⟩:=c2;obtain⟨_,_,_,_,_,_,_,_,_,_,_,_,_,_,_,_,hD⟩:=d2;exact Kw (st _ _ hC) (st _ _ hD) he hcls hbase hcD hq
end
section
variable {prog:Program} {w:World} {mg mb:Str→Option Value} {base:Heap} {n:Nat} {hd:Bool} {l₀:List Env} {env:Env} {sc:Scope} {av₀:Addr→Prop} {s₀:Shared} {σ:aA} {av:Addr→Prop} {s:Shared}
theorem Room.mark{l:List Env}{A:Around}(h:Room n hd l A)(e:Option Value):Room n true l (A.mark e):=⟨h.depth,h.units,nofun,h.guards,h.frames⟩
theorem yJ{b:List Stmt}{e:Expr}(h:fV b=some e):∃ pos,b=[.Return (some e) pos]:=by
 cases b with
 |nil=>exact ns h
 |cons s r =>
  cases r with
  |cons=>exact ns h
  |nil =>
   cases s with
   |Return o pos=>cases o with
    |none=>exact ns h
    |some e'=>obtain rfl:=si h;exact⟨pos,rfl⟩
   |_=>exact ns h
theorem Ky{hs:List ExceptHandler}{c:Str×Option Str×Expr}(h:mD hs=some c):∃ p pos pos2,hs=[.ExceptHandler (some (.Name c.1 p)) c.2.1 [.Return (some c.2.2) pos2] pos]:=by
 cases hs with
 |nil=>exact ns h
 |cons hh r =>
  cases r with
  |cons=>exact ns h
  |nil =>
   obtain⟨t,x,b,pos⟩:=hh;cases t with
   |none=>exact ns h
   |some t =>
    replace h:(match bD t with | some c=>(match fV b with | some e=>some (c,x,e) | none=>none) | none=>none)=some c:=h;refine ocs (bD t) (fun hn=>?_) fun y hn=>?_
    ·try rewrite[hn]
     rw[hn] at h;exact ns h
    ·try rewrite[hn]
     rw[hn] at h;replace h:(match fV b with | some e=>some (y,x,e) | none=>none)=some c:=h;refine ocs (fV b) (fun hr=>?_) fun e hr=>?_
     ·try rewrite[hr]
      rw[hr] at h;exact ns h
     ·try rewrite[hr]
      rw[hr] at h;obtain rfl:=si h;obtain⟨p,rfl⟩:=c9 hn;obtain⟨pos2,rfl⟩:=yJ hr;exact⟨p,pos,pos2,rfl⟩
theorem bB.same{s:Shared}{h h':Heap}{av:Addr→Prop}{L:Addr}{v:Value}{u:V}(hL:av L)(hlt:∃ o,s.heap.get? L=some o)(hs:Heap.SameBut L h h')(r:bB prog w s h av v u):bB prog w s h' av v u:=by
 have hk:∀ b o,¬ av b→h.get? b=some o→h'.get? b=some o:=fun b o n e=>(hs.2 b fun x=>n (x▸hL)).trans e;cases u with
 |ex x=>exact r
 |fz d=>exact(show Rep prog w h av v d from r).mono hk fun _ _ _ x=>x
 |own d =>
  obtain⟨a,e,hn,rb⟩:=r;refine⟨a,e,hn,rb.mono (fun b o n e=>hk b o (fun x=>n (.inl x)) e) (fun _ _ _ x=>x) fun o e=>(hs.2 a fun x=>?_).trans e⟩;obtain⟨o,ho⟩:=hlt;simp only[x,ho] at hn;exact sn hn
theorem Kz{ev':EV}(h':∀ σ e,aC prog w mg mb base n true (env::l₀) sc σ e (ev' σ e)){F:Nat}{e':Expr}{c z:Str}{p pos2 pos3:Pos}{A:Around}{Q:Flow→Shared→Prop}{E:Value→Shared→Prop}{y:X}{v:Value}{s':Shared}{pd pc:Str×Option (List Str)}{v0:Option V}{u:V}
  (hA:Room n hd (env::l₀) A) (Y:Act prog w mg mb base l₀ env sc av₀ s₀ σ av s) (hg:isG sc c=true) (hcd:bG c prog.main.body=some pd) (hcc:bG y.cls prog.main.body=some pc) (hsb:fS prog.main.body 4 y.cls c=true)
  (hz:sc.names.lookup z=some .local) (hg0:σ.get z=some v0) (hu:ev' (aA.clear (σ.set z (.ex y)) (esc F e')) e'=.ok u) (hr:∀ v s',K l₀ s₀ s'→bB prog w s₀ s'.heap av₀ v u→Q (.ret v) s') (fly:Fly prog w mg (env::l₀) s av y v s') :
  wpAny (model prog w) A (noteFrame v env) (fun _ s₂=>wpAny (model prog w) A (setFlight v none) (fun _ s₃=>wpAny (model prog w) A (handleBy v env [.ExceptHandler (some (.Name c p)) (some z) [.Return (some e') pos2] pos3]) Q E s₃) E s₂) E s':=by
 obtain⟨D,bmD,d1,d2,_⟩:=Y.inv.gnd.glo.cls c pd hcd;obtain⟨Ca,bmC,c1,c2,c3⟩:=Y.inv.gnd.glo.cls y.cls pc hcc;have hcon:=(c3 c pd D hcd d1).trans hsb;refine Kt hA.frames Y.frm Y.inv.gnd fly fun s₂ fly2=>?_;obtain⟨k2',e2,rfl,se,⟨na,oe,vs,C',o1,o2,o3,o4,o5⟩,tb⟩:=id fly2;obtain rfl:=Value.ref.inj (si (c1.symm.trans o4));have Y2:=Y.k k2';refine wpAny_handleBy_cons (codeAny_handlers_test (mO Y2.inv hg d1 ?_)) (by intro q;cases q);refine Kx c2.obj d2.obj (fun a o h=>Y2.inv.gnd.stay _ _ h) o1 o3 d2.exc hcon ?_;clear o1 o2 o3 o5 hcon c1 c2 c3 d1 d2;refine codeAny_handlers_suite_as (Ku Y.inv.gnd fly2 fun s₃ fly3=>?_);obtain⟨k3'',e3,ee,_,xa,_⟩:=id fly3;obtain rfl:=Value.ref.inj ee;refine(Y.k k3'').put hg0 (v:=.ex y) ⟨_,rfl,xa⟩ (fun _ _ q=>by cases q) fun s4 Z _ _ _=>wpAny_execs_cons (wpAny_Return_some ?_);obtain⟨av3,Y4,_⟩:=Z.clear (esc F e');refine(h' _ e').val (hA.mark _) Y4.inv hu fun v s' k r=>?_;have Y5:=Y4.k k;obtain⟨mL,hnL⟩:=Y5.ns;refine wpAny_nameGoes (Y5.loc z hz) hnL (by rw[Y5.inv.kind];rfl) fun h'' m' _ hs=>?_;obtain⟨f1,f2,_⟩:=Y5.fresh env.locals (.inl rfl);exact hr v _ (Y5.k0.on f2 fun b o hb eb=>(hs.2 b hb).trans eb) ((r.same f1 (Y4.liveMn (.inl rfl)) hs).out Y4)
theorem K0{ev ev':EV}{C:Ctx}(hK:KSound prog w mg mb base n C)(h:∀ σ e,aC prog w mg mb base n hd (env::l₀) sc σ e (ev σ e))(h':∀ σ e,aC prog w mg mb base n true (env::l₀) sc σ e (ev' σ e)){F:Nat}{e e':Expr}{c:Str}{x:Option Str}{p pos pos1 pos2 pos3:Pos} :
  aQ prog w mg mb base n hd l₀ env sc s₀ σ (exec (.Try [.Return (some e) pos1] [.ExceptHandler (some (.Name c p)) x [.Return (some e') pos2] pos3] [] [] pos) env) fun _ kr=>mE ev ev' F C sc σ e c x e' kr:=by
 intro av₀ A s av hA X kn kr fin Q E hf hne hp hn hr he;obtain⟨hg,hf⟩:=fX (show(if isG sc c=true∧(C.init c).isSome=true then _ else R.no)=fin from hf) hne;obtain⟨hg,hin⟩:=hg;obtain⟨av1,Y,hsub⟩:=X.clear (esc F e);refine wpAny_Try_except (wpAny_execs_cons (wpAny_Return_some ?_));have hE:=h (aA.clear σ (esc F e)) e;cases hev:ev (aA.clear σ (esc F e)) e with
 |no=>rw[hev] at hf;exact absurd hf.symm hne
 |ok v0 =>
  rw[hev] at hf;exact hE.val hA Y.inv hev fun v s' k r=>hr v s' v0 (Y.k k).k0 (r.out Y) hf
 |exc y =>
  rw[hev] at hf;refine hE A env s av1 hA Y.inv (k:=R.ok) (fin:=R.exc y) ⟨by rw[hev];rfl,nofun⟩ (fun v s' u _ _ e=>by cases e) fun y' v s' ey fly=>?_;cases ey;dsimp only at hf;rw[show C.sub y.cls c=fE prog.main.body y.cls c by rw[hK.sub]] at hf;have hini:C.init c=(bG c prog.main.body).map (·.2):=by rw[hK.init]
  rw[hini] at hin;cases hcd:bG c prog.main.body with
  |none=>rw[hcd] at hin;exact bft hin
  |some pd =>
   refine ocs (bG y.cls prog.main.body) (fun hcc=>?_) fun pc hcc=>?_
   ·try rewrite[hcc]
    have:fE prog.main.body y.cls c=none:=by unfold fE;rw[hcc,Option.isSome_none,Bool.and_false];rfl
    rw[this] at hf;exact absurd hf.symm hne
   ·try rewrite[hcc]
    have hso:fE prog.main.body y.cls c=some (fS prog.main.body 4 y.cls c):=by unfold fE;rw[hcc,hcd];rfl
    rw[hso] at hf;refine bcs (fS prog.main.body 4 y.cls c) (fun hsb=>?_) fun hsb=>?_
    ·try rewrite[hsb]
     rw[hsb] at hf;exact absurd hf.symm hne
    ·try rewrite[hsb]
     rw[hsb] at hf;cases x with
     |some z =>
      obtain⟨hz,hf⟩:=fX (show(if sc.names.lookup z=some .local then rb (ofP (cM z (.ex y) (aA.clear σ (esc F e)))) fun σ=>rb (nx (ev' (aA.clear σ (esc F e')) e')) kr else R.no)=fin from hf) hne;obtain⟨σ1,hs1,hf⟩:=cC hf hne;obtain⟨v0,hg0,rfl⟩:=eR hs1;obtain⟨u,hu,hf⟩:=Fin.nx ⟨hf,hne⟩;exact Kz h' hA Y hg hcd hcc hsb hz hg0 hu (fun v s' k r=>hr v s' u k r hf) fly
     |none=>exact absurd (show R.no=fin from hf).symm hne
end
end Mine
namespace Mine
open PySem
theorem yK{kindOf:Str→Option NameKind}:∀ {ps:List Str} {vs:List Value} {m:Str→Option Value} {x:Str},x∉ps→bindC kindOf (ps.zip vs) m x=m x
 | [],_,_,_,_=>rfl
 |_::_,[],_,_,_=>rfl
 |p::ps,v::vs,m,x,h=>by
  show bindC kindOf (ps.zip vs) _ x=m x;simp at h;rw[yK h.2]
  split
  ·rfl
  ·exact if_neg h.1
theorem yL{kindOf:Str→Option NameKind}:∀ {ps:List Str} {vs:List Value} {m:Str→Option Value} {x:Str} {v:Value} {i:Nat},ps.Nodup→ps[i]?=some x→vs[i]?=some v→kindOf x≠some .local→bindC kindOf (ps.zip vs) m x=some v
 | [],_,_,_,_,_,_,h,_,_=>by simp at h
 |_::_,[],_,_,_,_,_,_,h,_=>by simp at h
 |p::ps,u::vs,m,x,v,i,hn,h1,h2,hk=>by
  show bindC kindOf (ps.zip vs) _ x=some v;obtain⟨n1,n2⟩:=List.nodup_cons.mp hn;cases i with
  |zero =>
   simp at h1 h2;subst h1;subst h2;rw[yK n1,if_neg hk];exact if_pos rfl
  |succ i=>exact yL n2 (by simpa using h1) (by simpa using h2) hk
theorem K1:∀ (names:List (Str×NameKind)) (k:Nat) (acc:List (Str×Addr)) (x:Str),(acc.lookup x).isSome=true→((cellsFrom k names acc).lookup x).isSome=true:=by
 intro v0
 induction v0 with
 |nil =>
  intro _ _ _ h;exact h
 |cons pp r ih =>
  obtain⟨y,kd⟩:=pp;intro k acc x h;unfold cellsFrom
  split
  ·refine ih _ _ x ?_;simp only[List.lookup_cons]
   split
   ·rfl
   ·exact h
  ·exact ih _ _ x h
theorem nF:∀ (names:List (Str×NameKind)) (k:Nat) (acc:List (Str×Addr)) (x:Str),(x,NameKind.cell)∈names→((cellsFrom k names acc).lookup x).isSome=true
 | (y,kd)::r,k,acc,x,h=>by
  unfold cellsFrom;rcases List.mem_cons.mp h with e | h
  ·cases e;rw[if_pos (by rfl)];refine K1 r _ _ _ ?_;simp only[List.lookup_cons];simp
  ·split
   ·exact nF r _ _ x h
   ·exact nF r _ _ x h
theorem rP{ps:List Str}{us:List V}:∀ {names:List (Str×NameKind)} {x:Str} {v:Option V},aA.get (dU ps us names) x=some v→v=(ps.zip us).lookup x∧((x,NameKind.local)∈names∨(x,NameKind.cell)∈names):=by
 intro v0
 induction v0 with
 |nil =>
  intro _ _ h;exact ns h
 |cons pp r ih =>
  obtain⟨y,k⟩:=pp;intro x v h;have step:∀ {k'},(k'=NameKind.local∨k'=NameKind.cell)→aA.get ((y,(ps.zip us).lookup y)::dU ps us r) x=some v→v=(ps.zip us).lookup x∧((x,NameKind.local)∈(y,k')::r∨(x,NameKind.cell)∈(y,k')::r):=fun hk' h=>by
   by_cases hxy:x=y
   ·subst hxy;rw[aA.get_cons_eq] at h;obtain rfl:=si h;refine⟨rfl,?_⟩;rcases hk' with rfl | rfl
    ·exact .inl List.mem_cons_self
    ·exact .inr List.mem_cons_self
   ·rw[aA.get_cons_ne hxy] at h;obtain⟨h1,h2⟩:=ih h;exact⟨h1,h2.imp (List.mem_cons_of_mem _) (List.mem_cons_of_mem _)⟩
  have skip:∀ {k'},aA.get (dU ps us r) x=some v→v=(ps.zip us).lookup x∧((x,NameKind.local)∈(y,k')::r∨(x,NameKind.cell)∈(y,k')::r):=fun h=>by
   obtain⟨h1,h2⟩:=ih h;exact⟨h1,h2.imp (List.mem_cons_of_mem _) (List.mem_cons_of_mem _)⟩
  cases k with
  | «local»=>exact step (.inl rfl) h
  |cell=>exact step (.inr rfl) h
  |_=>exact skip h
theorem rQ:∀ {l:List Str},iM l=true→l.Nodup:=by
 intro v0
 induction v0 with
 |nil =>
  intro _;exact List.nodup_nil
 |cons x r ih =>
  intro h;have h:(!r.contains x&&iM r)=true:=h;simp only[Bool.and_eq_true,Bool.not_eq_true',Bool.eq_false_iff] at h;exact List.nodup_cons.mpr ⟨by simpa using h.1,ih h.2⟩
theorem kE{α:Type}:∀ {l:List (Str×α)} {x:Str} {k:α},(l.map (·.1)).Nodup→(x,k)∈l→l.lookup x=some k
 | (y,d)::r,x,k,hn,h=>by
  obtain⟨n1,n2⟩:=List.nodup_cons.mp (show(y::r.map (·.1)).Nodup from hn);rcases List.mem_cons.mp h with e | h
  ·cases e;simp[List.lookup]
  ·have hne:(x==y)=false:=by
    rw[beq_eq_false_iff_ne];intro e;exact n1 (by rw[← e];exact List.mem_map.mpr ⟨(x,k),h,rfl⟩)
   rw[List.lookup_cons,hne];exact kE n2 h
structure FnOk(a:Arguments)(sc:Scope):Prop where
 params:∃ kwd dfl,a=⟨[],a.args,none,[],kwd,none,dfl⟩
 kind:sc.kind=.function
 gen:sc.isGenerator=false
 cor:sc.isCoroutine=false
 nodup:(sc.names.map (·.1)).Nodup
 anodup:(a.args.map (·.arg)).Nodup
 nofree:∀ p∈sc.names,p.2≠.free
 akind:∀ x∈a.args,sc.names.lookup x.arg=some .local∨sc.names.lookup x.arg=some .cell
 dbg:sc.names.lookup (Str.ofString "__debug__")=none
 cld:sc.names.lookup (Str.ofString "__classdict__")=none
theorem K2{a:Arguments}{sc:Scope}(h:mF a sc=true):FnOk a sc:=by
 unfold mF at h;simp only[Bool.and_eq_true] at h;obtain⟨⟨⟨⟨⟨⟨⟨⟨⟨⟨⟨⟨⟨⟨h1,h2⟩,h3⟩,h4⟩,h5⟩,h6⟩,h7⟩,h8⟩,h9⟩,h10⟩,h11⟩,h12⟩,h13⟩,h14⟩,h15⟩:=h;refine⟨?_,by simpa using h7,by simpa using h8,by simpa using h9,rQ h10,rQ h11,fun p hp=>by simpa using List.all_eq_true.mp h12 p hp,fun x hx=>?_,by simpa using h14,by simpa using h15⟩
 ·obtain⟨po,as,va,ko,kd,kw,df⟩:=a;simp only[List.isEmpty_iff,Option.isNone_iff_eq_none] at h1 h2 h3 h4;subst h1;subst h2;subst h3;subst h4;exact⟨kd,df,rfl⟩
 ·have:=List.all_eq_true.mp h13 x hx
  split at this
  ·rename_i e;exact .inl e
  ·rename_i e;exact .inr e
  ·exact bft this
section
variable {prog:Program} {w:World} {mg mb:Str→Option Value} {base:Heap} {l:List Env}
theorem K3{s s₁:Shared}{av:Addr→Prop}{a:Arguments}{b:List Stmt}{sc:Scope}{f:Str}{pm cd doc:Value}{ad:Addr}{vs:List Value}{us:List V}{env:Env}(hE:env=callEnvC (Calls.docDef f a b sc pm cd doc) s.heap.objs.size ad)(G:Gnd prog w mg mb base l av s)
  (hargs:fH (CA prog w mg l av) s vs us) (hok:FnOk a sc) (hin:InCallC s env.locals (bindL env.kindOf ((a.args.map (·.arg)).zip vs) fun _=>none) env.cells (bindC env.kindOf ((a.args.map (·.arg)).zip vs) fun _=>none) s₁) :
  ∃ av1,Act prog w mg mb base l env sc av s (dU (a.args.map (·.arg)) us sc.names) av1 s₁:=by
 have hkind:∀ x,env.kindOf x=sc.names.lookup x:=fun _=>by rw[hE];rfl
 have hL:env.locals=s.heap.objs.size:=by rw[hE];rfl
 have hcells:env.cells=cellsFrom (s.heap.objs.size+1) sc.names []:=by rw[hE];rfl
 have ek:env.scope.kind=.function:=by rw[hE];exact hok.kind
 have eg:env.globals=mainGlobals:=by rw[hE];rfl
 have eb:env.builtins=builtinsNs:=by rw[hE];rfl
 have hfrm:env.frame=some env.locals:=by rw[hE];rfl
 clear hE;have dead:∀ b,Mn env b→s.heap.get? b=none:=fun b h=>by
  rcases h with h | ⟨x,h⟩
  ·rw[h,hL];exact bZ _
  ·exact Heap.get?_none_of_le (by
    have:=hin.above x b (eQ h);rw[hL] at this;exact Nat.le_of_lt this)
 have notav:∀ b,Mn env b→¬ av b:=fun b h x=>by obtain⟨o,e⟩:=G.avlt b x;rw[dead b h] at e;exact ns e
 have neL:∀ x c,env.cells.lookup x=some c→c≠env.locals:=fun x c e=>Nat.ne_of_gt (hin.above x c (eQ e));have notown:∀ x d,aA.get (dU (a.args.map (·.arg)) us sc.names) x≠some (some (.own d)):=fun x d h=>by
  obtain⟨h1,_⟩:=rP h;obtain⟨i,_,h3⟩:=rH h1.symm;have hlt':i < vs.length:=by
   have:=(List.getElem?_eq_some_iff.mp h3).1;rw[hargs.len];exact this
  exact(hargs.at i _ _ (List.getElem?_eq_getElem hlt') h3).2 d rfl
 have cellOfName:∀ x,sc.names.lookup x=some .cell→∃ c,env.cells.lookup x=some c:=fun x hx=>by
  have:=nF sc.names (s.heap.objs.size+1) [] x (eQ hx);rw[← hcells] at this;exact Option.isSome_iff_exists.mp this
 have keep:=hin.toInCall.keep;have k0:Kp s s₁:=by obtain⟨h,t,e⟩:=hin.toInCall.same;subst e;exact⟨h,t,rfl,keep⟩
 have back:∀ b o,s.heap.get? b=some o→(av b∨Mn env b)→av b:=fun b o e h=>h.elim id fun h=>by rw[dead b h] at e;exact ns e
 have bfr:base.get? env.locals=none:=by
  refine ocs (base.get? env.locals) (fun e=>?_) fun o e=>?_
  ·try rewrite[e]
   rfl
  ·try rewrite[e]
   have:=G.stay _ _ e;rw[dead _ (.inl rfl)] at this;exact ns this
 obtain⟨oL,esL,epL,e1,e2,e3⟩:=id hin.toInCall.ns;have noO:∀ {P:Prop} x a',bL env (dU (a.args.map (·.arg)) us sc.names) s₁.heap x a'→P:=fun x a' ⟨⟨d,e⟩,_⟩=>absurd e (notown x d);have frb:∀ b,frs l b→av b∧∃ o,s.heap.get? b=some o:=fun b h=>⟨G.fav b h,by obtain⟨_,o,e,_⟩:=G.ff.mem h;exact⟨o,e⟩⟩
 refine⟨fun b=>av b∨Mn env b,{ inv:=?_,stay0:=G.stay,frm:=hfrm,fr0:=fun b h=>frb b h,k0:=K.of k0,bas:=fun b h=>Or.inl h,ns:=⟨_,hin.toInCall.ns⟩,cells:=fun x c e=>⟨neL x c e,_,hin.cell x c e⟩,fresh:=fun b h=>⟨.inr h,dead b h,notav b h⟩,capart:=fun x y c hx hy=>name_of_addr hin.apart (eQ hx) (eQ hy),names:=fun x v h=>?_,ownA:=fun x a h=>noO x a h,ownI:=fun x y a h=>noO x a h,loc:=fun x h=>(hkind x).trans h }⟩
 ·refine { gnd:={ G.k (K.of k0) with ff:=⟨by rw[ek];nofun,⟨env.locals,oL,hfrm,bfr,e1,fun vs q=>by rw[e2] at q;cases q⟩,(G.k (K.of k0)).ff⟩,fav:=fun b h=>((gR hfrm).mp h).elim (fun h=>.inr (.inl h)) fun h=>.inl (G.fav b h),avlt:=fun b h=>?_,avS:=.inl G.avS },kind:=ek,eg:=eg,eb:=eb,dbg:=hok.dbg,cld:=hok.cld,glob:=fun x hx=>?_,kinds:=fun x hx=>?_,get:=fun x v hl hg=>?_ }
  ·rcases h with h | h | ⟨x,h⟩
   ·exact(G.k (K.of k0)).avlt b h
   ·exact⟨oL,h▸e1⟩
   ·obtain⟨o,e,_⟩:=hin.cell x b h;exact⟨o,e⟩
  ·unfold isG at hx;rw[hkind];exact eq_of_beq hx
  ·rw[hkind];refine⟨hx,?_⟩;refine ocs (sc.names.lookup x) (fun hk=>?_) fun k hk=>?_
   ·try rewrite[hk]
    rw[hk] at hx;exact bft hx
   ·try rewrite[hk]
    rw[hk] at hx;cases k with
    |cell=>exact cellOfName x hk
    |free=>exact absurd rfl (hok.nofree _ (eQ hk))
    |_=>exact bft hx
  ·obtain⟨h1,h2⟩:=rP hg;obtain⟨i,h3,h4⟩:=rH h1.symm;have hlt':i < vs.length:=by
    have:=(List.getElem?_eq_some_iff.mp h4).1;rw[hargs.len];exact this
   have h5:=List.getElem?_eq_getElem hlt';obtain⟨r,hno⟩:=hargs.at i _ _ h5 h4;refine⟨vs[i],?_,?_⟩
   ·rcases h2 with h2 | h2
    ·have hk:=kE hok.nodup h2;exact .inl ⟨by rw[hkind];exact hk,_,hin.toInCall.ns,rJ hok.anodup h3 h5 (by rw[hkind];exact hk)⟩
    ·have hk:=kE hok.nodup h2;obtain⟨c,hc⟩:=cellOfName x hk;refine .inr ⟨.inl (by rw[hkind];exact hk),c,hc,?_⟩;have:=hin.cell x c hc
     rwa [yL hok.anodup h3 h5 (by rw[hkind,hk];intro e;cases e)] at this
   ·cases v with
    |fz d=>exact(show Rep prog w s.heap av _ d from r).mono (fun b o _ e=>keep b o e) back
    |own d=>exact absurd rfl (hno d)
    |ex x=>obtain⟨e,h,r⟩:=r;exact⟨e,h,r.mono (fun b o _ e=>keep b o e) back⟩
 ·obtain⟨_,h2⟩:=rP h;rcases h2 with h2 | h2
  ·have hk:=kE hok.nodup h2;exact⟨by unfold isL;rw[hk],.inl (by rw[hkind];exact hk)⟩
  ·have hk:=kE hok.nodup h2;exact⟨by unfold isL;rw[hk],.inr ⟨by rw[hkind];exact hk,cellOfName x hk⟩⟩
end
end Mine
namespace Mine
open PySem
section
variable {prog:Program} {w:World} {mg mb:Str→Option Value} {base:Heap} {n:Nat} {hd:Bool} {l₀:List Env} {env:Env} {sc:Scope} {s₀:Shared}
theorem yM{C:Ctx}{k:Nat}{sc:Scope}{σ:aA}{e:Expr}(h:bad e=true):evE C k sc σ e=.no:=by
 cases k with
 |zero=>rfl
 |succ k=>exact xM h
theorem K4{C C':Ctx}(hK:KSound prog w mg mb base n C)(hK':KSound prog w mg mb base n C')(hc':C'.hd=true){F k:Nat}{rec:Stmt→aA→KN→KR→R V}(ih:∀ σ st,aQ prog w mg mb base n C.hd l₀ env sc s₀ σ (exec st env) (rec st σ))(σ:aA)(st:Stmt) :
  aQ prog w mg mb base n C.hd l₀ env sc s₀ σ (exec st env) (vH (evE C (k+1) sc) (evE C' (k+1) sc) F C sc rec st σ):=by
 have h:∀ σ e,aC prog w mg mb base n C.hd (env::l₀) sc σ e (evE C (k+1) sc σ e):=fun σ e=>(kB hK (k+1) sc σ e).1;have h':∀ σ e,aC prog w mg mb base n true (env::l₀) sc σ e (evE C' (k+1) sc σ e):=fun σ e=>hc'▸(kB hK' (k+1) sc σ e).1;have hbad:∀ σ e,bad e=true→evE C (k+1) sc σ e=.no:=fun σ e hb=>yM hb;cases st with
 |Return o pos =>
  cases o with
  |none=>exact fun av₀ A s av hA X _ _ _ _ _ hf hne hp hn hr he=>wpAny_Return_none (hr _ _ (.fz .none) X.k0 .none hf)
  |some e=>exact I5 fun σ=>h σ e
 |Assign ts e pos =>
  cases ts with
  |nil=>exact aQ.no
  |cons t r =>
   cases r with
   |nil=>exact Jr (rec:=evE C k) (fun _ _ _ hb=>yM hb) rfl (fun sc σ e=>kB hK k sc σ e) h
   |cons=>exact aQ.no
 |Expr e pos=>exact Js hbad h
 |If t b o pos=>exact I7 (kB hK (k+1) sc _ t).2 (kC fun st _ σ=>ih σ st) (kC fun st _ σ=>ih σ st)
 |For t it b o pos =>
  cases o with
  |nil=>exact Jv hbad h fun σ=>J5 h (fun σ e=>(kB hK (k+1) sc σ e).2) fun st _ σ=>ih σ st
  |cons=>exact aQ.no
 |Raise o c pos =>
  cases o with
  |none=>exact aQ.no
  |some e =>
   cases c with
   |none=>exact Kv hK rfl hbad h
   |some=>exact aQ.no
 |Try b hs o f pos =>
  cases o with
  |cons=>exact aQ.no
  |nil =>
   cases f with
   |cons=>exact aQ.no
   |nil =>
    show aQ prog w mg mb base n C.hd l₀ env sc s₀ σ _ fun kn kr=>match fV b with
     |some e=>(match mD hs with | some (c,x,e')=>if C.hd then .no else mE (evE C (k+1) sc) (evE C' (k+1) sc) F C sc σ e c x e' kr | none=>.no)
     |none=>.no
    cases hr:fV b with
    |none=>exact aQ.no
    |some e =>
     cases hcl:mD hs with
     |none=>exact aQ.no
     |some c =>
      obtain⟨pos1,rfl⟩:=yJ hr;obtain⟨p,pos3,pos2,rfl⟩:=Ky hcl;obtain⟨c,x,e'⟩:=c;show aQ prog w mg mb base n C.hd l₀ env sc s₀ σ _ fun kn kr=>if C.hd then .no else mE (evE C (k+1) sc) (evE C' (k+1) sc) F C sc σ e c x e' kr;cases hh:C.hd with
      |true=>exact aQ.no
      |false=>exact K0 hK (fun σ e=>hh▸h σ e) h'
 |Pass pos=>exact fun av₀ A s av hA X _ _ _ _ _ hf hne hp hn hr he=>wpAny_Pass (hn _ _ _ X (Fr.rf _ s av) hf)
 |_=>exact aQ.no
theorem K5{C C':Ctx}(hK:KSound prog w mg mb base n C)(hK':KSound prog w mg mb base n C')(hc':C'.hd=true){F j:Nat}:∀ (k:Nat) (σ:aA) (st:Stmt),aQ prog w mg mb base n C.hd l₀ env sc s₀ σ (exec st env) (evS (evE C (j+1) sc) (evE C' (j+1) sc) F C sc k st σ):=by
 intro v0
 induction v0 with
 |zero =>
  intro _ _;exact aQ.no
 |succ k ih =>
  intro σ st;exact K4 hK hK' hc' (fun σ st=>ih σ st) σ st
theorem Room.deeper{l:List Env}{A:Around}(h:Room (n+1) hd l A)(env:Env):Room n hd (env::l) (A.deeper env) where
 depth:=by have:=h.depth;show A.depth+1+n+1 < _;exact Cj this
 units:=by have:=h.units;show A.units+3+16*n+300 < _;exact Ck this
 handled:=h.handled
 guards:=h.guards
 frames:=Around.frames_deeper h.frames
theorem rR(f:Str)(h:(dP f prog.main.body).isSome=true):∃ a b sc,dP f prog.main.body=some (a,b,sc):=by
 obtain⟨⟨a,b,sc⟩,e⟩:=Option.isSome_iff_exists.mp h;exact⟨a,b,sc,e⟩
theorem yN:∀ n hd,KSound prog w mg mb base n (dE prog.main.body (run prog.main.body n hd) hd)
 |0,hd=>⟨rfl,rfl,rfl,rR,fun f us ad hf hh A l s av vs hA G hargs β k fin Q E hfin hq he=>hfin.no.elim⟩
 |n+1,hd=>by
  refine⟨rfl,rfl,rfl,rR,fun f us ad hf hh A l s av vs hA G hargs β k fin Q E hfin hq he=>?_⟩;obtain⟨a,b,sc,e⟩:=rR f hh;have ih:=yN n;replace hfin:Fin (match dP f prog.main.body with
   |none=>.no
   |some (a,b,sc) =>
    if a.args.length=us.length∧mF a sc=true then
     blk (evS (evE (dE prog.main.body (run prog.main.body n hd) hd) cS sc) (evE (dE prog.main.body (run prog.main.body n true) true) cS sc) cS (dE prog.main.body (run prog.main.body n hd) hd) sc cS) b (dU (a.args.map (·.arg)) us sc.names) (fun _=>.ok (.fz .none)) .ok
    else .no) k fin:=hfin
  rw[e] at hfin;obtain⟨⟨hlen,hfn⟩,hfin⟩:=Fin.ite hfin;have hok:=K2 hfn;obtain⟨ad',o,pm,cd,doc,g1,g2,g3,g4⟩:=G.glo.fn f a b sc e;rw[hf] at g1;cases g1;obtain⟨kwd,dfl,hpar⟩:=hok.params;refine wpAny_call (codeAny_call_cells (binds:=(a.args.map (·.arg)).zip vs) (by have:=hA.depth;exact Cl this) (G.stay _ _ g2) g3 (G.glo.nolimit.keeps G.stay) (g4.keeps G.stay) rfl (yF hpar rfl (by rw[hlen,hargs.len]) hok.anodup) rfl (fun x hx=>?_) (fun s₁ hin=>?_) hok.cor hok.gen hok.kind)
  ·obtain⟨ar,har,e⟩:=List.mem_map.mp (List.of_mem_zip hx).1;show sc.names.lookup x.1=_∨_;rw[← e];rcases hok.akind ar har with h | h
   ·exact .inl h
   ·exact .inr ⟨h,nF _ _ _ _ (eQ h)⟩
  ·obtain⟨av1,X⟩:=K3 rfl G hargs hok hin;have B:=kC (b:=b) (σ:=dU (a.args.map (·.arg)) us sc.names) (fun st _ σ=>K5 (l₀:=l) (env:=callEnvC (Calls.docDef f a b sc pm cd doc) s.heap.objs.size ad) (sc:=sc) (s₀:=s) (F:=cS) (j:=23) (ih hd) (ih true) rfl cS σ st);refine B av _ s₁ av1 (hA.deeper _) X rfl hfin.ne PassesOwn.leaving (fun s' σ' av' Z _ e1=>?_) (fun v s' u k1 r e1=>?_) fun x v s' e1 u=>?_
   ·exact hq _ _ (.fz .none) Z.k0 .none ((e1▸hfin:Fin (.ok (.fz .none)) k fin).ok)
   ·exact hq _ _ u k1 r ((e1▸hfin:Fin (.ok u) k fin).ok)
   ·refine Ks (Around.frames_deeper hA.frames) X.frm (X.fresh _ (.inl rfl)).2.1 u fun s'' fl=>he x _ _ ?_ fl;exact((e1▸hfin:Fin (.exc x) k fin).1).symm
end
end Mine
namespace Mine
open PySem
theorem yO{h:Heap}{l:List Str}:∀ {chain:List Str},mI h l chain=true→TailN h bmV l (j8 h chain):=by
 intro v0
 induction v0 with
 |nil =>
  intro _;exact .base
 |cons n r ih =>
  intro e;obtain⟨e1,e2⟩:=Bool.and_eq_true_iff.mp (show((match h.clsAt mainGlobals n with | some x=>h.isNs x.2.2.ns&&qC h x.2.2.ns l | none=>false)&&mI h l r)=true from e);refine ocs (h.clsAt mainGlobals n) (fun hc=>?_) fun x hc=>?_
  ·try rewrite[hc]
   simp only[hc] at e1;exact bft e1
  ·try rewrite[hc]
   obtain⟨a,o,cd⟩:=x;simp only[hc] at e1;obtain⟨h1,h2,h3⟩:=Heap.clsAt_spec hc;obtain⟨f1,f2⟩:=Bool.and_eq_true_iff.mp e1;obtain⟨oc,dd,dt,sl⟩:=o;obtain rfl:dt=.cls cd:=h3;show TailN h bmV l (qB h n::j8 h r);unfold qB;simp only[h1];exact .own h2 (.of_isNs f1) (fun n hn=>Option.isNone_iff_eq_none.mp (List.all_eq_true.mp f2 n hn)) (ih e2)
theorem K6{fd:FuncData}{ps:List Str}(h:qD fd ps=true):∃ sf,InitF fd sf ps:=by
 unfold qD at h;cases ha:fd.params.args with
 |nil=>rw[ha] at h;exact bft h
 |cons a r =>
  rw[ha] at h;simp only[Bool.and_eq_true,decide_eq_true_eq,Bool.not_eq_true',List.isEmpty_iff,Option.isNone_iff_eq_none] at h;obtain⟨⟨⟨⟨⟨⟨⟨⟨⟨⟨⟨⟨⟨h1,h2⟩,h3⟩,h4⟩,h5⟩,h6⟩,h7⟩,h8⟩,h9⟩,h10⟩,h11⟩,h12⟩,h13⟩,h14⟩:=h;refine⟨a.arg,?_,?_,h7,h8,h9,h10,h11,rQ h12,fun x hx=>?_,h14⟩
  ·refine⟨fd.params.args,fd.params.kw_defaults,fd.params.defaults,?_,?_⟩
   ·clear ha h5 h6;revert h1 h2 h3 h4;generalize fd.params=pr;obtain⟨po,as,va,ko,kd,kw,df⟩:=pr;intro h4 h3 h1 h2;obtain rfl:po=[]:=h1;obtain rfl:va=none:=h2;obtain rfl:ko=[]:=h3;obtain rfl:kw=none:=h4;rfl
   ·rw[ha,← h5];rfl
  ·revert h6
   cases fd.body with
   |stmts b=>exact fun h6=>⟨b,rfl,of_decide_eq_true h6⟩
   |_=>exact fun h6=>by exact bft h6
  ·have:=List.all_eq_true.mp h13 x hx;simp only[Bool.and_eq_true,decide_eq_true_eq,Bool.not_eq_true'] at this;exact this
noncomputable def kF(h:Heap)(C:Addr)(bm:List Value):Option (List Str)→Prop
 |some ps=>(∀ p∈ps,typeLookup (.type "ValueError") p=pure none)→ClsI h C bm ps
 |none=>ClsP h C bm
theorem K7{h:Heap}{chain:List Str}{ini:Option (List Str)}{c:Str}{x:Addr×Obj×ClassData}(hx:h.clsAt mainGlobals c=some x)(e:mJ h chain ini x=true):kF h x.1 (j8 h chain) ini:=by
 obtain⟨C,o,cd⟩:=x;obtain⟨h1,h2,h3⟩:=Heap.clsAt_spec hx;obtain⟨oc,dd,dt,sl⟩:=o;obtain⟨nm,bs,mro,N,q,hdct,sn,sub,ab,col,hdel⟩:=cd;unfold mJ at e;simp only[Bool.and_eq_true,decide_eq_true_eq,Bool.not_eq_true'] at e;obtain⟨⟨⟨⟨⟨⟨hcls,hmro⟩,hdl⟩,hsz⟩,hmk⟩,hns⟩,hin⟩:=e;obtain⟨l⟩:=sl;obtain⟨k0,k1,k2,k3,k5,rfl⟩:=six_places (l:=l) (by simpa using hsz) (by simpa using hmk);obtain rfl:oc=.type "type" := hcls;obtain rfl:dt=_:=h3;obtain rfl:hdel=false:=hdl;subst hmro;cases ini with
 |none =>
  obtain⟨i1,i2⟩:=Bool.and_eq_true_iff.mp hin;exact⟨N,nm,q,bs,hdct,sn,sub,ab,col,dd,k0,k1,k2,k3,k5,_,h2,.of_isNs hns,Option.isNone_iff_eq_none.mp i1,(yO i2).tail (.head _)⟩
 |some ps =>
  unfold vI at hin;simp only[Bool.and_eq_true] at hin;obtain⟨⟨⟨i1,i2⟩,i3⟩,i4⟩:=hin;obtain rfl:hdct=true:=i1
  revert i2
  cases hi:h.nsMap N "__init__" with
  |none=>exact fun i2=>by exact bft i2
  |some v =>
   cases v with
   |ref fI =>
    intro i2;replace i2:(h.get? fI).any (qE h ps)=true:=i2;refine ocs (h.get? fI) (fun ho=>?_) fun oI ho=>?_
    ·try rewrite[ho]
     rw[ho] at i2;exact bft i2
    ·try rewrite[ho]
     rw[ho] at i2;obtain⟨j1,j2⟩:=Bool.and_eq_true_iff.mp (show qE h ps oI=true from i2)
     revert j2
     cases hd:oI.data with
     |func fd =>
      intro j2;obtain⟨j2,j3⟩:=Bool.and_eq_true_iff.mp j2;obtain⟨sf,I⟩:=K6 j3;exact fun hB=>⟨N,nm,q,bs,sn,sub,ab,col,dd,k0,k1,k2,k3,k5,_,fI,oI,fd,sf,h2,.of_isNs hns,hi,fun n hn=>Option.isNone_iff_eq_none.mp (List.all_eq_true.mp i3 n hn),yO i4,ho,of_decide_eq_true j1,hd,.of_ok j2,I,hB⟩
     |_=>exact fun j2=>by exact bft j2
   |_=>exact fun i2=>by exact bft i2
end Mine
namespace Mine
open PySem PySem.W PyProof.Rows
theorem rT{c:Str}{p:Str×Option (List Str)}{body:List Stmt}(h:bG c body=some p):c∈j9 body:=by
 induction body with
 |nil=>exact ns h
 |cons s r ih =>
  have skip:bG c r=some p→c∈j9 (s::r):=fun h=>by
   obtain⟨q,hq,e⟩:=List.mem_filterMap.mp (ih h);exact List.mem_filterMap.mpr ⟨q,List.mem_cons_of_mem _ hq,e⟩
  replace h:(match sv s with | .cls n bs b=>if c=n then (match eB bs with | some [y]=>some (y,u8 b) | _=>none) else bG c r | _=>bG c r)=some p:=h;cases e:sv s with
  |cls n bs b =>
   rw[e] at h
   by_cases x:c=n
   ·exact List.mem_filterMap.mpr ⟨s,List.mem_cons_self,by show(match sv s with | .cls n _ _=>some n | _=>none)=_;rw[e,x]⟩
   ·exact skip ((if_neg x).symm.trans (show(if c=n then _ else bG c r)=some p from h))
  |_=>rw[e] at h;exact skip h
noncomputable def iT(body:List Stmt)(mg:Str→Option Value)(h:Heap):Prop :=
 ∀ c p,bG c body=some p→∃ C bm,mg c=some (.ref C)∧kF h C bm p.2∧∀ d q D,bG d body=some q→mg d=some (.ref D)→(Value.ref C::bm).contains (.ref D)=fS body 4 c d
theorem K8{α:Type}{o:Option α}{p:α→Bool}(h:o.any p=true):∃ x,o=some x∧p x=true:=by
 cases o with
 |none=>exact bft h
 |some x=>exact⟨x,rfl,h⟩
theorem K9{h:Heap}{body:List Stmt}(e:qF h body=true):iT body (h.nsMap mainGlobals) h:=fun c p hc=>by
 have e1:=List.all_eq_true.mp e c (rT hc);rw[hc] at e1;obtain⟨x,hx,e2⟩:=K8 (show(h.clsAt mainGlobals c).any (fun x=>mJ h (mH body 4 c) p.2 x&&vJ h body c x.1)=true from e1);obtain⟨e3,e4⟩:=Bool.and_eq_true_iff.mp e2;refine⟨x.1,_,(Heap.clsAt_spec hx).1,K7 hx e3,fun d q D hd hD=>?_⟩;have e5:=List.all_eq_true.mp e4 d (rT hd);rw[hD] at e5;exact of_decide_eq_true e5
theorem kF.keeps{h h':Heap}{C:Addr}{bm:List Value}(hk:∀ b o,h.get? b=some o→h'.get? b=some o):∀ {ini:Option (List Str)},kF h C bm ini→kF h' C bm ini
 |none,x=>by
  obtain⟨N,nm,q,bs,hdct,sn,sub,ab,col,dd,k0,k1,k2,k3,k5,mN,hC,hN,hni,T⟩:=x;exact⟨N,nm,q,bs,hdct,sn,sub,ab,col,dd,k0,k1,k2,k3,k5,mN,hk _ _ hC,hN.keeps hk,hni,T.keeps hk⟩
 |some ps,x=>fun hB=>by
  obtain⟨N,nm,q,bs,sn,sub,ab,col,dd,k0,k1,k2,k3,k5,mN,fI,oI,fd,sf,hC,hN,hi,hn,T,ho,hfc,hfd,hcd,I,hB⟩:=x hB;exact⟨N,nm,q,bs,sn,sub,ab,col,dd,k0,k1,k2,k3,k5,mN,fI,oI,fd,sf,hk _ _ hC,hN.keeps hk,hi,hn,T.keeps hk,hk _ _ ho,hfc,hfd,hcd.keeps hk,I,hB⟩
theorem iT.keeps{body:List Stmt}{mg:Str→Option Value}{h h':Heap}(x:iT body mg h)(hk:∀ b o,h.get? b=some o→h'.get? b=some o):iT body mg h' :=
 fun c p e=>by obtain⟨C,bm,h1,h2,h3⟩:=x c p e;exact⟨C,bm,h1,h2.keeps hk,h3⟩
noncomputable def yP(body:List Stmt):Prop:=∀ c b ps,bG c body=some (b,some ps)→∀ p∈ps,typeLookup (.type "ValueError") p=pure none
noncomputable def nG(f:Str):List DefRec→Option (Arguments×List Stmt×Scope)
 | []=>none
 |d::r=>if f=d.name then some (d.params,d.body,d.scope) else nG f r
theorem La{f:Str}{a:Arguments}{b:List Stmt}{sc:Scope}:∀ {l:List DefRec},nG f l=some (a,b,sc)→∃ d∈l,d.name=f∧d.params=a∧d.body=b∧d.scope=sc
 := by
 intro l
 induction l with
 |nil=>intro h;exact ns h
 |cons d r ih =>
  intro h;replace h:(if f=d.name then some (d.params,d.body,d.scope) else nG f r)=some (a,b,sc):=h
  by_cases e:f=d.name
  ·rw[if_pos e] at h;cases h;exact⟨d,List.mem_cons_self,e.symm,rfl,rfl,rfl⟩
  ·rw[if_neg e] at h;obtain⟨d',h1,h2⟩:=ih h;exact⟨d',List.mem_cons_of_mem _ h1,h2⟩
noncomputable def rU:List Str:=["isinstance", "len", "all", "sorted", "abs", "min", "repr", "list", "tuple", "dict", "set", "int", "str", "bool", "range", "enumerate", "reversed"]
theorem Lb{l:List (Str×Value)}{x:Str}{v:Value}(h:l.lookup x=some v):(x,v)∈l:=by
 induction l with
 |nil=>exact ns h
 |cons p r ih =>
  rw[List.lookup_cons] at h
  by_cases e:x=p.1
  ·rw[e,beq_self_eq_true] at h;obtain rfl:=si h;rw[e];exact List.mem_cons_self
  ·rw[beq_false_of_ne e] at h;exact List.mem_cons_of_mem _ (ih h)
theorem Lc:∀ p∈qI,p.1∈rU∧bootBuiltins p.1=some p.2∧p.1 ≠ "__name__" := by
 unfold qI
 iterate 17 (refine List.forall_mem_cons.mpr ⟨⟨by decide,by kernel_rfl,by decide⟩,?_⟩)
 exact fun _ h=>cL h
theorem Ld{x:Str}{v:Value}(h:iN x=some v):x∈rU∧bootBuiltins x=some v∧x ≠ "__name__" := Lc _ (Lb h)
noncomputable def yQ(body:List Stmt):List Str:=body.filterMap fun s=>(u7 s).map (·.1)
theorem Le{body:List Stmt}{x:Str}{d:PyData}(h:gJ body x=some d):x∈yQ body∧x ≠ "__name__" := by
 by_cases hx:x = "__name__"
 ·exact ns ((if_pos hx).symm.trans h)
 ·obtain⟨s,hs,he⟩:=List.exists_of_findSome?_eq_some ((if_neg hx).symm.trans h);obtain⟨p,e1,e2⟩:=Option.bind_eq_some_iff.mp he
  by_cases e:x=p.1
  ·exact⟨List.mem_filterMap.mpr ⟨s,hs,by rw[e1,e];rfl⟩,hx⟩
  ·exact ns ((if_neg e).symm.trans e2)
noncomputable def cE1(d e:PyData):Bool:=match d with
 | .int a=>(match e with | .int b=>a==b | _=>false)
 | .str a=>(match e with | .str b=>a==b&&decide (a.length≤aV) | _=>false)
 |_=>false
noncomputable def cEq(o q:Option PyData):Bool:=match o with
 |none=>true
 |some d=>(match q with | some e=>cE1 d e | none=>false)
theorem Lf{o:Option PyData}{d:PyData}(h:cEq (some d) o=true):o=some d∧((∃ i,d=.int i)∨∃ s,d=.str s∧s.length≤aV):=by
 cases o with
 |none=>exact bft h
 |some e =>
  replace h:cE1 d e=true:=h;cases d with
  |int a =>
   cases e with
   |int b=>obtain rfl:=eq_of_beq (show(a==b)=true from h);exact⟨rfl,.inl ⟨_,rfl⟩⟩
   |_=>exact bft h
  |str a =>
   cases e with
   |str b =>
    obtain⟨h1,h2⟩:=Bool.and_eq_true_iff.mp (show(a==b&&decide (a.length≤aV))=true from h);obtain rfl:=eq_of_beq h1;exact⟨rfl,.inr ⟨_,rfl,of_decide_eq_true h2⟩⟩
   |_=>exact bft h
  |_=>exact bft h
theorem Lg{p prog:Program}{w:World}{loose:List Str}{mean:ExcName→Option Value}{mg mb:Str→Option Value}{h:Heap}(T:Top p loose mean mg mb h)(X:iT prog.main.body mg h)(hB:yP prog.main.body)
  (hfn:∀ f,dP f prog.main.body=nG f (recsOf p)) (hc:((yQ prog.main.body).all fun x=>cEq (gJ prog.main.body x) (valOf p x))=true)
  (hfree:(rU.all fun x=>!startupNames.contains x&&!loose.contains x&&!((recsOf p).map (·.name)).contains x&&!((litsOf p).map (·.1)).contains x&&!((clssOf p loose).map (·.name)).contains x)=true) (himp:importsNone p=true) :
  Glo prog w mg mb h where
 g:=T.g
 b:=T.b
 nolimit:=T.nolimit
 mods:=by
  obtain⟨mm,hm,_⟩:=(T.seer himp).mods;exact⟨mm,hm⟩
 fn:=fun f a b sc e=>by
  rw[hfn] at e;obtain⟨d,hd,h1,h2,h3,h4⟩:=La e;obtain⟨ad,o,pm,code,doc,g1,g2,g3,g4⟩:=T.fn d hd;subst h1;subst h2;subst h3;subst h4;exact⟨ad,o,pm,code,doc,g1,g2,g3,g4⟩
 const:=fun x d e=>by
  obtain⟨h1,h2⟩:=Le e;have:=List.all_eq_true.mp hc x h1;rw[e] at this;obtain⟨h3,h4⟩:=Lf this;obtain⟨v,h5,h6⟩:=T.const x d h3;refine⟨v,h5,fun h' av=>?_⟩;have r:=h6 h';rcases h4 with ⟨i,rfl⟩ | ⟨s,rfl,hl⟩
  ·cases r;exact .int _ _
  ·cases r;exact .str _ _ hl
 blt:=fun x v e=>by
  obtain⟨h1,h2,h3⟩:=Ld e;have:=List.all_eq_true.mp hfree x h1;simp only[Bool.and_eq_true,Bool.not_eq_true',List.contains_eq_mem,decide_eq_false_iff_not] at this;obtain⟨⟨⟨⟨q1,q2⟩,q3⟩,q4⟩,q5⟩:=this;exact⟨T.free x q1 q2 q3 q4 q5,(T.builtins x h3).trans h2⟩
 cls:=fun c p e=>by
  obtain⟨C,bm,h1,h2,h3⟩:=X c p e;refine⟨C,bm,h1,?_,h3⟩;obtain⟨b,ini⟩:=p;cases ini with
  |none=>exact ClsP.ok h2
  |some ps=>exact ClsI.ok T.nolimit (h2 (hB c b ps e))
theorem Lh{P:Params}{h:Heap}:∀ {vs:List Value} {ns:List Int},WellAll P h vs (ofPys (ns.map .int))→vs.length=ns.length∧∀ (i:Nat) (v:Value) (d:PyData),vs[i]?=some v→(ns.map PyData.int)[i]?=some d→∃ k t,v=.int k t∧d=.int k
 := by
 intro vs
 induction vs with
 |nil =>
  intro ns hw;cases ns with
  |nil=>exact⟨rfl,fun i v d e=>nomatch e⟩
  |cons n ns=>exact nomatch (show WellAll P h [] (WData.int n::ofPys (ns.map .int)) from hw)
 |cons v vs ih =>
  intro ns hw;cases ns with
  |nil=>exact nomatch (show WellAll P h (v::vs) [] from hw)
  |cons n ns =>
   cases (show WellAll P h (v::vs) (WData.int n::ofPys (ns.map .int)) from hw) with
   |cons h1 h2 =>
    obtain⟨g1,g2⟩:=ih h2;refine⟨congrArg Nat.succ g1,fun i u d e1 e2=>?_⟩;cases i with
    |zero =>
     obtain rfl:=si e1;obtain rfl:=si e2;cases h1;exact⟨_,_,rfl,rfl⟩
    |succ i=>exact g2 i u d e1 e2
theorem Lj{prog:Program}{w:World}{mg mb:Str→Option Value}{s₁:Shared}{fa l:Addr}{ns:List Int}{N:Nat}{Q:Value→Shared→Prop}{E:Value→Shared→Prop}(GL:Glo prog w mg mb s₁.heap)(hmg:mg (Str.ofString "law")=some (.ref fa))
  (hw:Well w.params s₁.heap (.ref l) (ofPy (.list (ns.map .int)))) (hn:ns.length≤63) (hf:(dP (Str.ofString "law") prog.main.body).isSome=true) (hN:N≤400)
  (hrun:run prog.main.body N false (Str.ofString "law") [.fz (.list (ns.map .int))]=.ok (.fz (.bool true))) (hq:∀ s',Kp s₁ s'→Q (.bool true) s'):wpAny (model prog w) callerA (call (.ref fa) [.ref l]) Q E s₁:=by
 have hw:Well w.params s₁.heap (.ref l) (.list (ofPys (ns.map .int))):=hw;cases hw with
 | @list _ vs _ h1 h2 =>
  obtain⟨g1,g2⟩:=Lh h2;obtain⟨mm,hm⟩:=GL.mods;have hne:¬ l=sysModules:=fun e=>by
   obtain⟨o,es,ep,e1,e2,_⟩:=hm;rw[← e,h1] at e1;obtain rfl:=si e1;cases e2
  have rep:Rep prog w s₁.heap (fun b=>b=sysModules) (.ref l) (.list (ns.map .int)):=by
   refine .list hne ⟨_,h1⟩ (by simp[g1]) ?_ fun i v d e1 e2=>?_
   ·have:sizeLine=16777216:=rfl;exact Cm hn g1 this
   ·obtain⟨k,t,rfl,rfl⟩:=g2 i v d e1 e2;exact .int k t
  have room:Room N false [] callerA:=by
   refine⟨?_,?_,fun _=>rfl,rfl,rfl⟩
   ·have:callerA.depth+400+1 < recursionLimit:=by decide
    exact Cn hN this
   ·have:callerA.units+16*400+300 < cLine:=by decide
    exact Co hN this
  have G:Gnd prog w mg mb s₁.heap [] (fun b=>b=sysModules) s₁:=⟨GL,fun _ _ e=>e,trivial,fun b f=>(nomatch f),fun b hb=>by
   obtain⟨o,es,ep,e1,_⟩:=hm;exact⟨o,hb▸e1⟩,rfl⟩
  refine(yN (prog:=prog) (w:=w) (mg:=mg) (mb:=mb) (base:=s₁.heap) N false).call (Str.ofString "law") [.fz (.list (ns.map .int))] fa hmg hf callerA [] s₁ (fun b=>b=sysModules) [.ref l] room G ⟨⟨rep,nofun⟩,trivial⟩ (k:=R.ok) (fin:=.ok (.fz (.bool true))) ⟨by rw[show(dE prog.main.body (run prog.main.body N false) false).call (Str.ofString "law") [.fz (.list (ns.map .int))]=_ from hrun];rfl,nofun⟩ (fun v s' u k r e=>?_) fun x v s' e _=>by cases e
  cases e;have:=Rep.bool_inv r;subst this;obtain⟨h,t,rfl,k1,_⟩:=k;exact hq _ ⟨h,t,rfl,fun b o e=>k1 b o (fun f=>nomatch f) e⟩
end Mine
namespace Mine
open PySem
noncomputable def gS(B:List Stmt)(f:Str):Scope:=match dP f B with | some (_,_,sc)=>sc | none=>⟨.function,[],false,false,[]⟩
noncomputable def aN(B:List Stmt)(f:Str):List Stmt:=match dP f B with | some (_,b,_)=>b | none=>[]
noncomputable def tv:Stmt→List Stmt×Expr
 | .If t b _ _=>(b,t)
 | .For t _ b _ _=>(b,t)
 | .Assign ts _ _=>([],ts.head?.getD (.Name Str.empty ⟨0,0,0,0⟩))
 |_=>([],.Name Str.empty ⟨0,0,0,0⟩)
noncomputable def Vm(l:List Stmt):List Stmt:=l.head?.elim [] fun s=>(tv s).1
noncomputable def bX(l:List Stmt):List Stmt:=l.head?.elim [] fun s=>(tv s).1
noncomputable def Lk(l:List Stmt):Expr:=l.head?.elim (.Name Str.empty ⟨0,0,0,0⟩) fun s=>(tv s).2
noncomputable def cJ(l:List Stmt):Expr:=l.head?.elim (.Name Str.empty ⟨0,0,0,0⟩) fun s=>(tv s).2
noncomputable def stm(B:List Stmt)(f:Str)(n k:Nat):List Stmt→aA→KN→KR→R V :=
 blk (evS (evE (dE B (run B n false) false) cS (gS B f)) (evE (dE B (run B n true) true) cS (gS B f)) cS (dE B (run B n false) false) (gS B f) k)
noncomputable def Ll(B:List Stmt)(f:Str)(n k:Nat):List Stmt→aA→KN→KR→R V :=
 gK (evE (dE B (run B n false) false) cS (gS B f)) cS (evS (evE (dE B (run B n false) false) cS (gS B f)) (evE (dE B (run B n true) true) cS (gS B f)) cS (dE B (run B n false) false) (gS B f) k)
noncomputable def yR(E:R V)(xo:PyData)(I C E' I' J:R V)(kn:PyData→R V):R V :=
 rb E fun v=>rb (ofP (bW v)) fun d=>rb (ofP (fU xo)) fun l=>if l.length < aV then
  rb I fun iv=>rb (ofP (j5 (dOf iv))) fun k=>rb (tst C) fun b =>
   if b then rb E' fun v'=>rb I' fun iv'=>rb (ofP (j5 (dOf iv'))) fun k'=>if k'=k then rb J fun jv=>rb (ofP (setItem d (dOf jv) (dOf v'))) fun d'=>kn (.dict (bY l k d')) else .no
   else kn (.dict (bY l k d))
 else .no
noncomputable def aB(op:Operator)(a b:R V):R V:=rb a fun a=>rb b fun b=>ofP (aH op (dOf a) (dOf b))
noncomputable def unS(op:UnaryOp)(a:R V):R V:=rb a fun v=>ofP (eJ op v)
noncomputable def aY(a b:R V):R V:=rb a fun v=>rb (ofP (cV v)) fun c=>if c then b else .ok v
noncomputable def orS(a b:R V):R V:=rb a fun v=>rb (ofP (cV v)) fun c=>if c then .ok v else b
noncomputable def eS(t a b:R V):R V:=rb (tst t) fun c=>if c then a else b
noncomputable def aD(a:R V)(op:CmpOp)(b:R V):R V:=rb a fun a=>aS (rb b fun v=>ofP (cmp op (dOf a) (dOf v)))
noncomputable def iU(a:R V)(op:CmpOp)(b:R V)(op':CmpOp)(c:R V):R V:=rb a fun a=>aS (rb b fun v=>rb (ofP (cmp op (dOf a) (dOf v))) fun t=>if t then (rb c fun w=>ofP (cmp op' (dOf v) (dOf w))) else .ok false)
noncomputable def dW:List (R V)→R (List V)
 | []=>.ok []
 |e::r=>rb e fun v=>rb (dW r) fun vs=>.ok (v.clear::vs)
noncomputable def bR(l:List (R V)):R V:=rb (dW l) fun l=>if l.length≤aV then .ok (.own (.list (bP l))) else .no
noncomputable def aX(l:List (R V)):R V:=rb (dW l) fun l=>if l.length≤aV then .ok (.fz (.tuple (bP l))) else .no
noncomputable def yS:List (R V×R V)→R (List (PyData×PyData))
 | []=>.ok []
 |p::r=>rb p.1 fun k=>rb p.2 fun v=>rb (yS r) fun r=>.ok ((dOf k,dOf v)::r)
noncomputable def fY(l:List (R V×R V)):R V:=rb (yS l) fun l=>ofP (iG l)
noncomputable def aJ(a:R PyData)(i:R V):R V:=rb a fun a=>rb i fun i=>ofP (getItem a (dOf i))
noncomputable def nH:Option (R V)→R (Option Int)
 |none=>.ok none
 |some e=>rb e fun v=>ofP (toI v)
noncomputable def iV(a:R PyData)(lo hi:Option (R V)):R V:=rb a fun a=>rb (nH lo) fun lo=>rb (nH hi) fun hi=>ofP (jP a lo hi)
noncomputable def yT(m:Str)(o:R V)(as:List (R V)):R V:=rb o fun o=>if mOk m (dOf o) then rb (dW as) fun as=>ofP (fC (dOf o) (bP as)) else .no
noncomputable def rV(t:Str)(a:R V):R V:=rb a fun v=>ofP (lW t (dOf v))
noncomputable def aK(f:PyData→P V)(a:R V):R V:=rb a fun v=>ofP (f (dOf v))
noncomputable def Vn(as:List (R V)):R V:=rb (dW as) fun vs=>ofP (lV vs)
noncomputable def aG(f:List V→R V)(as:List (R V)):R V:=rb (dW as) fun vs=>f vs
noncomputable def aL(it:R (List PyData))(t:PyData→R Bool)(e:PyData→R V):R V:=rb (rb it fun l=>aU t e l) fun r=>ofP (own (.list r))
noncomputable def plI(e:R V):R (List PyData):=rb e fun v=>ofP (items (dOf v))
noncomputable def rgI(e:R V):R (List PyData):=rb e fun v=>ofP ((gI v).bind uS)
noncomputable def enI(e:R V):R (List PyData):=rb e fun v=>ofP ((pE (dOf v)).bind fun l=>.ok (eA 0 l))
noncomputable def rvI(e:R V):R (List PyData):=rb e fun v=>ofP (uT (dOf v))
noncomputable def b9(v:V):R PyData:=match (match v with | .own d=>some d | _=>none) with
 |some d=>.ok d
 |none=>rb (ofP (rdv v)) fun v=>.ok (dOf v)
noncomputable def cA(v:V):R V:=match (match v with | .ex d=>some d | _=>none) with
 |some x=>.ok (.ex x)
 |none=>ofP (rdv v)
noncomputable def cB(e:R V):R PyData:=rb e fun v=>.ok (dOf v)
noncomputable def nI(v:V)(kr:V→R V):R V:=match (match v with | .own d=>some d | _=>none) with
 |some d=>kr (.own d)
 |none=>rb (ofP (rdv v)) kr
noncomputable def ifS(t:R V)(a b:R V):R V:=rb (tst t) fun c=>if c then a else b
noncomputable def bC(x:R V)(X:R PyData)(I:R V)(k:PyData→R V):R V:=rb x fun v=>rb X fun o=>rb I fun iv=>rb (ofP (setItem o (dOf iv) (dOf v))) k
noncomputable def dA(X:R PyData)(m:Str)(as:List (R V))(k:PyData→R V):R V:=rb X fun o=>if iL m o then rb (dW as) fun as'=>rb (ofP (dJ m o (bP as'))) k else .no
noncomputable def yU(ps:List Str)(c:Str)(as:List (R V)):R V:=rb (dW as) fun vs=>if ps.length=vs.length then .exc ⟨c,ps.zip (bP vs)⟩ else .no
noncomputable def yV(c:Str)(as:List (R V)):R V:=rb (dW as) fun vs=>if vs.length=1 then .exc ⟨c,[]⟩ else .no
noncomputable def Vo(B:List Stmt)(c:Str)(a h:R V)(kr:V→R V):R V:=match a with
 | .no=>.no
 | .ok v=>kr v
 | .exc y=>match fE B y.cls c with
  |some true=>rb (nx h) kr
  |_=>.no
noncomputable def rW(B:List Stmt)(c:Str)(a:R V)(h:X→R V)(kr:V→R V):R V:=match a with
 | .no=>.no
 | .ok v=>kr v
 | .exc y=>match fE B y.cls c with
  |some true=>rb (nx (h y)) kr
  |_=>.no
noncomputable def iW(B:List Stmt)(x:X)(m:Str):R V:=ofP ((ofO ((bG x.cls B).map (·.2))).bind fun i=>(ofO i).bind fun ps=>if ps.contains m=true then (ofO (jZ x.fields m)).bind fun d=>.ok (.fz d) else .no)
end Mine
namespace Mine
open PySem
noncomputable def BB:List Stmt:=PySem.Challenge.rw_uf010037_15.prog.main.body
end Mine
namespace Mine
open PySem
noncomputable abbrev so(x:String):Str:=Str.ofString x
noncomputable abbrev ζ(d:PyData):Option V:=some (.fz d)
noncomputable abbrev rn(n:Nat)(f:String)(vs:List V):R V:=run BB n false (Str.ofString f) vs
end Mine
namespace Mine
open PySem
variable (n:Nat) (a1 a2 a3 a4 a5 a6 a7 x1 x2 x3 x4 x5 x6 x7 x8 x9 x10 x11 x12 x13 x14 x15 x16 x17 x18 x19 d0 d1 d2 d3 d4 d5:PyData) (w1 w2 w3 w4 w5 w6 w7 w8 w9 w10 w11 w12 w13 w14 w15 w16 w17 w18 w19:V) (o1 o2 o3 o4 o5 o6 o7 o8 o9 o10 o11 o12 o13 o14 o15 o16 o17 o18 o19 p0 p1 p2 p3 p4 p5 p6 p7 p8 p9 p10 p11 p12 p13 p14 p15 p16 p17 p18 p19:Option V) (kn:KN) (kr:KR)
theorem Lm:rn (n+1) "is_name" [.fz a1]=(ifS (orS (unS .Not (.ok (.fz (.bool (pA a1))))) (unS .Not (iU (.ok (.fz (.int 1))) .LtE (ofP (bO a1)) .LtE (.ok (.fz (.int 8)))))) (R.ok (.fz (.bool false))) (rb (aK cE (aL (ofP (items a1)) (fun d1=>(.ok true)) (fun d1=>(aS (ofP (cmp .In d1 (.str (so "abcdefghijklmnopqrstuvwxyz")))))))) R.ok)):=by kernel_rfl
theorem Ln:rn (n+1) "is_whole" [.fz a1]=(rb (aY (.ok (.fz (.bool (fB a1)))) (unS .Not (.ok (.fz (.bool (fO a1)))))) R.ok):=by kernel_rfl
theorem rX:rn (n+1) "is_tree" [.fz a1]=(ifS (rn n "is_whole" [.fz a1]) (R.ok (.fz (.bool true))) (ifS (unS .Not (.ok (.fz (.bool (cD a1))))) (R.ok (.fz (.bool false))) (rb (aK cE (aL (ofP (items a1)) (fun d1=>(.ok true)) (fun d1=>(aY (rn n "is_name" [.fz d1]) (aG (rn n "is_tree") [(ofP (getItem a1 d1))]))))) R.ok))):=by kernel_rfl
theorem Lo:rn (n+1) "all_branches" [.fz a1]=(rb (aY (.ok (.fz (.bool (cD a1)))) (aK cE (aL (ofP (items a1)) (fun d1=>(.ok true)) (fun d1=>(rV (so "dict") (ofP (getItem a1 d1))))))) R.ok):=by kernel_rfl
noncomputable def gT(o0 o1 o2:Option V):aA:=[((so "tree"),o0),((so "found"),o1),((so "name"),o2)]
noncomputable def rY(n:Nat)(σ:aA)(kn:KN)(kr:KR):R V:=stm BB (so "copied") n 23 (bX (List.drop 2 (aN BB (so "copied")))) σ kn kr
noncomputable def rZ:Expr:=cJ (List.drop 2 (aN BB (so "copied")))
noncomputable def yW(n:Nat)(σ:aA)(kn:KN)(kr:KR):R V:=stm BB (so "copied") n 24 (List.drop 3 (aN BB (so "copied"))) σ kn kr
theorem r6:rn (n+1) "copied" [.fz a1]=(ifS (unS .Not (.ok (.fz (.bool (cD a1))))) (R.ok (.fz a1)) (rb (ofP (items a1)) fun l1=>aP (rY n) rZ l1 (gT (ζ a1) (some (.own (.dict []))) none) (fun σ=>yW n σ (fun _=>R.ok (.fz .none)) R.ok) R.ok)):=by kernel_rfl
theorem Lp:aT rZ d0 (gT p0 p1 p2)=.ok (gT p0 p1 (ζ d0)):=by kernel_rfl
theorem Lq:rY n (gT (ζ x1) (some (.own x2)) (ζ d0)) kn kr=(bC (aG (rn n "copied") [(ofP (getItem x1 d0))]) (.ok x2) (.ok (.fz d0)) fun o1=>(kn (gT (ζ x1) (some (.own o1)) (ζ d0)))):=by kernel_rfl
theorem Lr:yW n (gT (ζ x1) (some (.own x2)) o3) kn kr=(kr (.own x2)):=by kernel_rfl
theorem Ls:rn (n+1) "is_beside" [.fz a1]=(ifS (orS (unS .Not (.ok (.fz (.bool (lL a1))))) (unS .Not (iU (.ok (.fz (.int 1))) .LtE (ofP (bO a1)) .LtE (.ok (.fz (.int 6)))))) (R.ok (.fz (.bool false))) (ifS (unS .Not (aK cE (aL (ofP (items a1)) (fun d1=>(.ok true)) (fun d1=>(rn n "is_row" [.fz d1]))))) (R.ok (.fz (.bool false))) (rb (aL (ofP (items a1)) (fun d2=>(.ok true)) (fun d2=>(ofP (getItem d2 (.int 0))))) fun v3=>(rb (aL (ofP (items a1)) (fun d4=>(.ok true)) (fun d4=>(ofP (getItem d4 (.int 1))))) fun v5=>(rb (aY (aD (aK dT (ofP (rdv (V.clear v3)))) .Eq (ofP (bO a1))) (aD (aK dT (ofP (rdv (V.clear v5)))) .Eq (ofP (bO a1)))) R.ok))))):=by kernel_rfl
theorem Lu:rn (n+1) "are_fields" [.fz a1]=(ifS (orS (unS .Not (.ok (.fz (.bool (lL a1))))) (unS .Not (iU (.ok (.fz (.int 1))) .LtE (ofP (bO a1)) .LtE (.ok (.fz (.int 6)))))) (R.ok (.fz (.bool false))) (rb (aY (aK cE (aL (ofP (items a1)) (fun d1=>(.ok true)) (fun d1=>(rn n "is_name" [.fz d1])))) (aD (aK dT (.ok (.fz a1))) .Eq (ofP (bO a1)))) R.ok)):=by kernel_rfl
theorem Lv:rn (n+1) "are_two_names" [.fz a1,.fz a2]=(rb (aY (rn n "is_name" [.fz a1]) (aY (rn n "is_name" [.fz a2]) (aS (ofP (cmp .NotEq a1 a2))))) R.ok):=by kernel_rfl
theorem Lw:rn (n+1) "is_least" [.fz a1]=(rb (aY (rn n "is_whole" [.fz a1]) (aD (ofP (pB a1)) .Lt (ofP (aH .Pow (.int 10) (.int 30))))) R.ok):=by kernel_rfl
theorem Lx:rn (n+1) "need_view" [.fz a1]=(ifS (unS .Not (rn n "is_view" [.fz a1])) (yV (so "BadView") [(.ok (.fz (.str (so "no view"))))]) (R.ok (.fz .none))):=by kernel_rfl
theorem Ly:rn (n+1) "has_part" [.fz a1,.fz a2]=(rb (aY (.ok (.fz (.bool (cD a1)))) (aS (ofP (cmp .In a2 a1)))) R.ok):=by kernel_rfl
theorem Lz:rn (n+1) "is_sifted" [.fz a1,.fz a2,.fz a3]=(rb (aY (aS (ofP (cmp .In a2 a1))) (aY (aG (rn n "is_whole") [(ofP (getItem a1 a2))]) (aD (ofP (getItem a1 a2)) .GtE (.ok (.fz a3))))) R.ok):=by kernel_rfl
noncomputable def dL(o0 o1 o2 o3 o4:Option V):aA:=[((so "view"),o0),((so "tree"),o1),((so "one"),o2),((so "other"),o3),((so "key"),o4)]
noncomputable def r8(n:Nat)(σ:aA)(kn:KN)(kr:KR):R V:=stm BB (so "fits_join") n 23 (bX (List.drop 4 (aN BB (so "fits_join")))) σ kn kr
noncomputable def sA:Expr:=cJ (List.drop 4 (aN BB (so "fits_join")))
noncomputable def yX(n:Nat)(σ:aA)(kn:KN)(kr:KR):R V:=stm BB (so "fits_join") n 24 (List.drop 5 (aN BB (so "fits_join"))) σ kn kr
theorem L0:rn (n+1) "fits_join" [.fz a1,.fz a2]=(ifS (orS (unS .Not (aG (rn n "has_part") [(.ok (.fz a2)),(ofP (getItem a1 (.int 1)))])) (unS .Not (aG (rn n "has_part") [(.ok (.fz a2)),(ofP (getItem a1 (.int 2)))]))) (R.ok (.fz (.bool false))) (rb (aJ (.ok a2) (ofP (getItem a1 (.int 1)))) fun v1=>(rb (aJ (.ok a2) (ofP (getItem a1 (.int 2)))) fun v2=>(ifS (orS (unS .Not (aG (rn n "all_branches") [(cA (V.clear v1))])) (unS .Not (aG (rn n "all_branches") [(cA (V.clear v2))]))) (R.ok (.fz (.bool false))) (rb (plI (ofP (rdv (V.clear (V.clear v1))))) fun l3=>aP (r8 n) sA l3 (dL (ζ a1) (ζ a2) (some (V.clear (V.clear v1))) (some (V.clear v2)) none) (fun σ=>yX n σ (fun _=>R.ok (.fz .none)) R.ok) R.ok))))):=by kernel_rfl
theorem L3:aT sA d0 (dL p0 p1 p2 p3 p4)=.ok (dL p0 p1 p2 p3 (ζ d0)):=by kernel_rfl
theorem L4:r8 n (dL (ζ x1) (ζ x2) (some w3) (some w4) (ζ d0)) kn kr=(ifS (aD (aL (plI (aJ (b9 w3) (.ok (.fz d0)))) (fun d1=>(tst (aD (.ok (.fz d1)) .NotIn (ofP (getItem x1 (.int 3)))))) (fun d1=>(.ok (.fz d1)))) .NotEq (.ok (.own (.list [])))) (kr (.fz (.bool false))) (kn (dL (ζ x1) (ζ x2) (some w3) (some w4) (ζ d0)))):=by kernel_rfl
noncomputable def sB(n:Nat)(σ:aA)(kn:KN)(kr:KR):R V:=stm BB (so "fits_join") n 23 (bX (List.drop 5 (aN BB (so "fits_join")))) σ kn kr
noncomputable def sE:Expr:=cJ (List.drop 5 (aN BB (so "fits_join")))
noncomputable def yY(n:Nat)(σ:aA)(kn:KN)(kr:KR):R V:=stm BB (so "fits_join") n 24 (List.drop 6 (aN BB (so "fits_join"))) σ kn kr
theorem L5:yX n (dL (ζ x1) (ζ x2) (some w3) (some w4) o5) kn kr=(rb (plI (ofP (rdv (V.clear w4)))) fun l1=>aP (sB n) sE l1 (dL (ζ x1) (ζ x2) (some w3) (some (V.clear w4)) o5) (fun σ=>yY n σ kn kr) kr):=by kernel_rfl
theorem L6:aT sE d0 (dL p0 p1 p2 p3 p4)=.ok (dL p0 p1 p2 p3 (ζ d0)):=by kernel_rfl
theorem L7:sB n (dL (ζ x1) (ζ x2) (some w3) (some w4) (ζ d0)) kn kr=(ifS (aD (aL (plI (aJ (b9 w4) (.ok (.fz d0)))) (fun d1=>(tst (aD (.ok (.fz d1)) .In (ofP (getItem x1 (.int 3)))))) (fun d1=>(.ok (.fz d1)))) .NotEq (.ok (.own (.list [])))) (kr (.fz (.bool false))) (kn (dL (ζ x1) (ζ x2) (some w3) (some w4) (ζ d0)))):=by kernel_rfl
theorem L8:yY n (dL (ζ x1) (ζ x2) (some w3) (some w4) o5) kn kr=(kr (.fz (.bool true))):=by kernel_rfl
noncomputable def fZ(o0 o1 o2 o3:Option V):aA:=[((so "view"),o0),((so "tree"),o1),((so "found"),o2),((so "name"),o3)]
noncomputable def sF(n:Nat)(σ:aA)(kn:KN)(kr:KR):R V:=stm BB (so "shown_call") n 23 (bX (List.drop 2 (aN BB (so "shown_call")))) σ kn kr
noncomputable def sG:Expr:=cJ (List.drop 2 (aN BB (so "shown_call")))
noncomputable def yZ(n:Nat)(σ:aA)(kn:KN)(kr:KR):R V:=stm BB (so "shown_call") n 24 (List.drop 3 (aN BB (so "shown_call"))) σ kn kr
theorem L9:rn (n+1) "shown_call" [.fz a1,.fz a2]=(rb (aG (rn n "need_fit") [(aY (aG (rn n "has_part") [(.ok (.fz a2)),(ofP (getItem a1 (.int 1)))]) (aD (ofP (getItem a1 (.int 2))) .NotIn (.ok (.fz a2))))]) fun _=>(rb (ofP (items a2)) fun l1=>aP (sF n) sG l1 (fZ (ζ a1) (ζ a2) (some (.own (.dict []))) none) (fun σ=>yZ n σ (fun _=>R.ok (.fz .none)) R.ok) R.ok)):=by kernel_rfl
theorem Ma:aT sG d0 (fZ p0 p1 p2 p3)=.ok (fZ p0 p1 p2 (ζ d0)):=by kernel_rfl
theorem Mb:sF n (fZ (ζ x1) (ζ x2) (some (.own x3)) (ζ d0)) kn kr=(ifS (aD (.ok (.fz d0)) .Eq (ofP (getItem x1 (.int 1)))) (bC (ofP (getItem x2 d0)) (.ok x3) (ofP (getItem x1 (.int 2))) fun o1=>(kn (fZ (ζ x1) (ζ x2) (some (.own o1)) (ζ d0)))) (bC (ofP (getItem x2 d0)) (.ok x3) (.ok (.fz d0)) fun o2=>(kn (fZ (ζ x1) (ζ x2) (some (.own o2)) (ζ d0))))):=by kernel_rfl
theorem Mc:yZ n (fZ (ζ x1) (ζ x2) (some (.own x3)) o4) kn kr=(kr (.own x3)):=by kernel_rfl
noncomputable def gU(o0 o1 o2 o3 o4 o5:Option V):aA:=[((so "view"),o0),((so "tree"),o1),((so "found"),o2),((so "name"),o3),((so "part"),o4),((so "inner"),o5)]
noncomputable def kG(n:Nat)(σ:aA)(kn:KN)(kr:KR):R V:=stm BB (so "shown_beside") n 23 (bX (List.drop 1 (aN BB (so "shown_beside")))) σ kn kr
noncomputable def kH:Expr:=cJ (List.drop 1 (aN BB (so "shown_beside")))
noncomputable def y5(n:Nat)(σ:aA)(kn:KN)(kr:KR):R V:=stm BB (so "shown_beside") n 24 (List.drop 2 (aN BB (so "shown_beside"))) σ kn kr
theorem Md:rn (n+1) "shown_beside" [.fz a1,.fz a2]=(rb (plI (ofP (getItem a1 (.int 1)))) fun l1=>aP (kG n) kH l1 (gU (ζ a1) (ζ a2) (some (.own (.dict []))) none none none) (fun σ=>y5 n σ (fun _=>R.ok (.fz .none)) R.ok) R.ok):=by kernel_rfl
theorem Me:aT kH (.tuple [d0,d1,d2]) (gU p0 p1 p2 p3 p4 p5)=.ok (gU p0 p1 p2 (ζ d0) (ζ d1) (ζ d2)):=by kernel_rfl
theorem Mf:kG n (gU (ζ x1) (ζ x2) (some (.own x3)) (ζ d0) (ζ d1) (ζ d2)) kn kr=(rb (aG (rn n "need_fit") [(rn n "has_part" [.fz x2,.fz d1])]) fun _=>(bC (aG (rn n "shown") [(.ok (.fz d2)),(ofP (getItem x2 d1))]) (.ok x3) (.ok (.fz d0)) fun o1=>(kn (gU (ζ x1) (ζ x2) (some (.own o1)) (ζ d0) (ζ d1) (ζ d2))))):=by kernel_rfl
theorem Mg:y5 n (gU (ζ x1) (ζ x2) (some (.own x3)) o4 o5 o6) kn kr=(kr (.own x3)):=by kernel_rfl
noncomputable def eC(o0 o1 o2 o3:Option V):aA:=[((so "view"),o0),((so "tree"),o1),((so "found"),o2),((so "key"),o3)]
noncomputable def nJ(n:Nat)(σ:aA)(kn:KN)(kr:KR):R V:=stm BB (so "shown_sift") n 23 (bX (List.drop 2 (aN BB (so "shown_sift")))) σ kn kr
noncomputable def nK:Expr:=cJ (List.drop 2 (aN BB (so "shown_sift")))
noncomputable def y6(n:Nat)(σ:aA)(kn:KN)(kr:KR):R V:=stm BB (so "shown_sift") n 24 (List.drop 3 (aN BB (so "shown_sift"))) σ kn kr
theorem Mh:rn (n+1) "shown_sift" [.fz a1,.fz a2]=(rb (aG (rn n "need_fit") [(rn n "all_branches" [.fz a2])]) fun _=>(rb (ofP (items a2)) fun l1=>aP (nJ n) nK l1 (eC (ζ a1) (ζ a2) (some (.own (.dict []))) none) (fun σ=>y6 n σ (fun _=>R.ok (.fz .none)) R.ok) R.ok)):=by kernel_rfl
theorem Mi:aT nK d0 (eC p0 p1 p2 p3)=.ok (eC p0 p1 p2 (ζ d0)):=by kernel_rfl
theorem Mj:nJ n (eC (ζ x1) (ζ x2) (some (.own x3)) (ζ d0)) kn kr=(ifS (aG (rn n "is_sifted") [(ofP (getItem x2 d0)),(ofP (getItem x1 (.int 1))),(ofP (getItem x1 (.int 2)))]) (bC (ofP (getItem x2 d0)) (.ok x3) (.ok (.fz d0)) fun o1=>(kn (eC (ζ x1) (ζ x2) (some (.own o1)) (ζ d0)))) (kn (eC (ζ x1) (ζ x2) (some (.own x3)) (ζ d0)))):=by kernel_rfl
theorem Ml:y6 n (eC (ζ x1) (ζ x2) (some (.own x3)) o4) kn kr=(kr (.own x3)):=by kernel_rfl
noncomputable def eD(o0 o1 o2 o3 o4 o5 o6:Option V):aA:=[((so "view"),o0),((so "tree"),o1),((so "one"),o2),((so "other"),o3),((so "found"),o4),((so "key"),o5),((so "row"),o6)]
noncomputable def nL(n:Nat)(σ:aA)(kn:KN)(kr:KR):R V:=stm BB (so "shown_join") n 23 (bX (List.drop 4 (aN BB (so "shown_join")))) σ kn kr
noncomputable def nN:Expr:=cJ (List.drop 4 (aN BB (so "shown_join")))
noncomputable def y7(n:Nat)(σ:aA)(kn:KN)(kr:KR):R V:=stm BB (so "shown_join") n 24 (List.drop 5 (aN BB (so "shown_join"))) σ kn kr
theorem Mm:rn (n+1) "shown_join" [.fz a1,.fz a2]=(rb (aG (rn n "need_fit") [(rn n "fits_join" [.fz a1,.fz a2])]) fun _=>(rb (aJ (.ok a2) (ofP (getItem a1 (.int 1)))) fun v1=>(rb (aJ (.ok a2) (ofP (getItem a1 (.int 2)))) fun v2=>(rb (plI (ofP (rdv (V.clear v1)))) fun l3=>aP (nL n) nN l3 (eD (ζ a1) (ζ a2) (some (V.clear v1)) (some v2) (some (.own (.dict []))) none none) (fun σ=>y7 n σ (fun _=>R.ok (.fz .none)) R.ok) R.ok)))):=by kernel_rfl
theorem Mo:aT nN d0 (eD p0 p1 p2 p3 p4 p5 p6)=.ok (eD p0 p1 p2 p3 p4 (ζ d0) p6):=by kernel_rfl
theorem Mp:nL n (eD (ζ x1) (ζ x2) (some w3) (some w4) (some (.own x5)) (ζ d0) o7) kn kr=(ifS (aD (.ok (.fz d0)) .In (ofP (rdv (V.clear w4)))) (rb (aK bV (aJ (b9 w3) (.ok (.fz d0)))) fun v1=>(dA (ofP (bW v1)) (so "update") [(aJ (b9 (V.clear w4)) (.ok (.fz d0)))] fun o2=>(bC (.ok (.fz o2)) (.ok x5) (.ok (.fz d0)) fun o3=>(kn (eD (ζ x1) (ζ x2) (some w3) (some (V.clear w4)) (some (.own o3)) (ζ d0) (ζ o2)))))) (kn (eD (ζ x1) (ζ x2) (some w3) (some (V.clear w4)) (some (.own x5)) (ζ d0) o7))):=by kernel_rfl
theorem Mq:y7 n (eD (ζ x1) (ζ x2) (some w3) (some w4) (some (.own x5)) o6 o7) kn kr=(kr (.own x5)):=by kernel_rfl
noncomputable def gV(o0 o1 o2 o3:Option V):aA:=[((so "view"),o0),((so "tree"),o1),((so "found"),o2),((so "name"),o3)]
noncomputable def sH(n:Nat)(σ:aA)(kn:KN)(kr:KR):R V:=stm BB (so "shown_each") n 23 (bX (List.drop 2 (aN BB (so "shown_each")))) σ kn kr
noncomputable def sI:Expr:=cJ (List.drop 2 (aN BB (so "shown_each")))
noncomputable def y8(n:Nat)(σ:aA)(kn:KN)(kr:KR):R V:=stm BB (so "shown_each") n 24 (List.drop 3 (aN BB (so "shown_each"))) σ kn kr
theorem Mr:rn (n+1) "shown_each" [.fz a1,.fz a2]=(rb (rn n "need_fit" [.fz (.bool (cD a2))]) fun _=>(rb (ofP (items a2)) fun l1=>aP (sH n) sI l1 (gV (ζ a1) (ζ a2) (some (.own (.dict []))) none) (fun σ=>y8 n σ (fun _=>R.ok (.fz .none)) R.ok) R.ok)):=by kernel_rfl
theorem Ms:aT sI d0 (gV p0 p1 p2 p3)=.ok (gV p0 p1 p2 (ζ d0)):=by kernel_rfl
theorem Mt:sH n (gV (ζ x1) (ζ x2) (some (.own x3)) (ζ d0)) kn kr=(bC (aG (rn n "shown") [(ofP (getItem x1 (.int 1))),(ofP (getItem x2 d0))]) (.ok x3) (.ok (.fz d0)) fun o1=>(kn (gV (ζ x1) (ζ x2) (some (.own o1)) (ζ d0)))):=by kernel_rfl
theorem Mu:y8 n (gV (ζ x1) (ζ x2) (some (.own x3)) o4) kn kr=(kr (.own x3)):=by kernel_rfl
theorem Mv:rn (n+1) "need_tree" [.fz a1]=(ifS (unS .Not (rn n "is_tree" [.fz a1])) (yV (so "BadTree") [(.ok (.fz (.str (so "no tree"))))]) (R.ok (.fz .none))):=by kernel_rfl
theorem Mw:rn (n+1) "need_put" [.fz a1,.fz a2,.fz a3,.fz a4]=(ifS (unS .Not (.ok (.fz a1))) (yU [(so "way"),(so "kind"),(so "part")] (so "BadPut") [(.ok (.fz a2)),(.ok (.fz a3)),(rn n "copied" [.fz a4])]) (R.ok (.fz .none))):=by kernel_rfl
noncomputable def f0(o0 o1 o2 o3 o4:Option V):aA:=[((so "view"),o0),((so "new"),o1),((so "way"),o2),((so "found"),o3),((so "name"),o4)]
noncomputable def sJ(n:Nat)(σ:aA)(kn:KN)(kr:KR):R V:=stm BB (so "put_call") n 23 (bX (List.drop 2 (aN BB (so "put_call")))) σ kn kr
noncomputable def sK:Expr:=cJ (List.drop 2 (aN BB (so "put_call")))
noncomputable def y9(n:Nat)(σ:aA)(kn:KN)(kr:KR):R V:=stm BB (so "put_call") n 24 (List.drop 3 (aN BB (so "put_call"))) σ kn kr
theorem Mx:rn (n+1) "put_call" [.fz a1,.fz a2,.fz a3]=(rb (aG (rn n "need_put") [(aY (.ok (.fz (.bool (cD a2)))) (aY (aD (ofP (getItem a1 (.int 2))) .In (.ok (.fz a2))) (aD (ofP (getItem a1 (.int 1))) .NotIn (.ok (.fz a2))))),(.ok (.fz a3)),(.ok (.fz (.str (so "form")))),(.ok (.fz a2))]) fun _=>(rb (ofP (items a2)) fun l1=>aP (sJ n) sK l1 (f0 (ζ a1) (ζ a2) (ζ a3) (some (.own (.dict []))) none) (fun σ=>y9 n σ (fun _=>R.ok (.fz .none)) R.ok) R.ok)):=by kernel_rfl
theorem My:aT sK d0 (f0 p0 p1 p2 p3 p4)=.ok (f0 p0 p1 p2 p3 (ζ d0)):=by kernel_rfl
theorem Mz:sJ n (f0 (ζ x1) (ζ x2) (ζ x3) (some (.own x4)) (ζ d0)) kn kr=(ifS (aD (.ok (.fz d0)) .Eq (ofP (getItem x1 (.int 2)))) (bC (ofP (getItem x2 d0)) (.ok x4) (ofP (getItem x1 (.int 1))) fun o1=>(kn (f0 (ζ x1) (ζ x2) (ζ x3) (some (.own o1)) (ζ d0)))) (bC (ofP (getItem x2 d0)) (.ok x4) (.ok (.fz d0)) fun o2=>(kn (f0 (ζ x1) (ζ x2) (ζ x3) (some (.own o2)) (ζ d0))))):=by kernel_rfl
theorem M0:y9 n (f0 (ζ x1) (ζ x2) (ζ x3) (some (.own x4)) o5) kn kr=(kr (.own x4)):=by kernel_rfl
noncomputable def f6(o0 o1 o2 o3 o4 o5 o6 o7 o8:Option V):aA:=[((so "view"),o0),((so "old"),o1),((so "new"),o2),((so "way"),o3),((so "names"),o4),((so "found"),o5),((so "name"),o6),((so "part"),o7),((so "inner"),o8)]
noncomputable def eT(n:Nat)(σ:aA)(kn:KN)(kr:KR):R V:=stm BB (so "put_beside") n 23 (bX (List.drop 3 (aN BB (so "put_beside")))) σ kn kr
noncomputable def eU:Expr:=cJ (List.drop 3 (aN BB (so "put_beside")))
noncomputable def zA(n:Nat)(σ:aA)(kn:KN)(kr:KR):R V:=stm BB (so "put_beside") n 24 (List.drop 4 (aN BB (so "put_beside"))) σ kn kr
theorem M1:rn (n+1) "put_beside" [.fz a1,.fz a2,.fz a3,.fz a4]=(rb (aL (plI (ofP (getItem a1 (.int 1)))) (fun d1=>(.ok true)) (fun d1=>(ofP (getItem d1 (.int 0))))) fun v2=>(rb (aG (rn n "need_put") [(aY (.ok (.fz (.bool (cD a3)))) (aD (ofP (cG a3)) .Eq (aK cG (ofP (rdv (V.clear v2)))))),(.ok (.fz a4)),(.ok (.fz (.str (so "form")))),(.ok (.fz a3))]) fun _=>(rb (ofP (bV a2)) fun v3=>(rb (plI (ofP (getItem a1 (.int 1)))) fun l4=>aP (eT n) eU l4 (f6 (ζ a1) (ζ a2) (ζ a3) (ζ a4) (some (V.clear v2)) (some v3) none none none) (fun σ=>zA n σ (fun _=>R.ok (.fz .none)) R.ok) R.ok)))):=by kernel_rfl
theorem M2:aT eU (.tuple [d0,d1,d2]) (f6 p0 p1 p2 p3 p4 p5 p6 p7 p8)=.ok (f6 p0 p1 p2 p3 p4 p5 (ζ d0) (ζ d1) (ζ d2)):=by kernel_rfl
theorem M3:eT n (f6 (ζ x1) (ζ x2) (ζ x3) (ζ x4) (some w5) (some w6) (ζ d0) (ζ d1) (ζ d2)) kn kr=(bC (aG (rn n "put_back") [(.ok (.fz d2)),(ofP (getItem x2 d1)),(ofP (getItem x3 d0)),(aB .Add (.ok (.fz x4)) (bR [(.ok (.fz d0))]))]) (ofP (bW w6)) (.ok (.fz d1)) fun o1=>(kn (f6 (ζ x1) (ζ x2) (ζ x3) (ζ x4) (some w5) (some (.own o1)) (ζ d0) (ζ d1) (ζ d2)))):=by kernel_rfl
theorem M4:zA n (f6 (ζ x1) (ζ x2) (ζ x3) (ζ x4) (some w5) (some w6) o7 o8 o9) kn kr=(nI w6 kr):=by kernel_rfl
noncomputable def gW(o0 o1 o2 o3 o4 o5 o6 o7:Option V):aA:=[((so "view"),o0),((so "old"),o1),((so "new"),o2),((so "way"),o3),((so "key"),o4),((so "good"),o5),((so "hidden"),o6),((so "found"),o7)]
noncomputable def sL(n:Nat)(σ:aA)(kn:KN)(kr:KR):R V:=stm BB (so "put_sift") n 23 (bX (List.drop 5 (aN BB (so "put_sift")))) σ kn kr
noncomputable def sM:Expr:=cJ (List.drop 5 (aN BB (so "put_sift")))
noncomputable def zB(n:Nat)(σ:aA)(kn:KN)(kr:KR):R V:=stm BB (so "put_sift") n 24 (List.drop 6 (aN BB (so "put_sift"))) σ kn kr
theorem M5:rn (n+1) "put_sift" [.fz a1,.fz a2,.fz a3,.fz a4]=(rb (aY (rn n "all_branches" [.fz a3]) (aK cE (aL (ofP (items a3)) (fun d1=>(.ok true)) (fun d1=>(aG (rn n "is_sifted") [(ofP (getItem a3 d1)),(ofP (getItem a1 (.int 1))),(ofP (getItem a1 (.int 2)))]))))) fun v2=>(rb (aG (rn n "need_put") [(cA (V.clear v2)),(.ok (.fz a4)),(.ok (.fz (.str (so "form")))),(.ok (.fz a3))]) fun _=>(rb (aL (ofP (items a2)) (fun d3=>(tst (unS .Not (aG (rn n "is_sifted") [(ofP (getItem a2 d3)),(ofP (getItem a1 (.int 1))),(ofP (getItem a1 (.int 2)))])))) (fun d3=>(.ok (.fz d3)))) fun v4=>(rb (aG (rn n "need_put") [(aD (aL (ofP (items a3)) (fun d6=>(tst (aD (.ok (.fz d6)) .In (ofP (rdv (V.clear v4)))))) (fun d6=>(.ok (.fz d6)))) .Eq (.ok (.own (.list [])))),(.ok (.fz a4)),(.ok (.fz (.str (so "hidden")))),(.ok (.fz a3))]) fun _=>(rb (plI (ofP (rdv (V.clear (V.clear v4))))) fun l7=>aP (sL n) sM l7 (gW (ζ a1) (ζ a2) (ζ a3) (ζ a4) none (some (V.clear v2)) (some (V.clear (V.clear v4))) (some (.own (.dict [])))) (fun σ=>zB n σ (fun _=>R.ok (.fz .none)) R.ok) R.ok))))):=by kernel_rfl
theorem M6:aT sM d0 (gW p0 p1 p2 p3 p4 p5 p6 p7)=.ok (gW p0 p1 p2 p3 (ζ d0) p5 p6 p7):=by kernel_rfl
theorem M7:sL n (gW (ζ x1) (ζ x2) (ζ x3) (ζ x4) (ζ d0) (some w6) (some w7) (some (.own x8))) kn kr=(bC (ofP (getItem x2 d0)) (.ok x8) (.ok (.fz d0)) fun o1=>(kn (gW (ζ x1) (ζ x2) (ζ x3) (ζ x4) (ζ d0) (some w6) (some w7) (some (.own o1))))):=by kernel_rfl
theorem M8:zB n (gW (ζ x1) (ζ x2) (ζ x3) (ζ x4) o5 (some w6) (some w7) (some (.own x8))) kn kr=(dA (.ok x8) (so "update") [(.ok (.fz x3))] fun o1=>(kr (.own o1))):=by kernel_rfl
noncomputable def gX(o0 o1 o2 o3 o4 o5 o6 o7 o8 o9 o10:Option V):aA:=[((so "view"),o0),((so "old"),o1),((so "new"),o2),((so "way"),o3),((so "one"),o4),((so "other"),o5),((so "key"),o6),((so "left"),o7),((so "right"),o8),((so "row"),o9),((so "found"),o10)]
noncomputable def sN(n:Nat)(σ:aA)(kn:KN)(kr:KR):R V:=stm BB (so "put_join") n 23 (bX (List.drop 6 (aN BB (so "put_join")))) σ kn kr
noncomputable def sO:Expr:=cJ (List.drop 6 (aN BB (so "put_join")))
noncomputable def zC(n:Nat)(σ:aA)(kn:KN)(kr:KR):R V:=stm BB (so "put_join") n 24 (List.drop 7 (aN BB (so "put_join"))) σ kn kr
theorem M9:rn (n+1) "put_join" [.fz a1,.fz a2,.fz a3,.fz a4]=(rb (aG (rn n "need_put") [(rn n "all_branches" [.fz a3]),(.ok (.fz a4)),(.ok (.fz (.str (so "form")))),(.ok (.fz a3))]) fun _=>(rb (aJ (.ok a2) (ofP (getItem a1 (.int 1)))) fun v1=>(rb (aJ (.ok a2) (ofP (getItem a1 (.int 2)))) fun v2=>(rb (aG (rn n "need_put") [(aD (aL (ofP (items a3)) (fun d4=>(tst (aD (aD (.ok (.fz d4)) .In (ofP (rdv (V.clear v1)))) .NotEq (aD (.ok (.fz d4)) .In (ofP (rdv (V.clear v2))))))) (fun d4=>(.ok (.fz d4)))) .Eq (.ok (.own (.list [])))),(.ok (.fz a4)),(.ok (.fz (.str (so "hidden")))),(.ok (.fz a3))]) fun _=>(rb (aK bV (aL (plI (ofP (rdv (V.clear (V.clear v1))))) (fun d5=>(tst (aD (.ok (.fz d5)) .NotIn (ofP (rdv (V.clear (V.clear v2))))))) (fun d5=>(aX [(.ok (.fz d5)),(aJ (b9 (V.clear (V.clear v1))) (.ok (.fz d5)))])))) fun v6=>(rb (aK bV (aL (plI (ofP (rdv (V.clear (V.clear (V.clear v2)))))) (fun d7=>(tst (aD (.ok (.fz d7)) .NotIn (ofP (rdv (V.clear (V.clear (V.clear v1)))))))) (fun d7=>(aX [(.ok (.fz d7)),(aJ (b9 (V.clear (V.clear (V.clear v2)))) (.ok (.fz d7)))])))) fun v8=>(rb (ofP (items a3)) fun l9=>aP (sN n) sO l9 (gX (ζ a1) (ζ a2) (ζ a3) (ζ a4) (some (V.clear (V.clear (V.clear v1)))) (some (V.clear (V.clear (V.clear v2)))) none (some v6) (some v8) none none) (fun σ=>zC n σ (fun _=>R.ok (.fz .none)) R.ok) R.ok))))))):=by kernel_rfl
theorem Na:aT sO d0 (gX p0 p1 p2 p3 p4 p5 p6 p7 p8 p9 p10)=.ok (gX p0 p1 p2 p3 p4 p5 (ζ d0) p7 p8 p9 p10):=by kernel_rfl
theorem Nb:sN n (gX (ζ x1) (ζ x2) (ζ x3) (ζ x4) (some w5) (some w6) (ζ d0) (some w8) (some w9) o10 none) kn kr=(rb (ofP (getItem x3 d0)) fun v1=>(bC (aK bV (aL (plI (ofP (rdv (V.clear v1)))) (fun d2=>(tst (aD (.ok (.fz d2)) .In (ofP (getItem x1 (.int 3)))))) (fun d2=>(aX [(.ok (.fz d2)),(aJ (b9 (V.clear v1)) (.ok (.fz d2)))])))) (ofP (bW w8)) (.ok (.fz d0)) fun o3=>(bC (aK bV (aL (plI (ofP (rdv (V.clear (V.clear v1))))) (fun d4=>(tst (aD (.ok (.fz d4)) .NotIn (ofP (getItem x1 (.int 3)))))) (fun d4=>(aX [(.ok (.fz d4)),(aJ (b9 (V.clear (V.clear v1))) (.ok (.fz d4)))])))) (ofP (bW w9)) (.ok (.fz d0)) fun o5=>(kn (gX (ζ x1) (ζ x2) (ζ x3) (ζ x4) (some w5) (some w6) (ζ d0) (some (.own o3)) (some (.own o5)) (some (V.clear (V.clear v1))) none))))):=by kernel_rfl
theorem Nc:zC n (gX (ζ x1) (ζ x2) (ζ x3) (ζ x4) (some w5) (some w6) o7 (some w8) (some w9) o10 none) kn kr=(rb (ofP (bV x2)) fun v1=>(bC (ofP (rdv (V.clear w8))) (ofP (bW v1)) (ofP (getItem x1 (.int 1))) fun o2=>(bC (ofP (rdv (V.clear w9))) (.ok o2) (ofP (getItem x1 (.int 2))) fun o3=>(kr (.own o3))))):=by kernel_rfl
noncomputable def fL(o0 o1 o2 o3 o4 o5:Option V):aA:=[((so "view"),o0),((so "old"),o1),((so "new"),o2),((so "way"),o3),((so "found"),o4),((so "name"),o5)]
noncomputable def nO(n:Nat)(σ:aA)(kn:KN)(kr:KR):R V:=stm BB (so "put_each") n 23 (bX (List.drop 3 (aN BB (so "put_each")))) σ kn kr
noncomputable def nP:Expr:=cJ (List.drop 3 (aN BB (so "put_each")))
noncomputable def zD(n:Nat)(σ:aA)(kn:KN)(kr:KR):R V:=stm BB (so "put_each") n 24 (List.drop 4 (aN BB (so "put_each"))) σ kn kr
theorem Nd:rn (n+1) "put_each" [.fz a1,.fz a2,.fz a3,.fz a4]=(rb (rn n "need_put" [.fz (.bool (cD a3)),.fz a4,.fz (.str (so "form")),.fz a3]) fun _=>(rb (aG (rn n "need_put") [(aD (ofP (cG a3)) .Eq (ofP (cG a2))),(.ok (.fz a4)),(.ok (.fz (.str (so "names")))),(.ok (.fz a3))]) fun _=>(rb (plI (ofP (cG a3))) fun l1=>aP (nO n) nP l1 (fL (ζ a1) (ζ a2) (ζ a3) (ζ a4) (some (.own (.dict []))) none) (fun σ=>zD n σ (fun _=>R.ok (.fz .none)) R.ok) R.ok))):=by kernel_rfl
theorem Nf:aT nP d0 (fL p0 p1 p2 p3 p4 p5)=.ok (fL p0 p1 p2 p3 p4 (ζ d0)):=by kernel_rfl
theorem Ng:nO n (fL (ζ x1) (ζ x2) (ζ x3) (ζ x4) (some (.own x5)) (ζ d0)) kn kr=(bC (aG (rn n "put_back") [(ofP (getItem x1 (.int 1))),(ofP (getItem x2 d0)),(ofP (getItem x3 d0)),(aB .Add (.ok (.fz x4)) (bR [(.ok (.fz d0))]))]) (.ok x5) (.ok (.fz d0)) fun o1=>(kn (fL (ζ x1) (ζ x2) (ζ x3) (ζ x4) (some (.own o1)) (ζ d0)))):=by kernel_rfl
theorem Nh:zD n (fL (ζ x1) (ζ x2) (ζ x3) (ζ x4) (some (.own x5)) o6) kn kr=(kr (.own x5)):=by kernel_rfl
theorem Ni:rn (n+1) "put" [.fz a1,.fz a2,.fz a3]=(rb (rn n "need_view" [.fz a1]) fun _=>(rb (rn n "need_tree" [.fz a2]) fun _=>(rb (rn n "shown" [.fz a1,.fz a2]) fun _=>(rb (rn n "need_tree" [.fz a3]) fun _=>(rb (aG (rn n "copied") [(rn n "put_back" [.fz a1,.fz a2,.fz a3,.fz (.list [])])]) R.ok))))):=by kernel_rfl
theorem Nj:rn (n+1) "_law_cell_at" [.fz a1,.fz a2]=(ifS (aD (.ok (.fz a2)) .Lt (ofP (bO a1))) (rb (ofP (getItem a1 a2)) R.ok) (R.ok (.fz (.int 0)))):=by kernel_rfl
theorem Nk:rn (n+1) "_law_name" [.fz a1,.fz a2]=(rb (aB .Add (.ok (.fz (.int 1))) (ofP (aH .Mod a1 (.int 8)))) fun v1=>(rb (aL (rgI (.ok (.fz (.int 8)))) (fun d2=>(.ok true)) (fun d2=>(aJ (.ok (.str (so "abcdefghijklmnopqrstuvwxyz"))) (aB .Mod (aB .Add (ofP (aH .FloorDiv a1 (.int 8))) (ofP (aH .Mult (.int 5) d2))) (.ok (.fz (.int 26))))))) fun v3=>(ifS (aD (aB .Mod (ofP (aH .FloorDiv a1 (.int 1664))) (.ok (.fz (.int 3)))) .Eq (.ok (.fz (.int 1)))) (bC (aJ (.ok (.str (so "abcdefghijklmnopqrstuvwxyz"))) (aB .Mod (aB .Add (ofP (aH .FloorDiv a1 (.int 8))) (ofP (aH .FloorDiv a2 (.int 8)))) (.ok (.fz (.int 26))))) (ofP (bW v3)) (.ok (.fz (.int 0))) fun o4=>(rb (yT (so "join") (.ok (.fz (.str (so "")))) [(iV (.ok o4) none (some (aB .Add (.ok (.fz (.int 1))) (ofP (aH .Mod a2 (.int 8))))))]) R.ok)) (bC (aJ (.ok (.str (so "abcdefghijklmnopqrstuvwxyz"))) (aB .Mod (aB .Add (aB .Add (ofP (aH .FloorDiv a1 (.int 8))) (.ok (.fz (.int 7)))) (.ok (.fz a2))) (.ok (.fz (.int 26))))) (ofP (bW v3)) (aB .Mod (ofP (aH .FloorDiv a1 (.int 208))) (ofP (rdv v1))) fun o5=>(rb (yT (so "join") (.ok (.fz (.str (so "")))) [(iV (.ok o5) none (some (ofP (rdv (V.clear v1)))))]) R.ok))))):=by kernel_rfl
theorem Nl:rn (n+1) "_law_names" [.fz a1]=(rb (aL (rgI (.ok (.fz (.int 14)))) (fun d1=>(.ok true)) (fun d1=>(aG (rn n "_law_name") [(rn n "_law_cell_at" [.fz a1,.fz (.int 0)]),(.ok (.fz d1))]))) R.ok):=by kernel_rfl
theorem Nm:rn (n+1) "_law_number" [.fz a1]=(ifS (aD (ofP (aH .Mod a1 (.int 5))) .Eq (.ok (.fz (.int 4)))) (rb (aB .Add (aJ (cB (bR [(ofP (aH .Pow (.int 10) (.int 20))),(unS .USub (ofP (aH .Pow (.int 10) (.int 20)))),(ofP (aH .Pow (.int 10) (.int 12))),(.ok (.fz (.int 0)))])) (aB .Mod (ofP (aH .FloorDiv a1 (.int 5))) (.ok (.fz (.int 4))))) (aB .Mod (ofP (aH .FloorDiv a1 (.int 20))) (.ok (.fz (.int 3))))) R.ok) (ifS (aD (ofP (aH .Mod a1 (.int 5))) .Eq (.ok (.fz (.int 3)))) (rb (aB .Sub (aB .Mod (aB .Mult (ofP (aH .FloorDiv a1 (.int 5))) (.ok (.fz (.int 48271)))) (.ok (.fz (.int 2000003)))) (.ok (.fz (.int 1000001)))) R.ok) (ifS (aD (ofP (aH .Mod a1 (.int 15))) .Eq (.ok (.fz (.int 2)))) (rb (aB .Mult (aK dS (aB .Mult (.ok (.fz (.str (so "37")))) (aB .Add (.ok (.fz (.int 1))) (aB .Mod (ofP (aH .FloorDiv a1 (.int 15))) (.ok (.fz (.int 14))))))) (aB .Sub (.ok (.fz (.int 1))) (aB .Mult (aB .Mod (ofP (aH .FloorDiv a1 (.int 210))) (.ok (.fz (.int 2)))) (.ok (.fz (.int 2)))))) R.ok) (rb (aB .Sub (aB .Mod (ofP (aH .FloorDiv a1 (.int 5))) (.ok (.fz (.int 9)))) (.ok (.fz (.int 4)))) R.ok)))):=by kernel_rfl
theorem kI:rn (n+1) "_law_copy" [.fz a1]=(ifS (.ok (.fz (.bool (cD a1)))) (rb (aK bV (aL (ofP (items a1)) (fun d1=>(.ok true)) (fun d1=>(aX [(.ok (.fz d1)),(aG (rn n "_law_copy") [(ofP (getItem a1 d1))])])))) R.ok) (R.ok (.fz a1))):=by kernel_rfl
theorem sP:rn (n+1) "_law_same" [.fz a1,.fz a2]=(ifS (.ok (.fz (.bool (cD a2)))) (ifS (orS (unS .Not (.ok (.fz (.bool (cD a1))))) (aD (aK cG (ofP (dI a1))) .NotEq (aK cG (ofP (dI a2))))) (R.ok (.fz (.bool false))) (rb (aK cE (aL (ofP (items a2)) (fun d1=>(.ok true)) (fun d1=>(aG (rn n "_law_same") [(ofP (getItem a1 d1)),(ofP (getItem a2 d1))])))) R.ok)) (rb (aY (.ok (.fz (.bool (fB a1)))) (aY (unS .Not (.ok (.fz (.bool (fO a1))))) (aS (ofP (cmp .Eq a1 a2))))) R.ok)):=by kernel_rfl
theorem Nn:rn (n+1) "_law_other" [.fz a1,.fz a2,.fz a3]=(rb (ofP (aH .Mod a2 (.int 8))) fun v1=>(rb (ofP (aH .FloorDiv a2 (.int 8))) fun v2=>(ifS (aD (ofP (rdv (V.clear v1))) .Eq (.ok (.fz (.int 0)))) (rb (rn n "_law_copy" [.fz a1]) R.ok) (ifS (orS (unS .Not (.ok (.fz (.bool (cD a1))))) (aY (aD (ofP (rdv (V.clear (V.clear v1)))) .Eq (.ok (.fz (.int 1)))) (aD (aB .Mod (ofP (rdv (V.clear v2))) (.ok (.fz (.int 3)))) .Eq (.ok (.fz (.int 0)))))) (rb (aJ (cB (bR [(aG (rn n "_law_number") [(cA (V.clear (V.clear v2)))]),(.ok (.own (.dict []))),(fY [((aJ (.ok a3) (aB .Mod (ofP (rdv (V.clear (V.clear v2)))) (.ok (.fz (.int 14))))),(.ok (.fz (.int 1))))])])) (aB .Mod (aB .FloorDiv (ofP (rdv (V.clear (V.clear v2)))) (.ok (.fz (.int 14)))) (.ok (.fz (.int 3))))) R.ok) (rb (rn n "_law_copy" [.fz a1]) fun v3=>(rb (aK cG (ofP (dI a1))) fun v4=>(ifS (orS (aD (ofP (rdv (V.clear (V.clear (V.clear v1))))) .Eq (.ok (.fz (.int 2)))) (aD (ofP (rdv (V.clear v4))) .Eq (.ok (.own (.list []))))) (rb (fY [((ofP (getItem a3 (.int 5))),(aB .Sub (aB .Mod (ofP (rdv (V.clear (V.clear v2)))) (.ok (.fz (.int 9)))) (.ok (.fz (.int 2))))),((ofP (getItem a3 (.int 7))),(aB .Sub (aB .Mod (aB .FloorDiv (ofP (rdv (V.clear (V.clear v2)))) (.ok (.fz (.int 9)))) (.ok (.fz (.int 9)))) (.ok (.fz (.int 2))))),((ofP (getItem a3 (.int 6))),(.ok (.fz (.int 2)))),((ofP (getItem a3 (.int 8))),(.ok (.fz (.int 3))))]) fun v5=>(rb (aJ (.ok a3) (aJ (cB (bR [(aB .Add (.ok (.fz (.int 9))) (aB .Mod (aB .FloorDiv (ofP (rdv (V.clear (V.clear (V.clear v2))))) (.ok (.fz (.int 81)))) (.ok (.fz (.int 4))))),(aB .Mod (aB .FloorDiv (ofP (rdv (V.clear (V.clear (V.clear v2))))) (.ok (.fz (.int 81)))) (.ok (.fz (.int 14))))])) (aB .Mod (ofP (rdv (V.clear (V.clear (V.clear v2))))) (.ok (.fz (.int 2)))))) fun v6=>(bC (aJ (cB (bR [(ofP (rdv (V.clear v5))),(aB .Mod (ofP (rdv (V.clear (V.clear (V.clear (V.clear v2)))))) (.ok (.fz (.int 7))))])) (aK dS (aD (aB .Mod (aB .FloorDiv (ofP (rdv (V.clear (V.clear (V.clear (V.clear v2)))))) (.ok (.fz (.int 3)))) (.ok (.fz (.int 5)))) .Eq (.ok (.fz (.int 1)))))) (ofP (bW v3)) (ofP (rdv v6)) fun o7=>(R.ok (.own o7))))) (rb (aJ (b9 (V.clear (V.clear v4))) (aB .Mod (ofP (rdv (V.clear (V.clear v2)))) (aK bO (ofP (rdv (V.clear (V.clear v4))))))) fun v8=>(ifS (aD (ofP (rdv (V.clear (V.clear (V.clear (V.clear v1)))))) .Eq (.ok (.fz (.int 3)))) (dA (ofP (bW v3)) (so "pop") [(ofP (rdv (V.clear v8)))] fun o9=>(R.ok (.own o9))) (ifS (aD (ofP (rdv (V.clear (V.clear (V.clear (V.clear (V.clear v1))))))) .Eq (.ok (.fz (.int 4)))) (rb (ofP ((bW v3).bind fU)) fun l10=>rb (ofP (rdv (V.clear v8))) fun k11=>rb (ofP (l5 l10 (dOf k11))) fun q12=>rb (.ok (Prod.snd q12)) fun o14=>rb (aJ (.ok a3) (aB .Mod (aB .FloorDiv (ofP (rdv (V.clear (V.clear v2)))) (.ok (.fz (.int 16)))) (.ok (.fz (.int 14))))) fun i15=>rb (ofP (setItem o14 (dOf i15) (Prod.fst q12))) fun o13=>(R.ok (.own o13))) (ifS (aD (ofP (rdv (V.clear (V.clear (V.clear (V.clear (V.clear (V.clear v1)))))))) .Eq (.ok (.fz (.int 5)))) (bC (aJ (cB (bR [(aG (rn n "_law_number") [(cA (V.clear (V.clear (V.clear v2))))]),(.ok (.own (.dict [])))])) (aB .Mod (aB .FloorDiv (ofP (rdv (V.clear (V.clear (V.clear v2))))) (.ok (.fz (.int 8)))) (.ok (.fz (.int 2))))) (ofP (bW v3)) (ofP (rdv v8)) fun o16=>(R.ok (.own o16))) (bC (aG (rn n "_law_other") [(aJ (.ok a1) (ofP (rdv (V.clear v8)))),(aB .FloorDiv (ofP (rdv (V.clear (V.clear (V.clear v2))))) (.ok (.fz (.int 8)))),(.ok (.fz a3))]) (ofP (bW v3)) (ofP (rdv (V.clear v8))) fun o17=>(R.ok (.own o17)))))))))))))):=by kernel_rfl
noncomputable def gY(o0 o1 o2 o3:Option V):aA:=[((so "_law_cell"),o0),((so "_law_names_here"),o1),((so "_law_tree"),o2),((so "_law_k"),o3)]
noncomputable def kJ(n:Nat)(σ:aA)(kn:KN)(kr:KR):R V:=Ll BB (so "_law_rows") n 23 (bX (List.drop 1 (aN BB (so "_law_rows")))) σ kn kr
noncomputable def kK:Expr:=cJ (List.drop 1 (aN BB (so "_law_rows")))
noncomputable def sQ(n:Nat)(σ:aA)(kn:KN)(kr:KR):R V:=stm BB (so "_law_rows") n 24 (List.drop 2 (aN BB (so "_law_rows"))) σ kn kr
theorem No:rn (n+1) "_law_rows" [.fz a1,.fz a2]=(rb (rgI (aB .Add (.ok (.fz (.int 2))) (ofP (aH .Mod a1 (.int 4))))) fun l1=>aP (kJ n) kK l1 (gY (ζ a1) (ζ a2) (some (.own (.dict []))) none) (fun σ=>sQ n σ (fun _=>R.ok (.fz .none)) R.ok) R.ok):=by kernel_rfl
theorem Np:aT kK d0 (gY p0 p1 p2 p3)=.ok (gY p0 p1 p2 (ζ d0)):=by kernel_rfl
theorem Nq:kJ n (gY (ζ x1) (ζ x2) (some (.own x3)) (ζ d0)) kn kr=(yR (fY [((ofP (getItem x2 (.int 5))),(aB .Add (aB .Mod (ofP (aH .FloorDiv x1 (.int 20))) (.ok (.fz (.int 9)))) (.ok (.fz d0)))),((ofP (getItem x2 (.int 6))),(.ok (.fz d0)))]) x3 (aJ (.ok x2) (aB .Add (.ok (.fz (.int 9))) (aB .Mod (aB .Add (.ok (.fz d0)) (ofP (aH .FloorDiv x1 (.int 4)))) (.ok (.fz (.int 5)))))) (aD (aB .Mod (ofP (aH .FloorDiv x1 (.int 180))) (.ok (.fz (.int 3)))) .Eq (.ok (.fz d0))) (fY [((ofP (getItem x2 (.int 1))),(.ok (.fz (.int 7))))]) (aJ (.ok x2) (aB .Add (.ok (.fz (.int 9))) (aB .Mod (aB .Add (.ok (.fz d0)) (ofP (aH .FloorDiv x1 (.int 4)))) (.ok (.fz (.int 5)))))) (ofP (getItem x2 (.int 0))) fun o1=>kn (gY (ζ x1) (ζ x2) (some (.own o1)) (ζ d0))):=by kernel_rfl
theorem Nr:sQ n (gY (ζ x1) (ζ x2) (some (.own x3)) o4) kn kr=(kr (.own x3)):=by kernel_rfl
noncomputable def eV(o0 o1 o2 o3 o4 o5 o6 o7:Option V):aA:=[((so "_law_cell"),o0),((so "_law_tree"),o1),((so "_law_names_here"),o2),((so "_law_calls"),o3),((so "_law_some"),o4),((so "_law_pairs"),o5),((so "_law_call"),o6),((so "_law_turned"),o7)]
noncomputable def kL(n:Nat)(σ:aA)(kn:KN)(kr:KR):R V:=stm BB (so "_law_views") n 23 (bX (List.drop 3 (aN BB (so "_law_views")))) σ kn kr
noncomputable def kM:Expr:=cJ (List.drop 3 (aN BB (so "_law_views")))
noncomputable def nQ(n:Nat)(σ:aA)(kn:KN)(kr:KR):R V:=stm BB (so "_law_views") n 24 (List.drop 4 (aN BB (so "_law_views"))) σ kn kr
theorem Nt:rn (n+1) "_law_views" [.fz a1,.fz a2,.fz a3]=(rb (bR [(aX [(.ok (.fz (.str (so "call")))),(aJ (.ok a3) (aB .Add (.ok (.fz (.int 5))) (ofP (aH .Mod a1 (.int 2))))),(ofP (getItem a3 (.int 7)))]),(aX [(.ok (.fz (.str (so "call")))),(aJ (.ok a3) (aB .Sub (.ok (.fz (.int 6))) (ofP (aH .Mod a1 (.int 2))))),(ofP (getItem a3 (.int 8)))])]) fun v1=>(rb (aK cG (ofP (dI a2))) fun v2=>(rb (plI (ofP (rdv (V.clear v1)))) fun l3=>aP (kL n) kM l3 (eV (ζ a1) (ζ a2) (ζ a3) (some (V.clear v1)) (some v2) (some (.own (.list []))) none none) (fun σ=>nQ n σ (fun _=>R.ok (.fz .none)) R.ok) R.ok))):=by kernel_rfl
theorem Nu:aT kM d0 (eV p0 p1 p2 p3 p4 p5 p6 p7)=.ok (eV p0 p1 p2 p3 p4 p5 (ζ d0) p7):=by kernel_rfl
theorem Nv:kL n (eV (ζ x1) (ζ x2) (ζ x3) (some w4) (some w5) (some (.own x6)) (ζ d0) o8) kn kr=(ifS (aD (aB .Mod (ofP (aH .FloorDiv x1 (.int 2))) (.ok (.fz (.int 2)))) .Eq (.ok (.fz (.int 0)))) (dA (.ok x6) (so "append") [(.ok (.fz (.tuple [(.str (so "each")),d0])))] fun o1=>(kn (eV (ζ x1) (ζ x2) (ζ x3) (some w4) (some w5) (some (.own o1)) (ζ d0) o8))) (rb (aL (rgI (aK bO (ofP (rdv (V.clear w5))))) (fun d2=>(.ok true)) (fun d2=>(aJ (b9 (V.clear w5)) (aB .Mod (aB .Add (.ok (.fz d2)) (ofP (aH .FloorDiv x1 (.int 4)))) (aK bO (ofP (rdv (V.clear w5)))))))) fun v3=>(dA (.ok x6) (so "append") [(aX [(.ok (.fz (.str (so "beside")))),(aK lM (aL (plI (ofP (rdv (V.clear v3)))) (fun d6=>(.ok true)) (fun d6=>(.ok (.fz (.tuple [d6,d6,d0]))))))])] fun o4=>(kn (eV (ζ x1) (ζ x2) (ζ x3) (some w4) (some (V.clear w5)) (some (.own o4)) (ζ d0) (some (V.clear v3))))))):=by kernel_rfl
theorem Nw:nQ n (eV (ζ x1) (ζ x2) (ζ x3) (some w4) (some w5) (some (.own x6)) o7 o8) kn kr=(rb (aX [(aX [(.ok (.fz (.str (so "then")))),(ofP (getItem x6 (.int 0))),(ofP (getItem x6 (.int 1)))]),(ofP (rdv (V.clear w4)))]) kr):=by kernel_rfl
theorem Nx:rn (n+1) "_law_is_called" [.fz a1,.fz a2]=(rb (aY (.ok (.fz (.bool (cD a2)))) (aY (aD (ofP (getItem a1 (.int 2))) .In (.ok (.fz a2))) (aD (ofP (getItem a1 (.int 1))) .NotIn (.ok (.fz a2))))) R.ok):=by kernel_rfl
theorem Vp:rn (n+1) "_law_order" [.fz a1]=(rb (eS (aD (ofP (getItem a1 (.int 0))) .Eq (.ok (.fz (.str (so "beside"))))) (aL (plI (ofP (getItem a1 (.int 1)))) (fun d1=>(.ok true)) (fun d1=>(ofP (getItem d1 (.int 0))))) (.ok (.fz .none))) R.ok):=by kernel_rfl
noncomputable def f7(o0 o1 o2 o3 o4 o5 o6 o7 o8:Option V):aA:=[((so "_law_piece"),o0),((so "_law_call"),o1),((so "_law_old"),o2),((so "_law_new"),o3),((so "_law_way"),o4),((so "_law_order_here"),o5),((so "_law_found"),o6),((so "_law_name_here"),o7),((so "_law_pairs"),o8)]
noncomputable def f8(n:Nat)(σ:aA)(kn:KN)(kr:KR):R V:=stm BB (so "_law_step") n 23 (bX (List.drop 4 (aN BB (so "_law_step")))) σ kn kr
noncomputable def f9:Expr:=cJ (List.drop 4 (aN BB (so "_law_step")))
noncomputable def zE(n:Nat)(σ:aA)(kn:KN)(kr:KR):R V:=stm BB (so "_law_step") n 24 (List.drop 5 (aN BB (so "_law_step"))) σ kn kr
theorem Ny:rn (n+1) "_law_step" [.fz a1,.fz a2,.fz a3,.fz a4,.fz a5]=(ifS (unS .Not (.ok (.fz (.bool (cD a4))))) (R.ok (.fz (.tuple [(.str (so "refused")),a5,(.str (so "form")),a4]))) (ifS (aD (aK cG (ofP (dI a4))) .NotEq (aK cG (ofP (dI a3)))) (rb (aX [(.ok (.fz (.str (so "refused")))),(.ok (.fz a5)),(aJ (cB (bR [(.ok (.fz (.str (so "form")))),(.ok (.fz (.str (so "names"))))])) (aK dS (aD (ofP (getItem a1 (.int 0))) .Eq (.ok (.fz (.str (so "each"))))))),(.ok (.fz a4))]) R.ok) (rb (rn n "_law_order" [.fz a1]) fun v1=>(rb (plI (eS (aD (ofP (rdv (V.clear v1))) .Is (.ok (.fz .none))) (aK cG (ofP (dI a4))) (ofP (rdv (V.clear v1))))) fun l2=>aP (f8 n) f9 l2 (f7 (ζ a1) (ζ a2) (ζ a3) (ζ a4) (ζ a5) (some (V.clear v1)) (some (.own (.dict []))) none none) (fun σ=>zE n σ (fun _=>R.ok (.fz .none)) R.ok) R.ok)))):=by kernel_rfl
theorem Nz:aT f9 d0 (f7 p0 p1 p2 p3 p4 p5 p6 p7 p8)=.ok (f7 p0 p1 p2 p3 p4 p5 p6 (ζ d0) p8):=by kernel_rfl
theorem N0:f8 n (f7 (ζ x1) (ζ x2) (ζ x3) (ζ x4) (ζ x5) (some w6) (some (.own x7)) (ζ d0) o9) kn kr=(ifS (unS .Not (aG (rn n "_law_is_called") [(.ok (.fz x2)),(ofP (getItem x4 d0))])) (rb (aX [(.ok (.fz (.str (so "refused")))),(aB .Add (.ok (.fz x5)) (bR [(.ok (.fz d0))])),(.ok (.fz (.str (so "form")))),(ofP (getItem x4 d0))]) kr) (rb (aL (plI (ofP (getItem x4 d0))) (fun d1=>(.ok true)) (fun d1=>(aX [(eS (aD (.ok (.fz d1)) .Eq (ofP (getItem x2 (.int 2)))) (ofP (getItem x2 (.int 1))) (.ok (.fz d1))),(aJ (cB (ofP (getItem x4 d0))) (.ok (.fz d1)))]))) fun v2=>(bC (aK bV (ofP (rdv (V.clear v2)))) (.ok x7) (.ok (.fz d0)) fun o3=>(kn (f7 (ζ x1) (ζ x2) (ζ x3) (ζ x4) (ζ x5) (some w6) (some (.own o3)) (ζ d0) (some (V.clear v2))))))):=by kernel_rfl
theorem N1:zE n (f7 (ζ x1) (ζ x2) (ζ x3) (ζ x4) (ζ x5) (some w6) (some (.own x7)) o8 o9) kn kr=(kr (.fz (.tuple [(.str (so "tree")),x7]))):=by kernel_rfl
theorem N2:rn (n+1) "_law_due" [.fz a1,.fz a2,.fz a3,.fz a4]=(rb (aG (rn n "_law_step") [(ofP (getItem a1 (.int 2))),(ofP (getItem a2 (.int 1))),(.ok (.fz a3)),(.ok (.fz a4)),(bR [(.ok (.fz (.int 1)))])]) fun v1=>(ifS (aD (aJ (b9 v1) (.ok (.fz (.int 0)))) .Eq (.ok (.fz (.str (so "refused"))))) (nI v1 R.ok) (rb (aG (rn n "_law_step") [(ofP (getItem a1 (.int 1))),(ofP (getItem a2 (.int 0))),(.ok (.fz a3)),(aJ (b9 v1) (.ok (.fz (.int 1)))),(bR [(.ok (.fz (.int 0)))])]) R.ok))):=by kernel_rfl
theorem N3:rn (n+1) "_law_told" [.fz a1,.fz a2,.fz a3]=(rW BB (so "BadPut") (aX [(.ok (.fz (.str (so "tree")))),(rn n "put" [.fz a1,.fz a2,.fz a3])]) (fun y1=>(aX [(.ok (.fz (.str (so "refused")))),(iW BB y1 (so "way")),(iW BB y1 (so "kind")),(iW BB y1 (so "part"))])) R.ok):=by kernel_rfl
theorem zF:rn (n+1) "_law_is_due" [.fz a1,.fz a2]=(ifS (aD (ofP (getItem a1 (.int 0))) .NotEq (ofP (getItem a2 (.int 0)))) (R.ok (.fz (.bool false))) (ifS (aD (ofP (getItem a2 (.int 0))) .Eq (.ok (.fz (.str (so "tree"))))) (rb (aG (rn n "_law_same") [(ofP (getItem a1 (.int 1))),(ofP (getItem a2 (.int 1)))]) R.ok) (rb (aY (rV (so "list") (ofP (getItem a1 (.int 1)))) (aY (aD (aK gG (iV (.ok a1) (some (.ok (.fz (.int 1)))) (some (.ok (.fz (.int 3)))))) .Eq (aK gG (iV (.ok a2) (some (.ok (.fz (.int 1)))) (some (.ok (.fz (.int 3))))))) (aG (rn n "_law_same") [(ofP (getItem a1 (.int 3))),(ofP (getItem a2 (.int 3)))]))) R.ok))):=by kernel_rfl
noncomputable def dB(o0 o1 o2 o3 o4 o5:Option V):aA:=[((so "_law_calls"),o0),((so "_law_tree"),o1),((so "_law_found"),o2),((so "_law_name_here"),o3),((so "_law_row"),o4),((so "_law_call"),o5)]
noncomputable def kN(n:Nat)(σ:aA)(kn:KN)(kr:KR):R V:=stm BB (so "_law_seen") n 23 (bX (List.drop 1 (aN BB (so "_law_seen")))) σ kn kr
noncomputable def kO:Expr:=cJ (List.drop 1 (aN BB (so "_law_seen")))
noncomputable def sR(n:Nat)(σ:aA)(kn:KN)(kr:KR):R V:=stm BB (so "_law_seen") n 24 (List.drop 2 (aN BB (so "_law_seen"))) σ kn kr
theorem N4:rn (n+1) "_law_seen" [.fz a1,.fz a2]=(rb (ofP (items a2)) fun l1=>aP (kN n) kO l1 (dB (ζ a1) (ζ a2) (some (.own (.dict []))) none none none) (fun σ=>sR n σ (fun _=>R.ok (.fz .none)) R.ok) R.ok):=by kernel_rfl
theorem N5:aT kO d0 (dB p0 p1 p2 p3 p4 p5)=.ok (dB p0 p1 p2 (ζ d0) p4 p5):=by kernel_rfl
noncomputable def nR(n:Nat)(σ:aA)(kn:KN)(kr:KR):R V:=stm BB (so "_law_seen") n 22 (bX (List.drop 1 (bX (List.drop 1 (aN BB (so "_law_seen")))))) σ kn kr
noncomputable def nS:Expr:=cJ (List.drop 1 (bX (List.drop 1 (aN BB (so "_law_seen")))))
noncomputable def nT(n:Nat)(σ:aA)(kn:KN)(kr:KR):R V:=stm BB (so "_law_seen") n 23 (List.drop 2 (bX (List.drop 1 (aN BB (so "_law_seen"))))) σ kn kr
theorem N6:kN n (dB (ζ x1) (ζ x2) (some (.own x3)) (ζ d0) o5 o6) kn kr=(rb (aG (rn n "_law_copy") [(ofP (getItem x2 d0))]) fun v1=>(rb (ofP (items x1)) fun l2=>aP (nR n) nS l2 (dB (ζ x1) (ζ x2) (some (.own x3)) (ζ d0) (some v1) o6) (fun σ=>nT n σ kn kr) kr)):=by kernel_rfl
theorem N7:sR n (dB (ζ x1) (ζ x2) (some (.own x3)) o4 o5 o6) kn kr=(kr (.own x3)):=by kernel_rfl
theorem N8:aT nS d0 (dB p0 p1 p2 p3 p4 p5)=.ok (dB p0 p1 p2 p3 p4 (ζ d0)):=by kernel_rfl
theorem N9:nR n (dB (ζ x1) (ζ x2) (some (.own x3)) (ζ x4) (some w5) (ζ d0)) kn kr=(rb (ofP ((bW w5).bind fU)) fun l1=>rb (ofP (getItem d0 (.int 1))) fun k2=>rb (ofP (l5 l1 (dOf k2))) fun q3=>rb (.ok (Prod.snd q3)) fun o5=>rb (ofP (getItem d0 (.int 2))) fun i6=>rb (ofP (setItem o5 (dOf i6) (Prod.fst q3))) fun o4=>(kn (dB (ζ x1) (ζ x2) (some (.own x3)) (ζ x4) (some (.own o4)) (ζ d0)))):=by kernel_rfl
theorem Oa:nT n (dB (ζ x1) (ζ x2) (some (.own x3)) (ζ x4) (some w5) o6) kn kr=(bC (ofP (rdv (V.clear w5))) (.ok x3) (.ok (.fz x4)) fun o1=>(kn (dB (ζ x1) (ζ x2) (some (.own o1)) (ζ x4) (some (V.clear w5)) o6))):=by kernel_rfl
noncomputable def dX(o0 o1 o2 o3 o4 o5 o6 o7 o8:Option V):aA:=[((so "_law_seen_here"),o0),((so "_law_calls"),o1),((so "_law_cell"),o2),((so "_law_names_here"),o3),((so "_law_found"),o4),((so "_law_k"),o5),((so "_law_name_here"),o6),((so "_law_row"),o7),((so "_law_way"),o8)]
noncomputable def iX(n:Nat)(σ:aA)(kn:KN)(kr:KR):R V:=stm BB (so "_law_bent") n 23 (bX (List.drop 1 (aN BB (so "_law_bent")))) σ kn kr
noncomputable def iY:Expr:=cJ (List.drop 1 (aN BB (so "_law_bent")))
noncomputable def sS(n:Nat)(σ:aA)(kn:KN)(kr:KR):R V:=stm BB (so "_law_bent") n 24 (List.drop 2 (aN BB (so "_law_bent"))) σ kn kr
theorem Ob:rn (n+1) "_law_bent" [.fz a1,.fz a2,.fz a3,.fz a4]=(rb (enI (aK cG (ofP (dI a1)))) fun l1=>aP (iX n) iY l1 (dX (ζ a1) (ζ a2) (ζ a3) (ζ a4) (some (.own (.dict []))) none none none none) (fun σ=>sS n σ (fun _=>R.ok (.fz .none)) R.ok) R.ok):=by kernel_rfl
theorem Oc:aT iY (.tuple [d0,d1]) (dX p0 p1 p2 p3 p4 p5 p6 p7 p8)=.ok (dX p0 p1 p2 p3 p4 (ζ d0) (ζ d1) p7 p8):=by kernel_rfl
theorem Od:iX n (dX (ζ x1) (ζ x2) (ζ x3) (ζ x4) (some (.own x5)) (ζ d0) (ζ d1) o8 o9) kn kr=(rb (aG (rn n "_law_copy") [(ofP (getItem x1 d1))]) fun v1=>(rb (aB .Mod (aB .FloorDiv (.ok (.fz x3)) (aJ (cB (bR [(.ok (.fz (.int 1))),(.ok (.fz (.int 7))),(.ok (.fz (.int 49))),(.ok (.fz (.int 343))),(.ok (.fz (.int 2401)))])) (.ok (.fz d0)))) (.ok (.fz (.int 7)))) fun v2=>(ifS (aD (ofP (rdv (V.clear v2))) .Eq (.ok (.fz (.int 1)))) (dA (ofP (bW v1)) (so "pop") [(aJ (cB (ofP (getItem x2 (.int 1)))) (.ok (.fz (.int 2))))] fun o3=>(bC (.ok (.fz o3)) (.ok x5) (.ok (.fz d1)) fun o4=>(kn (dX (ζ x1) (ζ x2) (ζ x3) (ζ x4) (some (.own o4)) (ζ d0) (ζ d1) (ζ o3) (some (V.clear v2)))))) (ifS (aD (ofP (rdv (V.clear (V.clear v2)))) .Eq (.ok (.fz (.int 2)))) (bC (.ok (.fz (.int 5))) (ofP (bW v1)) (aJ (cB (ofP (getItem x2 (.int 0)))) (.ok (.fz (.int 1)))) fun o5=>(bC (.ok (.fz o5)) (.ok x5) (.ok (.fz d1)) fun o6=>(kn (dX (ζ x1) (ζ x2) (ζ x3) (ζ x4) (some (.own o6)) (ζ d0) (ζ d1) (ζ o5) (some (V.clear (V.clear v2))))))) (ifS (aD (ofP (rdv (V.clear (V.clear (V.clear v2))))) .Eq (.ok (.fz (.int 3)))) (bC (.ok (.own (.dict []))) (ofP (bW v1)) (aJ (cB (ofP (getItem x2 (.int 1)))) (.ok (.fz (.int 1)))) fun o7=>(bC (.ok (.fz o7)) (.ok x5) (.ok (.fz d1)) fun o8=>(kn (dX (ζ x1) (ζ x2) (ζ x3) (ζ x4) (some (.own o8)) (ζ d0) (ζ d1) (ζ o7) (some (V.clear (V.clear (V.clear v2)))))))) (ifS (aD (ofP (rdv (V.clear (V.clear (V.clear (V.clear v2)))))) .Eq (.ok (.fz (.int 4)))) (dA (ofP (bW v1)) (so "pop") [(aJ (cB (ofP (getItem x2 (.int 0)))) (.ok (.fz (.int 2))))] fun o9=>(bC (.ok (.fz o9)) (.ok x5) (.ok (.fz d1)) fun o10=>(kn (dX (ζ x1) (ζ x2) (ζ x3) (ζ x4) (some (.own o10)) (ζ d0) (ζ d1) (ζ o9) (some (V.clear (V.clear (V.clear (V.clear v2))))))))) (ifS (aD (ofP (rdv (V.clear (V.clear (V.clear (V.clear (V.clear v2))))))) .Eq (.ok (.fz (.int 5)))) (rb (aG (rn n "_law_other") [(cA (V.clear v1)),(aB .Add (ofP (aH .FloorDiv x3 (.int 7))) (.ok (.fz d0))),(.ok (.fz x4))]) fun v11=>(bC (ofP (rdv (V.clear v11))) (.ok x5) (.ok (.fz d1)) fun o12=>(kn (dX (ζ x1) (ζ x2) (ζ x3) (ζ x4) (some (.own o12)) (ζ d0) (ζ d1) (some (V.clear v11)) (some (V.clear (V.clear (V.clear (V.clear (V.clear v2)))))))))) (bC (ofP (rdv (V.clear v1))) (.ok x5) (.ok (.fz d1)) fun o13=>(kn (dX (ζ x1) (ζ x2) (ζ x3) (ζ x4) (some (.own o13)) (ζ d0) (ζ d1) (some (V.clear v1)) (some (V.clear (V.clear (V.clear (V.clear (V.clear v2)))))))))))))))):=by kernel_rfl
theorem Oe:sS n (dX (ζ x1) (ζ x2) (ζ x3) (ζ x4) (some (.own x5)) o6 o7 o8 o9) kn kr=(ifS (aD (aB .Mod (ofP (aH .FloorDiv x3 (.int 16807))) (.ok (.fz (.int 7)))) .Eq (.ok (.fz (.int 3)))) (rb (aG (rn n "_law_other") [(.ok (.fz x5)),(ofP (aH .FloorDiv x3 (.int 117649))),(.ok (.fz x4))]) kr) (kr (.own x5))):=by kernel_rfl
noncomputable def eE(o0 o1 o2 o3 o4 o5 o6 o7 o8 o9 o10:Option V):aA:=[((so "_law_script"),o0),((so "_law_names_here"),o1),((so "_law_held"),o2),((so "_law_cell"),o3),((so "_law_tree"),o4),((so "_law_view"),o5),((so "_law_calls"),o6),((so "_law_new"),o7),((so "_law_handed"),o8),((so "_law_due_here"),o9),((so "_law_found"),o10)]
noncomputable def iZ(n:Nat)(σ:aA)(kn:KN)(kr:KR):R V:=stm BB (so "law") n 23 (bX (List.drop 2 (aN BB (so "law")))) σ kn kr
noncomputable def i0:Expr:=cJ (List.drop 2 (aN BB (so "law")))
noncomputable def sU(n:Nat)(σ:aA)(kn:KN)(kr:KR):R V:=stm BB (so "law") n 24 (List.drop 3 (aN BB (so "law"))) σ kn kr
theorem Of:rn (n+1) "law" [.fz a1]=(rb (rn n "_law_names" [.fz a1]) fun v1=>(rb (plI (iV (.ok a1) (some (.ok (.fz (.int 1)))) (some (.ok (.fz (.int 21)))))) fun l2=>aP (iZ n) i0 l2 (eE (ζ a1) (some v1) (some (.own (.list []))) none none none none none none none none) (fun σ=>sU n σ (fun _=>R.ok (.fz .none)) R.ok) R.ok)):=by kernel_rfl
theorem Og:aT i0 d0 (eE p0 p1 p2 p3 p4 p5 p6 p7 p8 p9 p10)=.ok (eE p0 p1 p2 (ζ d0) p4 p5 p6 p7 p8 p9 p10):=by kernel_rfl
noncomputable def zG:Expr:=Lk (List.drop 1 (bX (List.drop 2 (aN BB (so "law")))))
noncomputable def zH(n:Nat)(σ:aA)(kn:KN)(kr:KR):R V:=stm BB (so "law") n 23 (List.drop 2 (bX (List.drop 2 (aN BB (so "law"))))) σ kn kr
theorem Oh:iZ n (eE (ζ x1) (some w2) (some (.own x3)) (ζ d0) o5 o6 o7 o8 o9 o10 o11) kn kr=(rb (aG (rn n "_law_rows") [(.ok (.fz d0)),(cA (V.clear w2))]) fun v1=>(rb (aG (rn n "_law_views") [(ofP (aH .FloorDiv d0 (.int 540))),(cA (V.clear v1)),(cA (V.clear (V.clear w2)))]) fun v2=>rb (ofP (aT zG (dOf v2) (eE (ζ x1) (some (V.clear (V.clear w2))) (some (.own x3)) (ζ d0) (some (V.clear v1)) o6 o7 o8 o9 o10 o11))) fun σ=>zH n σ kn kr)):=by kernel_rfl
theorem Oi:sU n (eE (ζ x1) (some w2) (some (.own x3)) o4 o5 o6 o7 o8 o9 o10 o11) kn kr=(rb (aD (aL (ofP (items x3)) (fun d1=>(tst (unS .Not (aG (rn n "_law_is_due") [(ofP (getItem d1 (.int 0))),(ofP (getItem d1 (.int 1)))])))) (fun d1=>(.ok (.fz d1)))) .Eq (.ok (.own (.list [])))) kr):=by kernel_rfl
theorem Oj:aT zG (.tuple [d0,d1]) (eE p0 p1 p2 p3 p4 p5 p6 p7 p8 p9 p10)=.ok (eE p0 p1 p2 p3 p4 (ζ d0) (ζ d1) p7 p8 p9 p10):=by kernel_rfl
theorem Ok:zH n (eE (ζ x1) (some w2) (some (.own x3)) (ζ x4) (some w5) (ζ d0) (ζ d1) o8 o9 o10 o11) kn kr=(rb (aG (rn n "_law_bent") [(aG (rn n "_law_seen") [(.ok (.fz d1)),(cA (V.clear w5))]),(.ok (.fz d1)),(aB .Mod (ofP (aH .Mult x4 (.int 48271))) (.ok (.fz (.int 2147483647)))),(cA (V.clear w2))]) fun v1=>(rb (bR [(aG (rn n "_law_copy") [(cA (V.clear (V.clear w5)))]),(aG (rn n "_law_copy") [(cA (V.clear v1))])]) fun v2=>(rb (aG (rn n "_law_due") [(.ok (.fz d0)),(.ok (.fz d1)),(cA (V.clear (V.clear (V.clear w5)))),(cA (V.clear (V.clear v1)))]) fun v3=>(rb (aG (rn n "_law_told") [(.ok (.fz d0)),(aJ (b9 v2) (.ok (.fz (.int 0)))),(aJ (b9 v2) (.ok (.fz (.int 1))))]) fun v4=>(ifS (orS (unS .Not (aG (rn n "_law_is_due") [(cA (V.clear v4)),(cA (V.clear v3))])) (orS (unS .Not (aG (rn n "_law_same") [(aJ (b9 v2) (.ok (.fz (.int 0)))),(cA (V.clear (V.clear (V.clear (V.clear w5)))))])) (unS .Not (aG (rn n "_law_same") [(aJ (b9 v2) (.ok (.fz (.int 1)))),(cA (V.clear (V.clear (V.clear v1))))])))) (kr (.fz (.bool false))) (dA (.ok x3) (so "append") [(aX [(ofP (rdv (V.clear (V.clear v4)))),(ofP (rdv (V.clear (V.clear v3))))])] fun o5=>(kn (eE (ζ x1) (some (V.clear w2)) (some (.own o5)) (ζ x4) (some (V.clear (V.clear (V.clear (V.clear w5))))) (ζ d0) (ζ d1) (some (V.clear (V.clear (V.clear v1)))) (some v2) (some (V.clear (V.clear v3))) (some (V.clear (V.clear v4))))))))))):=by kernel_rfl
end Mine
namespace Mine
open Classical PySem
inductive T where
 |num (i:Int)
 |br (f:Str→Option T)
inductive W where
 |whole
 |pick (n:Str)
 |call (a b:Str)
 |sift (f:Str) (l:Int)
 |join (a b:Str) (fs:List Str)
 |each (v:W)
 |andThen (a b:W)
 |beside (r:W)
 |bnil
 |bcons (n p:Str) (v r:W)
noncomputable def grd{α:Type}(p:Prop)(x:Option α):Option α:=if p then x else none
theorem dF{α:Type}{p:Prop}(h:p)(x:Option α):grd p x=x:=if_pos h
theorem cN{α:Type}{p:Prop}(h:¬ p)(x:Option α):grd p x=none:=if_neg h
theorem i7{α:Type}{p:Prop}{x:Option α}{y:α}(h:grd p x=some y):p∧x=some y:=by
 by_cases e:p
 ·rw[dF e] at h;exact⟨e,h⟩
 ·rw[cN e] at h;exact ns h
noncomputable def T.get:T→Str→Option T
 | .num _,_=>none
 | .br f,k=>f k
theorem dY(f:Str→Option T)(k:Str):(T.br f).get k=f k:=rfl
noncomputable def upd(f:Str→Option T)(k:Str)(x:Option T):Str→Option T:=fun j=>if j=k then x else f j
noncomputable def cO(f:Str→Option T):Prop:=∀ k t,f k=some t→∃ g,t=.br g
noncomputable def dG(a:Str)(l:Int)(t:T):Prop:=∃ i,t.get a=some (.num i)∧l≤i
structure FitJ(fs:List Str)(g h:Str→Option T):Prop where
 ga:cO g
 ha:cO h
 gf:∀ k t,g k=some t→∀ x,(t.get x).isSome=true→x∈fs
 hf:∀ k t,h k=some t→∀ x,(t.get x).isSome=true→x∉fs
noncomputable def zI(r s:T):T:=.br fun x=>(s.get x).or (r.get x)
noncomputable def kP(g h:Str→Option T):Str→Option T:=fun k=>(g k).bind fun r=>(h k).bind fun s=>some (zI r s)
noncomputable def W.names:W→List Str
 | .bcons n _ _ r=>n::r.names
 |_=>[]
noncomputable def W.parts:W→List Str
 | .bcons _ p _ r=>p::r.parts
 |_=>[]
theorem i8:W.bnil.names=[]:=rfl
theorem i9(n p:Str)(v r:W):(W.bcons n p v r).names=n::r.names:=rfl
theorem nU:W.bnil.parts=[]:=rfl
theorem nV(n p:Str)(v r:W):(W.bcons n p v r).parts=p::r.parts:=rfl
noncomputable def W.isRows:W→Bool
 | .bcons _ _ _ _=>true
 | .bnil=>true
 |_=>false
noncomputable def cP(x y:Str)(g:Str→Option T):Str→Option T:=fun k=>if k=y then g x else if k=x then none else g k
noncomputable def nW(a:Str)(l:Int)(g:Str→Option T):Str→Option T:=fun k=>(g k).bind fun x=>grd (dG a l x) (some x)
noncomputable def zJ(fs:List Str)(x y:T):Option T:=match x with
 | .num _=>none
 | .br g=>match y with
  | .num _=>none
  | .br h=>grd (FitJ fs g h) (some (.br (kP g h)))
theorem sV{α β:Type}{o:Option α}{k:α→Option β}{y:β}(h:o.bind k=some y):∃ x,o=some x∧k x=some y:=by
 cases o with
 |none=>exact ns h
 |some x=>exact⟨x,rfl,h⟩
noncomputable def aW:W→T→Option T
 | .whole,t=>some t
 | .pick n,t=>t.get n
 | .call a b,t=>grd ((t.get a).isSome=true∧t.get b=none) (some (.br (cP a b t.get)))
 | .sift a l,t=>match t with
  | .num _=>none
  | .br g=>grd (cO g) (some (.br (nW a l g)))
 | .join a b fs,t=>(t.get a).bind fun x=>(t.get b).bind fun y=>zJ fs x y
 | .each v,t=>match t with
  | .num _=>none
  | .br g=>grd (∀ k x,g k=some x→(aW v x).isSome=true) (some (.br fun k=>(g k).bind (aW v)))
 | .andThen a b,t=>(aW a t).bind (aW b)
 | .beside r,t=>aW r t
 | .bnil,t=>some (.br fun _=>none)
 | .bcons n p v r,t=>(t.get p).bind fun x=>(aW v x).bind fun y=>(aW r t).bind fun z=>some (.br (upd z.get n (some y)))
noncomputable def dM(P:Str→Prop)(one other new:Str→Option T):Str→Option T:=fun k=>match new k with
 |some x=>some (.br fun f=>grd (P f) (x.get f))
 |none=>if (other k).isSome then none else one k
noncomputable def aI:W→T→T→Option T
 | .whole,_,new=>some new
 | .pick n,old,new=>some (.br (upd old.get n (some new)))
 | .call a b,_,new=>grd ((new.get b).isSome=true∧new.get a=none) (some (.br (cP b a new.get)))
 | .sift a l,old,new=>match new with
  | .num _=>none
  | .br h=>grd ((cO h∧∀ k x,h k=some x→dG a l x)∧∀ k x,(h k).isSome=true→old.get k=some x→dG a l x)
    (some (.br fun k=>(h k).or ((old.get k).bind fun x=>grd (¬ dG a l x) (some x))))
 | .join a b fs,old,new=>match new with
  | .num _=>none
  | .br h=>(old.get a).bind fun one=>(old.get b).bind fun other =>
   grd (cO h∧∀ k,(h k).isSome=true→((one.get k).isSome=(other.get k).isSome))
    (some (.br (upd (upd old.get a (some (.br (dM (fun f=>f∈fs) one.get other.get h)))) b (some (.br (dM (fun f=>f∉fs) other.get one.get h))))))
 | .each v,old,new=>match new with
  | .num _=>none
  | .br h=>grd ((∀ k,(h k).isSome=(old.get k).isSome)∧∀ k x y,old.get k=some x→h k=some y→(aI v x y).isSome=true)
    (some (.br fun k=>(old.get k).bind fun x=>(h k).bind fun y=>aI v x y))
 | .andThen a b,old,new=>(aW a old).bind fun m=>(aI b m new).bind fun mid=>aI a old mid
 | .beside r,old,new=>match new with
  | .num _=>none
  | .br h=>grd (∀ k,(h k).isSome=true↔k∈r.names) (aI r old new)
 | .bnil,old,_=>some old
 | .bcons n p v r,old,new=>(old.get p).bind fun o=>(new.get n).bind fun x=>(aI v o x).bind fun y=>(aI r old new).bind fun z=>some (.br (upd z.get p (some y)))
noncomputable def W.wf:W→Prop
 | .call a b=>a≠b
 | .join a b _=>a≠b
 | .each v=>v.wf∧v.isRows=false
 | .andThen a b=>(a.wf∧a.isRows=false)∧b.wf∧b.isRows=false
 | .beside r=>r.wf∧r.isRows=true
 | .bcons n p v r=>(v.wf∧v.isRows=false)∧(r.wf∧r.isRows=true)∧n∉r.names∧p∉r.parts
 |_=>True
theorem Ol{a b:Str}{fs:List Str}{t:T}{g h:Str→Option T}(ha:t.get a=some (.br g))(hb:t.get b=some (.br h)):aW (.join a b fs) t=grd (FitJ fs g h) (some (.br (kP g h))):=by
 show((t.get a).bind fun x=>(t.get b).bind fun y=>zJ fs x y)=_;rw[ha,hb];rfl
theorem sW{a b:Str}{fs:List Str}{t s:T}(e:aW (.join a b fs) t=some s):∃ g h,t.get a=some (.br g)∧t.get b=some (.br h)∧FitJ fs g h∧s=.br (kP g h):=by
 obtain⟨x,h1,e⟩:=sV e;obtain⟨y,h2,e⟩:=sV e;cases x with
 |num i=>exact ns e
 |br g =>
  cases y with
  |num i=>exact ns e
  |br h =>
   obtain⟨F,e⟩:=i7 e;obtain rfl:=si e;exact⟨g,h,h1,h2,F,rfl⟩
end Mine
namespace Mine
open Classical PySem
noncomputable def ltS(a b:Str):Prop:=a.cps.toList < b.cps.toList
structure Rf where
 way:List PyData
 kind:Str
 part:T
noncomputable def bK:Str:=so "form"
noncomputable def eW:Str:=so "hidden"
noncomputable def gZ:Str:=so "names"
inductive Lst(P:Str→Prop)(k:Str):Prop where
 |mk (h:P k) (g:∀ j,ltS j k→¬ P j):Lst P k
noncomputable def lst(P:Str→Prop):Str:=if h:∃ k,Lst P k then choose h else bK
theorem zK{P:Str→Prop}{k:Str}(tri:∀ {a b:Str},¬ ltS b a→a≠b→ltS a b)(h:Lst P k):lst P=k:=by
 have e:∃ k,Lst P k:=⟨k,h⟩
 have:Lst P (lst P):=by unfold lst;rw[dif_pos e];exact choose_spec e
 obtain⟨a1,a2⟩:=h;obtain⟨b1,b2⟩:=this;refine Classical.byContradiction fun hn=>?_
 by_cases hl:ltS k (lst P)
 ·exact b2 k hl a1
 ·exact a2 _ (tri hl hn) b1
noncomputable def nX(a:Str)(l:Int):T→Prop
 | .num _=>False
 | .br h=>cO h∧∀ k x,h k=some x→dG a l x
noncomputable def nY:T→Prop
 | .num _=>False
 | .br h=>cO h
noncomputable def frm(p:Prop)(s:Str):Str:=if p then s else bK
theorem sX{p:Prop}(h:p)(s:Str):frm p s=s:=if_pos h
theorem kQ{p:Prop}(h:¬ p)(s:Str):frm p s=bK:=if_neg h
noncomputable def sel(p:Prop)(x y:Rf):Rf:=if p then x else y
theorem jA{p:Prop}(h:p)(x y:Rf):sel p x y=x:=if_pos h
theorem jB{p:Prop}(h:¬ p)(x y:Rf):sel p x y=y:=if_neg h
noncomputable def dC(v:W)(f h:Str→Option T):Str:=lst fun k=>∃ x y,f k=some x∧h k=some y∧aI v x y=none
noncomputable def aR:W→T→T→List PyData→Rf
 | .sift a l,_,new,w=>⟨w,frm (nX a l new) eW,new⟩
 | .join _ _ _,_,new,w=>⟨w,frm (nY new) eW,new⟩
 | .each v,old,new,w=>match new with
  | .num _=>⟨w,bK,new⟩
  | .br h=>sel (∀ k,(h k).isSome=(old.get k).isSome) (((old.get (dC v old.get h)).bind fun x=>(h (dC v old.get h)).map fun y=>aR v x y (w++[.str (dC v old.get h)])).getD ⟨w,bK,new⟩) ⟨w,gZ,new⟩
 | .andThen a b,old,new,w=>(aW a old).elim ⟨w,bK,new⟩ fun m=>(aI b m new).elim (aR b m new (w++[.int 1])) fun mid=>aR a old mid (w++[.int 0])
 | .beside r,old,new,w=>match new with
  | .num _=>⟨w,bK,new⟩
  | .br h=>sel (∀ k,(h k).isSome=true↔k∈r.names) (aR r old new w) ⟨w,bK,new⟩
 | .bcons n p v r,old,new,w=>(old.get p).elim ⟨w,bK,new⟩ fun o=>(new.get n).elim ⟨w,bK,new⟩ fun x=>(aI v o x).elim (aR v o x (w++[.str n])) fun _=>aR r old new w
 |_,_,new,w=>⟨w,bK,new⟩
end Mine
namespace Mine
open PySem
abbrev TT:=T
abbrev WW:=W
abbrev LP:=List (Str×PyData)
noncomputable def mkd(l:LP):List (PyData×PyData):=l.map fun p=>(.str p.1,p.2)
noncomputable def ks(l:LP):List Str:=l.map (·.1)
noncomputable def lk:LP→Str→Option PyData
 | [],_=>none
 |p::r,x=>if x=p.1 then some p.2 else lk r x
noncomputable def st:LP→Str→PyData→LP
 | [],x,u=>[(x,u)]
 |p::r,x,u=>if x=p.1 then (p.1,u)::r else p::st r x u
noncomputable def sts:LP→LP→LP
 | [],acc=>acc
 |p::r,acc=>sts r (st acc p.1 p.2)
noncomputable def dl:LP→Str→LP
 | [],_=>[]
 |p::r,x=>if x=p.1 then r else p::dl r x
theorem jC:∀ (l:LP) (x:Str),bS (mkd l) x=lk l x:=by
 intro v0
 induction v0 with
 |nil =>
  intro _;exact rfl
 |cons p r ih =>
  intro x;show(if x=p.1 then some p.2 else bS (mkd r) x)=if x=p.1 then some p.2 else lk r x;rw[ih x]
theorem n0:∀ (l:LP) (x:Str) (u:PyData),bY (mkd l) x u=mkd (st l x u):=by
 intro v0
 induction v0 with
 |nil =>
  intro _ _;exact rfl
 |cons p r ih =>
  intro x u;show(if x=p.1 then (.str p.1,u)::mkd r else (.str p.1,p.2)::bY (mkd r) x u)=mkd (if x=p.1 then (p.1,u)::r else p::st r x u);rw[ih x u]
  split<;>rfl
theorem n6:∀ (l:LP) (x:Str),c8 (mkd l) x=mkd (dl l x):=by
 intro v0
 induction v0 with
 |nil =>
  intro _;exact rfl
 |cons p r ih =>
  intro x;show(if x=p.1 then mkd r else (.str p.1,p.2)::c8 (mkd r) x)=mkd (if x=p.1 then r else p::dl r x);rw[ih x]
  split<;>rfl
theorem sY:∀ (ps acc:LP),cW ps (mkd acc)=mkd (sts ps acc):=by
 intro v0
 induction v0 with
 |nil =>
  intro _;exact rfl
 |cons p r ih =>
  intro acc;show cW r (bY (mkd acc) p.1 p.2)=_;simp only[n0,ih];rfl
theorem sZ(l:LP):(mkd l).map (·.1)=(ks l).map PyData.str:=by
 simp[mkd,ks,List.map_map,Function.comp_def]
theorem s6(l:LP):(mkd l).length=l.length:=by simp[mkd]
theorem mk_keys?:∀ l:LP,keys? (mkd l)=some l
 | []=>rfl
 |p::r=>by
  show(keys? (mkd r)).map ((p.1,p.2)::·)=_;rw[mk_keys? r];rfl
theorem zL:∀ (l:LP) (x:Str) (u:PyData) (y:Str),lk (st l x u) y=if y=x then some u else lk l y:=by
 intro v0
 induction v0 with
 |nil =>
  intro x u y;exact rfl
 |cons p r ih =>
  intro x u y;show lk (if x=p.1 then (p.1,u)::r else p::st r x u) y=if y=x then some u else if y=p.1 then some p.2 else lk r y
  by_cases h:x=p.1
  ·rw[if_pos h];show(if y=p.1 then some u else lk r y)=_;subst h
   split<;>rfl
  ·rw[if_neg h];show(if y=p.1 then some p.2 else lk (st r x u) y)=_;rw[ih x u y]
   by_cases e:y=x
   ·subst e;rw[if_neg h,if_pos rfl,if_pos rfl]
   ·rw[if_neg e,if_neg e]
theorem n7:∀ {l:LP} {x:Str} , (lk l x).isSome=true↔x∈ks l
 | [],x=>⟨fun h=>bft h,fun h=>cL h⟩
 |p::r,x=>by
  show(if x=p.1 then some p.2 else lk r x).isSome=true↔x∈p.1::ks r
  by_cases h:x=p.1
  ·simp[h]
  ·rw[if_neg h,n7 (l:=r)];simp[h]
theorem kR{l:LP}{x:Str}{d:PyData}(h:lk l x=some d):x∈ks l:=n7.mp (by rw[h];rfl)
theorem Om:∀ {l:LP} (x:Str) (u:PyData),(ks l).Nodup→(ks (st l x u)).Nodup∧∀ y,y∈ks (st l x u)↔y=x∨y∈ks l:=by
 intro v0
 induction v0 with
 |nil =>
  intro x u _;refine⟨List.nodup_cons.mpr ⟨fun h=>cL h,List.nodup_nil⟩,fun y=>⟨fun h=>.inl (List.mem_singleton.mp h),fun h=>?_⟩⟩;rcases h with rfl | h
  ·exact List.mem_cons_self
  ·exact cL h
 |cons p r ih =>
  intro x u h;have h1:p.1∉ks r∧(ks r).Nodup:=List.nodup_cons.mp h;show(ks (if x=p.1 then (p.1,u)::r else p::st r x u)).Nodup∧∀ y,y∈ks (if x=p.1 then (p.1,u)::r else p::st r x u)↔y=x∨y∈p.1::ks r
  by_cases e:x=p.1
  ·rw[if_pos e];refine⟨h,fun y=>?_⟩;show y∈p.1::ks r↔_;rw[e];simp
  ·rw[if_neg e];obtain⟨i1,i2⟩:=ih x u h1.2;refine⟨List.nodup_cons.mpr ⟨fun hm=>?_,i1⟩,fun y=>?_⟩
   ·rcases(i2 p.1).mp hm with e' | e'
    ·exact e e'.symm
    ·exact h1.1 e'
   ·show y∈p.1::ks (st r x u)↔_;rw[List.mem_cons,i2,List.mem_cons];constructor
    ·rintro(a | a | a)<;>simp[a]
    ·rintro(a | a | a)<;>simp[a]
theorem On:∀ {l:LP} (x:Str),(ks l).Nodup→(ks (dl l x)).Nodup∧(∀ y,y∈ks (dl l x)→y∈ks l)∧∀ y,lk (dl l x) y=if y=x then none else lk l y:=by
 intro v0
 induction v0 with
 |nil =>
  intro x _;exact⟨List.nodup_nil,fun y hy=>hy,fun y=>(ite_self none).symm⟩
 |cons p r ih =>
  intro x h;have h1:p.1∉ks r∧(ks r).Nodup:=List.nodup_cons.mp h;show(ks (if x=p.1 then r else p::dl r x)).Nodup∧(∀ y,y∈ks (if x=p.1 then r else p::dl r x)→y∈p.1::ks r)∧∀ y,lk (if x=p.1 then r else p::dl r x) y=if y=x then none else if y=p.1 then some p.2 else lk r y
  by_cases e:x=p.1
  ·rw[if_pos e];refine⟨h1.2,fun y hy=>List.mem_cons_of_mem _ hy,fun y=>?_⟩
   by_cases e':y=x
   ·rw[if_pos e'];refine ocs (lk r y) (fun hl=>?_) fun d hl=>?_
    ·try rewrite[hl]
     rfl
    ·try rewrite[hl]
     exact absurd (e▸e'▸kR hl) h1.1
   ·rw[if_neg e',if_neg (e▸e')]
  ·rw[if_neg e];obtain⟨i1,i2,i3⟩:=ih x h1.2;refine⟨List.nodup_cons.mpr ⟨fun hm=>h1.1 (i2 _ hm),i1⟩,fun y hy=>?_,fun y=>?_⟩
   ·rcases List.mem_cons.mp hy with rfl | hy
    ·simp
    ·exact List.mem_cons_of_mem _ (i2 y hy)
   ·show(if y=p.1 then some p.2 else lk (dl r x) y)=_;rw[i3]
    by_cases e':y=x
    ·subst e';rw[if_neg e,if_pos rfl,if_pos rfl]
    ·rw[if_neg e',if_neg e']
noncomputable def big:Nat:=10 ^ 29
inductive Sem(N:List Str):Nat→PyData→TT→Prop where
 |num {m:Nat} {i:Int}:i.natAbs < big→Sem N m (.int i) (.num i)
 |br {m:Nat} {l:LP} {f:Str→Option TT}:(ks l).Nodup→(∀ k∈ks l,k∈N)→(∀ k,(lk l k).isSome=(f k).isSome)→(∀ k d t,lk l k=some d→f k=some t→Sem N m d t)→Sem N (m+1) (.dict (mkd l)) (.br f)
structure Bld(N:List Str)(m:Nat)(l:LP)(f:Str→Option TT):Prop where
 nd:(ks l).Nodup
 sub:∀ k∈ks l,k∈N
 dom:∀ k,(lk l k).isSome=(f k).isSome
 sem:∀ k d t,lk l k=some d→f k=some t→Sem N m d t
variable {N:List Str} {m:Nat}
theorem Bld.toSem{l:LP}{f:Str→Option TT}(B:Bld N m l f):Sem N (m+1) (.dict (mkd l)) (.br f):=.br B.nd B.sub B.dom B.sem
inductive SemI(N:List Str):Nat→PyData→TT→Prop where
 |num {m:Nat} (i:Int) (h:i.natAbs < big):SemI N m (.int i) (.num i)
 |br (m:Nat) (l:LP) (f:Str→Option TT) (B:Bld N m l f):SemI N (m+1) (.dict (mkd l)) (.br f)
inductive SemE(N:List Str)(m:Nat)(d:PyData)(t:TT):Prop where
 |num (i:Int) (e1:d=.int i) (e2:t=.num i) (h:i.natAbs < big):SemE N m d t
 |br (m':Nat) (l:LP) (f:Str→Option TT) (e:m=m'+1) (e1:d=.dict (mkd l)) (e2:t=.br f) (B:Bld N m' l f):SemE N m d t
inductive SemB(N:List Str)(m:Nat)(d:PyData)(f:Str→Option TT):Prop where
 |mk (m':Nat) (l:LP) (e:m=m'+1) (e1:d=.dict (mkd l)) (B:Bld N m' l f):SemB N m d f
inductive SemF(N:List Str)(f:Str→Option TT):Nat→PyData→Prop where
 |mk (m:Nat) (l:LP) (B:Bld N m l f):SemF N f (m+1) (.dict (mkd l))
theorem Sem.inv{d:PyData}{t:TT}(h:Sem N m d t):SemI N m d t:=by
 cases h with
 |num h=>exact .num _ h
 |br a b c e=>exact .br _ _ _ ⟨a,b,c,e⟩
theorem Sem.inv'{d:PyData}{t:TT}(h:Sem N m d t):SemE N m d t:=by
 cases h with
 |num h=>exact .num _ rfl rfl h
 |br a b c e=>exact .br _ _ _ rfl rfl rfl ⟨a,b,c,e⟩
@[elab_as_elim] theorem Sem.by {motive:Nat→PyData→TT→Prop} {m:Nat} {d:PyData} {t:TT} (h:Sem N m d t) (h1:∀ (m:Nat) (i:Int),i.natAbs < big→motive m (.int i) (.num i)) (h2:∀ (m:Nat) (l:LP) (f:Str→Option TT),Bld N m l f→motive (m+1) (.dict (mkd l)) (.br f)):motive m d t:=by
 cases h with
 |num h=>exact h1 _ _ h
 |br a b c e=>exact h2 _ _ _ ⟨a,b,c,e⟩
@[elab_as_elim] theorem Sem.byB {motive:Nat→PyData→Prop} {f:Str→Option TT} {m:Nat} {d:PyData} (h:Sem N m d (.br f)) (h2:∀ (m:Nat) (l:LP),Bld N m l f→motive (m+1) (.dict (mkd l))):motive m d:=by
 cases h with
 |br a b c e=>exact h2 _ _ ⟨a,b,c,e⟩
theorem Sem.br_inv{d:PyData}{f:Str→Option TT}(h:Sem N m d (.br f)):SemF N f m d:=by
 cases h with
 |br a b c e=>exact⟨_,_,a,b,c,e⟩
theorem Sem.br_inv'{d:PyData}{f:Str→Option TT}(h:Sem N m d (.br f)):SemB N m d f:=by
 cases h with
 |br a b c e=>exact⟨_,_,rfl,rfl,a,b,c,e⟩
inductive BGet(N:List Str)(m:Nat)(l:LP)(k:Str)(t:TT):Prop where
 |mk (d:PyData) (h:lk l k=some d) (s:Sem N m d t):BGet N m l k t
inductive BGe'(N:List Str)(m:Nat)(f:Str→Option TT)(k:Str)(d:PyData):Prop where
 |mk (t:TT) (h:f k=some t) (s:Sem N m d t):BGe' N m f k d
inductive BKey(N:List Str)(m:Nat)(l:LP)(f:Str→Option TT)(k:Str):Prop where
 |mk (d:PyData) (t:TT) (h:lk l k=some d) (g:f k=some t) (s:Sem N m d t):BKey N m l f k
theorem Sem.num_inv{d:PyData}{i:Int}(h:Sem N m d (.num i)):d=.int i∧i.natAbs < big:=by
 cases h with
 |num h=>exact⟨rfl,h⟩
theorem Sem.mono:∀ {m m':Nat} {d:PyData} {t:TT},Sem N m d t→m≤m'→Sem N m' d t
 := by
 intro m
 induction m with
 |zero =>
  intro m' d t s h;cases s with
  |num h=>exact .num h
 |succ m ih =>
  intro m' d t s h;cases s with
  |num h=>exact .num h
  |br a b c e =>
   cases m' with
   |zero=>exact absurd h (Nat.not_succ_le_zero _)
   |succ m'=>exact .br a b c fun k d t h1 h2=>ih (e k d t h1 h2) (Nat.le_of_succ_le_succ h)
theorem Bld.mono{m':Nat}{l:LP}{f:Str→Option TT}(B:Bld N m l f)(h:m≤m'):Bld N m' l f:=⟨B.nd,B.sub,B.dom,fun k d t h1 h2=>(B.sem k d t h1 h2).mono h⟩
theorem Bld.nil:Bld N m [] fun _=>none:=⟨by simp[ks],by simp[ks],fun k=>rfl,fun k d t h=>by exact ns h⟩
theorem Bld.ext{l:LP}{f g:Str→Option TT}(B:Bld N m l f)(h:∀ k,f k=g k):Bld N m l g:=by
 have:f=g:=funext h;exact this▸B
theorem Bld.set{l:LP}{f:Str→Option TT}(B:Bld N m l f){k:Str}{d:PyData}{t:TT}(hk:k∈N)(h:Sem N m d t):Bld N m (st l k d) (upd f k (some t)):=by
 obtain⟨q1,q2⟩:=Om k d B.nd;refine⟨q1,fun y hy=>?_,fun y=>?_,fun y e u h1 h2=>?_⟩
 ·rcases(q2 y).mp hy with rfl | hy
  ·exact hk
  ·exact B.sub y hy
 ·rw[zL]
  by_cases e:y=k
  ·simp[upd,e]
  ·simp only[upd,if_neg e];exact B.dom y
 ·rw[zL] at h1
  by_cases e:y=k
  ·rw[if_pos e] at h1;simp only[upd,if_pos e] at h2;obtain rfl:=si h1;obtain rfl:=si h2;exact h
  ·rw[if_neg e] at h1;simp only[upd,if_neg e] at h2;exact B.sem y _ u h1 h2
theorem Bld.del{l:LP}{f:Str→Option TT}(B:Bld N m l f)(k:Str):Bld N m (dl l k) (upd f k none):=by
 obtain⟨q1,q2,q3⟩:=On k B.nd;refine⟨q1,fun y hy=>B.sub y (q2 y hy),fun y=>?_,fun y e u h1 h2=>?_⟩
 ·rw[q3]
  by_cases e:y=k
  ·simp[upd,e]
  ·simp only[upd,if_neg e];exact B.dom y
 ·rw[q3] at h1
  by_cases e:y=k
  ·rw[if_pos e] at h1;exact ns h1
  ·rw[if_neg e] at h1;simp only[upd,if_neg e] at h2;exact B.sem y _ u h1 h2
theorem Bld.get{l:LP}{f:Str→Option TT}(B:Bld N m l f){k:Str}{t:TT}(h:f k=some t):BGet N m l k t:=by
 refine ocs (lk l k) (fun e=>?_) fun d e=>?_
 ·try rewrite[e]
  have:=B.dom k;simp only[e,h] at this;exact bft this
 ·try rewrite[e]
  exact⟨d,e,B.sem k d t e h⟩
theorem Bld.get'{l:LP}{f:Str→Option TT}(B:Bld N m l f){k:Str}{d:PyData}(h:lk l k=some d):BGe' N m f k d:=by
 refine ocs (f k) (fun e=>?_) fun t e=>?_
 ·try rewrite[e]
  have:=B.dom k;simp only[e,h] at this;exact btf this
 ·try rewrite[e]
  exact⟨t,e,B.sem k d t h e⟩
theorem Bld.none_iff{l:LP}{f:Str→Option TT}(B:Bld N m l f){k:Str}:f k=none↔lk l k=none:=by
 have:=B.dom k;cases e:f k<;>cases e':lk l k<;>simp_all
theorem Bld.key{l:LP}{f:Str→Option TT}(B:Bld N m l f){k:Str}(h:k∈ks l):BKey N m l f k:=by
 have h1:=n7.mpr h;refine ocs (lk l k) (fun e=>?_) fun d e=>?_
 ·try rewrite[e]
  rw[e] at h1;exact bft h1
 ·try rewrite[e]
  obtain⟨t,a,b⟩:=B.get' e;exact⟨d,t,e,a,b⟩
theorem Bld.mem{l:LP}{f:Str→Option TT}(B:Bld N m l f){k:Str}:k∈ks l↔(f k).isSome=true:=by
 rw[← B.dom,n7]
theorem jD{α:Type}[DecidableEq α]:∀ {a b:List α},a.Nodup→(∀ x∈a,x∈b)→a.length≤b.length:=by
 intro v0
 induction v0 with
 |nil =>
  intro _ _ _;exact Nat.zero_le _
 |cons x r ih =>
  intro b hn hs;obtain⟨h1,h2⟩:=List.nodup_cons.mp hn;have hx:=hs x (by simp);have:=ih (b:=b.erase x) h2 fun y hy=>(List.mem_erase_of_ne (fun e:y=x=>h1 (e▸hy))).mpr (hs y (by simp[hy]));simp only[List.length_erase_of_mem hx] at this;have hp:0 < b.length:=List.length_pos_of_mem hx;show r.length+1≤b.length;exact Cp this hp
theorem Bld.len{l:LP}{f:Str→Option TT}(B:Bld N m l f):l.length≤N.length:=by
 have:=jD B.nd B.sub;simpa[ks] using this
inductive Out{α β:Type}(S:α→β→aA)(c:KN→KR→R V)(I:α→Prop)(E:X→Prop)(Q:V→Prop):Prop where
 |kn (a:α) (j:β) (hi:I a) (h:∀ kn kr,c kn kr=kn (S a j)):Out S c I E Q
 |exc (x:X) (hi:E x) (h:∀ kn kr,c kn kr=.exc x):Out S c I E Q
 |kr (v:V) (hi:Q v) (h:∀ kn kr,c kn kr=kr v):Out S c I E Q
theorem Oo{α β:Type}{S:α→β→aA}{b:aA→KN→KR→R V}{t:Expr}{I:List PyData→α→Prop}{E:X→Prop}{Q:V→Prop} :
  ∀ {l p:List PyData} {a:α} {j:β},(∀ q d r a j,p++l=q++d::r→I q a→Out S (fun kn kr=>rb (ofP (aT t d (S a j))) fun σ=>b σ kn kr) (I (q++[d])) E Q)→I p a→Out S (aP b t l (S a j)) (I (p++l)) E Q
 | [],p,a,j,_,hi=>Out.kn a j (by simpa using hi) fun _ _=>rfl
 |d::r,p,a,j,h,hi=>by
  rcases h p d r a j rfl hi with ⟨a',j',hi',e⟩ | ⟨x,hx,e⟩ | ⟨v,hv,e⟩
  ·have e1:p++d::r=(p++[d])++r:=by simp
   have:=Oo (S:=S) (b:=b) (t:=t) (l:=r) (p:=p++[d]) (a:=a') (j:=j') (I:=I) (E:=E) (Q:=Q) (fun q d' r' a j hq=>h q d' r' a j (e1.trans hq)) hi';rw[← e1] at this;rcases this with ⟨a2,j2,h2,e2⟩ | ⟨x,hx,e2⟩ | ⟨v,hv,e2⟩
   ·exact Out.kn a2 j2 h2 fun kn kr=>(e _ _).trans (e2 kn kr)
   ·exact Out.exc x hx fun kn kr=>(e _ _).trans (e2 kn kr)
   ·exact Out.kr v hv fun kn kr=>(e _ _).trans (e2 kn kr)
  ·exact Out.exc x hx fun kn kr=>e _ _
  ·exact Out.kr v hv fun kn kr=>e _ _
end Mine
namespace Mine
open PySem
section
variable {α β:Type}
theorem aE(a:α)(k:α→R β):rb (.ok a) k=k a:=rfl
theorem Vq(x:X)(k:α→R β):rb (.exc x) k=.exc x:=rfl
theorem aO(a:α):ofP (.ok a)=.ok a:=rfl
theorem eX(a:α):nx (.ok a)=.ok a:=rfl
theorem hU(a:α)(f:α→P β):P.bind (.ok a) f=f a:=rfl
theorem hV(a:α):ofO (some a)=.ok a:=rfl
theorem dN(a b:α):(if true=true then a else b)=a:=rfl
theorem jE(a b:α):(if false=true then a else b)=b:=rfl
end
theorem Op(b:Bool):tst (.ok (.fz (.bool b)))=.ok b:=rfl
theorem Vr(b:Bool):cV (.fz (.bool b))=.ok b:=rfl
theorem kS(d:PyData):dOf (.fz d)=d:=rfl
theorem zM(d:PyData):dOf (.own d)=d:=rfl
theorem eY(d:PyData):V.clear (.fz d)=.fz d:=rfl
theorem n8(d:PyData):V.clear (.own d)=.fz d:=rfl
theorem gA(d:PyData):cA (.fz d)=.ok (.fz d):=rfl
theorem jF(d:PyData):rdv (.fz d)=.ok (.fz d):=rfl
theorem Oq(d:PyData):b9 (.fz d)=.ok d:=rfl
theorem Os(d:PyData):b9 (.own d)=.ok d:=rfl
theorem Vs(d:PyData)(k:V→R V):nI (.fz d) k=k (.fz d):=rfl
theorem Vt(d:PyData)(k:V→R V):nI (.own d) k=k (.own d):=rfl
theorem Ot(d:PyData):bW (.own d)=.ok d:=rfl
theorem Vu:dW []=.ok []:=rfl
theorem Vv(v:V)(r:List (R V)):dW (.ok v::r)=rb (dW r) fun vs=>.ok (v.clear::vs):=rfl
theorem Vx(b:Bool):fzb (.ok b)=.ok (.fz (.bool b)):=rfl
theorem Vy(b:Bool):aS (.ok b)=.ok (.fz (.bool b)):=rfl
theorem Vz(d:PyData):gI (.fz d)=.ok d:=rfl
theorem V0(i:Int):toI (.fz (.int i))=.ok (some i):=rfl
theorem V1:nH none=.ok none:=rfl
theorem V2(i:Int):nH (some (.ok (.fz (.int i))))=.ok (some i):=rfl
theorem Ou(b:Bool):eJ .Not (.fz (.bool b))=.ok (.fz (.bool !b)):=rfl
theorem V3(i:Int):eJ .USub (.fz (.int i))=.ok (.fz (.int (-i))):=rfl
theorem V4:(!true)=false:=rfl
theorem V5:(!false)=true:=rfl
theorem s8(l:LP)(x:Str):getItem (.dict (mkd l)) (.str x)=frz (lk l x):=by
 show frz (bS (mkd l) x)=_;rw[jC]
theorem bE{l:LP}{x:Str}{d:PyData}(h:lk l x=some d):getItem (.dict (mkd l)) (.str x)=.ok (.fz d):=by
 simp only[s8,h];rfl
theorem dZ(l:LP)(x:Str):Mine.contains (.str x) (.dict (mkd l))=.ok (lk l x).isSome:=by
 show P.ok (bS (mkd l) x).isSome=_;rw[jC]
theorem b6(l:LP):Mine.items (.dict (mkd l))=.ok ((ks l).map .str):=by
 show P.ok ((mkd l).map (·.1))=_;rw[sZ]
theorem b7{l:LP}(x:Str)(d:PyData)(h:l.length < aV):Mine.setItem (.dict (mkd l)) (.str x) d=.ok (.dict (mkd (st l x d))):=by
 show(if (mkd l).length < aV then P.ok (PyData.dict (bY (mkd l) x d)) else .no)=_;rw[s6,if_pos h,n0]
theorem zN(l:List (PyData×PyData)):cD (.dict l)=true:=rfl
theorem Ov(i:Int):cD (.int i)=false:=rfl
theorem V6(l:List (PyData×PyData)):fB (.dict l)=false:=rfl
theorem V7(i:Int):fB (.int i)=true:=rfl
theorem V8(i:Int):fO (.int i)=false:=rfl
theorem V9(l:List (PyData×PyData)):fO (.dict l)=false:=rfl
theorem zO:∀ bs:List Bool,bools? (bs.map PyData.bool)=some bs
 | []=>rfl
 |b::r=>by
  show(bools? (r.map PyData.bool)).map (b::·)=_;rw[zO r];rfl
theorem gB:∀ xs:List Str,strs? (xs.map PyData.str)=some xs
 | []=>rfl
 |b::r=>by
  show(strs? (r.map PyData.str)).map (b::·)=_;rw[gB r];rfl
theorem zP(bs:List Bool):cE (.list (bs.map PyData.bool))=.ok (.fz (.bool (bs.all id))):=by
 show fzb ((ofO (bools? (bs.map PyData.bool))).bind fun bs=>.ok (bs.all id))=_;rw[zO];rfl
theorem jG{t:PyData→R Bool}{e:PyData→R V}{g:PyData→PyData}:∀ {l:List PyData},(∀ d∈l,t d=.ok true∧∃ v,e d=.ok v∧dOf v=g d)→aU t e l=.ok (l.map g):=by
 intro v0
 induction v0 with
 |nil =>
  intro _;exact rfl
 |cons d r ih =>
  intro h;obtain⟨h1,v,h2,h3⟩:=h d (by simp);show rb (nx (t d)) (fun b=>if b then rb (nx (e d)) fun v=>rb (aU t e r) fun xs=>.ok (dOf v::xs) else aU t e r)=_;simp only[h1,eX,aE,dN,h2,eX,aE,ih fun d hd=>h d (List.mem_cons_of_mem _ hd),h3];rfl
theorem kT{xs:List Str}{e:PyData→R V}{g:Str→Bool}(h:∀ x∈xs,e (.str x)=.ok (.fz (.bool (g x)))):aK cE (aL (.ok (xs.map .str)) (fun _=>.ok true) e)=.ok (.fz (.bool (xs.all g))):=by
 have:aU (fun _=>.ok true) e (xs.map .str)=.ok ((xs.map g).map .bool):=by
  rw[jG (g:=fun d=>match d with | .str x=>.bool (g x) | d=>d) fun d hd=>?_]
  ·simp[Function.comp_def]
  ·obtain⟨x,hx,rfl⟩:=List.mem_map.mp hd;exact⟨rfl,_,h x hx,rfl⟩
 show rb (rb (rb (.ok (xs.map .str)) fun l=>aU (fun _=>.ok true) e l) fun r=>ofP (own (.list r))) (fun v=>ofP (cE (dOf v)))=_;simp only[aE,this];show ofP (cE (.list ((xs.map g).map .bool)))=_;simp only[zP];simp[Function.comp_def,ofP]
theorem zQ{l:List PyData}{e:PyData→R V}{g:PyData→Bool}(h:∀ x∈l,e x=.ok (.fz (.bool (g x)))):aK cE (aL (.ok l) (fun _=>.ok true) e)=.ok (.fz (.bool (l.all g))):=by
 have:aU (fun _=>.ok true) e l=.ok ((l.map g).map .bool):=by
  simp only[jG (g:=fun d=>.bool (g d)) fun d hd=>⟨rfl,_,h d hd,rfl⟩];simp[Function.comp_def]
 show rb (rb (rb (.ok l) fun l=>aU (fun _=>.ok true) e l) fun r=>ofP (own (.list r))) (fun v=>ofP (cE (dOf v)))=_;simp only[aE,this];show ofP (cE (.list ((l.map g).map .bool)))=_;simp only[zP];simp[Function.comp_def,ofP]
theorem s9{t:PyData→R Bool}{g:Str→Bool}:∀ {xs:List Str},(∀ x∈xs,t (.str x)=.ok (g x))→aU t (fun d=>.ok (.fz d)) (xs.map .str)=.ok ((xs.filter g).map .str):=by
 intro v0
 induction v0 with
 |nil =>
  intro _;exact rfl
 |cons x r ih =>
  intro h;show rb (nx (t (.str x))) (fun b=>if b then rb (nx (.ok (.fz (.str x)))) fun v=>rb (aU t (fun d=>.ok (.fz d)) (r.map .str)) fun xs=>.ok (dOf v::xs) else aU t (fun d=>.ok (.fz d)) (r.map .str))=_;rw[h x (by simp),eX,aE,ih fun d hd=>h d (List.mem_cons_of_mem _ hd)];cases hg:g x
  ·rw[jE,List.filter_cons_of_neg (by simp[hg])]
  ·rw[dN,List.filter_cons_of_pos hg];rfl
noncomputable def cZ(p:Str×PyData):PyData:=.tuple [.str p.1,p.2]
theorem zR:∀ ps:LP,twos? (ps.map cZ)=some (mkd ps)
 | []=>rfl
 |p::r=>by
  show(twos? (r.map cZ)).map ((.str p.1,p.2)::·)=_;simp only[zR r];rfl
theorem zS{ps:LP}(h:ps.length < 4096):bV (.list (ps.map cZ))=.ok (.own (.dict (mkd (sts ps [])))):=by
 show((ofO (twos? (ps.map cZ))).bind fun l=>(ofO (keys? l)).bind fun l=>if l.length < 4096 then own (.dict (cW l [])) else .no)=_;simp only[zR,hV,hU,mk_keys?,hV,hU,if_pos h];show P.ok (V.own (.dict (cW ps (mkd []))))=_;simp only[sY]
theorem n9{N:List Str}{m:Nat}{F:Str→Option TT}:∀ {ps acc:LP} {f:Str→Option TT},Bld N m acc f→(∀ p∈ps,p.1∈N∧∃ t,F p.1=some t∧Sem N m p.2 t)→Bld N m (sts ps acc) fun k=>if k∈ks ps then F k else f k
 | [],acc,f,B,_=>B.ext fun k=>by simp[ks]
 |p::r,acc,f,B,h=>by
  obtain⟨h1,t,h2,h3⟩:=h p (by simp);refine(n9 (F:=F) (B.set h1 h3) fun q hq=>h q (by simp[hq])).ext fun k=>?_;show(if k∈ks r then F k else upd f p.1 (some t) k)=if k∈p.1::ks r then F k else f k
  by_cases e1:k∈ks r
  ·simp[e1]
  ·by_cases e2:k=p.1
   ·subst e2;simp[e1,upd,h2]
   ·simp[e1,e2,upd]
theorem Ow{N:List Str}{m:Nat}{F:Str→Option TT}{t:PyData→R Bool}{e:PyData→R V}:∀ {xs:List Str},(∀ x∈xs,x∈N∧((t (.str x)=.ok false∧F x=none)∨t (.str x)=.ok true∧∃ v d u,e (.str x)=.ok v∧dOf v=.tuple [.str x,d]∧F x=some u∧Sem N m d u)) →
  ∃ ps:LP,aU t e (xs.map .str)=.ok (ps.map cZ)∧ps.length≤xs.length∧(∀ k,k∈ks ps↔k∈xs∧(F k).isSome=true)∧∀ p∈ps,p.1∈N∧∃ u,F p.1=some u∧Sem N m p.2 u
 := by
 intro xs
 induction xs with
 |nil=>exact fun _=>⟨[],rfl,Nat.le_refl _,fun k=>⟨fun h=>cL h,fun h=>cL h.1⟩,fun p hp=>cL hp⟩
 |cons x r ih =>
  intro h;obtain⟨ps,e1,e2,e3,e4⟩:=ih fun y hy=>h y (List.mem_cons_of_mem _ hy);have hs:aU t e ((x::r).map .str)=rb (nx (t (.str x))) (fun b=>if b then rb (nx (e (.str x))) fun v=>rb (aU t e (r.map .str)) fun xs=>.ok (dOf v::xs) else aU t e (r.map .str)):=rfl;obtain⟨hN,⟨h1,h2⟩ | ⟨h1,v,d,u,h2,h3,h4,h5⟩⟩:=h x (by simp)
  ·refine⟨ps,?_,Nat.le_succ_of_le e2,fun k=>?_,e4⟩
   ·simp only[hs,h1,eX,aE,jE,e1]
   ·simp only[e3 k]
    by_cases ek:k=x
    ·subst ek;simp[h2]
    ·simp[ek]
  ·refine⟨(x,d)::ps,?_,Nat.succ_le_succ e2,fun k=>?_,fun p hp=>?_⟩
   ·simp only[hs,h1,eX,aE,dN,h2,eX,aE,e1,aE,h3];rfl
   ·show k∈x::ks ps↔_;simp only[List.mem_cons,e3 k]
    by_cases ek:k=x
    ·subst ek;simp[h4]
    ·simp[ek]
   ·rcases List.mem_cons.mp hp with rfl | hp
    ·exact⟨hN,u,h4,h5⟩
    ·exact e4 p hp
theorem tA{N:List Str}{m:Nat}{F:Str→Option TT}{t:PyData→R Bool}{e:PyData→R V}{xs:List Str}(hl:xs.length < 4096)(h:∀ x∈xs,x∈N∧((t (.str x)=.ok false∧F x=none)∨t (.str x)=.ok true∧∃ v d u,e (.str x)=.ok v∧dOf v=.tuple [.str x,d]∧F x=some u∧Sem N m d u)) :
  ∃ l:LP,aK bV (aL (.ok (xs.map .str)) t e)=.ok (.own (.dict (mkd l)))∧Bld N m l fun k=>if k∈xs then F k else none:=by
 obtain⟨ps,e1,e2,e3,e4⟩:=Ow h;refine⟨sts ps [],?_,(n9 (F:=F) Bld.nil e4).ext fun k=>?_⟩
 ·show rb (rb (rb (.ok (xs.map .str)) fun l=>aU t e l) fun r=>ofP (own (.list r))) (fun v=>ofP (bV (dOf v)))=_;rw[aE,e1];show ofP (bV (.list (ps.map cZ)))=_;rw[zS (Nat.lt_of_le_of_lt e2 hl)];rfl
 ·by_cases hk:k∈xs
  ·rw[if_pos hk];refine ocs (F k) (fun hF=>?_) fun u hF=>?_
   ·try rewrite[hF]
    rw[if_neg];intro hc;have:=((e3 k).mp hc).2;rw[hF] at this;exact bft this
   ·try rewrite[hF]
    rw[if_pos ((e3 k).mpr ⟨hk,by rw[hF];rfl⟩)]
  ·rw[if_neg hk,if_neg fun hc=>hk ((e3 k).mp hc).1]
theorem Bld.all{N:List Str}{m:Nat}{l:LP}{f F:Str→Option TT}(B:Bld N m l f)(h:∀ k,f k=none→F k=none){l':LP}{m':Nat}(C:Bld N m' l' fun k=>if k∈ks l then F k else none):Bld N m' l' F :=
 C.ext fun k=>by
  by_cases hk:k∈ks l
  ·rw[if_pos hk]
  ·rw[if_neg hk];refine(h k ?_).symm;refine ocs (f k) (fun e=>?_) fun t e=>?_
   ·try rewrite[e]
    rfl
   ·try rewrite[e]
    exact absurd (B.mem.mpr (by rw[e];rfl)) hk
theorem oB(xs:List Str):eqO (.list (xs.map .str)) (.list [])=.ok xs.isEmpty:=by
 cases xs with
 |nil=>rfl
 |cons x r=>rfl
end Mine
namespace Mine
open PySem
end Mine
namespace Mine
open PySem
noncomputable def inL(c:Nat):Bool:=Txt.contains (so "abcdefghijklmnopqrstuvwxyz") ⟨#[c]⟩
structure okN(x:Str):Prop where
 lo:1≤x.cps.size
 hi:x.cps.size≤8
 let_:∀ c∈x.cps.toList,inL c=true∧c < 16 ^ 8
theorem gC(n:Nat){x:Str}(h:okN x):rn (n+1) "is_name" [.fz (.str x)]=.ok (.fz (.bool true)):=by
 simp only[Lm];have h1:decide ((1:Int)≤(x.cps.size:Int))=true:=by have:=h.lo;simp;exact uE this
 have h2:decide ((x.cps.size:Int)≤8)=true:=by have:=h.hi;simp;exact Cq this
 have hc:iU (.ok (.fz (.int 1))) .LtE (ofP (bO (.str x))) .LtE (.ok (.fz (.int 8)))=.ok (.fz (.bool true)):=by
  show aS (if decide ((1:Int)≤(x.cps.size:Int))=true then .ok (decide ((x.cps.size:Int)≤8)) else .ok false)=_;simp only[h1,dN,h2];rfl
 have ha:aK cE (aL (ofP (items (.str x))) (fun _=>.ok true) (fun d1=>(aS (ofP (cmp .In d1 (.str (so "abcdefghijklmnopqrstuvwxyz")))))))=.ok (.fz (.bool true)):=by
  refine(zQ (l:=x.cps.toList.map bT) (g:=fun _=>true) fun d hd=>?_).trans (by simp);obtain⟨c,hc,rfl⟩:=List.mem_map.mp hd;show R.ok (V.fz (.bool (inL c)))=_;simp only[(h.let_ c hc).1]
 simp only[hc,ha];rfl
theorem kU(n:Nat)(d:PyData):rn (n+1) "is_whole" [.fz d]=.ok (.fz (.bool (fB d&&!fO d))):=by
 simp only[Ln];cases fB d<;>cases fO d<;>rfl
structure Wld(N:List Str):Prop where
 len:N.length=14
 nd:N.Nodup
 ok:∀ x∈N,okN x
variable {N:List Str} {m:Nat}
theorem Bld.lt(H:Wld N){l:LP}{f:Str→Option TT}(B:Bld N m l f){k:Nat}(hk:14 < k):l.length < k:=by
 have:=B.len;simp only[H.len] at this;exact Cr hk this
@[elab_as_elim] theorem exnE {motive:Nat→Prop} {a c x:Nat} (n:Nat) (h:a+c≤n) (i:x≤n) (g:∀ k,x≤k+c→motive (k+c)):motive n:=by
 have e:=Nat.sub_add_cancel (Nat.le_trans (Nat.le_add_left c a) h);rw[← e];exact g _ (by rw[e];exact i)
theorem fd{a b k c:Nat}(h:a+k+c≤b+c):a≤b:=Nat.le_trans (Nat.le_add_right a k) (Nat.le_of_add_le_add_right h)
theorem mx{k x y r s:Nat}(h:k*max x y+r≤s):k*x+r≤s∧k*y+r≤s:=⟨Nat.le_trans (Nat.add_le_add_right (Nat.mul_le_mul_left k (Nat.le_max_left x y)) r) h,Nat.le_trans (Nat.add_le_add_right (Nat.mul_le_mul_left k (Nat.le_max_right x y)) r) h⟩
theorem d8(l:LP):(ks l).length=l.length:=by simp[ks]
theorem zT(H:Wld N):∀ {m n:Nat} {d:PyData} {t:TT},Sem N m d t→m+1≤n→rn (n+1) "is_tree" [.fz d]=.ok (.fz (.bool true)):=by
 intro m
 induction m with
 |zero =>
  intro n d t h hn;obtain⟨i,rfl,rfl,_⟩ | ⟨_,_,_,e,_⟩:=h.inv'
  ·refine exnE (c:=1) n hn hn fun n hn=>?_;simp only[rX,kU];rfl
  ·cases e
 |succ m ih =>
  intro n d t h hn;refine exnE (c:=1) n hn hn fun n hn=>?_;obtain⟨i,rfl,rfl,_⟩ | ⟨_,l,f,e,rfl,rfl,B⟩:=h.inv'
  ·simp only[rX,kU];rfl
  ·cases e;simp only[rX,kU,b6];have:=kT (xs:=ks l) (g:=fun _=>true) (e:=fun d1=>(aY (rn (n+1) "is_name" [.fz d1]) (aG (rn (n+1) "is_tree") [(ofP (getItem (.dict (mkd l)) d1))]))) fun x hx=>by
    obtain⟨d,t,h1,h2,h3⟩:=B.key hx;simp only[gC n (H.ok x (B.sub x hx)),bE h1];exact ih h3 (by exact Cs hn)
   simp only[aO,this];simp[ifS,unS,fB,cD,Op,aE,ofP,Ou]
inductive Gives(r:R V)(P:PyData→Prop):Prop where
 |mk (v:V) (d:PyData) (e:r=.ok v) (c:v.clear=.fz d) (p:P d):Gives r P
theorem eF{v:V}{d:PyData}(h:v.clear=.fz d):dOf v=d:=by
 cases v with
 |fz=>cases h;rfl
 |own=>cases h;rfl
 |ex=>cases h
theorem Ox{f:List V→R V}{r:R V}{v:V}{d:PyData}(h:r=.ok v)(hv:v.clear=.fz d):aG f [r]=f [.fz d]:=by
 rw[h];show f [v.clear]=_;rw[hv]
theorem oC{α β:Type}{S:α→β→aA}{b:aA→KN→KR→R V}{t:Expr}{I:List Str→α→Prop}{E:X→Prop}{Q:V→Prop} :
  ∀ {l p:List Str} {a:α} {j:β},(∀ q d r a j,p++l=q++d::r→I q a→Out S (fun kn kr=>rb (ofP (aT t (.str d) (S a j))) fun σ=>b σ kn kr) (I (q++[d])) E Q)→I p a→Out S (aP b t (l.map .str) (S a j)) (I (p++l)) E Q
 | [],p,a,j,_,hi=>Out.kn a j (by simpa using hi) fun _ _=>rfl
 |d::r,p,a,j,h,hi=>by
  rcases h p d r a j rfl hi with ⟨a',j',hi',e⟩ | ⟨x,hx,e⟩ | ⟨v,hv,e⟩
  ·have e1:p++d::r=(p++[d])++r:=by simp
   have:=oC (S:=S) (b:=b) (t:=t) (l:=r) (p:=p++[d]) (a:=a') (j:=j') (I:=I) (E:=E) (Q:=Q) (fun q d' r' a j hq=>h q d' r' a j (e1.trans hq)) hi';rw[← e1] at this;rcases this with ⟨a2,j2,h2,e2⟩ | ⟨x,hx,e2⟩ | ⟨v,hv,e2⟩
   ·exact Out.kn a2 j2 h2 fun kn kr=>(e _ _).trans (e2 kn kr)
   ·exact Out.exc x hx fun kn kr=>(e _ _).trans (e2 kn kr)
   ·exact Out.kr v hv fun kn kr=>(e _ _).trans (e2 kn kr)
  ·exact Out.exc x hx fun kn kr=>e _ _
  ·exact Out.kr v hv fun kn kr=>e _ _
theorem zU{β:Type}{S:β→aA}{b:aA→KN→KR→R V}{t:Expr}{c:Str→Bool}{v:V}{xs:List Str}(h:∀ x∈xs,∀ j,∃ j',∀ kn kr,(rb (ofP (aT t (.str x) (S j))) fun σ=>b σ kn kr)=if c x=true then kn (S j') else kr v) :
  ∀ j,∃ j',∀ kn kr,aP b t (xs.map .str) (S j) kn kr=if xs.all c=true then kn (S j') else kr v:=by
 induction xs with
 |nil=>exact fun j=>⟨j,fun _ _=>rfl⟩
 |cons x xs ih =>
  intro j;obtain⟨j1,e1⟩:=h x List.mem_cons_self j;obtain⟨j2,e2⟩:=ih (fun x hx=>h x (List.mem_cons_of_mem _ hx)) j1;refine⟨j2,fun kn kr=>(e1 _ kr).trans ?_⟩;rw[List.all_cons,e2];cases c x<;>rfl
theorem oE{q r l:List Str}{x:Str}(h:[]++l=q++x::r):x∈l:=by
 have:x∈q++x::r:=by simp
 simp only[← h] at this;simpa using this
theorem zV(H:Wld N){β:Type}{S:LP→β→aA}{b:aA→KN→KR→R V}{t:Expr}{xs:List Str}(F:Str→Option TT){E:X→Prop}(P:Str→Prop){j:β}
  (h:∀ q x r,[]++xs=q++x::r→(∀ y∈q,P y)→∀ a j,a.length < aV→x∈N∧((P x∧F x=none∧∃ j',∀ kn kr,(rb (ofP (aT t (.str x) (S a j))) fun σ=>b σ kn kr)=kn (S a j')) ∨
   (P x∧∃ d u j',F x=some u∧Sem N m d u∧∀ kn kr,(rb (ofP (aT t (.str x) (S a j))) fun σ=>b σ kn kr)=kn (S (st a x d) j')) ∨
   (∃ e,E e∧∀ kn kr,(rb (ofP (aT t (.str x) (S a j))) fun σ=>b σ kn kr)=.exc e))) :
  (∃ a j',Bld N m a (fun k=>if k∈xs then F k else none)∧(∀ x∈xs,P x)∧∀ kn kr,aP b t (xs.map .str) (S [] j) kn kr=kn (S a j'))∨∃ e,E e∧∀ kn kr,aP b t (xs.map .str) (S [] j) kn kr=.exc e:=by
 have:=oC (S:=S) (b:=b) (t:=t) (l:=xs) (p:=[]) (a:=[]) (j:=j) (I:=fun p a=>Bld N m a (fun k=>if k∈p then F k else none)∧∀ x∈p,P x) (E:=E) (Q:=fun _=>False) (fun q x r a j hq hi=>?_) ⟨Bld.nil.ext fun k=>by simp,fun x hx=>by exact cL hx⟩
 ·rcases this with ⟨a,j,h1,h2⟩ | ⟨e,h1,h2⟩ | ⟨v,hv,_⟩
  ·exact .inl ⟨a,j,h1.1,h1.2,h2⟩
  ·exact .inr ⟨e,h1,h2⟩
  ·exact hv.elim
 ·have hP:P x→∀ y∈q++[x],P y:=fun hx y hy=>by
   rcases List.mem_append.mp hy with hy | hy
   ·exact hi.2 y hy
   ·simp only[List.mem_singleton.mp hy];exact hx
  obtain⟨hN,⟨h0,h1,j',h2⟩ | ⟨h0,d,u,j',h1,h2,h3⟩ | ⟨e,h1,h2⟩⟩:=h q x r hq hi.2 a j (hi.1.lt H (by decide))
  ·refine Out.kn a j' ⟨hi.1.ext fun k=>?_,hP h0⟩ h2
   by_cases e:k=x
   ·subst e;simp[h1]
   ·simp[e]
  ·refine Out.kn (st a x d) j' ⟨(hi.1.set hN h2).ext fun k=>?_,hP h0⟩ h3
   by_cases e:k=x
   ·subst e;simp[h1,upd]
   ·simp[e,upd]
  ·exact Out.exc e h1 h2
theorem kW(H:Wld N){β:Type}{S:LP→β→aA}{b:aA→KN→KR→R V}{t:Expr}{xs:List Str}(F:Str→Option TT){E:X→Prop}{j:β}
  (h:∀ x∈xs,∀ a j,a.length < aV→x∈N∧((F x=none∧∃ j',∀ kn kr,(rb (ofP (aT t (.str x) (S a j))) fun σ=>b σ kn kr)=kn (S a j')) ∨
   (∃ d u j',F x=some u∧Sem N m d u∧∀ kn kr,(rb (ofP (aT t (.str x) (S a j))) fun σ=>b σ kn kr)=kn (S (st a x d) j')) ∨
   (∃ e,E e∧∀ kn kr,(rb (ofP (aT t (.str x) (S a j))) fun σ=>b σ kn kr)=.exc e))) :
  (∃ a j',Bld N m a (fun k=>if k∈xs then F k else none)∧∀ kn kr,aP b t (xs.map .str) (S [] j) kn kr=kn (S a j'))∨∃ e,E e∧∀ kn kr,aP b t (xs.map .str) (S [] j) kn kr=.exc e:=by
 rcases zV H (S:=S) (b:=b) (t:=t) (xs:=xs) (j:=j) (m:=m) F (E:=E) (fun _=>True) (fun q x r hq _ a j ha=>(h x (oE hq) a j ha).imp id (Or.imp (fun h=>⟨trivial,h⟩) (Or.imp (fun h=>⟨trivial,h⟩) id))) with ⟨a,j',h1,_,h2⟩ | h
 ·exact .inl ⟨a,j',h1,h2⟩
 ·exact .inr h
theorem zW(H:Wld N):∀ {m n:Nat} {d:PyData} {t:TT},Sem N m d t→m≤n→Gives (rn (n+1) "copied" [.fz d]) fun d'=>Sem N m d' t:=by
 intro m
 induction m with
 |zero =>
  intro n d t h hn;obtain⟨i,rfl,rfl,hi⟩ | ⟨_,_,_,e,_⟩:=h.inv'
  ·exact⟨_,_,(r6 n _).trans rfl,rfl,.num hi⟩
  ·cases e
 |succ m ih =>
  intro n d t h hn;refine exnE (c:=1) n hn hn fun n hn=>?_;obtain⟨i,rfl,rfl,hi⟩ | ⟨_,l,f,e,rfl,rfl,B⟩:=h.inv'
  ·exact⟨_,_,(r6 _ _).trans rfl,rfl,.num hi⟩
  ·cases e;have:=kW H (m:=m) (S:=fun (a:LP) (j:Option V)=>gT (ζ (.dict (mkd l))) (some (.own (.dict (mkd a)))) j) (b:=rY (n+1)) (t:=rZ) (xs:=ks l) (j:=none) f (E:=fun _=>False) fun x hx a j ha=>?_
   ·obtain⟨a,j,hi,e⟩ | ⟨x,hx,_⟩:=this
    ·refine⟨.own (.dict (mkd a)),_,?_,rfl,(B.all (fun _ h=>h) hi).toSem⟩;simp only[r6,b6];exact(e _ _).trans (Lr ..)
    ·exact hx.elim
   ·obtain⟨dx,tx,h1,h2,h3⟩:=B.key hx;obtain⟨v,d',e1,e2,e3⟩:=ih h3 (Nat.le_of_succ_le_succ hn);refine⟨B.sub x hx,.inr (.inl ⟨d',tx,some (.fz (.str x)),h2,e3,fun kn kr=>?_⟩)⟩;simp only[Lp,aO,aE,Lq,bE h1];show rb (rn (n+1) "copied" [.fz dx]) (fun v=>rb (ofP (Mine.setItem (.dict (mkd a)) (.str x) (dOf v))) _)=_;simp only[e1,aE,eF e2,b7 x d' ha];rfl
end Mine
namespace Mine
open PySem
noncomputable def tl:PyData→List PyData
 | .tuple l=>l
 |_=>[]
noncomputable def enc:WW→PyData
 | .whole=>.tuple [.str (so "whole")]
 | .pick n=>.tuple [.str (so "pick"),.str n]
 | .call a b=>.tuple [.str (so "call"),.str a,.str b]
 | .sift f l=>.tuple [.str (so "sift"),.str f,.int l]
 | .join a b fs=>.tuple [.str (so "join"),.str a,.str b,.tuple (fs.map .str)]
 | .each v=>.tuple [.str (so "each"),enc v]
 | .andThen a b=>.tuple [.str (so "then"),enc a,enc b]
 | .beside r=>.tuple [.str (so "beside"),enc r]
 | .bnil=>.tuple []
 | .bcons n p v r=>.tuple (.tuple [.str n,.str p,enc v]::tl (enc r))
noncomputable def bJ(r:WW):List PyData:=tl (enc r)
theorem kX{r:WW}(h:r.isRows=true):enc r=.tuple (bJ r):=by
 cases r<;>first | rfl | cases h
noncomputable def W.hgt:WW→Nat
 | .each v=>v.hgt+1
 | .andThen a b=>max a.hgt b.hgt+1
 | .beside r=>r.hgt+1
 | .bcons _ _ v r=>max v.hgt r.hgt
 |_=>0
noncomputable def okW(N:List Str):WW→Prop
 | .whole=>True
 | .pick n=>n∈N
 | .call a b=>a∈N∧b∈N∧a≠b
 | .sift f l=>f∈N∧l.natAbs < 10 ^ 30
 | .join a b fs=>(a∈N∧b∈N∧a≠b)∧(1≤fs.length∧fs.length≤6)∧fs.Nodup∧∀ f∈fs,f∈N
 | .each v=>okW N v∧v.isRows=false
 | .andThen a b=>(okW N a∧a.isRows=false)∧okW N b∧b.isRows=false
 | .beside r=>(okW N r∧r.isRows=true)∧1≤r.names.length∧r.names.length≤6
 | .bnil=>True
 | .bcons n p v r=>(n∈N∧p∈N)∧(okW N v∧v.isRows=false)∧(okW N r∧r.isRows=true)∧n∉r.names∧p∉r.parts
variable {N:List Str}
theorem okW.wf:∀ {w:WW},okW N w→w.wf:=by
 intro w
 induction w with
 |call a b=>exact fun h=>h.2.2
 |join a b fs=>exact fun h=>h.1.2.2
 |each v ih=>exact fun h=>⟨ih h.1,h.2⟩
 |andThen a b iha ihb=>exact fun h=>⟨⟨iha h.1.1,h.1.2⟩,ihb h.2.1,h.2.2⟩
 |beside r ih=>exact fun h=>⟨ih h.1.1,h.1.2⟩
 |bcons n p v r ihv ihr=>exact fun h=>⟨⟨ihv h.2.1.1,h.2.1.2⟩,⟨ihr h.2.2.1.1,h.2.2.1.2⟩,h.2.2.2⟩
 |_=>exact fun _=>trivial
theorem Oy:∀ {l:List Str},l.Nodup→b8 l=l:=by
 intro v0
 induction v0 with
 |nil =>
  intro _;exact rfl
 |cons a r ih =>
  intro h;obtain⟨h1,h2⟩:=List.nodup_cons.mp h;show(if r.contains a then b8 r else a::b8 r)=_;rw[if_neg (by simpa using h1),ih h2]
theorem zX{l:List Str}(h:l.Nodup)(hl:l.length < 64):dT (.tuple (l.map .str))=.ok (.fz (.int l.length)):=by
 show((ofO (strs? (l.map .str))).bind fun ss=>if ss.length < 64 then fz (.int (b8 ss.reverse).length) else .no)=_;rw[gB,hV,hU,if_pos hl,Oy (by simpa[List.Nodup,List.pairwise_reverse,ne_comm] using h),List.length_reverse];rfl
theorem Oz{l:List Str}(h:l.Nodup)(hl:l.length < 64):dT (.list (l.map .str))=.ok (.fz (.int l.length)):=zX h hl
theorem zY(H:Wld N)(n:Nat){a b:Str}(ha:a∈N)(hb:b∈N)(hab:a≠b):rn (n+2) "are_two_names" [.fz (.str a),.fz (.str b)]=.ok (.fz (.bool true)):=by
 simp only[Lv,gC n (H.ok a ha),gC n (H.ok b hb)];show R.ok (V.fz (.bool !(a==b)))=_;simp only[beq_false_of_ne hab];rfl
theorem O0(n:Nat){l:Int}(hl:l.natAbs < 10 ^ 30):rn (n+2) "is_least" [.fz (.int l)]=.ok (.fz (.bool true)):=by
 rw[Lw,kU];show R.ok (V.fz (.bool (decide ((if l < 0 then -l else l) < (10 ^ 30:Int)))))=_;congr;rw[decide_eq_true_eq]
 split<;>omega
theorem zZ{α:Type}{l:List α}(h1:1≤l.length)(h2:l.length≤6):aS (if decide ((1:Int)≤(l.length:Int))=true then R.ok (decide ((l.length:Int)≤6)) else R.ok false)=.ok (.fz (.bool true)):=by
 have e1:decide ((1:Int)≤(l.length:Int))=true:=by simp;exact uE h1
 have e2:decide ((l.length:Int)≤6)=true:=by simp;exact Ct h2
 simp only[e1,dN,e2];rfl
theorem tB{l:List Str}{r:List PyData}{d:PyData}(hd:d=.tuple (l.map .str)∨d=.list (l.map .str))(h:l.Nodup)(hl:l.length < 64)(hr:r.length=l.length):aD (aK dT (.ok (.fz d))) .Eq (ofP (bO (.tuple r)))=.ok (.fz (.bool true)):=by
 show rb (ofP (dT d)) (fun a=>aS (ofP (cmp .Eq (dOf a) (.int r.length))))=_;rw[show dT d=.ok (.fz (.int l.length)) from hd.elim (fun e=>e▸zX h hl) fun e=>e▸Oz h hl,hr];show R.ok (V.fz (.bool ((l.length:Int)==(l.length:Int))))=_;simp
theorem O1(H:Wld N)(n:Nat){fs:List Str}(h1:1≤fs.length)(h2:fs.length≤6)(hn:fs.Nodup)(hN:∀ f∈fs,f∈N):rn (n+2) "are_fields" [.fz (.tuple (fs.map .str))]=.ok (.fz (.bool true)):=by
 have e0:iU (.ok (.fz (.int 1))) .LtE (ofP (bO (.tuple (fs.map .str)))) .LtE (.ok (.fz (.int 6)))=.ok (.fz (.bool true)):=zZ (l:=fs.map PyData.str) (by simpa using h1) (by simpa using h2);have e1:aK cE (aL (ofP (items (.tuple (fs.map .str)))) (fun d1=>(.ok true)) (fun d1=>(rn (n+1) "is_name" [.fz d1])))=.ok (.fz (.bool true)) :=
  (kT (g:=fun _=>true) fun x hx=>gC n (H.ok x (hN x hx))).trans (by simp)
 rw[Lu,e0,e1,tB (.inl rfl) hn (by exact oX h2) (by simp)];rfl
theorem z0:∀ {r:WW},r.isRows=true→okW N r→(aU (fun _=>.ok true) (fun d=>ofP (getItem d (.int 0))) (bJ r)=.ok (r.names.map .str)∧aU (fun _=>.ok true) (fun d=>ofP (getItem d (.int 1))) (bJ r)=.ok (r.parts.map .str))∧(r.names.Nodup∧r.parts.Nodup)∧(bJ r).length=r.names.length∧r.parts.length=r.names.length:=by
 intro r
 induction r with
 |bnil=>exact fun _ _=>⟨⟨rfl,rfl⟩,⟨List.nodup_nil,List.nodup_nil⟩,rfl,rfl⟩
 |bcons n p v r ihv ihr =>
  intro _ h;obtain⟨⟨i1,i2⟩,⟨i3,i4⟩,i5,i6⟩:=ihr h.2.2.1.2 h.2.2.1.1;refine⟨⟨?_,?_⟩,⟨List.nodup_cons.mpr ⟨h.2.2.2.1,i3⟩,List.nodup_cons.mpr ⟨h.2.2.2.2,i4⟩⟩,congrArg (·+1) i5,congrArg (·+1) i6⟩
  ·show rb (aU (fun _=>.ok true) (fun d=>ofP (getItem d (.int 0))) (bJ r)) (fun xs=>.ok (.str n::xs))=_;rw[i1];rfl
  ·show rb (aU (fun _=>.ok true) (fun d=>ofP (getItem d (.int 1))) (bJ r)) (fun xs=>.ok (.str p::xs))=_;rw[i2];rfl
 |_=>exact fun h=>by exact bft h
theorem O2(n:Nat){r:WW}(hr:r.isRows=true)(ho:okW N r)(h1:1≤r.names.length)(h2:r.names.length≤6)(h:∀ d∈bJ r,rn n "is_row" [.fz d]=.ok (.fz (.bool true))):rn (n+1) "is_beside" [.fz (enc r)]=.ok (.fz (.bool true)):=by
 obtain⟨⟨i1,i2⟩,⟨i3,i4⟩,i5,i6⟩:=z0 hr ho;simp only[kX hr,Ls];have e0:iU (.ok (.fz (.int 1))) .LtE (ofP (bO (.tuple (bJ r)))) .LtE (.ok (.fz (.int 6)))=.ok (.fz (.bool true)):=zZ (l:=bJ r) (by exact Cu h1 i5) (by exact Cv h2 i5);have e1:aK cE (aL (ofP (items (.tuple (bJ r)))) (fun d1=>(.ok true)) (fun d1=>(rn n "is_row" [.fz d1])))=.ok (.fz (.bool true)) :=
  (zQ (l:=bJ r) (g:=fun _=>true) h).trans (by simp)
 have e2:aL (ofP (items (.tuple (bJ r)))) (fun _=>.ok true) (fun d=>ofP (getItem d (.int 0)))=.ok (.own (.list (r.names.map .str))):=by
  show rb (aU (fun _=>.ok true) (fun d=>ofP (getItem d (.int 0))) (bJ r)) (fun r=>ofP (own (.list r)))=_;simp only[i1];rfl
 have e3:aL (ofP (items (.tuple (bJ r)))) (fun _=>.ok true) (fun d=>ofP (getItem d (.int 1)))=.ok (.own (.list (r.parts.map .str))):=by
  show rb (aU (fun _=>.ok true) (fun d=>ofP (getItem d (.int 1))) (bJ r)) (fun r=>ofP (own (.list r)))=_;simp only[i2];rfl
 simp only[e0,e1,e2,e3];show rb (aY (aD (aK dT (.ok (.fz (.list (r.names.map .str))))) .Eq (ofP (bO (.tuple (bJ r))))) (aD (aK dT (.ok (.fz (.list (r.parts.map .str))))) .Eq (ofP (bO (.tuple (bJ r)))))) R.ok=_;rw[tB (.inr rfl) i3 (by exact oX h2) i5,tB (.inr rfl) i4 (by exact Cw h2 i6) (by exact Cx i5 i6)];rfl
section
theorem O3(n:Nat):rn (n+1) "is_view" [.fz (enc .whole)]=.ok (.fz (.bool true)):=by kernel_rfl
theorem O4(n:Nat)(x:Str):rn (n+1) "is_view" [.fz (enc (.pick x))]=rb (rn n "is_name" [.fz (.str x)]) R.ok:=by kernel_rfl
theorem O5(n:Nat)(x y:Str):rn (n+1) "is_view" [.fz (enc (.call x y))]=rb (rn n "are_two_names" [.fz (.str x),.fz (.str y)]) R.ok:=by kernel_rfl
theorem O6(n:Nat)(x:Str)(l:Int):rn (n+1) "is_view" [.fz (enc (.sift x l))]=rb (aY (rn n "is_name" [.fz (.str x)]) (rn n "is_least" [.fz (.int l)])) R.ok:=by kernel_rfl
theorem O7(n:Nat)(x y:Str)(fs:List Str):rn (n+1) "is_view" [.fz (enc (.join x y fs))]=rb (aY (rn n "are_two_names" [.fz (.str x),.fz (.str y)]) (rn n "are_fields" [.fz (.tuple (fs.map .str))])) R.ok:=by kernel_rfl
theorem O8(n:Nat)(v:WW):rn (n+1) "is_view" [.fz (enc (.each v))]=rb (rn n "is_view" [.fz (enc v)]) R.ok:=by kernel_rfl
theorem O9(n:Nat)(a b:WW):rn (n+1) "is_view" [.fz (enc (.andThen a b))]=rb (aY (rn n "is_view" [.fz (enc a)]) (rn n "is_view" [.fz (enc b)])) R.ok:=by kernel_rfl
theorem Pa(n:Nat)(r:WW):rn (n+1) "is_view" [.fz (enc (.beside r))]=rb (rn n "is_beside" [.fz (enc r)]) R.ok:=by kernel_rfl
theorem Pb(n:Nat)(x y:Str)(v:WW):rn (n+1) "is_row" [.fz (.tuple [.str x,.str y,enc v])]=rb (aY (rn n "is_name" [.fz (.str x)]) (aY (rn n "is_name" [.fz (.str y)]) (rn n "is_view" [.fz (enc v)]))) R.ok:=by kernel_rfl
end
noncomputable def Pc(w:WW):Prop:=∀ n,3*w.hgt+3≤n→rn n "is_view" [.fz (enc w)]=.ok (.fz (.bool true))
noncomputable def Pd(w:WW):Prop:=∀ n,3*w.hgt+4≤n→∀ d∈bJ w,rn n "is_row" [.fz d]=.ok (.fz (.bool true))
structure ViewS(w:WW):Prop where
 a:w.isRows=false→Pc w
 b:w.isRows=true→Pd w
theorem Pe(H:Wld N):∀ {w:WW},okW N w→ViewS w:=by
 intro w
 induction w with
 |whole=>exact fun _=>⟨fun _ n hn=>exnE (c:=1) n hn hn fun n _=>O3 n,fun h=>by exact bft h⟩
 |pick x=>exact fun h=>⟨fun _ n hn=>by
   refine exnE (c:=2) n hn hn fun n hn=>?_;simp only[O4,gC n (H.ok x h)];rfl,fun h=>by exact bft h⟩
 |call a b=>exact fun h=>⟨fun _ n hn=>by
   refine exnE (c:=3) n hn hn fun n hn=>?_;simp only[O5,zY H n h.1 h.2.1 h.2.2];rfl,fun h=>by exact bft h⟩
 |sift x l=>exact fun h=>⟨fun _ n hn=>by
   refine exnE (c:=3) n hn hn fun n hn=>?_;simp only[O6,gC (n+1) (H.ok x h.1),O0 n h.2];rfl,fun h=>by exact bft h⟩
 |join a b fs=>exact fun h=>⟨fun _ n hn=>by
   refine exnE (c:=3) n hn hn fun n hn=>?_;simp only[O7,zY H n h.1.1 h.1.2.1 h.1.2.2,O1 H n h.2.1.1 h.2.1.2 h.2.2.1 h.2.2.2];rfl,fun h=>by exact bft h⟩
 |each v ih=>exact fun h=>⟨fun _ n hn=>by
   have hn:3*(v.hgt+1)+3≤n:=hn;refine exnE (c:=1) n hn hn fun n hn=>?_;simp only[O8,(ih h.1).1 h.2 n (fd (k:=2) (c:=1) hn)];rfl,fun h=>by exact bft h⟩
 |andThen a b iha ihb=>exact fun h=>⟨fun _ n hn=>by
   have hn:3*(max a.hgt b.hgt+1)+3≤n:=hn;refine exnE (c:=1) n hn hn fun n hn=>?_;simp only[O9,(iha h.1.1).1 h.1.2 n (mx (fd (k:=2) (c:=1) hn)).1,(ihb h.2.1).1 h.2.2 n (mx (k:=3) (r:=3) (fd (k:=2) (c:=1) hn)).2];rfl,fun h=>by exact bft h⟩
 |beside r ih=>exact fun h=>⟨fun _ n hn=>by
   have hn:3*(r.hgt+1)+3≤n:=hn;refine exnE (c:=2) n hn hn fun n hn=>?_;simp only[Pa,O2 n h.1.2 h.1.1 h.2.1 h.2.2 fun d hd=>(ih h.1.1).2 h.1.2 n (fd (k:=0) (c:=2) hn) d hd];rfl,fun h=>by exact bft h⟩
 |bnil=>exact fun _=>⟨fun h=>(by cases h),fun _ n _ d hd=>by cases hd⟩
 |bcons x y v r ihv ihr =>
  intro h;refine⟨fun h=>(by exact btf h),fun _ n hn d hd=>?_⟩;have hn:3*(max v.hgt r.hgt)+4≤n:=hn;rcases List.mem_cons.mp (show d∈.tuple [.str x,.str y,enc v]::bJ r from hd) with rfl | hd
  ·refine exnE (c:=2) n hn hn fun n hn=>?_;simp only[Pb,gC n (H.ok x h.1.1),gC n (H.ok y h.1.2),(ihv h.2.1.1).1 h.2.1.2 (n+1) (fd (k:=0) (c:=1) (mx hn).1)];rfl
  ·exact(ihr h.2.2.1.1).2 h.2.2.1.2 n (mx hn).2 d hd
end Mine
namespace Mine
open PySem
variable {N:List Str} {m:Nat}
theorem z3:∀ {l:LP} {p:Str×PyData},(ks l).Nodup→p∈l→lk l p.1=some p.2
 |q::r,p,h,hp=>by
  obtain⟨h1,h2⟩:=List.nodup_cons.mp (show(q.1::ks r).Nodup from h);show(if p.1=q.1 then some q.2 else lk r p.1)=_;rcases List.mem_cons.mp hp with rfl | hp
  ·rw[if_pos rfl]
  ·rw[if_neg fun e:p.1=q.1=>h1 (e▸List.mem_map_of_mem (f:=(·.1)) hp),z3 h2 hp]
theorem Bld.upd{l1 l2:LP}{f g:Str→Option TT}(B:Bld N m l1 f)(C:Bld N m l2 g):Bld N m (sts l2 l1) fun k=>(g k).or (f k):=by
 refine(n9 (F:=g) B fun p hp=>?_).ext fun k=>?_
 ·have h:=z3 C.nd hp;obtain⟨t,a,b⟩:=C.get' h;exact⟨C.sub _ (kR h),t,a,b⟩
 ·by_cases hk:k∈ks l2
  ·obtain⟨d,t,_,h2,_⟩:=C.key hk;rw[if_pos hk,h2];rfl
  ·have:g k=none:=by
    refine ocs (g k) (fun e=>?_) fun t e=>?_
    ·try rewrite[e]
     rfl
    ·try rewrite[e]
     exact absurd (C.mem.mpr (by rw[e];rfl)) hk
   rw[if_neg hk,this];rfl
theorem z4{l1 l2:LP}(h:l1.length+l2.length < 4096):dJ (so "update") (.dict (mkd l1)) [.dict (mkd l2)]=.ok (.dict (mkd (sts l2 l1))):=by
 show((ofO (keys? (mkd l2))).bind fun m=>if (mkd l1).length+m.length < 4096 then P.ok (PyData.dict (cW m (mkd l1))) else .no)=_;simp only[mk_keys?,hV,hU,s6,if_pos h,sY]
section
theorem jH(n:Nat):rn (n+1) "need_fit" [.fz (.bool true)]=.ok (.fz .none):=by kernel_rfl
theorem Pf(n:Nat)(d:PyData):rn (n+1) "shown" [.fz (enc .whole),.fz d]=.ok (.fz d):=by kernel_rfl
theorem Pg(n:Nat)(x:Str)(d:PyData):rn (n+1) "shown" [.fz (enc (.pick x)),.fz d]=rb (aG (rn n "need_fit") [rn n "has_part" [.fz d,.fz (.str x)]]) fun _=>rb (ofP (getItem d (.str x))) R.ok:=by kernel_rfl
theorem Ph(n:Nat)(x y:Str)(d:PyData):rn (n+1) "shown" [.fz (enc (.call x y)),.fz d]=rb (rn n "shown_call" [.fz (enc (.call x y)),.fz d]) R.ok:=by kernel_rfl
theorem Pi(n:Nat)(x:Str)(l:Int)(d:PyData):rn (n+1) "shown" [.fz (enc (.sift x l)),.fz d]=rb (rn n "shown_sift" [.fz (enc (.sift x l)),.fz d]) R.ok:=by kernel_rfl
theorem Pj(n:Nat)(x y:Str)(fs:List Str)(d:PyData):rn (n+1) "shown" [.fz (enc (.join x y fs)),.fz d]=rb (rn n "shown_join" [.fz (enc (.join x y fs)),.fz d]) R.ok:=by kernel_rfl
theorem Pk(n:Nat)(v:WW)(d:PyData):rn (n+1) "shown" [.fz (enc (.each v)),.fz d]=rb (rn n "shown_each" [.fz (enc (.each v)),.fz d]) R.ok:=by kernel_rfl
theorem Pl(n:Nat)(v:WW)(d:PyData):rn (n+1) "shown" [.fz (enc (.beside v)),.fz d]=rb (rn n "shown_beside" [.fz (enc (.beside v)),.fz d]) R.ok:=by kernel_rfl
theorem Pm(n:Nat)(a b:WW)(d:PyData):rn (n+1) "shown" [.fz (enc (.andThen a b)),.fz d]=rb (aG (rn n "shown") [.ok (.fz (enc b)),rn n "shown" [.fz (enc a),.fz d]]) R.ok:=by kernel_rfl
end
theorem kY(n:Nat)(l:LP)(x:Str):rn (n+1) "has_part" [.fz (.dict (mkd l)),.fz (.str x)]=.ok (.fz (.bool (lk l x).isSome)):=by
 rw[Ly];show rb (aS (ofP (Mine.contains (.str x) (.dict (mkd l))))) R.ok=_;rw[dZ];rfl
noncomputable def dec(p:Prop):Bool:=@decide p (Classical.propDecidable p)
theorem cQ{p:Prop}:dec p=true↔p:=by unfold dec;simp
theorem dR{p:Prop}:dec p=false↔¬ p:=by unfold dec;simp
theorem fM{p:Prop}{b:Bool}(h:b=true↔p):b=dec p:=by rw[Bool.eq_iff_iff,cQ];exact h
noncomputable def sb(a:Str)(l:Int)(t:TT):Bool:=dec (dG a l t)
theorem tC{a:Str}{l:Int}{t:TT}:sb a l t=true↔dG a l t:=cQ
theorem kZ{a:Str}{l:Int}{t:TT}:sb a l t=false↔¬ dG a l t:=dR
theorem tD(n:Nat){l:LP}{f:Str→Option TT}(B:Bld N m l f)(a:Str)(i:Int):rn (n+2) "is_sifted" [.fz (.dict (mkd l)),.fz (.str a),.fz (.int i)]=.ok (.fz (.bool (sb a i (.br f)))):=by
 rw[Lz];show rb (aY (aS (ofP (Mine.contains (.str a) (.dict (mkd l))))) (aY (aG (rn (n+1) "is_whole") [(ofP (getItem (.dict (mkd l)) (.str a)))]) (aD (ofP (getItem (.dict (mkd l)) (.str a))) .GtE (.ok (.fz (.int i)))))) R.ok=_;rw[dZ,s8];cases e:lk l a with
 |none =>
  have:sb a i (.br f)=false:=kZ.mpr fun ⟨j,h,_⟩=>by
   have h:f a=some (.num j):=h;rw[B.none_iff.mpr e] at h;cases h
  rw[this];rfl
 |some d =>
  obtain⟨t,h1,h2⟩:=B.get' e;show rb (aY (rn (n+1) "is_whole" [.fz d]) (aS (ofP (cmp .GtE d (.int i))))) R.ok=_;rw[kU];obtain⟨j,rfl,rfl,_⟩ | ⟨_,l',f',_,rfl,rfl,_⟩:=h2.inv'
  ·show R.ok (V.fz (.bool (decide (i≤j))))=_;rw[show decide (i≤j)=sb a i (.br f) from fM (decide_eq_true_iff.trans ⟨fun h=>⟨j,h1,h⟩,fun ⟨k,h,h'⟩=>by
    have h:f a=some (.num k):=h;rw[h1] at h;cases h;exact h'⟩)]
  ·have:sb a i (.br f)=false:=kZ.mpr fun ⟨j,h,_⟩=>by
    have h:f a=some (.num j):=h;rw[h1] at h;cases h
   rw[this];rfl
noncomputable def abB:TT→Bool
 | .num _=>false
 | .br f=>dec (cO f)
theorem k6(n:Nat){d:PyData}{t:TT}(h:Sem N m d t):rn (n+1) "all_branches" [.fz d]=.ok (.fz (.bool (abB t))):=by
 rw[Lo];obtain⟨i,rfl,rfl,_⟩ | ⟨m,l,f,_,rfl,rfl,B⟩:=h.inv'
 ·rfl
 ·have:=kT (xs:=ks l) (e:=fun d1=>rV (so "dict") (ofP (getItem (.dict (mkd l)) d1))) (g:=fun x=>match lk l x with | some d=>cD d | none=>false) fun x hx=>by
   obtain⟨d,t,h1,h2,h3⟩:=B.key hx;rw[bE h1,h1];rfl
  rw[b6,aO,this];show R.ok (V.fz (.bool ((ks l).all _)))=_;refine congrArg (fun b=>R.ok (V.fz (.bool b))) (fM ?_);rw[List.all_eq_true];constructor
  ·intro h k t hk;obtain⟨d,h1,h2⟩:=B.get hk;have:=h k (kR h1);rw[h1] at this;obtain⟨i,rfl,rfl,_⟩ | ⟨_,l',f',_,rfl,rfl,_⟩:=h2.inv'
   ·exact bft this
   ·exact⟨_,rfl⟩
  ·intro h x hx;obtain⟨d,t,h1,h2,h3⟩:=B.key hx;obtain⟨g,rfl⟩:=h x t h2;obtain⟨_,l',_,rfl,_⟩:=h3.br_inv';rw[h1];rfl
theorem Pn(n:Nat){d:PyData}{f:Str→Option TT}(h:Sem N m d (.br f))(ha:cO f):rn (n+1) "all_branches" [.fz d]=.ok (.fz (.bool true)):=by
 rw[k6 n h];rw[show abB (.br f)=true from cQ.mpr ha]
theorem oF(fs:List Str)(x:Str):Mine.contains (.str x) (.tuple (fs.map .str))=.ok (fs.contains x):=by
 show((ofO (strs? (fs.map .str))).bind fun ss=>P.ok (ss.contains x))=_;rw[gB];rfl
theorem Po{xs:List Str}{t:PyData→R Bool}{g:Str→Bool}(h:∀ x∈xs,t (.str x)=.ok (g x)):aD (aL (.ok (xs.map .str)) t (fun d=>.ok (.fz d))) .NotEq (.ok (.own (.list [])))=.ok (.fz (.bool (!(xs.filter g).isEmpty))):=by
 show rb (rb (aU t (fun d=>.ok (.fz d)) (xs.map .str)) fun r=>ofP (own (.list r))) _=_;rw[s9 h];show aS (ofP (bU (eqO (.list ((xs.filter g).map .str)) (.list []))))=_;rw[oB];rfl
theorem z5{xs:List Str}{t:PyData→R Bool}{g:Str→Bool}(h:∀ x∈xs,t (.str x)=.ok (g x)):aD (aL (.ok (xs.map .str)) t (fun d=>.ok (.fz d))) .Eq (.ok (.own (.list [])))=.ok (.fz (.bool (xs.filter g).isEmpty)):=by
 show rb (rb (aU t (fun d=>.ok (.fz d)) (xs.map .str)) fun r=>ofP (own (.list r))) _=_;rw[s9 h];show aS (ofP (eqO (.list ((xs.filter g).map .str)) (.list [])))=_;rw[oB];rfl
theorem oG{xs:List Str}{g:Str→Bool}:(xs.filter g).isEmpty=true↔∀ x∈xs,g x=false:=by
 rw[List.isEmpty_iff,List.filter_eq_nil_iff];simp
noncomputable def tE(g:Str→Option TT)(P:Str→Prop):Prop:=∀ k t,g k=some t→∀ x,(t.get x).isSome=true→P x
noncomputable def jI(g:Str→Option TT)(P:Str→Prop)(k:Str):Bool:=dec (∀ t,g k=some t→∀ x,(t.get x).isSome=true→P x)
theorem z6{l:LP}{g:Str→Option TT}(B:Bld N m l g)(P:Str→Prop):(ks l).all (jI g P)=dec (tE g P):=fM (by
 rw[List.all_eq_true];exact⟨fun h k t hk=>cQ.mp (h k (B.mem.mpr (by rw[hk];rfl))) t hk,fun h k _=>cQ.mpr (h k)⟩)
theorem z7{l lr:LP}{g r:Str→Option TT}{x:Str}{P:Str→Prop}{c:Str→Bool}{T:PyData→R Bool}(hT:∀ y,T (.str y)=.ok (c y))(hc:∀ y,c y=false↔P y)(Br:Bld N m lr r)(h1:lk l x=some (.dict (mkd lr)))(h2:g x=some (.br r))(A B:R V) :
  ifS (aD (aL (plI (aJ (b9 (.fz (.dict (mkd l)))) (.ok (.fz (.str x))))) T (fun d=>.ok (.fz d))) .NotEq (.ok (.own (.list [])))) A B=if jI g P x=true then B else A:=by
 show ifS (aD (aL (plI (ofP (getItem (.dict (mkd l)) (.str x)))) T _) _ _) _ _=_;rw[bE h1];show ifS (aD (aL (ofP (items (.dict (mkd lr)))) T _) _ _) _ _=_;rw[b6,aO,Po (g:=c) fun y _=>hT y,show((ks lr).filter c).isEmpty=jI g P x from fM (oG.trans ⟨fun h t ht y hy=>by
  rw[h2] at ht;obtain rfl:=si ht;exact(hc y).mp (h y (Br.mem.mpr hy)),fun h y hy=>(hc y).mpr (h _ h2 y (Br.mem.mp hy))⟩)]
 cases jI g P x<;>rfl
theorem Pp(a b:Str)(fs:List Str)(y:Str):tst (aD (.ok (.fz (.str y))) .NotIn (ofP (getItem (enc (.join a b fs)) (.int 3))))=.ok (!fs.contains y):=by
 show tst (aS (ofP (bU (Mine.contains (.str y) (.tuple (fs.map .str))))))=_;rw[oF];rfl
theorem Pq(a b:Str)(fs:List Str)(y:Str):tst (aD (.ok (.fz (.str y))) .In (ofP (getItem (enc (.join a b fs)) (.int 3))))=.ok (fs.contains y):=by
 show tst (aS (ofP (Mine.contains (.str y) (.tuple (fs.map .str)))))=_;rw[oF];rfl
theorem Pr(fs:List Str)(y:Str):(!fs.contains y)=false↔y∈fs:=by simp
theorem Ps(fs:List Str)(y:Str):fs.contains y=false↔y∉fs:=by simp
theorem oH{f:Str→Option TT}{a b:Str}{fs:List Str}(h:∀ g k,f a=some (.br g)→f b=some (.br k)→¬ FitJ fs g k):aW (.join a b fs) (.br f)=none:=by
 refine ocs (aW (.join a b fs) (.br f)) (fun e=>e) fun s e=>?_;obtain⟨g,k,h1,h2,F,_⟩:=sW e;exact absurd F (h g k h1 h2)
theorem z8{t:TT}(h:abB t=true):∃ g,t=.br g∧cO g:=by
 cases t with
 |num=>exact bft h
 |br g=>exact⟨g,rfl,cQ.mp h⟩
theorem Pt(n:Nat){a b:Str}{fs:List Str}{l:LP}{f:Str→Option TT}(B:Bld N m l f):rn (n+2) "fits_join" [.fz (enc (.join a b fs)),.fz (.dict (mkd l))]=.ok (.fz (.bool (aW (.join a b fs) (.br f)).isSome)):=by
 simp only[L0];show ifS (orS (unS .Not (rn (n+1) "has_part" [.fz (.dict (mkd l)),.fz (.str a)])) (unS .Not (rn (n+1) "has_part" [.fz (.dict (mkd l)),.fz (.str b)]))) _ (rb (ofP (getItem (.dict (mkd l)) (.str a))) fun v1=>rb (ofP (getItem (.dict (mkd l)) (.str b))) fun v2=>_)=_;simp only[kY,kY];refine ocs (lk l a) (fun e=>?_) fun d1 e1=>?_
 ·simp only[e,oH fun g k h1 _ _=>ns ((B.none_iff.mpr e).symm.trans h1)];rfl
 refine ocs (lk l b) (fun e=>?_) fun d2 e2=>?_
 ·simp only[e1,e,oH fun g k _ h1 _=>ns ((B.none_iff.mpr e).symm.trans h1)];rfl
 obtain⟨t1,f1,s1⟩:=B.get' e1;obtain⟨t2,f2,s2⟩:=B.get' e2;simp only[e1,e2,bE e1,bE e2];show ifS (orS (unS .Not (rn (n+1) "all_branches" [.fz d1])) (unS .Not (rn (n+1) "all_branches" [.fz d2]))) _ (rb (ofP (items d1)) fun l3=>_)=_;simp only[k6 n s1,k6 n s2];refine bcs (abB t1) (fun c1=>?_) fun c1=>?_
 ·rw[c1,oH fun g k h1 _ F=>by
   simp only[f1] at h1;obtain rfl:=si h1;exact dR.mp c1 F.ga];rfl
 refine bcs (abB t2) (fun c2=>?_) fun c2=>?_
 ·rw[c1,c2,oH fun g k _ h1 F=>by
   simp only[f2] at h1;obtain rfl:=si h1;exact dR.mp c2 F.ha];rfl
 simp only[c1,c2];obtain⟨g,rfl,ga⟩:=z8 c1;obtain⟨h,rfl,ha⟩:=z8 c2;obtain⟨_,l1,_,rfl,B1⟩:=s1.br_inv';obtain⟨_,l2,_,rfl,B2⟩:=s2.br_inv';obtain⟨j1,L1⟩:=zU (S:=fun (j:Option V)=>dL (ζ (enc (.join a b fs))) (ζ (.dict (mkd l))) (ζ (.dict (mkd l1))) (ζ (.dict (mkd l2))) j) (b:=r8 (n+1)) (t:=sA) (c:=jI g (·∈fs)) (v:=.fz (.bool false)) (xs:=ks l1) (fun x hx j=>⟨some (.fz (.str x)),fun kn kr=>by
  obtain⟨d,t,h1,h2,h3⟩:=B1.key hx;obtain⟨r1,rfl⟩:=ga x t h2;obtain⟨_,lr,_,rfl,Br⟩:=h3.br_inv';simp only[L3,aO,aE,L4];exact z7 (Pp a b fs) (Pr fs) Br h1 h2 _ _⟩) none
 obtain⟨j2,L2⟩:=zU (S:=fun (j:Option V)=>dL (ζ (enc (.join a b fs))) (ζ (.dict (mkd l))) (ζ (.dict (mkd l1))) (ζ (.dict (mkd l2))) j) (b:=sB (n+1)) (t:=sE) (c:=jI h (·∉fs)) (v:=.fz (.bool false)) (xs:=ks l2) (fun x hx j=>⟨some (.fz (.str x)),fun kn kr=>by
  obtain⟨d,t,h1,h2,h3⟩:=B2.key hx;obtain⟨r1,rfl⟩:=ha x t h2;obtain⟨_,lr,_,rfl,Br⟩:=h3.br_inv';simp only[L6,aO,aE,L7];exact z7 (Pq a b fs) (Ps fs) Br h1 h2 _ _⟩) j1
 simp only[b6];refine(L1 _ _).trans ?_;simp only[z6 B1,L5];show(if _ then rb (ofP (items (.dict (mkd l2)))) _ else _)=_;simp only[b6,aO,aE,eY,L2,z6 B2,L8,Ol (t:=.br f) f1 f2]
 by_cases p1:tE g (·∈fs)
 case neg=>rw[dR.mpr p1,cN fun F=>p1 F.gf];rfl
 by_cases p2:tE h (·∉fs)
 case neg=>rw[dR.mpr p2,cQ.mpr p1,cN fun F=>p2 F.hf];rfl
 rw[cQ.mpr p2,cQ.mpr p1,dF ⟨ga,ha,p1,p2⟩];rfl
end Mine
namespace Mine
open PySem
variable {N:List Str} {m:Nat}
theorem z9(H:Wld N){β:Type}{S:LP→β→aA}{b:aA→KN→KR→R V}{t:Expr}{l:LP}{f:Str→Option TT}(B:Bld N m l f){x y:Str}(hy:y∈N)(hfy:f y=none){j:β}
  (h:∀ k d a j,lk l k=some d→a.length < aV→∃ j',∀ kn kr,(rb (ofP (aT t (.str k) (S a j))) fun σ=>b σ kn kr)=kn (S (st a (if k=x then y else k) d) j')) :
  ∃ a j',Bld N m a (cP x y f)∧∀ kn kr,aP b t ((ks l).map .str) (S [] j) kn kr=kn (S a j'):=by
 have:=oC (S:=S) (b:=b) (t:=t) (l:=ks l) (p:=[]) (a:=[]) (j:=j) (I:=fun p a=>Bld N m a fun k=>if k=y then (if x∈p then f x else none) else if k=x then none else if k∈p then f k else none) (E:=fun _=>False) (Q:=fun _=>False) (fun q k r a j hq hi=>?_) (Bld.nil.ext fun k=>by simp)
 ·rcases this with ⟨a,j,h1,h2⟩ | ⟨e,h1,_⟩ | ⟨v,hv,_⟩
  ·refine⟨a,j,h1.ext fun k=>?_,h2⟩;have hn:∀ k,k∉ks l→f k=none:=fun k hk=>by
    refine ocs (f k) (fun e=>?_) fun t e=>?_
    ·try rewrite[e]
     rfl
    ·try rewrite[e]
     exact absurd (B.mem.mpr (by rw[e];rfl)) hk
   simp only[List.nil_append,cP];have e1:(if x∈ks l then f x else none)=f x:=by
    by_cases hx:x∈ks l
    ·rw[if_pos hx]
    ·rw[if_neg hx,hn x hx]
   have e2:(if k∈ks l then f k else none)=f k:=by
    by_cases hx:k∈ks l
    ·rw[if_pos hx]
    ·rw[if_neg hx,hn k hx]
   rw[e1,e2]
  ·exact h1.elim
  ·exact hv.elim
 ·have hk:=oE hq;obtain⟨d,u,h1,h2,h3⟩:=B.key hk;obtain⟨j',e⟩:=h k d a j h1 (hi.lt H (by decide));refine Out.kn _ j' ((hi.set (k:=if k=x then y else k) (by split;exact hy;exact B.sub k hk) h3).ext fun z=>?_) e;have hky:k≠y:=fun e=>by rw[e,hfy] at h2;exact ns h2
  simp only[upd,List.mem_append,List.mem_singleton]
  by_cases e1:k=x
  ·subst e1
   by_cases e2:z=y
   ·simp[e2,h2]
   ·by_cases e3:z=k
    ·subst e3;simp[hky]
    ·simp[e2,e3]
  ·by_cases e2:z=k
   ·subst e2;simp[hky,e1,h2]
   ·by_cases e3:z=y
    ·subst e3;simp[e1,Ne.symm hky,Ne.symm e1]
    ·simp[e1,e2,e3]
theorem Pu(H:Wld N)(n:Nat){x y:Str}(hy:y∈N){l:LP}{f:Str→Option TT}(B:Bld N m l f)(hx:(f x).isSome=true)(hfy:f y=none):Gives (rn (n+2) "shown_call" [.fz (enc (.call x y)),.fz (.dict (mkd l))]) fun d=>Sem N (m+1) d (.br (cP x y f)):=by
 have hxl:(lk l x).isSome=true:=(B.dom x).trans hx;obtain⟨a,j,h1,h2⟩:=z9 H (S:=fun (a:LP) (j:Option V)=>fZ (ζ (enc (.call x y))) (ζ (.dict (mkd l))) (some (.own (.dict (mkd a)))) j) (b:=sF (n+1)) (t:=sG) B (x:=x) hy hfy (j:=none) fun k d a j hk ha=>⟨some (.fz (.str k)),fun kn kr=>by
  simp only[Ma,aO,aE,Mb];show(if (k==x)=true then bC (ofP (getItem (.dict (mkd l)) (.str k))) (.ok (.dict (mkd a))) (.ok (.fz (.str y))) _ else bC (ofP (getItem (.dict (mkd l)) (.str k))) (.ok (.dict (mkd a))) (.ok (.fz (.str k))) _)=_;simp only[bE hk]
  by_cases e:k=x
  ·rw[if_pos (by simpa using e),if_pos e];show rb (ofP (Mine.setItem (.dict (mkd a)) (.str y) d)) _=_;simp only[b7 y d ha];rfl
  ·rw[if_neg (by simpa using e),if_neg e];show rb (ofP (Mine.setItem (.dict (mkd a)) (.str k) d)) _=_;simp only[b7 k d ha];rfl⟩
 refine⟨.own (.dict (mkd a)),_,?_,rfl,h1.toSem⟩;simp only[L9];show rb (aG (rn (n+1) "need_fit") [aY (rn (n+1) "has_part" [.fz (.dict (mkd l)),.fz (.str x)]) (aS (ofP (bU (Mine.contains (.str y) (.dict (mkd l))))))]) _=_;simp only[kY,hxl,dZ,B.none_iff.mp hfy];show rb (rn (n+1) "need_fit" [.fz (.bool true)]) _=_;simp only[jH,b6];exact(h2 _ _).trans (Mc ..)
theorem Pv(H:Wld N)(n:Nat){x:Str}{i:Int}{l:LP}{f:Str→Option TT}(B:Bld N m l f)(hf:cO f):Gives (rn (n+3) "shown_sift" [.fz (enc (.sift x i)),.fz (.dict (mkd l))]) fun d=>Sem N (m+1) d (.br (nW x i f)):=by
 have:=kW H (m:=m) (S:=fun (a:LP) (j:Option V)=>eC (ζ (enc (.sift x i))) (ζ (.dict (mkd l))) (some (.own (.dict (mkd a)))) j) (b:=nJ (n+2)) (t:=nK) (xs:=ks l) (j:=none) (nW x i f) (E:=fun _=>False) fun k hk a j ha=>?_
 ·obtain⟨a,j,hi,e⟩ | ⟨x,hx,_⟩:=this
  ·refine⟨.own (.dict (mkd a)),_,?_,rfl,(B.all (fun k h=>by show(f k).bind _=none;simp only[h];rfl) hi).toSem⟩;simp only[Mh,Pn _ B.toSem hf];show rb (rn (n+2) "need_fit" [.fz (.bool true)]) _=_;simp only[jH,b6];exact(e _ _).trans (Ml ..)
  ·exact hx.elim
 ·obtain⟨d,t,h1,h2,h3⟩:=B.key hk;obtain⟨g,rfl⟩:=hf k t h2;obtain⟨_,lr,_,rfl,Br⟩:=h3.br_inv';have hF:nW x i f k=grd (dG x i (.br g)) (some (.br g)):=by show(f k).bind _=_;simp only[h2];rfl
  have hb:∀ kn kr,(rb (ofP (aT nK (.str k) (eC (ζ (enc (.sift x i))) (ζ (.dict (mkd l))) (some (.own (.dict (mkd a)))) j))) fun σ=>nJ (n+2) σ kn kr) =
    if sb x i (.br g)=true then kn (eC (ζ (enc (.sift x i))) (ζ (.dict (mkd l))) (some (.own (.dict (mkd (st a k (.dict (mkd lr))))))) (ζ (.str k))) else kn (eC (ζ (enc (.sift x i))) (ζ (.dict (mkd l))) (some (.own (.dict (mkd a)))) (ζ (.str k))):=fun kn kr=>by
   simp only[Mi,aO,aE,Mj,bE h1];show ifS (rn (n+2) "is_sifted" [.fz (.dict (mkd lr)),.fz (.str x),.fz (.int i)]) (rb (ofP (Mine.setItem (.dict (mkd a)) (.str k) (.dict (mkd lr)))) _) _=_;simp only[tD n Br,b7 k _ ha];rfl
  refine⟨B.sub k hk,?_⟩;refine bcs (sb x i (.br g)) (fun hs=>?_) fun hs=>?_
  ·try rewrite[hs]
   exact .inl ⟨hF.trans (cN (kZ.mp hs) _),some (.fz (.str k)),fun kn kr=>(hb kn kr).trans (by simp only[hs,jE])⟩
  ·try rewrite[hs]
   exact .inr (.inl ⟨.dict (mkd lr),.br g,some (.fz (.str k)),hF.trans (dF (tC.mp hs) _),h3,fun kn kr=>(hb kn kr).trans (by rw[hs,dN])⟩)
theorem Pw(H:Wld N)(n:Nat){a b:Str}{fs:List Str}{m':Nat}{l l1 l2:LP}{f g h:Str→Option TT}(B:Bld N m' l f)(e1:lk l a=some (.dict (mkd l1)))(e2:lk l b=some (.dict (mkd l2)))(B1:Bld N m l1 g)(B2:Bld N m l2 h)(F:FitJ fs g h)(hs:(aW (.join a b fs) (.br f)).isSome=true):Gives (rn (n+3) "shown_join" [.fz (enc (.join a b fs)),.fz (.dict (mkd l))]) fun d=>Sem N (m+1) d (.br (kP g h)):=by
 have:=kW H (m:=m) (S:=fun (c:LP) (j:Option V×Option V)=>eD (ζ (enc (.join a b fs))) (ζ (.dict (mkd l))) (ζ (.dict (mkd l1))) (ζ (.dict (mkd l2))) (some (.own (.dict (mkd c)))) j.1 j.2) (b:=nL (n+2)) (t:=nN) (xs:=ks l1) (j:=(none,none)) (kP g h) (E:=fun _=>False) fun k hk c j ha=>?_
 ·obtain⟨c,j,hi,e⟩ | ⟨x,hx,_⟩:=this
  ·refine⟨.own (.dict (mkd c)),_,?_,rfl,(B1.all (fun k h=>by show(g k).bind _=none;simp only[h];rfl) hi).toSem⟩;simp only[Mm,Pt n B,hs];show rb (rn (n+2) "need_fit" [.fz (.bool true)]) (fun _=>rb (ofP (getItem (.dict (mkd l)) (.str a))) fun v1=>rb (ofP (getItem (.dict (mkd l)) (.str b))) fun v2=>_)=_;simp only[jH,bE e1,bE e2,aE,aO,aE,aO,aE];show rb (ofP (items (.dict (mkd l1)))) _=_;simp only[b6];exact(e _ _).trans (Mq ..)
  ·exact hx.elim
 ·obtain⟨d,t,h1,h2,h3⟩:=B1.key hk;obtain⟨r1,rfl⟩:=F.ga k t h2;obtain⟨m',lr,Br⟩:=h3.br_inv;refine⟨B1.sub k hk,?_⟩;have hb:∀ kn kr,(rb (ofP (aT nN (.str k) (eD (ζ (enc (.join a b fs))) (ζ (.dict (mkd l))) (ζ (.dict (mkd l1))) (ζ (.dict (mkd l2))) (some (.own (.dict (mkd c)))) j.1 j.2))) fun σ=>nL (n+2) σ kn kr)=ifS (.ok (.fz (.bool (lk l2 k).isSome))) (rb (ofP (getItem (.dict (mkd l2)) (.str k))) fun v=>rb (ofP (dJ (so "update") (.dict (mkd lr)) [dOf v])) fun o2=>rb (ofP (Mine.setItem (.dict (mkd c)) (.str k) o2)) fun o3=>kn (eD (ζ (enc (.join a b fs))) (ζ (.dict (mkd l))) (ζ (.dict (mkd l1))) (ζ (.dict (mkd l2))) (some (.own o3)) (ζ (.str k)) (ζ o2))) (kn (eD (ζ (enc (.join a b fs))) (ζ (.dict (mkd l))) (ζ (.dict (mkd l1))) (ζ (.dict (mkd l2))) (some (.own (.dict (mkd c)))) (ζ (.str k)) j.2)):=fun kn kr=>by
   simp only[Mo,aO,aE,Mp];show ifS (aS (ofP (Mine.contains (.str k) (.dict (mkd l2))))) (rb (aK bV (ofP (getItem (.dict (mkd l1)) (.str k)))) fun v1=>dA (ofP (bW v1)) (so "update") [ofP (getItem (.dict (mkd l2)) (.str k))] _) _=_;simp only[dZ,bE h1,s8];cases lk l2 k<;>rfl
  refine ocs (lk l2 k) (fun hk2=>?_) fun d2 hk2=>?_
  ·try rewrite[hk2]
   refine .inl ⟨?_,(some (.fz (.str k)),j.2),fun kn kr=>(hb kn kr).trans (by simp only[hk2];rfl)⟩;show(g k).bind (fun r=>(h k).bind _)=none;simp only[h2,B2.none_iff.mpr hk2];rfl
  ·try rewrite[hk2]
   obtain⟨t2,q1,q2⟩:=B2.get' hk2;obtain⟨r2,rfl⟩:=F.ha k t2 q1;obtain⟨_,lr2,e,rfl,Br2⟩:=q2.br_inv';cases e;refine .inr (.inl ⟨.dict (mkd (sts lr2 lr)),zI (.br r1) (.br r2),(some (.fz (.str k)),some (.fz (.dict (mkd (sts lr2 lr))))),?_,(Br.upd Br2).toSem,fun kn kr=>(hb kn kr).trans ?_⟩)
   ·show(g k).bind (fun r=>(h k).bind _)=_;simp only[h2,q1];rfl
   ·simp only[hk2,bE hk2];show rb (ofP (dJ (so "update") (.dict (mkd lr)) [.dict (mkd lr2)])) _=_;rw[z4 (by have:=Br.len;have:=Br2.len;have:=H.len;lia)];show rb (ofP (Mine.setItem (.dict (mkd c)) (.str k) _)) _=_;simp only[b7 k _ ha];rfl
end Mine
namespace Mine
open PySem
variable {N:List Str} {m:Nat}
inductive BindE{α β:Type}(o:Option α)(k:α→Option β)(y:β):Prop where
 |mk (x:α) (h:o=some x) (g:k x=some y):BindE o k y
theorem bind_some{α β:Type}{o:Option α}{k:α→Option β}{y:β}(h:o.bind k=some y):BindE o k y:=by
 cases o with
 |none=>exact ns h
 |some x=>exact⟨x,rfl,h⟩
theorem Aa:∀ {r:WW} {t z:TT},r.isRows=true→r.wf→aW r t=some z→∃ f,z=.br f∧∀ k,(f k).isSome=true↔k∈r.names:=by
 intro r
 induction r with
 |bnil=>intro t z _ _ h;obtain rfl:=si h;exact⟨_,rfl,fun k=>by simp[i8,i9]⟩
 |bcons n p v r ihv ihr =>
  intro t z _ hw h;obtain⟨x,h1,h⟩:=bind_some h;obtain⟨y,h2,h⟩:=bind_some h;obtain⟨z1,h3,h⟩:=bind_some h;obtain rfl:=si h;obtain⟨f,rfl,hf⟩:=ihr hw.2.1.2 hw.2.1.1 h3;refine⟨_,rfl,fun k=>?_⟩;simp only[upd,dY,i8,i9,List.mem_cons]
  by_cases e:k=n
  ·simp[e]
  ·simp only[e,if_false,false_or];exact hf k
 |_=>intro t z h;exact bft h
theorem Gives.rb{r:R V}{P:PyData→Prop}(h:Gives r P):Gives (rb r R.ok) P:=by
 obtain⟨v,d,rfl,e,p⟩:=h;exact⟨v,d,rfl,e,p⟩
noncomputable def bj(vw tr:PyData)(c:LP)(j:Option V×Option V×Option V):aA:=gU (ζ vw) (ζ tr) (some (.own (.dict (mkd c)))) j.1 j.2.1 j.2.2
inductive ShB(N:List Str)(m n:Nat)(w:WW)(z:TT)(vw:PyData)(l:LP)(c:LP)(g:Str→Option TT)(j:Option V×Option V×Option V):Prop where
 |mk (c':LP) (j':Option V×Option V×Option V) (B:Bld N m c' (fun k=>(z.get k).or (g k))) (h:∀ kn kr,aP (kG n) kH (bJ w) (bj vw (.dict (mkd l)) c j) kn kr=kn (bj vw (.dict (mkd l)) c' j')):ShB N m n w z vw l c g j
noncomputable def Px(N:List Str)(w:WW):Prop:=∀ {m n d t s},2*w.hgt+4≤n→Sem N m d t→aW w t=some s→Gives (rn n "shown" [.fz (enc w),.fz d]) fun d'=>Sem N m d' s
noncomputable def Py(N:List Str)(w:WW):Prop:=∀ {m n l f z},2*w.hgt+4≤n→Bld N m l f→aW w (.br f)=some z→∀ vw c g j,Bld N m c g→ShB N m n w z vw l c g j
structure ShownS(N:List Str)(w:WW):Prop where
 a:w.isRows=false→Px N w
 b:w.isRows=true→Py N w
theorem Ab(H:Wld N):∀ {w:WW},okW N w→ShownS N w:=by
 intro w
 induction w with
 |whole =>
  refine fun _=>⟨fun _ m n d t s hn hd hs=>?_,fun h=>by exact bft h⟩
  refine exnE (c:=1) n hn hn fun n hn=>?_;obtain rfl:=si hs;exact⟨_,_,Pf n d,rfl,hd⟩
 |pick x =>
  refine fun _=>⟨fun _ m n d t s hn hd hs=>?_,fun h=>by exact bft h⟩
  refine exnE (c:=2) n hn hn fun n hn=>?_;cases t with
  |num=>exact ns hs
  |br f =>
   revert hn;refine hd.byB fun m l B hn=>?_
   obtain⟨d,h1,h2⟩:=B.get hs;refine⟨.fz d,d,?_,rfl,h2.mono (Nat.le_succ _)⟩;simp only[Pg,kY,h1,bE h1];show rb (rn (n+1) "need_fit" [.fz (.bool true)]) _=_;simp only[jH];rfl
 |call x y =>
  refine fun ho=>⟨fun _ m n d t s hn hd hs=>?_,fun h=>by exact bft h⟩
  refine exnE (c:=3) n hn hn fun n hn=>?_;obtain⟨hc,hs⟩:=i7 hs;obtain rfl:=si hs;cases t with
  |num=>cases hc.1
  |br f =>
   revert hn;refine hd.byB fun m l B hn=>?_
   simp only[Ph];exact(Pu H n ho.2.1 B hc.1 hc.2).rb
 |sift x i =>
  refine fun ho=>⟨fun _ m n d t s hn hd hs=>?_,fun h=>by exact bft h⟩
  refine exnE (c:=4) n hn hn fun n hn=>?_;cases t with
  |num=>exact ns hs
  |br f =>
   obtain⟨hc,hs⟩:=i7 hs;obtain rfl:=si hs
   revert hn;refine hd.byB fun m l B hn=>?_
   simp only[Pi];exact(Pv H n B hc).rb
 |join a b fs =>
  refine fun ho=>⟨fun _ m n d t s hn hd hs=>?_,fun h=>by exact bft h⟩
  refine exnE (c:=4) n hn hn fun n hn=>?_;obtain⟨g,h,ga,ha,F,es⟩:=sW hs;cases t with
  |num=>exact ns ga
  |br f =>
   revert hn;refine hd.byB fun m l B hn=>?_
   rw[es];obtain⟨d1,q1,q2⟩:=B.get ga;obtain⟨d2,q3,q4⟩:=B.get ha;obtain⟨m,l1,B1⟩:=q2.br_inv;obtain⟨_,l2,e,rfl,B2⟩:=q4.br_inv';cases e;simp only[Pj];obtain⟨v,d,e1,e2,e3⟩:=(Pw H n B q1 q3 B1 B2 F (by rw[hs];rfl)).rb;exact⟨v,d,e1,e2,e3.mono (Nat.le_succ _)⟩
 |each v ih =>
  refine fun ho=>⟨fun _ m n d t s hn hd hs=>?_,fun h=>by exact bft h⟩
  have hn:2*(v.hgt+1)+4≤n:=hn;refine exnE (c:=3) n hn hn fun n hn=>?_;cases t with
  |num=>exact ns hs
  |br f =>
   obtain⟨hc,hs⟩:=i7 hs;obtain rfl:=si hs
   revert hn;refine hd.byB fun m l B hn=>?_
   simp only[Pk];refine Gives.rb ?_;have:=kW H (m:=m) (S:=fun (a:LP) (j:Option V)=>gV (ζ (enc (.each v))) (ζ (.dict (mkd l))) (some (.own (.dict (mkd a)))) j) (b:=sH (n+1)) (t:=sI) (xs:=ks l) (j:=none) (fun k=>(f k).bind (aW v)) (E:=fun _=>False) fun k hk a j ha=>?_
   ·obtain⟨a,j,hi,e⟩ | ⟨x,hx,_⟩:=this
    ·refine⟨.own (.dict (mkd a)),_,?_,rfl,(B.all (fun k h=>by show(f k).bind _=none;simp only[h];rfl) hi).toSem⟩;simp only[Mr];show rb (rn (n+1) "need_fit" [.fz (.bool true)]) _=_;simp only[jH,b6];exact(e _ _).trans (Mu ..)
    ·exact hx.elim
   ·obtain⟨dx,tx,h1,h2,h3⟩:=B.key hk;have hx:=hc k tx h2;refine ocs (aW v tx) (fun sx=>?_) fun u sx=>?_
    ·try rewrite[sx]
     simp only[sx] at hx;exact bft hx
    ·try rewrite[sx]
     obtain⟨w,d',e1,e2,e3⟩:=(ih ho.1).1 ho.2 (n:=n+1) (fd (k:=0) (c:=2) hn) h3 sx;refine⟨B.sub k hk,.inr (.inl ⟨d',u,some (.fz (.str k)),by show(f k).bind _=_;simp only[h2];exact sx,e3,fun kn kr=>?_⟩)⟩;simp only[Ms,aO,aE,Mt,bE h1];show rb (rn (n+1) "shown" [.fz (enc v),.fz dx]) (fun v=>rb (ofP (Mine.setItem (.dict (mkd a)) (.str k) (dOf v))) _)=_;simp only[e1,aE,eF e2,b7 k d' ha];rfl
 |andThen a b iha ihb =>
  refine fun ho=>⟨fun _ m n d t s hn hd hs=>?_,fun h=>by exact bft h⟩
  have hn:2*(max a.hgt b.hgt+1)+4≤n:=hn;refine exnE (c:=1) n hn hn fun n hn=>?_;obtain⟨mid,h1,h2⟩:=bind_some hs;obtain⟨w,d',e1,e2,e3⟩:=(iha ho.1.1).1 ho.1.2 (n:=n) (mx (fd (k:=1) (c:=1) hn)).1 hd h1;simp only[Pm,e1];refine Gives.rb ?_;show Gives (rn n "shown" [.fz (enc b),w.clear]) _;simp only[e2];exact(ihb ho.2.1).1 ho.2.2 (mx (fd (k:=1) (c:=1) hn)).2 e3 h2
 |beside r ih =>
  refine fun ho=>⟨fun _ m n d t s hn hd hs=>?_,fun h=>by exact bft h⟩
  have hn:2*(r.hgt+1)+4≤n:=hn;refine exnE (c:=2) n hn hn fun n hn=>?_;have hs:aW r t=some s:=hs;cases t with
  |num i =>
   exfalso;cases r with
   |bcons=>exact ns hs
   |bnil=>have:=ho.2.1;simp[i8,i9] at this
   |_=>cases ho.1.2
  |br f =>
   revert hn;refine hd.byB fun m l B hn=>?_
   simp only[Pl];refine Gives.rb ?_;obtain⟨c,j,h1,h2⟩:=(ih ho.1.1).2 ho.1.2 (n:=n) (fd (k:=0) (c:=2) hn) B hs (enc (.beside r)) [] (fun _=>none) (none,none,none) Bld.nil;obtain⟨f',rfl,_⟩:=Aa ho.1.2 ho.1.1.wf hs;refine⟨.own (.dict (mkd c)),_,?_,rfl,(h1.ext fun k=>by simp[dY]).toSem⟩;simp only[Md];show rb (ofP (items (enc r))) _=_;simp only[kX ho.1.2];exact(h2 _ _).trans (Mg ..)
 |bnil =>
  refine fun ho=>⟨fun h=>(by exact btf h),fun _ m n l f z hn B hs vw c g j hc=>?_⟩
  obtain rfl:=si hs;exact⟨c,j,hc.ext fun k=>by simp[dY],fun _ _=>rfl⟩
 |bcons x p v r ihv ihr =>
  refine fun ho=>⟨fun h=>(by exact btf h),fun _ m n l f z hn B hs vw c g j hc=>?_⟩
  have hn:2*(max v.hgt r.hgt)+4≤n:=hn;obtain⟨t1,h1,hs⟩:=bind_some hs;obtain⟨y,h2,hs⟩:=bind_some hs;obtain⟨z1,h3,hs⟩:=bind_some hs;obtain rfl:=si hs;obtain⟨d1,q1,q2⟩:=B.get h1;obtain⟨w,d',e1,e2,e3⟩:=(ihv ho.2.1.1).1 ho.2.1.2 (n:=n) (mx hn).1 q2 h2;obtain⟨c',j',i1,i2⟩:=(ihr ho.2.2.1.1).2 ho.2.2.1.2 (n:=n) (mx hn).2 B h3 vw (st c x d') _ (some (.fz (.str x)),some (.fz (.str p)),some (.fz (enc v))) (hc.set ho.1.1 e3);obtain⟨f1,rfl,hf1⟩:=Aa ho.2.2.1.2 ho.2.2.1.1.wf h3;refine⟨c',j',i1.ext fun k=>?_,fun kn kr=>?_⟩
  ·simp only[dY,upd]
   by_cases e:k=x
   ·subst e;have:f1 k=none:=by
     refine ocs (f1 k) (fun ef=>?_) fun u ef=>?_
     ·try rewrite[ef]
      rfl
     ·try rewrite[ef]
      exact absurd ((hf1 k).mp (by simp only[ef];rfl)) ho.2.2.2.1
    simp[this]
   ·simp[e]
  ·refine Eq.trans ?_ (i2 kn kr);show rb (ofP (aT kH (.tuple [.str x,.str p,enc v]) _)) (fun σ=>kG n σ (fun σ=>aP (kG n) kH (bJ r) σ kn kr) kr)=_
   revert e1 i2;refine exnE (c:=1) n hn hn fun n hn e1 i2=>?_
   unfold bj;simp only[Me,aO,aE,Mf,kY,q1,bE q1];show rb (rn (n+1) "need_fit" [.fz (.bool true)]) (fun _=>rb (rn (n+1) "shown" [.fz (enc v),.fz d1]) (fun v=>rb (ofP (Mine.setItem (.dict (mkd c)) (.str x) (dOf v))) _))=_;simp only[jH,aE,e1,aE,eF e2,b7 x d' (hc.lt H (by decide))];rfl
section
theorem Pz(n:Nat)(d:PyData)(h:rn n "is_view" [.fz d]=.ok (.fz (.bool true))):rn (n+1) "need_view" [.fz d]=.ok (.fz .none):=by
 rw[Lx,h];rfl
theorem Ac(n:Nat)(d:PyData)(h:rn n "is_tree" [.fz d]=.ok (.fz (.bool true))):rn (n+1) "need_tree" [.fz d]=.ok (.fz .none):=by
 rw[Mv,h];rfl
end
end Mine
namespace Mine
open PySem
variable {N:List Str} {m:Nat}
theorem P0{a b:Str}(h:a.cps.toList=b.cps.toList):a=b:=by
 cases a;cases b;simp only[Str.mk.injEq];exact Array.toList_inj.mp h
theorem jJ(a:Str):¬ ltS a a:=List.lt_irrefl _
theorem tF{a b c:Str}(h1:ltS a b)(h2:ltS b c):ltS a c:=List.lt_trans h1 h2
theorem tG{a b:Str}(h:¬ ltS b a)(hn:a≠b):ltS a b:=by
 rcases Std.le_iff_lt_or_eq.mp (List.not_lt.mp h) with h | h
 ·exact h
 ·exact absurd (P0 h) hn
theorem tH{x a:Str}:∀ {l:List Str},x∈dO a l↔x=a∨x∈l
 | []=>by simp[dO]
 |b::r=>by
  show x∈(if b.cps.toList < a.cps.toList then b::dO a r else a::b::r)↔_
  split
  ·rw[List.mem_cons,tH (l:=r),List.mem_cons];constructor
   ·rintro(h | h | h)<;>simp[h]
   ·rintro(h | h | h)<;>simp[h]
  ·simp
theorem cT{x:Str}:∀ {l:List Str},x∈aZ l↔x∈l
 | []=>by simp[aZ]
 |a::r=>by
  show x∈dO a (aZ r)↔_;rw[tH,cT (l:=r),List.mem_cons]
theorem P1{a:Str}:∀ {l:List Str},a∉l→l.Pairwise ltS→(dO a l).Pairwise ltS:=by
 intro v0
 induction v0 with
 |nil =>
  intro _ _;simp[dO]
 |cons b r ih =>
  intro hn h;obtain⟨h1,h2⟩:=List.pairwise_cons.mp h;show(if b.cps.toList < a.cps.toList then b::dO a r else a::b::r).Pairwise ltS
  split
  ·rename_i hl;refine List.pairwise_cons.mpr ⟨fun x hx=>?_,ih (fun hm=>hn (List.mem_cons_of_mem _ hm)) h2⟩;rcases tH.mp hx with rfl | hx
   ·exact hl
   ·exact h1 x hx
  ·rename_i hl;have hab:ltS a b:=tG hl fun e=>hn (by simp[e]);refine List.pairwise_cons.mpr ⟨fun x hx=>?_,h⟩;rcases List.mem_cons.mp hx with rfl | hx
   ·exact hab
   ·exact tF hab (h1 x hx)
theorem k7:∀ {l:List Str},l.Nodup→(aZ l).Pairwise ltS:=by
 intro v0
 induction v0 with
 |nil =>
  intro _;exact .nil
 |cons a r ih =>
  intro h;obtain⟨h1,h2⟩:=List.nodup_cons.mp h;exact P1 (fun hm=>h1 (cT.mp hm)) (ih h2)
theorem Ad:∀ {a b:List Str},a.Pairwise ltS→b.Pairwise ltS→(∀ x,x∈a↔x∈b)→a=b
 | [],[],_,_,_=>rfl
 | [],y::s,_,_,h=>absurd ((h y).mpr (by simp)) (by simp)
 |x::r,[],_,_,h=>absurd ((h x).mp (by simp)) (by simp)
 |x::r,y::s,ha,hb,h=>by
  obtain⟨a1,a2⟩:=List.pairwise_cons.mp ha;obtain⟨b1,b2⟩:=List.pairwise_cons.mp hb;have e:x=y:=by
   rcases List.mem_cons.mp ((h x).mp (by simp)) with e | hx
   ·exact e
   ·rcases List.mem_cons.mp ((h y).mpr (by simp)) with e | hy
    ·exact e.symm
    ·exact absurd (tF (a1 y hy) (b1 x hx)) (jJ x)
  subst e;rw[Ad a2 b2 fun z=>?_];have:=h z;rw[List.mem_cons,List.mem_cons] at this;constructor
  ·intro hz;rcases this.mp (.inr hz) with rfl | h'
   ·exact absurd (a1 z hz) (jJ z)
   ·exact h'
  ·intro hz;rcases this.mpr (.inr hz) with rfl | h'
   ·exact absurd (b1 z hz) (jJ z)
   ·exact h'
theorem Ae{l:List Str}(h:l.Nodup):(aZ l).Nodup:=(k7 h).imp fun {a b} (h:ltS a b) (e:a=b)=>jJ b (e▸h)
theorem Af{l:List Str}(h:l.Nodup):(aZ l).length=l.length:=Nat.le_antisymm (jD (Ae h) fun x hx=>cT.mp hx) (jD h fun x hx=>cT.mpr hx)
theorem k9{l:List Str}(h:l.length < 64):eH (l.map .str)=.ok (.own (.list ((aZ l).map .str))):=by
 show((ofO (strs? (l.map .str))).bind fun l=>if l.length < 64 then own (.list ((aZ l).map .str)) else .no)=_;rw[gB,hV,hU,if_pos h];rfl
theorem tI{l:LP}(h:l.length < 64):cG (.dict (mkd l))=.ok (.own (.list ((aZ (ks l)).map .str))):=by
 show eH ((mkd l).map (·.1))=_;rw[sZ,k9 (by rw[d8];exact h)]
theorem lA(a b:List Str):eqO (.list (a.map .str)) (.list (b.map .str))=.ok (a==b):=by
 show(if (a.map PyData.str).length=(b.map PyData.str).length then iE (a.map .str) (b.map .str) else P.ok false)=_;rw[List.length_map,List.length_map]
 by_cases h:a.length=b.length
 ·rw[if_pos h];show(match strs? (a.map .str) with | none=>P.no | some a=>match strs? (b.map .str) with | none=>.no | some b=>.ok (a==b))=_;rw[gB,gB]
 ·rw[if_neg h];congr;exact(beq_false_of_ne fun e=>h (by rw[e])).symm
theorem oJ{a b:List Str}(ha:a.Nodup)(hb:b.Nodup):(aZ a==aZ b)=dec (∀ x,x∈a↔x∈b):=by
 refine fM (beq_iff_eq.trans ⟨fun e x=>?_,fun h=>Ad (k7 ha) (k7 hb) fun x=>?_⟩)
 ·rw[← cT,e,cT]
 ·rw[cT,cT];exact h x
theorem Ag(b:R V):aY (.ok (.fz (.bool false))) b=.ok (.fz (.bool false)):=rfl
theorem P2(b:R V):aY (.ok (.fz (.bool true))) b=b:=rfl
theorem jK(f:List V→R V)(a b c d:PyData):aG f [.ok (.fz a),.ok (.fz b),.ok (.fz c),.ok (.fz d)]=f [.fz a,.fz b,.fz c,.fz d]:=rfl
noncomputable def BP(w k p:PyData):X:=⟨so "BadPut", [(so "way", w),(so "kind", k),(so "part", p)]⟩
inductive NeedR(N:List Str)(m n:Nat)(t:TT)(p:PyData):Prop where
 |mk (dp:PyData) (h:Sem N m dp t) (e:∀ (b:Bool) (w k:PyData),rn (n+2) "need_put" [.fz (.bool b),.fz w,.fz k,.fz p]=if b=true then .ok (.fz .none) else .exc (BP w k dp)):NeedR N m n t p
theorem lB(H:Wld N)(n:Nat){p:PyData}{t:TT}(h:Sem N m p t)(hn:m≤n):NeedR N m n t p:=by
 obtain⟨v,d,e1,e2,e3⟩:=zW H h hn;refine⟨d,e3,fun b w k=>?_⟩;rw[Mw];cases b with
 |true=>rfl
 |false =>
  show yU _ _ [_,_,rn (n+1) "copied" [.fz p]]=_;rw[e1];show R.exc ⟨_,[(_,w),(_,k),(_,dOf v.clear)]⟩=_;rw[e2];rfl
inductive PExc(N:List Str)(m:Nat)(x:Rf)(r:R V):Prop where
 |mk (dp:PyData) (e:r=.exc (BP (.list x.way) (.str x.kind) dp)) (h:Sem N m dp x.part):PExc N m x r
noncomputable def bN(N:List Str)(m:Nat)(o:Option TT)(x:Rf)(r:R V):Prop:=match o with
 |some t=>Gives r fun d=>Sem N m d t
 |none=>PExc N m x r
theorem PExc.rb{x:Rf}{r:R V}(h:PExc N m x r)(f:V→R V):PExc N m x (rb r f):=by
 obtain⟨dp,rfl,h⟩:=h;exact⟨dp,rfl,h⟩
theorem bN.rb{o:Option TT}{x:Rf}{r:R V}(h:bN N m o x r):bN N m o x (rb r R.ok):=by
 cases o with
 |none=>exact PExc.rb h _
 |some t=>exact Gives.rb (P:=fun d=>Sem N m d t) h
theorem P3(H:Wld N)(n:Nat){x y:Str}(hx:x∈N){d:PyData}{t:TT}(h:Sem N m d t)(hn:m≤n)(to:TT)(way:List PyData):bN N m (aI (.call x y) to t) (aR (.call x y) to t way) (rn (n+3) "put_call" [.fz (enc (.call x y)),.fz d,.fz (.list way)]):=by
 rw[Mx];obtain⟨dp,hdp,np⟩:=lB H n h hn;obtain⟨i,hi⟩ | ⟨m,l,f,B⟩:=h.inv
 ·show bN N m (grd _ _) _ (rb (rn (n+2) "need_put" [.fz (.bool false),.fz (.list way),.fz (.str (so "form")),.fz (.int i)]) _);rw[cN (fun h=>by cases h.1),np];exact⟨dp,rfl,hdp⟩
 ·show bN N (m+1) (grd _ _) _ (rb (aG (rn (n+2) "need_put") [aY (aS (ofP (Mine.contains (.str y) (.dict (mkd l))))) (aS (ofP (bU (Mine.contains (.str x) (.dict (mkd l)))))),.ok (.fz (.list way)),.ok (.fz (.str (so "form"))),.ok (.fz (.dict (mkd l)))]) _);rw[dZ,dZ];have hc:aY (aS (ofP (.ok (lk l y).isSome))) (aS (ofP (bU (.ok (lk l x).isSome))))=.ok (.fz (.bool ((lk l y).isSome&&!(lk l x).isSome))):=by cases (lk l y).isSome<;>rfl
  rw[hc];show bN N (m+1) (grd _ _) _ (rb (rn (n+2) "need_put" [.fz (.bool _),.fz (.list way),.fz (.str (so "form")),.fz (.dict (mkd l))]) _);rw[np,B.dom,B.dom];simp only[dY]
  by_cases hc:(f y).isSome=true∧f x=none
  ·rw[dF hc,hc.1,hc.2];obtain⟨a,j,h1,h2⟩:=z9 H (S:=fun (a:LP) (j:Option V)=>f0 (ζ (enc (.call x y))) (ζ (.dict (mkd l))) (ζ (.list way)) (some (.own (.dict (mkd a)))) j) (b:=sJ (n+2)) (t:=sK) B (x:=y) hx hc.2 (j:=none) fun k d a j hk ha=>⟨some (.fz (.str k)),fun kn kr=>by
    rw[My,aO,aE,Mz];show(if (k==y)=true then bC (ofP (getItem (.dict (mkd l)) (.str k))) (.ok (.dict (mkd a))) (.ok (.fz (.str x))) _ else bC (ofP (getItem (.dict (mkd l)) (.str k))) (.ok (.dict (mkd a))) (.ok (.fz (.str k))) _)=_;rw[bE hk]
    by_cases e:k=y
    ·rw[if_pos (by simpa using e),if_pos e];show rb (ofP (Mine.setItem (.dict (mkd a)) (.str x) d)) _=_;rw[b7 x d ha];rfl
    ·rw[if_neg (by simpa using e),if_neg e];show rb (ofP (Mine.setItem (.dict (mkd a)) (.str k) d)) _=_;rw[b7 k d ha];rfl⟩
   refine⟨.own (.dict (mkd a)),_,?_,rfl,h1.toSem⟩;rw[b6];exact(h2 _ _).trans (M0 ..)
  ·rw[cN hc];have:((f y).isSome&&!(f x).isSome)=false:=by
    refine ocs (f y) (fun e1=>?_) fun u e1=>?_
    ·try rewrite[e1]
     rfl
    ·try rewrite[e1]
     refine ocs (f x) (fun e2=>?_) fun v e2=>?_
     ·try rewrite[e2]
      exact absurd ⟨by rw[e1];rfl,e2⟩ hc
     ·try rewrite[e2]
      rfl
   rw[this];exact⟨dp,rfl,hdp⟩
theorem P4(H:Wld N)(n:Nat){x:Str}{i:Int}{ln:LP}{d:PyData}{f:Str→Option TT}{t:TT}(way:List PyData)(B:Bld N m ln f)(hf:cO f)(h:Sem N (m+1) d t)(hn:m+1≤n):bN N (m+1) (aI (.sift x i) (.br f) t) (aR (.sift x i) (.br f) t way) (rn (n+3) "put_sift" [.fz (enc (.sift x i)),.fz (.dict (mkd ln)),.fz d,.fz (.list way)]):=by
 rw[M5,k6 (n+1) h];obtain⟨dp,hdp,np⟩:=lB H n h hn;obtain⟨j,rfl,rfl,hi⟩ | ⟨_,l,g,e,rfl,rfl,C⟩:=h.inv'
 ·rw[show abB (T.num j)=false from rfl,Ag,aE,eY,gA,jK,np];exact⟨dp,by rw[show aR (.sift x i) (.br f) (.num j) way=⟨way,frm _ eW,_⟩ from rfl,kQ (p:=nX x i (.num j)) fun h=>h];rfl,hdp⟩
 cases e;have hg:aY (.ok (.fz (.bool (abB (.br g))))) (aK cE (aL (ofP (items (.dict (mkd l)))) (fun d1=>(.ok true)) (fun d1=>(aG (rn (n+2) "is_sifted") [(ofP (getItem (.dict (mkd l)) d1)),(ofP (getItem (enc (.sift x i)) (.int 1))),(ofP (getItem (enc (.sift x i)) (.int 2)))]))))=.ok (.fz (.bool (dec (cO g∧∀ k u,g k=some u→dG x i u)))):=by
  refine bcs (abB (.br g)) (fun ha=>?_) fun ha=>?_
  ·try rewrite[ha]
   have ha:¬ cO g:=dR.mp ha;rw[show dec (cO g∧∀ k u,g k=some u→dG x i u)=false from dR.mpr fun h=>ha h.1];rfl
  ·try rewrite[ha]
   have ha:cO g:=cQ.mp ha;have:=kT (xs:=ks l) (g:=fun k=>match g k with | some u=>sb x i u | none=>true) (e:=fun d1=>(aG (rn (n+2) "is_sifted") [(ofP (getItem (.dict (mkd l)) d1)),(ofP (getItem (enc (.sift x i)) (.int 1))),(ofP (getItem (enc (.sift x i)) (.int 2)))])) fun k hk=>by
    obtain⟨d,u,h1,h2,h3⟩:=C.key hk;obtain⟨r,rfl⟩:=ha k u h2;obtain⟨_,lr,_,rfl,Br⟩:=h3.br_inv';rw[bE h1,h2];exact tD n Br x i
   rw[b6,aO,this];show R.ok (V.fz (.bool _))=_;refine congrArg (fun b=>R.ok (V.fz (.bool b))) (fM ?_);rw[List.all_eq_true];constructor
   ·intro h;refine⟨ha,fun k u hk=>?_⟩;have:=h k (C.mem.mpr (by rw[hk];rfl));rw[hk] at this;exact tC.mp this
   ·intro h k hk;obtain⟨d,u,h1,h2,h3⟩:=C.key hk;rw[h2];exact tC.mpr (h.2 k u h2)
 rw[hg];show bN N (m+1) (grd _ _) _ (rb (rn (n+2) "need_put" [.fz (.bool _),.fz (.list way),.fz (.str (so "form")),.fz (.dict (mkd l))]) _);rw[np]
 by_cases hc1:cO g∧∀ k u,g k=some u→dG x i u
 case neg =>
  rw[cN fun h=>hc1 h.1,dR.mpr hc1,show aR (.sift x i) (.br f) (.br g) way=⟨way,frm _ eW,_⟩ from rfl,kQ (p:=nX x i (.br g)) hc1];exact⟨dp,rfl,hdp⟩
 rw[cQ.mpr hc1];have hh:aL (ofP (items (.dict (mkd ln)))) (fun d3=>(tst (unS .Not (aG (rn (n+2) "is_sifted") [(ofP (getItem (.dict (mkd ln)) d3)),(ofP (getItem (enc (.sift x i)) (.int 1))),(ofP (getItem (enc (.sift x i)) (.int 2)))])))) (fun d3=>(.ok (.fz d3)))=.ok (.own (.list (((ks ln).filter fun k=>match f k with | some u=>!sb x i u | none=>false).map .str))):=by
  rw[b6];show rb (aU _ _ ((ks ln).map .str)) (fun r=>ofP (own (.list r)))=_;rw[s9 (g:=fun k=>match f k with | some u=>!sb x i u | none=>false) fun k hk=>by
   obtain⟨d,u,h1,h2,h3⟩:=B.key hk;obtain⟨r,rfl⟩:=hf k u h2;obtain⟨_,lr,_,rfl,Br⟩:=h3.br_inv';rw[bE h1,h2];show tst (unS .Not (rn (n+2) "is_sifted" [.fz (.dict (mkd lr)),.fz (.str x),.fz (.int i)]))=_;rw[tD n Br x i];rfl]
  rfl
 rw[hh];generalize hH:((ks ln).filter fun k=>match f k with | some u=>!sb x i u | none=>false)=hs;have hmem:∀ k,k∈hs↔∃ u,f k=some u∧¬ dG x i u:=fun k=>by
  rw[← hH,List.mem_filter];constructor
  ·rintro⟨h1,h2⟩
   obtain⟨d,u,_,h4,_⟩:=B.key h1;rw[h4] at h2;exact⟨u,h4,kZ.mp (by simpa using h2)⟩
  ·rintro⟨u,h1,h2⟩
   refine⟨B.mem.mpr (by rw[h1];rfl),?_⟩;rw[h1];simpa using kZ.mpr h2
 show bN N (m+1) (grd _ _) _ (rb (aG (rn (n+2) "need_put") [aD (aL (ofP (items (.dict (mkd l)))) (fun d6=>tst (aS (ofP (Mine.contains d6 (.list (hs.map .str)))))) (fun d6=>.ok (.fz d6))) .Eq (.ok (.own (.list []))),.ok (.fz (.list way)),.ok (.fz (.str (so "hidden"))),.ok (.fz (.dict (mkd l)))]) fun _=>rb (ofP (items (.list (hs.map .str)))) _);rw[b6,aO,z5 (g:=fun k=>hs.contains k) fun k hk=>by
  show tst (aS (ofP ((ofO (strs? (hs.map .str))).bind fun ss=>P.ok (ss.contains k))))=_;rw[gB];rfl]
 show bN N (m+1) (grd _ _) _ (rb (rn (n+2) "need_put" [.fz (.bool _),.fz (.list way),.fz (.str (so "hidden")),.fz (.dict (mkd l))]) _);rw[np]
 by_cases hc2:∀ k u,(g k).isSome=true→f k=some u→dG x i u
 case neg =>
  rw[cN fun h=>hc2 h.2,show((ks l).filter fun k=>hs.contains k).isEmpty=false from by
   rw[Bool.eq_false_iff];intro he;refine hc2 fun k u h1 h2=>Classical.byContradiction fun h3=>?_;have:=oG.mp he k (C.mem.mpr h1);rw[show hs.contains k=true from by simpa using (hmem k).mpr ⟨u,h2,h3⟩] at this;exact btf this,show aR (.sift x i) (.br f) (.br g) way=⟨way,frm _ eW,_⟩ from rfl,sX (p:=nX x i (.br g)) hc1]
  exact⟨dp,rfl,hdp⟩
 rw[dF ⟨hc1,hc2⟩,show((ks l).filter fun k=>hs.contains k).isEmpty=true from oG.mpr fun k hk=>by
  refine bcs (hs.contains k) (fun e=>?_) fun e=>?_
  ·try rewrite[e]
   rfl
  ·try rewrite[e]
   obtain⟨u,h1,h2⟩:=(hmem k).mp (by simpa using e);exact absurd (hc2 k u (C.mem.mp hk) h1) h2]
 have:=kW H (m:=m) (S:=fun (a:LP) (j:Option V)=>gW (ζ (enc (.sift x i))) (ζ (.dict (mkd ln))) (ζ (.dict (mkd l))) (ζ (.list way)) j (ζ (.bool true)) (ζ (.list (hs.map .str))) (some (.own (.dict (mkd a))))) (b:=sL (n+2)) (t:=sM) (xs:=hs) (j:=none) f (E:=fun _=>False) fun k hk a j ha=>by
  obtain⟨u,h1,h2⟩:=(hmem k).mp hk;obtain⟨d,h3,h4⟩:=B.get h1;refine⟨B.sub k (kR h3),.inr (.inl ⟨d,u,some (.fz (.str k)),h1,h4,fun kn kr=>?_⟩)⟩;rw[M6,aO,aE,M7,bE h3];show rb (ofP (Mine.setItem (.dict (mkd a)) (.str k) d)) _=_;rw[b7 k d ha];rfl
 obtain⟨a,j,hi,e⟩ | ⟨_,hx,_⟩:=this
 ·refine⟨.own (.dict (mkd (sts l a))),_,?_,rfl,((hi.upd C).ext fun k=>?_).toSem⟩
  ·refine(e _ _).trans ((M8 ..).trans ?_);show rb (ofP (dJ (so "update") (.dict (mkd a)) [.dict (mkd l)])) _=_;rw[z4 (by have:=hi.len;have:=C.len;have:=H.len;lia)];rfl
  ·congr 1;refine ocs (f k) (fun ef=>?_) fun u ef=>?_
   ·try rewrite[ef]
    simp[dY,ef]
   ·try rewrite[ef]
    by_cases hs':dG x i u
    ·have:k∉hs:=fun hk=>by
      obtain⟨u',h1,h2⟩:=(hmem k).mp hk;rw[ef] at h1;obtain rfl:=si h1;exact h2 hs'
     simp[dY,ef,this,grd,hs']
    ·have:k∈hs:=(hmem k).mpr ⟨u,ef,hs'⟩;simp[dY,ef,this,grd,hs']
 ·exact hx.elim
end Mine
namespace Mine
open PySem
variable {N:List Str} {m:Nat}
theorem tJ(l:LP):bV (.dict (mkd l))=.ok (.own (.dict (mkd l))):=rfl
theorem Ah{l:LP}{k:Str}{d:PyData}(h:lk l k=some d):aX [.ok (.fz (.str k)),aJ (.ok (.dict (mkd l))) (.ok (.fz (.str k)))]=.ok (.fz (.tuple [.str k,d])):=by
 show rb (rb (R.ok (V.fz (.str k))) fun v=>rb (rb (ofP (getItem (.dict (mkd l)) (.str k))) fun v=>.ok [v.clear]) fun vs=>.ok (v.clear::vs)) _=_;rw[bE h];rfl
theorem oK(H:Wld N){l:LP}{r:Str→Option TT}(B:Bld N m l r){F:Str→Option TT}{t:PyData→R Bool}{c:Str→Bool}(ht:∀ k,t (.str k)=.ok (c k))(hF:∀ k,F k=if c k=true then r k else none) :
  ∃ l':LP,aK bV (aL (.ok ((ks l).map .str)) t (fun d=>aX [.ok (.fz d),aJ (.ok (.dict (mkd l))) (.ok (.fz d))]))=.ok (.own (.dict (mkd l')))∧Bld N m l' F:=by
 obtain⟨l',e,C⟩:=tA (N:=N) (m:=m) (F:=F) (t:=t) (e:=fun d=>aX [.ok (.fz d),aJ (.ok (.dict (mkd l))) (.ok (.fz d))]) (xs:=ks l) (by rw[d8];exact B.lt H (by decide)) fun k hk=>by
  obtain⟨d,u,h1,h2,h3⟩:=B.key hk;refine⟨B.sub k hk,?_⟩;rw[ht,hF];refine bcs (c k) (fun hc=>?_) fun hc=>?_
  ·try rewrite[hc]
   exact .inl ⟨rfl,by simp only[jE]⟩
  ·try rewrite[hc]
   exact .inr ⟨rfl,_,d,u,Ah h1,rfl,by rw[dN];exact h2,h3⟩
 exact⟨l',e,B.all (fun k hk=>by rw[hF,hk];split<;>rfl) C⟩
theorem P5(H:Wld N)(n:Nat){a b:Str}{fs:List Str}(ha:a∈N)(hb:b∈N){lo l1 l2:LP}{d:PyData}(way:List PyData){f g h:Str→Option TT}{t:TT}(Bo:Bld N (m+1) lo f)(e1:lk lo a=some (.dict (mkd l1)))(e2:lk lo b=some (.dict (mkd l2)))(fa:f a=some (.br g))(fb:f b=some (.br h))(B1:Bld N m l1 g)(B2:Bld N m l2 h)(hd:Sem N (m+2) d t)(hn:m+2≤n) :
  bN N (m+3) (aI (.join a b fs) (.br f) t) (aR (.join a b fs) (.br f) t way) (rn (n+3) "put_join" [.fz (enc (.join a b fs)),.fz (.dict (mkd lo)),.fz d,.fz (.list way)]):=by
 obtain⟨dp,hdp,np⟩:=lB H n hd hn;have hdp:Sem N (m+3) dp t:=hdp.mono (Nat.le_succ _);simp only[M9,k6 (n+1) hd,jK,np];obtain⟨j,rfl,rfl,hi⟩ | ⟨_,l,q,e,rfl,rfl,C⟩:=hd.inv'
 ·exact⟨dp,by rw[show aR (.join a b fs) (.br f) (.num j) way=⟨way,frm _ eW,_⟩ from rfl,kQ (p:=nY (.num j)) fun h=>h];rfl,hdp⟩
 cases e;have hp:aI (.join a b fs) (.br f) (.br q)=grd (cO q∧∀ k,(q k).isSome=true→((g k).isSome=(h k).isSome)) (some (.br (upd (upd f a (some (.br (dM (fun f=>f∈fs) g h q)))) b (some (.br (dM (fun f=>f∉fs) h g q)))))):=by
  show((f a).bind fun one=>(f b).bind fun other=>_)=_;simp only[fa,fb];rfl
 simp only[hp]
 by_cases hc1:cO q
 case neg =>
  rw[cN fun h=>hc1 h.1,show abB (.br q)=false from dR.mpr hc1,show aR (.join a b fs) (.br f) (.br q) way=⟨way,frm _ eW,_⟩ from rfl,kQ (p:=nY (.br q)) hc1];exact⟨dp,rfl,hdp⟩
 simp only[show abB (.br q)=true from cQ.mpr hc1,dN,aE];show bN N (m+3) (grd _ _) _ (rb (ofP (getItem (.dict (mkd lo)) (.str a))) fun v1=>rb (ofP (getItem (.dict (mkd lo)) (.str b))) fun v2=>_);simp only[bE e1,bE e2,aO,aO,aE,aE];have hcmp:aD (aL (ofP (items (.dict (mkd l)))) (fun d4=>(tst (aD (aD (.ok (.fz d4)) .In (ofP (rdv (V.clear (.fz (.dict (mkd l1))))))) .NotEq (aD (.ok (.fz d4)) .In (ofP (rdv (V.clear (.fz (.dict (mkd l2)))))))))) (fun d4=>(.ok (.fz d4)))) .Eq (.ok (.own (.list [])))=.ok (.fz (.bool (dec (∀ k,(q k).isSome=true→((g k).isSome=(h k).isSome))))):=by
  rw[b6,aO,z5 (g:=fun k=>!((lk l1 k).isSome==(lk l2 k).isSome)) fun k hk=>by
   show tst (rb (aS (ofP (Mine.contains (.str k) (.dict (mkd l1))))) fun a=>aS (rb (aS (ofP (Mine.contains (.str k) (.dict (mkd l2))))) fun v=>ofP (cmp .NotEq (dOf a) (dOf v))))=_;simp only[dZ,dZ];rfl]
  refine congrArg (fun b=>R.ok (V.fz (.bool b))) (fM ?_);simp only[oG];constructor
  ·intro h k hk;have:=h k (C.mem.mpr hk);simp only[B1.dom,B2.dom] at this;simpa using this
  ·intro h k hk;simp only[B1.dom,B2.dom,h k (C.mem.mp hk)];simp
 simp only[hcmp,jK,np]
 by_cases hc2:∀ k,(q k).isSome=true→((g k).isSome=(h k).isSome)
 case neg =>
  rw[cN fun h=>hc2 h.2,dR.mpr hc2,show aR (.join a b fs) (.br f) (.br q) way=⟨way,frm _ eW,_⟩ from rfl,sX (p:=nY (.br q)) hc1];exact⟨dp,rfl,hdp⟩
 rw[dF ⟨hc1,hc2⟩,cQ.mpr hc2,dN,aE];obtain⟨ll,el,Bl⟩:=oK H B1 (F:=fun k=>if (h k).isSome then none else g k) (t:=fun d5=>tst (aS (ofP (bU (Mine.contains d5 (.dict (mkd l2))))))) (c:=fun k=>!(lk l2 k).isSome) (fun k=>by simp only[dZ];rfl) fun k=>by
  simp only[B2.dom];cases (h k).isSome<;>rfl
 obtain⟨lr,er,Br⟩:=oK H B2 (F:=fun k=>if (g k).isSome then none else h k) (t:=fun d5=>tst (aS (ofP (bU (Mine.contains d5 (.dict (mkd l1))))))) (c:=fun k=>!(lk l1 k).isSome) (fun k=>by simp only[dZ];rfl) fun k=>by
  simp only[B1.dom];cases (g k).isSome<;>rfl
 show bN N (m+3) _ _ (rb (aK bV (aL (ofP (items (.dict (mkd l1)))) (fun d5=>tst (aS (ofP (bU (Mine.contains d5 (.dict (mkd l2))))))) (fun d=>aX [.ok (.fz d),aJ (.ok (.dict (mkd l1))) (.ok (.fz d))]))) fun v6=>rb (aK bV (aL (ofP (items (.dict (mkd l2)))) (fun d5=>tst (aS (ofP (bU (Mine.contains d5 (.dict (mkd l1))))))) (fun d=>aX [.ok (.fz d),aJ (.ok (.dict (mkd l2))) (.ok (.fz d))]))) fun v8=>_);simp only[b6,b6,aO,aO,el,er,aE,aE,b6,aO,aE];have L:=oC (S:=fun (c:LP×LP) (j:Option V×Option V)=>gX (ζ (enc (.join a b fs))) (ζ (.dict (mkd lo))) (ζ (.dict (mkd l))) (ζ (.list way)) (ζ (.dict (mkd l1))) (ζ (.dict (mkd l2))) j.1 (some (.own (.dict (mkd c.1)))) (some (.own (.dict (mkd c.2)))) j.2 none) (b:=sN (n+2)) (t:=sO) (l:=ks l) (p:=[]) (a:=(ll,lr)) (j:=(none,none))
  (I:=fun p c=>Bld N (m+1) c.1 (fun k=>if k∈p then dM (fun f=>f∈fs) g h q k else if (h k).isSome then none else g k)∧Bld N (m+1) c.2 (fun k=>if k∈p then dM (fun f=>f∉fs) h g q k else if (g k).isSome then none else h k)) (E:=fun _=>False) (Q:=fun _=>False) (fun p k r c j hq hi=>by
   have hk:=oE hq;obtain⟨dk,u,h1,h2,h3⟩:=C.key hk;obtain⟨rw',rfl⟩:=hc1 k u h2;obtain⟨_,lw,e,rfl,Bw⟩:=h3.br_inv';cases e;have hlT:dM (fun f=>f∈fs) g h q k=some (.br fun fl=>grd (fl∈fs) (rw' fl)):=by simp only[dM,h2,dY]
   have hlF:dM (fun f=>f∉fs) h g q k=some (.br fun fl=>grd (fl∉fs) (rw' fl)):=by simp only[dM,h2,dY]
   obtain⟨x1,ex1,Bx1⟩:=oK H Bw (F:=fun fl=>grd (fl∈fs) (rw' fl)) (t:=fun d5=>tst (aS (ofP (Mine.contains d5 (.tuple (fs.map .str)))))) (c:=fun k=>fs.contains k) (fun k=>by simp only[oF];rfl) fun k=>by
    by_cases e:k∈fs<;>simp[e,grd]
   obtain⟨x2,ex2,Bx2⟩:=oK H Bw (F:=fun fl=>grd (fl∉fs) (rw' fl)) (t:=fun d5=>tst (aS (ofP (bU (Mine.contains d5 (.tuple (fs.map .str))))))) (c:=fun k=>!fs.contains k) (fun k=>by simp only[oF];rfl) fun k=>by
    by_cases e:k∈fs<;>simp[e,grd]
   refine Out.kn (st c.1 k (.dict (mkd x1)),st c.2 k (.dict (mkd x2))) (some (.fz (.str k)),some (.fz (.dict (mkd lw)))) ⟨(hi.1.set (C.sub k hk) Bx1.toSem).ext fun z=>?_,(hi.2.set (C.sub k hk) Bx2.toSem).ext fun z=>?_⟩ fun kn kr=>?_
   ·by_cases e:z=k
    ·subst e;simp only[upd,List.mem_append,List.mem_singleton,or_true,if_true,hlT]
    ·simp[upd,e]
   ·by_cases e:z=k
    ·subst e;simp only[upd,List.mem_append,List.mem_singleton,or_true,if_true,hlF]
    ·simp[upd,e]
   ·simp only[Na,aO,aE,Nb,bE h1,aO,aE];show rb (aK bV (aL (ofP (items (.dict (mkd lw)))) (fun d5=>tst (aS (ofP (Mine.contains d5 (.tuple (fs.map .str)))))) (fun d=>aX [.ok (.fz d),aJ (.ok (.dict (mkd lw))) (.ok (.fz d))]))) (fun v=>rb (ofP (Mine.setItem (.dict (mkd c.1)) (.str k) (dOf v))) fun o3=>rb (aK bV (aL (ofP (items (.dict (mkd lw)))) (fun d5=>tst (aS (ofP (bU (Mine.contains d5 (.tuple (fs.map .str))))))) (fun d=>aX [.ok (.fz d),aJ (.ok (.dict (mkd lw))) (.ok (.fz d))]))) (fun v=>rb (ofP (Mine.setItem (.dict (mkd c.2)) (.str k) (dOf v))) fun o5=>_))=_;simp only[b6,aO,ex1,ex2,aE,zM,b7 k _ (hi.1.lt H (by decide)),aO,aE,aE,zM,b7 k _ (hi.2.lt H (by decide))];rfl) ⟨(Bl.mono (Nat.le_succ _)).ext fun k=>by simp,(Br.mono (Nat.le_succ _)).ext fun k=>by simp⟩
 obtain⟨c,j,hi,e⟩ | ⟨_,hx,_⟩ | ⟨_,hv,_⟩:=L
 ·have hqn:∀ k,k∉ks l→q k=none:=fun k hk=>by
   refine ocs (q k) (fun e=>?_) fun t e=>?_
   ·try rewrite[e]
    rfl
   ·try rewrite[e]
    exact absurd (C.mem.mpr (by rw[e];rfl)) hk
  have I1:=hi.1.ext (g:=dM (fun f=>f∈fs) g h q) fun k=>by
   by_cases hk:k∈ks l
   ·simp[hk]
   ·simp[hk,dM,hqn k hk]
  have I2:=hi.2.ext (g:=dM (fun f=>f∉fs) h g q) fun k=>by
   by_cases hk:k∈ks l
   ·simp[hk]
   ·simp[hk,dM,hqn k hk]
  refine⟨.own (.dict (mkd (st (st lo a (.dict (mkd c.1))) b (.dict (mkd c.2))))),_,?_,rfl,(((Bo.mono (Nat.le_succ _)).set ha I1.toSem).set hb I2.toSem).toSem⟩;refine(e _ _).trans ((Nc ..).trans ?_);simp only[tJ,aO,aE];show rb (ofP (Mine.setItem (.dict (mkd lo)) (.str a) (.dict (mkd c.1)))) (fun o2=>rb (ofP (Mine.setItem o2 (.str b) (.dict (mkd c.2)))) fun o3=>_)=_;have B2':=(Bo.mono (Nat.le_succ _)).set ha I1.toSem;rw[b7 a _ (Bo.lt H (by decide)),aO,aE,b7 b _ (B2'.lt H (by decide))];rfl
 ·exact hx.elim
 ·exact hv.elim
end Mine
namespace Mine
open PySem
variable {N:List Str} {m:Nat}
noncomputable def W.grow:WW→Nat
 | .pick _=>1
 | .join _ _ _=>1
 | .each v=>v.grow
 | .andThen a b=>a.grow+b.grow
 | .beside r=>r.grow
 | .bcons _ _ v r=>max v.grow r.grow
 |_=>0
section
theorem P6(n:Nat)(o d w:PyData):rn (n+1) "put_back" [.fz (enc .whole),.fz o,.fz d,.fz w]=.ok (.fz d):=by kernel_rfl
theorem P7(n:Nat)(x:Str)(o d w:PyData):rn (n+1) "put_back" [.fz (enc (.pick x)),.fz o,.fz d,.fz w]=rb (ofP (bV o)) fun v=>rb (ofP (bW v)) fun o=>rb (ofP (Mine.setItem o (.str x) d)) fun o=>.ok (.own o):=by kernel_rfl
theorem P8(n:Nat)(x y:Str)(o d w:PyData):rn (n+1) "put_back" [.fz (enc (.call x y)),.fz o,.fz d,.fz w]=rb (rn n "put_call" [.fz (enc (.call x y)),.fz d,.fz w]) R.ok:=by kernel_rfl
theorem P9(n:Nat)(x:Str)(l:Int)(o d w:PyData):rn (n+1) "put_back" [.fz (enc (.sift x l)),.fz o,.fz d,.fz w]=rb (rn n "put_sift" [.fz (enc (.sift x l)),.fz o,.fz d,.fz w]) R.ok:=by kernel_rfl
theorem Qa(n:Nat)(x y:Str)(fs:List Str)(o d w:PyData):rn (n+1) "put_back" [.fz (enc (.join x y fs)),.fz o,.fz d,.fz w]=rb (rn n "put_join" [.fz (enc (.join x y fs)),.fz o,.fz d,.fz w]) R.ok:=by kernel_rfl
theorem Qb(n:Nat)(v:WW)(o d w:PyData):rn (n+1) "put_back" [.fz (enc (.each v)),.fz o,.fz d,.fz w]=rb (rn n "put_each" [.fz (enc (.each v)),.fz o,.fz d,.fz w]) R.ok:=by kernel_rfl
theorem Qc(n:Nat)(v:WW)(o d w:PyData):rn (n+1) "put_back" [.fz (enc (.beside v)),.fz o,.fz d,.fz w]=rb (rn n "put_beside" [.fz (enc (.beside v)),.fz o,.fz d,.fz w]) R.ok:=by kernel_rfl
theorem Qd(n:Nat)(a b:WW)(o d:PyData)(w:List PyData):rn (n+1) "put_back" [.fz (enc (.andThen a b)),.fz o,.fz d,.fz (.list w)]=rb (aG (rn n "put_back") [.ok (.fz (enc b)),rn n "shown" [.fz (enc a),.fz o],.ok (.fz d),ofP (gF .Add w (.list [.int 1]))]) fun v=>rb (aG (rn n "put_back") [.ok (.fz (enc a)),.ok (.fz o),cA v.clear,ofP (gF .Add w (.list [.int 0]))]) R.ok:=by kernel_rfl
end
theorem lC{w:List PyData}(x:PyData)(h:w.length < 1000):gF .Add w (.list [x])=.ok (.own (.list (w++[x]))):=by
 show(if lI .Add=true∧w.length+[x].length≤aV then P.ok (V.own (.list (w++[x]))) else .no)=_;rw[if_pos ⟨rfl,by have:aV=16777216:=rfl;simp only[List.length_singleton];exact Cy h this⟩]
theorem Qe:∀ {r:WW} {f:Str→Option TT} {new z:TT},r.isRows=true→r.wf→aI r (.br f) new=some z→∃ g,z=.br g∧∀ k,k∉r.parts→g k=f k:=by
 intro r
 induction r with
 |bnil=>intro f new z _ _ h;obtain rfl:=si h;exact⟨_,rfl,fun _ _=>rfl⟩
 |bcons n p v r ihv ihr =>
  intro f new z _ hw h;obtain⟨o,h1,h⟩:=bind_some h;obtain⟨x,h2,h⟩:=bind_some h;obtain⟨y,h3,h⟩:=bind_some h;obtain⟨z1,h4,h⟩:=bind_some h;obtain rfl:=si h;obtain⟨g,rfl,hg⟩:=ihr hw.2.1.2 hw.2.1.1 h4;refine⟨_,rfl,fun k hk=>?_⟩;have hk1:k≠p:=fun e=>hk (by simp[nU,nV,e]);simp only[upd,if_neg hk1,dY];exact hg k fun e=>hk (by simp[nU,nV,e])
 |_=>intro f new z h;exact bft h
noncomputable def pj(vw old new way names:PyData)(c:LP)(j:Option V×Option V×Option V):aA:=f6 (ζ vw) (ζ old) (ζ new) (ζ way) (ζ names) (some (.own (.dict (mkd c)))) j.1 j.2.1 j.2.2
theorem Ai{xs q r:List Str}{x i:Str}(hs:xs.Pairwise ltS)(hq:[]++xs=q++x::r)(hi:ltS i x)(hm:i∈xs):i∈q:=by
 have hq:xs=q++x::r:=hq;subst hq;rcases List.mem_append.mp hm with h | h
 ·exact h
 ·have h2:=(List.pairwise_append.mp hs).2.1;rcases List.mem_cons.mp h with rfl | h
  ·exact absurd hi (jJ _)
  ·exact absurd (tF hi ((List.pairwise_cons.mp h2).1 i h)) (jJ _)
inductive EachX(N:List Str)(m:Nat)(v:WW)(f q:Str→Option TT)(w:List PyData)(e:X):Prop where
 |mk (k:Str) (x y:TT) (d:PyData) (hl:Lst (fun k=>∃ x y,f k=some x∧q k=some y∧aI v x y=none) k) (h1:f k=some x) (h2:q k=some y) (h3:aI v x y=none) (he:e=BP (.list (aR v x y (w++[.str k])).way) (.str (aR v x y (w++[.str k])).kind) d) (hd:Sem N m d (aR v x y (w++[.str k])).part):EachX N m v f q w e
theorem Qf(H:Wld N)(n:Nat){v:WW}{f:Str→Option TT}{t:TT}{l:LP}{d:PyData}{w:List PyData}(hw:w.length < 1000)(B:Bld N m l f)(hd:Sem N (m+1) d t)(hn:m+1≤n){g:Nat}
  (ih:∀ k o x to tx,f k=some to→Sem N m o to→Sem N m x tx→bN N (m+g) (aI v to tx) (aR v to tx (w++[.str k])) (rn (n+2) "put_back" [.fz (enc v),.fz o,.fz x,.fz (.list (w++[.str k]))])) :
  bN N (m+g+1) (aI (.each v) (.br f) t) (aR (.each v) (.br f) t w) (rn (n+3) "put_each" [.fz (enc (.each v)),.fz (.dict (mkd l)),.fz d,.fz (.list w)]):=by
 obtain⟨dp,hdp,np⟩:=lB H n hd hn;have hdp:Sem N (m+g+1) dp t:=hdp.mono (Nat.succ_le_succ (Nat.le_add_right _ _));rw[Nd,np];obtain⟨j,rfl,rfl,hi⟩ | ⟨_,ln,q,e,rfl,rfl,C⟩:=hd.inv'
 ·exact⟨dp,rfl,hdp⟩
 cases e;rw[zN,dN,aE,tI (C.lt H (by decide)),tI (B.lt H (by decide))];have hc:aD (ofP (.ok (.own (.list ((aZ (ks ln)).map .str))))) .Eq (ofP (.ok (.own (.list ((aZ (ks l)).map .str)))))=.ok (.fz (.bool (dec (∀ k,(q k).isSome=(f k).isSome)))):=by
  show aS (ofP (eqO (.list ((aZ (ks ln)).map .str)) (.list ((aZ (ks l)).map .str))))=_;rw[lA,oJ C.nd B.nd];refine congrArg (fun b=>R.ok (V.fz (.bool b))) (fM (cQ.trans ⟨fun h k=>?_,fun h k=>?_⟩))
  ·have:=h k;rw[C.mem,B.mem] at this;exact Bool.eq_iff_iff.mpr this
  ·rw[C.mem,B.mem,h k]
 rw[hc,jK,np];show bN N (m+g+1) (grd ((∀ k,(q k).isSome=(f k).isSome)∧∀ k x y,f k=some x→q k=some y→(aI v x y).isSome=true) (some (.br fun k=>(f k).bind fun x=>(q k).bind fun y=>aI v x y))) (sel (∀ k,(q k).isSome=(f k).isSome) (((f (dC v f q)).bind fun x=>(q (dC v f q)).map fun y=>aR v x y (w++[.str (dC v f q)])).getD ⟨w,bK,.br q⟩) ⟨w,gZ,.br q⟩) _
 by_cases hc1:∀ k,(q k).isSome=(f k).isSome
 case neg =>
  rw[cN fun h=>hc1 h.1,dR.mpr hc1,jB hc1];exact⟨dp,rfl,hdp⟩
 rw[cQ.mpr hc1,dN,aE,jA hc1];have:=zV H (m:=m+g) (S:=fun (a:LP) (j:Option V)=>fL (ζ (enc (.each v))) (ζ (.dict (mkd l))) (ζ (.dict (mkd ln))) (ζ (.list w)) (some (.own (.dict (mkd a)))) j) (b:=nO (n+2)) (t:=nP) (xs:=aZ (ks ln)) (j:=none) (fun k=>(f k).bind fun x=>(q k).bind fun y=>aI v x y) (P:=fun k=>((f k).bind fun x=>(q k).bind fun y=>aI v x y).isSome=true) (E:=fun e=>EachX N (m+g) v f q w e) fun q0 k r0 hq0 hP a j ha=>by
  have hk:=oE hq0;obtain⟨dn,tn,h1,h2,h3⟩:=C.key (cT.mp hk);have hf:(f k).isSome=true:=by rw[← hc1 k,h2];rfl
  cases hfk:f k with
  |none=>rw[hfk] at hf;exact bft hf
  |some to =>
   obtain⟨do_,h4,h5⟩:=B.get hfk;have hp:=ih k do_ dn to tn hfk h5 h3;refine⟨C.sub k (cT.mp hk),?_⟩;have hb:∀ kn kr,(rb (ofP (aT nP (.str k) (fL (ζ (enc (.each v))) (ζ (.dict (mkd l))) (ζ (.dict (mkd ln))) (ζ (.list w)) (some (.own (.dict (mkd a)))) j))) fun σ=>nO (n+2) σ kn kr)=rb (rn (n+2) "put_back" [.fz (enc v),.fz do_,.fz dn,.fz (.list (w++[.str k]))]) fun v'=>rb (ofP (Mine.setItem (.dict (mkd a)) (.str k) (dOf v'))) fun o1=>kn (fL (ζ (enc (.each v))) (ζ (.dict (mkd l))) (ζ (.dict (mkd ln))) (ζ (.list w)) (some (.own o1)) (ζ (.str k))):=fun kn kr=>by
    rw[Nf,aO,aE,Ng,bE h1,bE h4];show rb (aG (rn (n+2) "put_back") [.ok (.fz (enc v)),.ok (.fz do_),.ok (.fz dn),ofP (gF .Add w (.list [.str k]))]) _=_;rw[lC _ hw];rfl
   refine ocs (aI v to tn) (fun hpt=>?_) fun z hpt=>?_
   ·try rewrite[hpt]
    rw[hpt] at hp;obtain⟨d2,hp,hd2⟩:=hp;exact .inr (.inr ⟨_,⟨k,to,tn,d2,⟨⟨to,tn,hfk,h2,hpt⟩,fun i hi ⟨x,y,e1,e2,e3⟩=>by
     have:=hP i (Ai (k7 C.nd) hq0 hi (cT.mpr (C.mem.mpr (by rw[e2];rfl))));rw[e1,e2] at this;exact bft ((congrArg Option.isSome e3).symm.trans this)⟩,hfk,h2,hpt,rfl,hd2⟩,fun kn kr=>(hb kn kr).trans (by rw[hp];rfl)⟩)
   ·try rewrite[hpt]
    rw[hpt] at hp;obtain⟨v',d',e1,e2,e3⟩:=hp;exact .inr (.inl ⟨by rw[h2];exact(congrArg Option.isSome hpt).trans rfl,d',z,some (.fz (.str k)),by rw[h2];exact hpt,e3,fun kn kr=>(hb kn kr).trans (by
     rw[e1,aE,eF e2,b7 k d' ha];rfl)⟩)
 obtain⟨a,j,hi,hall,e⟩ | ⟨_,⟨k,x,y,d2,hl,h1,h2,h3,rfl,hd2⟩,e⟩:=this
 ·rw[dF ⟨hc1,fun k x y hx hy=>by
   have:=hall k (cT.mpr (C.mem.mpr (by rw[hy];rfl)));rw[hx,hy] at this;exact this⟩]
  refine⟨.own (.dict (mkd a)),_,(e _ _).trans (Nh ..),rfl,(hi.ext fun k=>?_).toSem⟩
  by_cases hk:k∈aZ (ks ln)
  ·rw[if_pos hk]
  ·rw[if_neg hk];have:q k=none:=by
    refine ocs (q k) (fun e=>?_) fun t e=>?_
    ·try rewrite[e]
     rfl
    ·try rewrite[e]
     exact absurd (cT.mpr (C.mem.mpr (by rw[e];rfl))) hk
   rw[this];cases f k<;>rfl
 ·rw[cN fun h=>by have:=h.2 k x y h1 h2;rw[h3] at this;exact bft this];rw[show dC v f q=k from zK tG hl,h1,h2];exact⟨d2,e _ _,hd2.mono (Nat.le_succ _)⟩
end Mine
namespace Mine
open PySem
variable {N:List Str} {m:Nat}
theorem ml3{a m g n:Nat}(h:a+m+g≤n):m≤n:=Nat.le_trans (Nat.le_add_left m a) (Nat.le_trans (Nat.le_add_right _ g) h)
theorem wl1{a b:Nat}(h:a+b≤900):a < 1000:=Nat.lt_of_le_of_lt (Nat.le_trans (Nat.le_add_right a b) h) (by decide)
theorem bN.mono{m':Nat}{o:Option TT}{x:Rf}{r:R V}(h:bN N m o x r)(hm:m≤m'):bN N m' o x r:=by
 cases o with
 |none=>obtain⟨dp,e,h⟩:=h;exact⟨dp,e,h.mono hm⟩
 |some t=>obtain⟨v,d,e1,e2,e3⟩:=h;exact⟨v,d,e1,e2,e3.mono hm⟩
theorem cU{α:Type}{o:Option α}(h:o.isSome=true):∃ x,o=some x:=by
 cases o with
 |none=>exact bft h
 |some x=>exact⟨x,rfl⟩
noncomputable def Aj(N:List Str)(M:Nat)(n:Nat)(w:WW)(o:Option TT)(x:Rf)(vw old new way names:PyData)(c:LP)(g:Str→Option TT)(j:Option V×Option V×Option V):Prop:=match o with
 |some z=>∃ c' j',Bld N M c' (fun k=>if k∈w.parts then z.get k else g k)∧∀ kn kr,aP (eT n) eU (bJ w) (pj vw old new way names c j) kn kr=kn (pj vw old new way names c' j')
 |none=>∃ dp,(∀ kn kr,aP (eT n) eU (bJ w) (pj vw old new way names c j) kn kr=.exc (BP (.list x.way) (.str x.kind) dp))∧Sem N M dp x.part
theorem Qg(H:Wld N)(n:Nat){r:WW}(hr:r.isRows=true)(ho:okW N r){f:Str→Option TT}{t:TT}{l:LP}{d:PyData}{w:List PyData}(B:Bld N m l f)(hd:Sem N (m+1) d t)(hn:m+1≤n){M:Nat}(hM:m≤M)(hl:r.names.length≤6)
  (ih:∀ ln q names,d=.dict (mkd ln)→Bld N m ln q→(∀ k∈r.names,(q k).isSome=true)→t=.br q→Aj N M (n+2) r (aI r (.br f) (.br q)) (aR r (.br f) (.br q) w) (enc (.beside r)) (.dict (mkd l)) (.dict (mkd ln)) (.list w) names l f (none,none,none)) :
  bN N (M+1) (aI (.beside r) (.br f) t) (aR (.beside r) (.br f) t w) (rn (n+3) "put_beside" [.fz (enc (.beside r)),.fz (.dict (mkd l)),.fz d,.fz (.list w)]):=by
 obtain⟨⟨i1,i2⟩,⟨i3,i4⟩,i5,i6⟩:=z0 hr ho;obtain⟨dp,hdp,np⟩:=lB H n hd hn;have hdp:Sem N (M+1) dp t:=hdp.mono (Nat.succ_le_succ hM);simp only[M1];have hl1:aL (plI (ofP (getItem (enc (.beside r)) (.int 1)))) (fun d1=>(.ok true)) (fun d1=>(ofP (getItem d1 (.int 0))))=.ok (.own (.list (r.names.map .str))):=by
  show rb (rb (ofP (items (enc r))) fun l=>aU (fun _=>.ok true) (fun d=>ofP (getItem d (.int 0))) l) (fun r=>ofP (own (.list r)))=_;simp only[kX hr];show rb (aU (fun _=>.ok true) (fun d=>ofP (getItem d (.int 0))) (bJ r)) (fun r=>ofP (own (.list r)))=_;simp only[i1];rfl
 simp only[hl1,aE];obtain⟨j,rfl,rfl,hi⟩ | ⟨_,ln,q,e,rfl,rfl,C⟩:=hd.inv'
 ·simp only[Ov,Ag,jK,np];exact⟨dp,rfl,hdp⟩
 cases e;simp only[zN,P2,tI (C.lt H (by decide))];have hc:aD (ofP (.ok (.own (.list ((aZ (ks ln)).map .str))))) .Eq (aK cG (ofP (rdv (V.clear (.own (.list (r.names.map .str)))))))=.ok (.fz (.bool (dec (∀ k,(q k).isSome=true↔k∈r.names)))):=by
  show aS (rb (ofP (eH (r.names.map .str))) fun v=>ofP (eqO (.list ((aZ (ks ln)).map .str)) (dOf v)))=_;rw[k9 (by exact oX hl)];show aS (ofP (eqO (.list ((aZ (ks ln)).map .str)) (.list ((aZ r.names).map .str))))=_;simp only[lA,oJ C.nd i3];refine congrArg (fun b=>R.ok (V.fz (.bool b))) (fM (cQ.trans ⟨fun h k=>?_,fun h k=>?_⟩))
  ·simp only[← C.mem];exact h k
  ·simp only[C.mem];exact h k
 simp only[hc,jK,np];show bN N (M+1) (grd (∀ k,(q k).isSome=true↔k∈r.names) (aI r (.br f) (.br q))) (sel (∀ k,(q k).isSome=true↔k∈r.names) (aR r (.br f) (.br q) w) ⟨w,bK,.br q⟩) _
 by_cases hc1:∀ k,(q k).isSome=true↔k∈r.names
 case neg =>
  simp only[cN hc1,jB hc1];simp only[dR.mpr hc1];exact⟨dp,rfl,hdp⟩
 simp only[jA hc1];simp only[dF hc1,cQ.mpr hc1,dN,aE,tJ,aO,aE];have hI:=ih ln q (.list (r.names.map .str)) rfl C (fun k hk=>(hc1 k).mpr hk) rfl;show bN N (M+1) _ _ (rb (ofP (items (enc r))) _);simp only[kX hr];refine ocs (aI r (.br f) (.br q)) (fun hp=>?_) fun z hp=>?_
 ·try rewrite[hp]
  simp only[hp] at hI;obtain⟨d2,e,h2⟩:=hI;exact⟨d2,e _ _,h2.mono (Nat.le_succ _)⟩
 ·try rewrite[hp]
  simp only[hp] at hI;obtain⟨c,j,h1,h2⟩:=hI;obtain⟨z',rfl,hz⟩:=Qe hr ho.wf hp;refine⟨.own (.dict (mkd c)),_,(h2 _ _).trans (M4 ..),rfl,(h1.ext fun k=>?_).toSem⟩
  by_cases hk:k∈r.parts
  ·simp only[if_pos hk];rfl
  ·simp only[if_neg hk];exact(hz k hk).symm
noncomputable def Qh(N:List Str)(w:WW):Prop:=∀ {m n o d to tn wl},2*w.hgt+m+w.grow+8≤n→wl.length+w.hgt≤900→Sem N m o to→Sem N m d tn→(aW w to).isSome=true→bN N (m+w.grow) (aI w to tn) (aR w to tn wl) (rn n "put_back" [.fz (enc w),.fz o,.fz d,.fz (.list wl)])
noncomputable def Qi(N:List Str)(w:WW):Prop:=∀ {m n lo f ln q wl},2*w.hgt+m+w.grow+8≤n→wl.length+w.hgt+1≤900→Bld N m lo f→Bld N m ln q→(aW w (.br f)).isSome=true→(∀ k∈w.names,(q k).isSome=true)→∀ vw names M,m+w.grow≤M→∀ c g j,Bld N M c g→Aj N M n w (aI w (.br f) (.br q)) (aR w (.br f) (.br q) wl) vw (.dict (mkd lo)) (.dict (mkd ln)) (.list wl) names c g j
structure PutS(N:List Str)(w:WW):Prop where
 a:w.isRows=false→Qh N w
 b:w.isRows=true→Qi N w
theorem Qj(H:Wld N):∀ {w:WW},okW N w→PutS N w:=by
 intro w
 induction w with
 |whole =>
  refine fun _=>⟨fun _ m n o d to tn wl hn hw hO hD hs=>?_,fun h=>by exact bft h⟩
  refine exnE (c:=1) n hn hn fun n hn=>?_;exact⟨_,_,P6 n _ _ _,rfl,hD⟩
 |pick x =>
  refine fun ho=>⟨fun _ m n o d to tn wl hn hw hO hD hs=>?_,fun h=>by exact bft h⟩
  refine exnE (c:=1) n hn hn fun n hn=>?_;cases to with
  |num=>exact bft hs
  |br f =>
   revert hD hn;refine hO.byB fun m l B hD hn=>?_
   refine⟨.own (.dict (mkd (st l x d))),_,?_,rfl,((B.mono (Nat.le_succ _)).set ho hD).toSem⟩;simp only[P7,tJ];show rb (ofP (Mine.setItem (.dict (mkd l)) (.str x) d)) _=_;simp only[b7 x d (B.lt H (by decide))];rfl
 |call x y =>
  refine fun ho=>⟨fun _ m n o d to tn wl hn hw hO hD hs=>?_,fun h=>by exact bft h⟩
  refine exnE (c:=4) n hn hn fun n hn=>?_;simp only[P8];exact(P3 H n ho.1 hD (ml3 (fd (k:=4) (c:=4) hn)) to wl).rb
 |sift x i =>
  refine fun ho=>⟨fun _ m n o d to tn wl hn hw hO hD hs=>?_,fun h=>by exact bft h⟩
  refine exnE (c:=4) n hn hn fun n hn=>?_;cases to with
  |num=>exact bft hs
  |br f =>
   obtain⟨s,hs⟩:=cU hs;obtain⟨hc,_⟩:=i7 hs
   revert hD hn;refine hO.byB fun m l B hD hn=>?_
   simp only[P9];exact(P4 H n wl B hc hD (ml3 (fd (k:=4) (c:=4) hn))).rb
 |join a b fs =>
  refine fun ho=>⟨fun _ m n o d to tn wl hn hw hO hD hs=>?_,fun h=>by exact bft h⟩
  refine exnE (c:=4) n hn hn fun n hn=>?_;obtain⟨s,hs⟩:=cU hs;obtain⟨g,h,ga,ha,F,_⟩:=sW hs;cases to with
  |num=>exact ns ga
  |br f =>
   revert hD hn;refine hO.byB fun m l B hD hn=>?_
   obtain⟨d1,q1,q2⟩:=B.get ga;obtain⟨d2,q3,q4⟩:=B.get ha;obtain⟨m,l1,B1⟩:=q2.br_inv;obtain⟨_,l2,e,rfl,B2⟩:=q4.br_inv';cases e;simp only[Qa];exact(P5 H n ho.1.1 ho.1.2.1 wl B q1 q3 ga ha B1 B2 hD (ml3 (fd (k:=4) (c:=4) hn))).rb
 |each v ih =>
  refine fun ho=>⟨fun _ m n o d to tn wl hn hw hO hD hs=>?_,fun h=>by exact bft h⟩
  have hn:2*(v.hgt+1)+m+v.grow+8≤n:=hn;have hw:wl.length+(v.hgt+1)≤900:=hw;refine exnE (c:=4) n hn hn fun n hn=>?_;cases to with
  |num=>exact bft hs
  |br f =>
   obtain⟨s,hs⟩:=cU hs;obtain⟨hc,_⟩:=i7 hs
   revert hD hn;refine hO.byB fun m l B hD hn=>?_
   simp only[Qb];refine bN.rb ?_;have:=Qf H n (v:=v) (w:=wl) (wl1 hw) B hD (ml3 (fd (k:=4) (c:=4) hn)) (g:=v.grow) fun k o x to tx hk h1 h2=>(ih ho.1).1 ho.2 (n:=n+2) (by exact uF hn) (by simp only[List.length_append,List.length_singleton];exact Cz hw) h1 h2 (hc k to hk);exact this.mono (Nat.le_of_eq (Nat.add_right_comm _ _ _))
 |andThen a b iha ihb =>
  refine fun ho=>⟨fun _ m n o d to tn wl hn hw hO hD hs=>?_,fun h=>by exact bft h⟩
  have hn:2*(max a.hgt b.hgt+1)+m+(a.grow+b.grow)+8≤n:=hn;have hw:wl.length+(max a.hgt b.hgt+1)≤900:=hw;refine exnE (c:=1) n hn hn fun n hn=>?_;obtain⟨s,hs⟩:=cU hs;obtain⟨mid,h1,h2⟩:=bind_some hs;obtain⟨v1,d1,e1,e2,e3⟩:=(Ab H ho.1.1).1 ho.1.2 (n:=n) (by exact C0 hn) hO h1;have hb:=(ihb ho.2.1).1 ho.2.2 (n:=n) (wl:=wl++[.int 1]) (by exact C2 hn) (by simp only[List.length_append,List.length_singleton];exact C3 hw) e3 hD (by simp only[h2];rfl);have hpt:aI (.andThen a b) to tn=(aI b mid tn).bind fun mid=>aI a to mid:=by
   show((aW a to).bind fun m=>_)=_;simp only[h1];rfl
  have hrt:aR (.andThen a b) to tn wl=(aI b mid tn).elim (aR b mid tn (wl++[.int 1])) fun z=>aR a to z (wl++[.int 0]):=by
   show(aW a to).elim _ _=_;simp only[h1];rfl
  simp only[Qd,e1,lC _ (wl1 hw),lC _ (wl1 hw),hpt,hrt];show bN N _ _ _ (rb (rn n "put_back" [.fz (enc b),v1.clear,.fz d,.fz (.list (wl++[.int 1]))]) _);simp only[e2];cases hp:aI b mid tn with
  |none =>
   simp only[hp] at hb;obtain⟨dp,hb,hdp⟩:=hb;simp only[hb];exact⟨dp,rfl,hdp.mono (by show m+b.grow≤m+(a.grow+b.grow);exact C4)⟩
  |some mt =>
   simp only[hp] at hb;obtain⟨v2,d2,g1,g2,g3⟩:=hb;have ha:=(iha ho.1.1).1 ho.1.2 (n:=n) (wl:=wl++[.int 0]) (by exact C5 hn) (by simp only[List.length_append,List.length_singleton];exact C6 hw) (hO.mono (Nat.le_add_right m b.grow)) g3 (by simp only[h1];rfl);simp only[g1,aE,g2];exact ha.rb.mono (Nat.le_of_eq ((Nat.add_assoc m b.grow a.grow).trans (congrArg (m+·) (Nat.add_comm _ _))))
 |beside r ih =>
  refine fun ho=>⟨fun _ m n o d to tn wl hn hw hO hD hs=>?_,fun h=>by exact bft h⟩
  have hn:2*(r.hgt+1)+m+r.grow+8≤n:=hn;have hw:wl.length+(r.hgt+1)≤900:=hw;refine exnE (c:=4) n hn hn fun n hn=>?_;have hs:(aW r to).isSome=true:=hs;cases to with
  |num i =>
   exfalso;cases r with
   |bcons=>exact bft hs
   |bnil=>have:=ho.2.1;simp[i8,i9] at this
   |_=>cases ho.1.2
  |br f =>
   revert hD hn;refine hO.byB fun m l B hD hn=>?_
   simp only[Qc];refine bN.rb ?_;have:=Qg H n (r:=r) (w:=wl) ho.1.2 ho.1.1 B hD (ml3 (fd (k:=4) (c:=4) hn)) (M:=m+r.grow) (Nat.le_add_right _ _) ho.2.2 fun ln q names _ C hq _=>(ih ho.1.1).2 ho.1.2 (n:=n+2) (by exact uF hn) (by exact C7 hw) B C hs hq _ _ _ (Nat.le_refl _) l f _ (B.mono (by exact C8));exact this.mono (Nat.le_of_eq (Nat.add_right_comm _ _ _))
 |bnil =>
  refine fun ho=>⟨fun h=>(by cases h),fun _ m n lo f ln q wl hn hw B C hs hq vw names M hM c g j hc=>?_⟩
  exact⟨c,j,hc.ext fun k=>by simp[nU,nV],fun _ _=>rfl⟩
 |bcons x p v r ihv ihr =>
  refine fun ho=>⟨fun h=>(by cases h),fun _ m n lo f ln q wl hn hw B C hs hq vw names M hM c g j hc=>?_⟩
  have hn:2*(max v.hgt r.hgt)+m+max v.grow r.grow+8≤n:=hn;have hw:wl.length+max v.hgt r.hgt+1≤900:=hw;have hM:m+max v.grow r.grow≤M:=hM;obtain⟨s,hs⟩:=cU hs;obtain⟨t1,h1,hs⟩:=bind_some hs;obtain⟨y,h2,hs⟩:=bind_some hs;obtain⟨z1,h3,hs⟩:=bind_some hs;obtain⟨d1,q1,q2⟩:=B.get h1;obtain⟨xn,h4⟩:=cU (hq x (by simp[i8,i9]));obtain⟨dn,q3,q4⟩:=C.get h4;have hv:=(ihv ho.2.1.1).1 ho.2.1.2 (n:=n) (wl:=wl++[.str x]) (by exact C9 hn) (by simp only[List.length_append,List.length_singleton];exact Da hw) q2 q4 (by simp only[h2];rfl);have hpt:aI (.bcons x p v r) (.br f) (.br q)=(aI v t1 xn).bind fun y=>(aI r (.br f) (.br q)).bind fun z=>some (.br (upd z.get p (some y))):=by
   show((f p).bind fun o=>(q x).bind fun x=>_)=_;have h1:f p=some t1:=h1;simp only[h1,h4];rfl
  have hrt:aR (.bcons x p v r) (.br f) (.br q) wl=(aI v t1 xn).elim (aR v t1 xn (wl++[.str x])) fun _=>aR r (.br f) (.br q) wl:=by
   show(f p).elim _ (fun o=>(q x).elim _ _)=_;have h1:f p=some t1:=h1;simp only[h1,h4];rfl
  simp only[hpt,hrt];have hb:∀ kn kr,aP (eT n) eU (bJ (.bcons x p v r)) (pj vw (.dict (mkd lo)) (.dict (mkd ln)) (.list wl) names c j) kn kr=rb (rn n "put_back" [.fz (enc v),.fz d1,.fz dn,.fz (.list (wl++[.str x]))]) fun v'=>rb (ofP (Mine.setItem (.dict (mkd c)) (.str p) (dOf v'))) fun o=>aP (eT n) eU (bJ r) (f6 (ζ vw) (ζ (.dict (mkd lo))) (ζ (.dict (mkd ln))) (ζ (.list wl)) (ζ names) (some (.own o)) (ζ (.str x)) (ζ (.str p)) (ζ (enc v))) kn kr:=fun kn kr=>by
   show rb (ofP (aT eU (.tuple [.str x,.str p,enc v]) _)) (fun σ=>eT n σ (fun σ=>aP (eT n) eU (bJ r) σ kn kr) kr)=_;unfold pj;simp only[M2,aO,aE,M3,bE q1,bE q3];show rb (aG (rn n "put_back") [.ok (.fz (enc v)),.ok (.fz d1),.ok (.fz dn),ofP (gF .Add wl (.list [.str x]))]) _=_;simp only[lC _ (wl1 (b:=max v.hgt r.hgt+1) hw)];rfl
  cases hp:aI v t1 xn with
  |none =>
   simp only[hp] at hv;obtain⟨dp,hv,hdp⟩:=hv;exact⟨dp,fun kn kr=>(hb kn kr).trans (by simp only[hv];rfl),hdp.mono (by exact uG hM)⟩
  |some yt =>
   simp only[hp] at hv;obtain⟨v',d',e1,e2,e3⟩:=hv;have hr:=(ihr ho.2.2.1.1).2 ho.2.2.1.2 (n:=n) (wl:=wl) (by exact Db hn) (by exact Dc hw) B C (by simp only[h3];rfl) (fun k hk=>hq k (by simp[i8,i9,hk])) vw names M (by exact Dd hM) (st c p d') (upd g p (some yt)) (some (.fz (.str x)),some (.fz (.str p)),some (.fz (enc v))) (hc.set ho.1.2 (e3.mono (by exact uG hM)));have hb':∀ kn kr,aP (eT n) eU (bJ (.bcons x p v r)) (pj vw (.dict (mkd lo)) (.dict (mkd ln)) (.list wl) names c j) kn kr=aP (eT n) eU (bJ r) (pj vw (.dict (mkd lo)) (.dict (mkd ln)) (.list wl) names (st c p d') (some (.fz (.str x)),some (.fz (.str p)),some (.fz (enc v)))) kn kr:=fun kn kr=>(hb kn kr).trans (by
    simp only[e1,aE,eF e2,b7 p d' (hc.lt H (by decide))];rfl)
   simp only[Option.bind_some];cases hpr:aI r (.br f) (.br q) with
   |none =>
    simp only[hpr] at hr;obtain⟨dp,hr,hdp⟩:=hr;exact⟨dp,fun kn kr=>(hb' kn kr).trans (hr kn kr),hdp⟩
   |some z =>
    simp only[hpr] at hr;obtain⟨c',j',i1,i2⟩:=hr;refine⟨c',j',i1.ext fun k=>?_,fun kn kr=>(hb' kn kr).trans (i2 kn kr)⟩;simp only[nU,nV,List.mem_cons,dY,upd]
    by_cases e:k=p
    ·subst e;simp[ho.2.2.2.2]
    ·simp[e]
theorem Qk(H:Wld N){w:WW}(ho:okW N w)(hr:w.isRows=false){n:Nat}{o d:PyData}{to tn:TT}(hn:3*w.hgt+m+w.grow+10≤n)(hh:w.hgt≤900)(hO:Sem N m o to)(hD:Sem N m d tn){s:TT}(hs:aW w to=some s):bN N (m+w.grow) (aI w to tn) (aR w to tn []) (rn n "put" [.fz (enc w),.fz o,.fz d]):=by
 refine exnE (c:=3) n hn hn fun n hn=>?_;obtain⟨v,d1,e1,e2,e3⟩:=(Ab H ho).1 hr (n:=n+2) (by exact De hn) hO hs;have hp:=(Qj H ho).1 hr (n:=n+2) (wl:=[]) (by exact Df hn) (by simpa using hh) hO hD (by rw[hs];rfl);rw[Ni,Pz _ _ ((Pe H ho).1 hr (n+1) (by exact Dg hn)),Ac _ _ (zT H hO (by exact uH hn)),Ac _ _ (zT H hD (by exact uH hn)),e1,aE,aE,aE,aE];refine ocs (aI w to tn) (fun hpt=>?_) fun z hpt=>?_
 ·try rewrite[hpt]
  rw[hpt] at hp;obtain⟨dp,hp,hdp⟩:=hp;rw[hp];exact⟨dp,rfl,hdp⟩
 ·try rewrite[hpt]
  rw[hpt] at hp;obtain⟨v',d',g1,g2,g3⟩:=hp;rw[Ox g1 g2];exact(zW H g3 (by exact Dh hn)).rb
end Mine
namespace Mine
open PySem
variable {N:List Str} {m:Nat}
theorem Ql(a:PyData){v:V}{d:PyData}(hv:v.clear=.fz d):aX [.ok (.fz a),.ok v]=.ok (.fz (.tuple [a,d])):=by
 show(if [V.fz a,v.clear].length≤aV then R.ok (V.fz (.tuple (bP [V.fz a,v.clear]))) else .no)=_;rw[hv];rfl
theorem Ak(a:PyData){r:R V}{v:V}{d:PyData}(hr:r=.ok v)(hv:v.clear=.fz d):aX [.ok (.fz a),r]=.ok (.fz (.tuple [a,d])):=by simp only[hr,Ql a hv]
theorem oM(H:Wld N):∀ {m n:Nat} {d:PyData} {t:TT},Sem N m d t→m≤n→Gives (rn (n+1) "_law_copy" [.fz d]) fun d'=>Sem N m d' t:=by
 intro m
 induction m with
 |zero =>
  intro n d t h hn;obtain⟨i,rfl,rfl,hi⟩ | ⟨_,_,_,e,_⟩:=h.inv'
  ·exact⟨_,_,(kI n _).trans rfl,rfl,.num hi⟩
  ·cases e
 |succ m ih =>
  intro n d t h hn;refine exnE (c:=1) n hn hn fun n hn=>?_;obtain⟨i,rfl,rfl,hi⟩ | ⟨_,l,f,e,rfl,rfl,B⟩:=h.inv'
  ·exact⟨_,_,(kI _ _).trans rfl,rfl,.num hi⟩
  ·cases e;obtain⟨l',e,C⟩:=tA (N:=N) (m:=m) (F:=f) (t:=fun _=>.ok true) (e:=fun d1=>aX [.ok (.fz d1),aG (rn (n+1) "_law_copy") [ofP (getItem (.dict (mkd l)) d1)]]) (xs:=ks l) (by rw[d8];exact B.lt H (by decide)) fun k hk=>by
    obtain⟨d,u,h1,h2,h3⟩:=B.key hk;obtain⟨v,d',e1,e2,e3⟩:=ih h3 (Nat.le_of_succ_le_succ hn);refine⟨B.sub k hk,.inr ⟨rfl,.fz (.tuple [.str k,d']),d',u,?_,rfl,h2,e3⟩⟩;rw[bE h1];exact Ak _ e1 e2
   refine⟨.own (.dict (mkd l')),_,?_,rfl,(B.all (fun _ h=>h) C).toSem⟩;rw[kI,b6,aO,e];rfl
theorem Wa(n:Nat):rn (n+1) "_law_copy" [.fz .none]=.ok (.fz .none):=(kI n _).trans rfl
theorem list_dict(l:LP):dI (.dict (mkd l))=.ok (.own (.list ((ks l).map .str))):=by
 show own (.list ((mkd l).map (·.1)))=_;simp only[sZ];rfl
theorem oN(H:Wld N):∀ {m n:Nat} {d1 d2:PyData} {t:TT},Sem N m d1 t→Sem N m d2 t→m≤n→rn (n+1) "_law_same" [.fz d1,.fz d2]=.ok (.fz (.bool true)):=by
 intro m
 induction m with
 |zero =>
  intro n d1 d2 t h1 h2 hn;cases t with
  |num i =>
   obtain⟨rfl,_⟩:=h1.num_inv;obtain⟨rfl,_⟩:=h2.num_inv;simp only[sP];show R.ok (V.fz (.bool (i==i)))=_;simp
  |br f=>obtain⟨_,_,e,_⟩:=h1.br_inv';cases e
 |succ m ih =>
  intro n d1 d2 t h1 h2 hn;cases t with
  |num i =>
   obtain⟨rfl,_⟩:=h1.num_inv;obtain⟨rfl,_⟩:=h2.num_inv;simp only[sP];show R.ok (V.fz (.bool (i==i)))=_;simp
  |br f =>
   obtain⟨_,l1,e,rfl,B1⟩:=h1.br_inv';cases e;obtain⟨_,l2,e,rfl,B2⟩:=h2.br_inv';cases e;refine exnE (c:=1) n hn hn fun n hn=>?_;have e0:aD (aK cG (ofP (dI (.dict (mkd l1))))) .NotEq (aK cG (ofP (dI (.dict (mkd l2)))))=.ok (.fz (.bool false)):=by
    simp only[list_dict,list_dict];show rb (ofP (eH ((ks l1).map .str))) (fun a=>aS (rb (ofP (eH ((ks l2).map .str))) fun v=>ofP (cmp .NotEq (dOf a) (dOf v))))=_;rw[k9 (by rw[d8];exact B1.lt H (by decide)),k9 (by rw[d8];exact B2.lt H (by decide))];show aS (ofP (bU (eqO (.list ((aZ (ks l1)).map .str)) (.list ((aZ (ks l2)).map .str)))))=_;rw[lA,oJ B1.nd B2.nd,cQ.mpr fun x=>by rw[B1.mem,B2.mem]];rfl
   have e1:=kT (xs:=ks l2) (g:=fun _=>true) (e:=fun d1=>aG (rn (n+1) "_law_same") [ofP (getItem (.dict (mkd l1)) d1),ofP (getItem (.dict (mkd l2)) d1)]) fun k hk=>by
    obtain⟨dk,u,q1,q2,q3⟩:=B2.key hk;obtain⟨dk',q4,q5⟩:=B1.get q2;simp only[bE q1,bE q4];exact ih q5 q3 (Nat.le_of_succ_le_succ hn)
   simp only[sP,e0,b6,aO,e1];show R.ok (V.fz (.bool ((ks l2).all fun _=>true)))=_;simp
theorem Qm(xs:List PyData):eqO (.list xs) (.list [])=.ok xs.isEmpty:=by
 cases xs with
 |nil=>rfl
 |cons x r=>rfl
theorem Al{t:PyData→R Bool}{g:PyData→Bool}:∀ {xs:List PyData},(∀ x∈xs,t x=.ok (g x))→aU t (fun d=>.ok (.fz d)) xs=.ok (xs.filter g):=by
 intro v0
 induction v0 with
 |nil =>
  intro _;exact rfl
 |cons x r ih =>
  intro h;show rb (nx (t x)) (fun b=>if b then rb (nx (.ok (.fz x))) fun v=>rb (aU t (fun d=>.ok (.fz d)) r) fun xs=>.ok (dOf v::xs) else aU t (fun d=>.ok (.fz d)) r)=_;rw[h x (by simp),eX,aE,ih fun d hd=>h d (List.mem_cons_of_mem _ hd)];cases hg:g x
  ·rw[jE,List.filter_cons_of_neg (by simp[hg])]
  ·rw[dN,List.filter_cons_of_pos hg];rfl
theorem Wb{xs:List PyData}{t:PyData→R Bool}{g:PyData→Bool}(h:∀ x∈xs,t x=.ok (g x)):aD (aL (.ok xs) t (fun d=>.ok (.fz d))) .NotEq (.ok (.own (.list [])))=.ok (.fz (.bool (!(xs.filter g).isEmpty))):=by
 show rb (rb (aU t (fun d=>.ok (.fz d)) xs) fun r=>ofP (own (.list r))) _=_;rw[Al h];show aS (ofP (bU (eqO (.list (xs.filter g)) (.list []))))=_;rw[Qm];rfl
theorem Sem.notNone{d:PyData}{t:TT}(h:Sem N m d t):oZ d=false:=by
 obtain⟨i,rfl,rfl,_⟩ | ⟨m,l,f,_,rfl,rfl,B⟩:=h.inv'<;>rfl
theorem Wc(l:LP):pL (.dict (mkd l))=.ok (.own (.list (l.map cZ))):=by
 show own (.list ((mkd l).map fun p=>.tuple [p.1,p.2]))=_;simp only[mkd,List.map_map];rfl
theorem Wd:∀ (a b c:LP),sts (a++b) c=sts b (sts a c):=by
 intro v0
 induction v0 with
 |nil =>
  intro _ _;exact rfl
 |cons p r ih =>
  intro b c;exact ih b (st c p.1 p.2)
end Mine
namespace Mine
open PySem
theorem bA(a:Int){n:Int}(h:0 < n):0≤a.fmod n∧a.fmod n < n:=by
 rw[Int.fmod_eq_emod_of_nonneg a (by exact oY h)];exact⟨Int.emod_nonneg a (by exact Di h),Int.emod_lt_of_pos a h⟩
theorem hY(x:Int){y:Int}(h:y≠0):aH .Mod (.int x) (.int y)=.ok (.fz (.int (x.fmod y))):=if_pos h
theorem oO(x:Int){y:Int}(h:y.natAbs < 2 ^ 63):aH .Mult (.int x) (.int y)=.ok (.fz (.int (x*y))):=if_pos (.inr h)
theorem Am(l:List PyData)(t:PyData→R Bool)(e:PyData→R V):aL (.ok l) t e=rb (aU t e l) fun r=>ofP (own (.list r)):=rfl
theorem We{x:Int}(y:Int)(h:x.natAbs < 2 ^ 63):aH .Mult (.int x) (.int y)=.ok (.fz (.int (x*y))):=if_pos (.inl h)
theorem lD{l:List PyData}{k:Int}{d:PyData}(h0:0≤k)(h:l[k.toNat]?=some d):getItem (.list l) (.int k)=.ok (.fz d):=by
 have hk:k.toNat < l.length:=(List.getElem?_eq_some_iff.mp h).1;show(if 0≤k then (if 0≤k∧k < l.length then frz l[k.toNat]? else .no) else atN l k)=_;rw[if_pos h0,if_pos ⟨h0,by exact Dj hk⟩,h];rfl
noncomputable def Li(s:List Int):PyData:=.list (s.map .int)
noncomputable def iA(s:List Int)(k:Int):Int:=if k < s.length then (s[k.toNat]?).getD 0 else 0
theorem Qn(n:Nat)(s:List Int){k:Int}(hk:0≤k):rn (n+1) "_law_cell_at" [.fz (Li s),.fz (.int k)]=.ok (.fz (.int (iA s k))):=by
 rw[Nj];show(if decide (k < ((s.map PyData.int).length:Int))=true then rb (ofP (getItem (.list (s.map .int)) (.int k))) R.ok else R.ok (.fz (.int 0)))=_;rw[List.length_map];unfold iA
 by_cases h:k < s.length
 ·have hl:k.toNat < s.length:=by exact Dk hk h
  rw[if_pos (decide_eq_true h),if_pos h,lD hk (by rw[List.getElem?_map,List.getElem?_eq_getElem hl];rfl),List.getElem?_eq_getElem hl];rfl
 ·rw[if_neg (by simpa using h),if_neg h]
theorem An{n:Nat}{m:Int}(h0:0≤m)(h1:m < n):∃ k:Nat,k∈List.range n∧m=k:=by
 obtain⟨k,rfl⟩:=Int.eq_ofNat_of_zero_le h0;exact⟨k,List.mem_range.mpr (Int.ofNat_lt.mp h1),rfl⟩
theorem Qo{m:Int}(h:0≤m∧m < 14):∃ i:Int,aK dS (aB .Mult (.ok (.fz (.str (so "37")))) (.ok (.fz (.int (1+m)))))=.ok (.fz (.int i))∧0≤i∧i < 10 ^ 28:=by
 have all:∀ k∈List.range 14,∃ i:Int,aK dS (aB .Mult (.ok (.fz (.str (so "37")))) (.ok (.fz (.int (1+(k:Int))))))=.ok (.fz (.int i))∧0≤i∧i < 10 ^ 28:=by
  rw[show List.range 14=[0,1,2,3,4,5,6,7,8,9,10,11,12,13] from rfl]
  repeat rw[List.forall_mem_cons]
  exact⟨⟨37,by kernel_rfl,by decide⟩,⟨3737,by kernel_rfl,by decide⟩,⟨373737,by kernel_rfl,by decide⟩,⟨37373737,by kernel_rfl,by decide⟩,⟨3737373737,by kernel_rfl,by decide⟩,⟨373737373737,by kernel_rfl,by decide⟩,⟨37373737373737,by kernel_rfl,by decide⟩,⟨3737373737373737,by kernel_rfl,by decide⟩,⟨373737373737373737,by kernel_rfl,by decide⟩,⟨37373737373737373737,by kernel_rfl,by decide⟩,⟨3737373737373737373737,by kernel_rfl,by decide⟩,⟨373737373737373737373737,by kernel_rfl,by decide⟩,⟨37373737373737373737373737,by kernel_rfl,by decide⟩,⟨3737373737373737373737373737,by kernel_rfl,by decide⟩,fun _ h=>nomatch h⟩
 obtain⟨k,hk,rfl⟩:=An h.1 h.2;exact all k hk
inductive RInt(r:R V)(b:Nat):Prop where
 |mk (i:Int) (e:r=.ok (.fz (.int i))) (h:i.natAbs < b):RInt r b
theorem RInt.of{r r':R V}{b:Nat}(h:r=r')(x:RInt r' b):RInt r b:=h▸x
theorem nb4{m q:Int}(hm:0≤m∧m < 4)(hq:0≤q∧q < 3):RInt (rb (aB .Add (aJ (cB (bR [(ofP (aH .Pow (.int 10) (.int 20))),(unS .USub (ofP (aH .Pow (.int 10) (.int 20)))),(ofP (aH .Pow (.int 10) (.int 12))),(.ok (.fz (.int 0)))])) (.ok (.fz (.int m)))) (.ok (.fz (.int q)))) R.ok) big:=by
 have all:∀ k∈List.range 4,∃ i:Int,rb (aB .Add (aJ (cB (bR [(ofP (aH .Pow (.int 10) (.int 20))),(unS .USub (ofP (aH .Pow (.int 10) (.int 20)))),(ofP (aH .Pow (.int 10) (.int 12))),(.ok (.fz (.int 0)))])) (.ok (.fz (.int (k:Int))))) (.ok (.fz (.int q)))) R.ok=.ok (.fz (.int (i+q)))∧i.natAbs≤10 ^ 20:=by
  rw[show List.range 4=[0,1,2,3] from rfl]
  repeat rw[List.forall_mem_cons]
  exact⟨⟨10 ^ 20,by kernel_rfl,by decide⟩,⟨-10 ^ 20,by kernel_rfl,by decide⟩,⟨10 ^ 12,by kernel_rfl,by decide⟩,⟨0,by kernel_rfl,by decide⟩,fun _ h=>nomatch h⟩
 obtain⟨k,hk,rfl⟩:=An hm.1 hm.2;obtain⟨i,e,hi⟩:=all k hk;exact⟨i+q,e,by unfold big;omega⟩
theorem Qp(n:Nat)(c:Int):RInt (rn (n+1) "_law_number" [.fz (.int c)]) big:=by
 rw[Nm];refine RInt.of (r':=(if (c.fmod 5==4)=true then rb (aB .Add (aJ (cB (bR [(ofP (aH .Pow (.int 10) (.int 20))),(unS .USub (ofP (aH .Pow (.int 10) (.int 20)))),(ofP (aH .Pow (.int 10) (.int 12))),(.ok (.fz (.int 0)))])) (.ok (.fz (.int ((c.fdiv 5).fmod 4))))) (.ok (.fz (.int ((c.fdiv 20).fmod 3))))) R.ok else if (c.fmod 5==3)=true then rb (aB .Sub (aB .Mod (ofP (aH .Mult (.int (c.fdiv 5)) (.int 48271))) (.ok (.fz (.int 2000003)))) (.ok (.fz (.int 1000001)))) R.ok else if (c.fmod 15==2)=true then rb (aB .Mult (aK dS (aB .Mult (.ok (.fz (.str (so "37")))) (.ok (.fz (.int (1+(c.fdiv 15).fmod 14)))))) (aB .Sub (.ok (.fz (.int 1))) (ofP (aH .Mult (.int ((c.fdiv 210).fmod 2)) (.int 2))))) R.ok else R.ok (.fz (.int ((c.fdiv 5).fmod 9 - 4))))) (by kernel_rfl) ?_
 split
 ·exact nb4 (bA _ (by decide)) (bA _ (by decide))
 split
 ·rw[oO _ (by decide)];refine⟨(c.fdiv 5*48271).fmod 2000003 - 1000001,rfl,?_⟩;have:=bA (c.fdiv 5*48271) (n:=2000003) (by decide);unfold big;omega
 split
 ·obtain⟨i,hi,hb⟩:=Qo (bA (c.fdiv 15) (n:=14) (by decide));have hq:=bA (c.fdiv 210) (n:=2) (by decide);rw[hi,oO _ (by decide)];refine⟨i*(1 - (c.fdiv 210).fmod 2*2),?_,?_⟩
  ·show rb (ofP (aH .Mult (.int i) (.int (1 - (c.fdiv 210).fmod 2*2)))) R.ok=_;rw[oO _ (by omega)];rfl
  ·have:(c.fdiv 210).fmod 2=0∨(c.fdiv 210).fmod 2=1:=by exact uI hq
   unfold big;rcases this with h | h<;>rw[h]<;>omega
 ·refine⟨_,rfl,?_⟩;have:=bA (c.fdiv 5) (n:=9) (by decide);unfold big;omega
theorem Qq:∀ (r:List Nat) (acc:Array Nat),(r.map fun c=>(⟨#[c]⟩:Str)).foldl (fun acc p=>acc++(so "").cps++p.cps) acc=acc++r.toArray:=by
 intro v0
 induction v0 with
 |nil =>
  intro acc;simp
 |cons c r ih =>
  intro acc;simp only[List.map_cons,List.foldl_cons];rw[ih];have:(so "").cps=#[]:=rfl;rw[this];simp
theorem Qr(cs:List Nat):Txt.join (so "") (cs.map fun c=>⟨#[c]⟩)=⟨cs.toArray⟩:=by
 show Builtin.Str.glued _ _=_;unfold Builtin.Str.glued;cases cs with
 |nil=>rfl
 |cons c r =>
  simp only[List.map_cons,List.drop_succ_cons,List.drop_zero,List.headD_cons];rw[Qq];simp
theorem Ao:∀ cs:List Nat,strs? (cs.map bT)=some (cs.map fun c=>⟨#[c]⟩)
 | []=>rfl
 |c::r=>by
  show(strs? (r.map bT)).map (_::·)=_;rw[Ao r];rfl
theorem Qs:∀ (cs:List Nat) (a:Nat),(cs.map fun c=>(⟨#[c]⟩:Str)).foldl (fun x y=>x+y.length+(so "").length) a=a+cs.length:=by
 intro v0
 induction v0 with
 |nil =>
  intro a;simp
 |cons c r ih =>
  intro a;simp only[List.map_cons,List.foldl_cons];rw[ih];have:(so "").length=0:=rfl;have h1:(⟨#[c]⟩:Str).length=1:=rfl;rw[this,h1];simp;exact Dl
theorem Ap{cs:List Nat}(h:cs.length≤1000):fC (.str (so "")) [.list (cs.map bT)]=.ok (.fz (.str ⟨cs.toArray⟩)):=by
 have e:fC (.str (so "")) [.list (cs.map bT)]=(ofO (strs? (cs.map bT))).bind fun l=>if JoinOk (so "") l then fz (.str (Txt.join (so "") l)) else .no:=rfl;rw[e,Ao,hV,hU];have hj:JoinOk (so "") (cs.map fun c=>⟨#[c]⟩)=true:=by
  unfold JoinOk Builtin.Str.tooLong;rw[List.foldl_toArray',Qs]<;>simp[sizeLine];exact Dm h
 rw[if_pos hj,Qr];rfl
theorem Aq{n:Nat}{a:Int}(h0:0≤a)(h1:a≤n):clipAt n a=a.toNat:=by
 unfold clipAt;rw[if_neg (Int.not_lt.mpr h0),Int.min_eq_left h1,Int.max_eq_right h0]
theorem Ar{n:Nat}{a:Int}(h0:0≤a)(h1:(n:Int)≤a):clipAt n a=n:=by
 unfold clipAt;rw[if_neg (Int.not_lt.mpr h0),Int.min_eq_right h1,Int.max_eq_right (Int.natCast_nonneg n),Int.toNat_natCast]
theorem As{α:Type}(l:List α){k:Int}(h:0≤k):slice l none (some k)=l.take k.toNat:=by
 show(l.drop 0).take (clipAt l.length k - 0)=_;rw[List.drop_zero,Nat.sub_zero];rcases Int.le_total k l.length with hk | hk
 ·rw[Aq h hk]
 ·rw[Ar h hk,List.take_of_length_le (Nat.le_refl _),List.take_of_length_le];have:=Int.toNat_le_toNat hk
  rwa [Int.toNat_natCast] at this
noncomputable def LET:Str:=so "abcdefghijklmnopqrstuvwxyz"
noncomputable def ltr(m:Int):Nat:=(LET.cps[m.toNat]?).getD 0
theorem At:∀ i:_root_.Fin 26,(LET.cps[i.val]?).isSome=true∧inL ((LET.cps[i.val]?).getD 0)=true∧(LET.cps[i.val]?).getD 0 < 16 ^ 8:=by decide +kernel
theorem tK(x:Int):getItem (.str (so "abcdefghijklmnopqrstuvwxyz")) (.int (x.fmod 26))=.ok (.fz (bT (ltr (x.fmod 26)))):=by
 have h:=bA x (n:=26) (by decide);show(if 0≤x.fmod 26∧x.fmod 26 < LET.cps.size then frz (LET.cps[(x.fmod 26).toNat]?.map bT) else .no)=_;rw[if_pos ⟨h.1,by show _ < ((26:Nat):Int);exact Dn h⟩];have hs:(LET.cps[(x.fmod 26).toNat]?).isSome=true:=(At ⟨(x.fmod 26).toNat,by exact lG h⟩).1;unfold ltr;cases e:LET.cps[(x.fmod 26).toNat]? with
 |none=>rw[e] at hs;exact bft hs
 |some c=>rfl
theorem tL{a:Int}(ha:0≤a∧a < 26):inL (ltr a)=true∧ltr a < 16 ^ 8:=(At ⟨a.toNat,by exact lG ha⟩).2
theorem Au{a b:Int}(ha:0≤a∧a < 26)(hb:0≤b∧b < 26)(h:ltr a=ltr b):a=b:=by
 have key:∀ i j:_root_.Fin 26,(LET.cps[i.val]?).getD 0=(LET.cps[j.val]?).getD 0→i=j:=by decide +kernel
 have:=key ⟨a.toNat,by exact lG ha⟩ ⟨b.toNat,by exact lG hb⟩ h;have:=congrArg _root_.Fin.val this;simp at this;exact Do ha hb this
noncomputable def eG(c:Int):List Nat:=[0,1,2,3,4,5,6,7].map fun j:Int=>ltr ((c.fdiv 8+5*j).fmod 26)
noncomputable def nm(c k:Int):List Nat :=
 if (c.fdiv 1664).fmod 3=1 then ((eG c).set 0 (ltr ((c.fdiv 8+k.fdiv 8).fmod 26))).take (1+k.fmod 8).toNat
 else ((eG c).set ((c.fdiv 208).fmod (1+c.fmod 8)).toNat (ltr ((c.fdiv 8+7+k).fmod 26))).take (1+c.fmod 8).toNat
theorem Av{cs:List Nat}{k:Int}(h:0≤k∧k < cs.length)(x:Nat):Mine.setItem (.list (cs.map bT)) (.int k) (bT x)=.ok (.list ((cs.set k.toNat x).map bT)):=by
 show(if 0≤k∧k < (cs.map bT).length then P.ok (PyData.list ((cs.map bT).set k.toNat (bT x))) else .no)=_;rw[if_pos (by simpa using h),List.map_set]
theorem Qt(c:Int):aL (rgI (.ok (.fz (.int 8)))) (fun d2=>(.ok true)) (fun d2=>(aJ (.ok (.str (so "abcdefghijklmnopqrstuvwxyz"))) (aB .Mod (aB .Add (ofP (aH .FloorDiv (.int c) (.int 8))) (ofP (aH .Mult (.int 5) d2))) (.ok (.fz (.int 26))))))=.ok (.own (.list ((eG c).map bT))):=by
 rw[show rgI (.ok (.fz (.int 8)))=.ok ([0,1,2,3,4,5,6,7].map PyData.int) from by kernel_rfl,Am,jG (g:=fun d=>match d with | .int j=>bT (ltr ((c.fdiv 8+5*j).fmod 26)) | d=>d)]
 ·rfl
 ·intro d hd;obtain⟨j,_,rfl⟩:=List.mem_map.mp hd;refine⟨rfl,.fz (bT (ltr ((c.fdiv 8+5*j).fmod 26))),?_,rfl⟩;refine Eq.trans (b:=ofP (getItem (.str (so "abcdefghijklmnopqrstuvwxyz")) (.int ((c.fdiv 8+5*j).fmod 26)))) (by kernel_rfl) ?_;rw[tK];rfl
theorem iB(c:Int):(eG c).length=8:=rfl
theorem Qu(n:Nat)(c k:Int):rn (n+1) "_law_name" [.fz (.int c),.fz (.int k)]=.ok (.fz (.str ⟨(nm c k).toArray⟩)):=by
 rw[Nk];have h8:=bA c (n:=8) (by decide);have k8:=bA k (n:=8) (by decide);have hp:=bA (c.fdiv 208) (n:=1+c.fmod 8) (by exact Dp h8);rw[Qt c];refine Eq.trans (b:=if ((c.fdiv 1664).fmod 3==1)=true then rb (ofP (getItem (.str (so "abcdefghijklmnopqrstuvwxyz")) (.int ((c.fdiv 8+k.fdiv 8).fmod 26)))) (fun v=>rb (ofP (Mine.setItem (.list ((eG c).map bT)) (.int 0) (dOf v))) fun o=>rb (rb (rb (ofP (jP o none (some (1+k.fmod 8)))) fun v=>.ok [v.clear]) fun as=>ofP (fC (.str (so "")) (bP as))) R.ok) else rb (ofP (getItem (.str (so "abcdefghijklmnopqrstuvwxyz")) (.int ((c.fdiv 8+7+k).fmod 26)))) (fun v=>rb (ofP (aH .Mod (.int (c.fdiv 208)) (.int (1+c.fmod 8)))) fun i=>rb (ofP (Mine.setItem (.list ((eG c).map bT)) (dOf i) (dOf v))) fun o=>rb (rb (rb (ofP (jP o none (some (1+c.fmod 8)))) fun v=>.ok [v.clear]) fun as=>ofP (fC (.str (so "")) (bP as))) R.ok)) (by kernel_rfl) ?_;unfold nm
 by_cases h:(c.fdiv 1664).fmod 3=1
 ·rw[if_pos (by simpa using h),if_pos h,tK,aO,aE,kS,Av (by simp[iB]),aO,aE];show rb (ofP (fC (.str (so "")) [.list (slice (((eG c).set 0 _).map bT) none (some (1+k.fmod 8)))])) R.ok=_;rw[As _ (by exact uJ k8),← List.map_take,Ap (by simp[iB];exact uK)];rfl
 ·rw[if_neg (by simpa using h),if_neg h,tK,aO,aE,kS,hY _ (by exact Dq h8),aO,aE,kS,Av (by simp[iB];exact Dr h8 hp),aO,aE];show rb (ofP (fC (.str (so "")) [.list (slice (((eG c).set _ _).map bT) none (some (1+c.fmod 8)))])) R.ok=_;rw[As _ (by exact uJ h8),← List.map_take,Ap (by simp[iB];exact uK)];rfl
theorem Qv(c k:Int):okN ⟨(nm c k).toArray⟩:=by
 have base:∀ x∈eG c,inL x=true∧x < 16 ^ 8:=by
  intro x hx;obtain⟨j,_,rfl⟩:=List.mem_map.mp hx;exact tL (bA _ (by decide))
 have h8:=bA c (n:=8) (by decide);have k8:=bA k (n:=8) (by decide);refine⟨?_,?_,fun x hx=>?_⟩
 ·show 1≤(nm c k).toArray.size;rw[List.size_toArray];unfold nm
  split<;>simp[iB]<;>lia
 ·show(nm c k).toArray.size≤8;rw[List.size_toArray];unfold nm
  split<;>simp[iB]<;>lia
 ·have hx:x∈nm c k:=by simpa using hx
  unfold nm at hx
  split at hx
  ·rcases List.mem_or_eq_of_mem_set (List.mem_of_mem_take hx) with h | h
   ·exact base x h
   ·rw[h];exact tL (bA _ (by decide))
  ·rcases List.mem_or_eq_of_mem_set (List.mem_of_mem_take hx) with h | h
   ·exact base x h
   ·rw[h];exact tL (bA _ (by decide))
theorem Aw{x a b:Int}(ha:0≤a∧a < 26)(hb:0≤b∧b < 26)(h:(x+a).fmod 26=(x+b).fmod 26):a=b:=by
 rw[Int.fmod_eq_emod_of_nonneg _ (by decide),Int.fmod_eq_emod_of_nonneg _ (by decide)] at h;exact Ds ha hb h
theorem fd8{k:Int}(hk:0≤k∧k < 14):0≤k.fdiv 8∧k.fdiv 8 < 26:=by
 rw[Int.fdiv_eq_ediv_of_nonneg _ (by decide)];exact Dt hk
theorem ml8{a b:Int}(ha:0≤a∧a < 8)(hb:0≤b∧b < 8)(h:min (1+a).toNat 8=min (1+b).toNat 8):a=b:=by exact Du ha hb h
theorem po8{a:Int}(ha:0≤a∧a < 8):0 < (1+a).toNat:=by exact Dv ha
theorem lt8{a b:Int}(ha:0≤a∧a < 8)(hb:0≤b∧b < 1+a):b.toNat < 8∧b.toNat < (1+a).toNat:=by exact Dw ha hb
theorem Qw{c k k':Int}(hk:0≤k∧k < 14)(hk':0≤k'∧k' < 14)(h:nm c k=nm c k'):k=k':=by
 unfold nm at h
 by_cases hc:(c.fdiv 1664).fmod 3=1
 ·rw[if_pos hc,if_pos hc] at h;have hl:=congrArg List.length h;simp only[List.length_take,List.length_set,iB] at hl;have h8:=ml8 (bA k (by decide)) (bA k' (by decide)) hl;have he:=congrArg (fun l=>l[0]?) h;simp only[List.getElem?_take,List.getElem?_set,if_pos (po8 (bA k (n:=8) (by decide))),if_pos (po8 (bA k' (n:=8) (by decide))),if_pos (show 0 < (eG c).length from Nat.succ_pos 7),if_true] at he;have hl2:=Aw (fd8 hk) (fd8 hk') (Au (bA _ (by decide)) (bA _ (by decide)) (si he));rw[← Int.mul_fdiv_add_fmod k 8,← Int.mul_fdiv_add_fmod k' 8,hl2,h8]
 ·rw[if_neg hc,if_neg hc] at h;have h8:=bA c (n:=8) (by decide);obtain⟨h1,h2⟩:=lt8 h8 (bA (c.fdiv 208) (n:=1+c.fmod 8) (Int.lt_add_one_of_le h8.1 |> fun h=>by rw[Int.add_comm];exact h));have he:=congrArg (fun l=>l[((c.fdiv 208).fmod (1+c.fmod 8)).toNat]?) h;simp only[List.getElem?_take,List.getElem?_set,if_pos h2,if_pos (show _ < (eG c).length from h1),if_true] at he;exact Aw ⟨hk.1,Int.lt_trans hk.2 (by decide)⟩ ⟨hk'.1,Int.lt_trans hk'.2 (by decide)⟩ (Au (bA _ (by decide)) (bA _ (by decide)) (si he))
noncomputable def nsI:List Int:=[0,1,2,3,4,5,6,7,8,9,10,11,12,13]
noncomputable def nms(c:Int):List Str:=nsI.map fun k=>⟨(nm c k).toArray⟩
theorem Qx(c:Int):Wld (nms c):=by
 refine⟨rfl,?_,fun x hx=>?_⟩
 ·refine List.Pairwise.map _ (R:=fun a b=>(0≤a∧a < 14)∧(0≤b∧b < 14)∧a≠b) (fun a b h e=>?_) (by unfold nsI;decide);have:(nm c a).toArray=(nm c b).toArray:=Str.mk.inj e;exact h.2.2 (Qw h.1 h.2.1 (by simpa using congrArg Array.toList this))
 ·obtain⟨k,_,rfl⟩:=List.mem_map.mp hx;exact Qv c k
noncomputable def NL(N:List Str):PyData:=.list (N.map .str)
theorem Qy(n:Nat)(s:List Int):rn (n+2) "_law_names" [.fz (Li s)]=.ok (.own (NL (nms (iA s 0)))):=by
 rw[Nl];rw[show rgI (.ok (.fz (.int 14)))=.ok (nsI.map PyData.int) from by kernel_rfl,Am,jG (g:=fun d=>match d with | .int k=>.str ⟨(nm (iA s 0) k).toArray⟩ | d=>d)]
 ·rfl
 ·intro d hd;obtain⟨j,_,rfl⟩:=List.mem_map.mp hd;refine⟨rfl,.fz (.str ⟨(nm (iA s 0) j).toArray⟩),?_,rfl⟩;rw[Qn n s (by decide)];exact Qu n _ _
end Mine
namespace Mine
open PySem
theorem Wf(x y:Int):aH .Add (.int x) (.int y)=.ok (.fz (.int (x+y))):=rfl
theorem Wg(x y:Int):aH .Sub (.int x) (.int y)=.ok (.fz (.int (x - y))):=rfl
theorem tM(x:Int){y:Int}(h:y≠0∧y.natAbs < 2 ^ 63):aH .FloorDiv (.int x) (.int y)=.ok (.fz (.int (x.fdiv y))):=if_pos h
theorem Wh(x y:Int):cmp .Lt (.int x) (.int y)=.ok (decide (x < y)):=rfl
theorem Wi(x y:Int):cmp .Gt (.int x) (.int y)=.ok (decide (y < x)):=rfl
theorem Wj(x y:Int):cmp .Eq (.int x) (.int y)=.ok (x==y):=rfl
end Mine
namespace Mine
open PySem
variable {N:List Str} {m:Nat}
noncomputable def Tr(N:List Str)(m:Nat)(d:PyData):Prop:=∃ t,Sem N m d t
noncomputable def BT(N:List Str)(m:Nat)(l:LP):Prop:=∃ f,Bld N m l f
theorem BT.nil:BT N m []:=⟨_,Bld.nil⟩
theorem BT.set{l:LP}(B:BT N m l){k:Str}{d:PyData}(hk:k∈N)(h:Tr N m d):BT N m (st l k d):=by
 obtain⟨f,B⟩:=B;obtain⟨t,h⟩:=h;exact⟨_,B.set hk h⟩
theorem BT.toTr{l:LP}(B:BT N m l):Tr N (m+1) (.dict (mkd l)):=by obtain⟨f,B⟩:=B;exact⟨_,B.toSem⟩
theorem BT.lt(H:Wld N){l:LP}(B:BT N m l){k:Nat}(hk:14 < k):l.length < k:=by obtain⟨f,B⟩:=B;exact B.lt H hk
theorem Tr.int{i:Int}(h:i.natAbs < big):Tr N m (.int i):=⟨_,.num h⟩
theorem Tr.mono{m':Nat}{d:PyData}(h:Tr N m d)(hm:m≤m'):Tr N m' d:=by obtain⟨t,h⟩:=h;exact⟨t,h.mono hm⟩
inductive NlA(N:List Str)(i:Int)(r:P V):Prop where
 |mk (x:Str) (h:x∈N) (g:N[i.toNat]?=some x) (e:r=.ok (.fz (.str x))):NlA N i r
theorem gD(H:Wld N){i:Int}(h:0≤i∧i < 14):NlA N i (getItem (NL N) (.int i)):=by
 have hl:i.toNat < N.length:=by rw[H.len];exact Dx h
 refine⟨N[i.toNat],List.getElem_mem hl,List.getElem?_eq_getElem hl,lD h.1 ?_⟩;rw[List.getElem?_map,List.getElem?_eq_getElem hl];rfl
theorem Wk:∀ {fs:List Str} {i:Int} {d:PyData},d∈eA i (fs.map .str)→∃ j f,d=.tuple [.int j,.str f]∧f∈fs:=by
 intro v0
 induction v0 with
 |nil =>
  intro _ _ h;exact cL h
 |cons x r ih =>
  intro i d h;rcases List.mem_cons.mp (show d∈.tuple [.int i,.str x]::eA (i+1) (r.map .str) from h) with rfl | h
  ·exact⟨i,x,rfl,by simp⟩
  ·obtain⟨j,f,e,hf⟩:=ih h;exact⟨j,f,e,by simp[hf]⟩
theorem Wl{q r l:List PyData}{x:PyData}(h:[]++l=q++x::r):x∈l:=by
 have:x∈q++x::r:=by simp
 rw[← h] at this;simpa using this
theorem tN(ps:LP):iG (mkd ps)=.ok (.own (.dict (mkd (sts ps [])))):=by
 show((ofO (keys? (mkd ps))).bind fun l=>own (.dict (cW l (mkd []))))=_;rw[mk_keys?,hV,hU,sY];rfl
theorem Ax(a:Str){r:R V}{v:V}{d:PyData}(hr:r=.ok v)(hv:v.clear=.fz d):fY [(.ok (.fz (.str a)),r)]=.ok (.own (.dict (mkd (sts [(a,d)] [])))):=by
 rw[hr,← eF hv];exact congrArg ofP (tN [(a,dOf v)])
theorem Qz(a b:Str){r1 r2:R V}{v1 v2:V}{d1 d2:PyData}(hr1:r1=.ok v1)(hv1:v1.clear=.fz d1)(hr2:r2=.ok v2)(hv2:v2.clear=.fz d2):fY [(.ok (.fz (.str a)),r1),(.ok (.fz (.str b)),r2)]=.ok (.own (.dict (mkd (sts [(a,d1),(b,d2)] [])))):=by
 rw[hr1,hr2,← eF hv1,← eF hv2];exact congrArg ofP (tN [(a,dOf v1),(b,dOf v2)])
theorem Q0{a b c:PyData}{i:Int}(h:0≤i∧i < 3):∃ d,getItem (.list [a,b,c]) (.int i)=.ok (.fz d)∧(d=a∨d=b∨d=c):=by
 have:i=0∨i=1∨i=2:=by exact Dz h
 rcases this with rfl | rfl | rfl
 ·exact⟨a,rfl,.inl rfl⟩
 ·exact⟨b,rfl,.inr (.inl rfl)⟩
 ·exact⟨c,rfl,.inr (.inr rfl)⟩
theorem BT.get{l:LP}(B:BT N m l){x:Str}{d:PyData}(hd:Tr N m d):Tr N m ((lk l x).getD d):=by
 obtain⟨f,B⟩:=B;refine ocs (lk l x) (fun e=>?_) fun u e=>?_
 ·try rewrite[e]
  exact hd
 ·try rewrite[e]
  obtain⟨t,_,h⟩:=B.get' e;exact⟨t,h⟩
theorem lE(H:Wld N){l:LP}{f:Str→Option TT}(B:Bld N m l f):aK cG (ofP (dI (.dict (mkd l))))=.ok (.own (.list ((aZ (ks l)).map .str))):=by
 rw[list_dict];show ofP (eH ((ks l).map .str))=_;rw[k9 (by rw[d8];exact B.lt H (by decide))];rfl
theorem Q1{xs:List PyData}(h:xs≠[])(a:Int):∃ x,x∈xs∧rb (ofP (aH .Mod (.int a) (.int xs.length))) (fun i=>ofP (getItem (.list xs) (dOf i)))=.ok (.fz x):=by
 have hl:0 < xs.length:=List.length_pos_iff.mpr h;have hr:=bA a (n:=(xs.length:Int)) (by exact D0 hl);have hk:(a.fmod xs.length).toNat < xs.length:=by exact D1 hr
 refine⟨xs[(a.fmod xs.length).toNat],List.getElem_mem hk,?_⟩;rw[hY _ (by exact D2 hl),aO,aE,kS,lD hr.1 (List.getElem?_eq_getElem hk)];rfl
theorem Q2{S:List Str}(h:S≠[])(a:Int):∃ x,x∈S∧rb (ofP (aH .Mod (.int a) (.int (S.map PyData.str).length))) (fun i=>ofP (getItem (.list (S.map .str)) (dOf i)))=.ok (.fz (.str x)):=by
 obtain⟨d,hd,e⟩:=Q1 (xs:=S.map PyData.str) (by simpa using h) a;obtain⟨x,hx,rfl⟩:=List.mem_map.mp hd;exact⟨x,hx,e⟩
theorem Wm(a b c:PyData):aX [.ok (.fz a),.ok (.fz b),.ok (.fz c)]=.ok (.fz (.tuple [a,b,c])):=rfl
theorem Wn{t:PyData→R Bool}{e:PyData→R V}{Q:PyData→Prop}:∀ {l:List PyData},(∀ d∈l,t d=.ok false∨t d=.ok true∧∃ v,e d=.ok v∧Q (dOf v))→∃ xs,aU t e l=.ok xs∧∀ x∈xs,Q x:=by
 intro v0
 induction v0 with
 |nil =>
  intro _;exact⟨[],rfl,by simp⟩
 |cons d r ih =>
  intro h;obtain⟨xs,e1,e2⟩:=ih fun d hd=>h d (List.mem_cons_of_mem _ hd);have hs:aU t e (d::r)=rb (nx (t d)) (fun b=>if b then rb (nx (e d)) fun v=>rb (aU t e r) fun xs=>.ok (dOf v::xs) else aU t e r):=rfl;rcases h d (by simp) with h1 | ⟨h1,v,h2,h3⟩
  ·exact⟨xs,by rw[hs,h1,eX,aE,jE,e1],e2⟩
  ·refine⟨dOf v::xs,by rw[hs,h1,eX,aE,dN,h2,eX,aE,e1,aE],fun x hx=>?_⟩;rcases List.mem_cons.mp hx with rfl | hx
   ·exact h3
   ·exact e2 x hx
theorem Wo(a b:WW):aX [.ok (.fz (.str (so "then"))),.ok (.fz (enc a)),.ok (.fz (enc b))]=.ok (.fz (enc (.andThen a b))):=rfl
theorem Wp(a:WW):aX [.ok (.fz (.str (so "each"))),.ok (.fz (enc a))]=.ok (.fz (enc (.each a))):=rfl
theorem Wq(a b:Str):aX [.ok (.fz (.str (so "call"))),.ok (.fz (.str a)),.ok (.fz (.str b))]=.ok (.fz (enc (.call a b))):=rfl
noncomputable def eZ:List (Str×Str×WW)→WW
 | []=>.bnil
 |x::r=>.bcons x.1 x.2.1 x.2.2 (eZ r)
noncomputable def Q3(x:Str×Str×WW):PyData:=.tuple [.str x.1,.str x.2.1,enc x.2.2]
theorem tO:∀ L:List (Str×Str×WW),(eZ L).isRows=true
 | []=>rfl
 |_::_=>rfl
theorem Ay:∀ L:List (Str×Str×WW),bJ (eZ L)=L.map Q3
 | []=>rfl
 |x::r=>by
  show .tuple [.str x.1,.str x.2.1,enc x.2.2]::bJ (eZ r)=_;rw[Ay r];rfl
theorem lF:∀ L:List (Str×Str×WW),(eZ L).names=L.map (·.1)∧(eZ L).parts=L.map (·.2.1)
 | []=>⟨rfl,rfl⟩
 |x::r=>⟨congrArg (x.1::·) (lF r).1,congrArg (x.2.1::·) (lF r).2⟩
theorem Q4{h g:Nat}:∀ {L:List (Str×Str×WW)},(∀ x∈L,x.1∈N∧x.2.1∈N∧okW N x.2.2∧x.2.2.isRows=false∧x.2.2.hgt≤h∧x.2.2.grow≤g)→(L.map (·.1)).Nodup→(L.map (·.2.1)).Nodup→okW N (eZ L)∧(eZ L).hgt≤h∧(eZ L).grow≤g:=by
 intro v0
 induction v0 with
 |nil =>
  intro _ _ _;exact⟨trivial,Nat.zero_le _,Nat.zero_le _⟩
 |cons x r ih =>
  intro hx h1 h2;obtain⟨a1,a2⟩:=List.nodup_cons.mp h1;obtain⟨b1,b2⟩:=List.nodup_cons.mp h2;obtain⟨i1,i2,i3⟩:=ih (fun y hy=>hx y (List.mem_cons_of_mem _ hy)) a2 b2;obtain⟨c1,c2,c3,c4,c5,c6⟩:=hx x (by simp);refine⟨⟨⟨c1,c2⟩,⟨c3,c4⟩,⟨i1,tO r⟩,?_,?_⟩,Nat.max_le.mpr ⟨c5,i2⟩,Nat.max_le.mpr ⟨c6,i3⟩⟩
  ·rw[(lF r).1];exact a1
  ·rw[(lF r).2];exact b1
theorem Q5:∀ {k:Nat} {i:Int} {q r:List PyData} {d:PyData},cR i k=q++d::r→d=.int (i+q.length)∧q.length < k
 |0,i,q,r,d,h=>by cases q<;>cases h
 |k+1,i,[],r,d,h=>by
  have h:PyData.int i::cR (i+1) k=d::r:=h;cases h;exact⟨by simp,by simp⟩
 |k+1,i,x::q,r,d,h=>by
  have h:PyData.int i::cR (i+1) k=x::(q++d::r):=h;obtain⟨h1,h2⟩:=Q5 (List.cons.inj h).2;refine⟨?_,by simpa using h2⟩;rw[h1,List.length_cons];congr 1;exact D3
theorem Wr:∀ (k:Nat) (i:Int),(cR i k).length=k:=by
 intro v0
 induction v0 with
 |zero =>
  intro _;exact rfl
 |succ k ih =>
  intro i;exact congrArg (·+1) (ih (i+1))
theorem Q6{xs:List Str}{a:Int}{n:Int}(hn:n=xs.length)(h:0 < n):∃ x,x∈xs∧xs[(a.fmod n).toNat]?=some x∧getItem (.list (xs.map .str)) (.int (a.fmod n))=.ok (.fz (.str x)):=by
 have hr:=bA a h;have hk:(a.fmod n).toNat < xs.length:=by exact D4 hn hr
 refine⟨xs[(a.fmod n).toNat],List.getElem_mem hk,List.getElem?_eq_getElem hk,lD hr.1 ?_⟩;rw[List.getElem?_map,List.getElem?_eq_getElem hk];rfl
theorem Q7{a n:Int}{i j:Nat}(hn:0 < n)(hj:(j:Int) < n)(hij:i < j):(a+i).fmod n≠(a+j).fmod n:=by
 rw[Int.fmod_eq_emod_of_nonneg _ (by exact oY hn),Int.fmod_eq_emod_of_nonneg _ (by exact oY hn)];intro e;have:=Int.emod_emod_of_dvd (a+j - (a+i)) (Int.dvd_refl n);have h1:(a+j - (a+i)) % n=0:=by rw[Int.sub_emod,e,Int.sub_self,Int.zero_emod]
 have h2:a+j - (a+i)=(j:Int) - i:=by exact D5
 rw[h2,Int.emod_eq_of_lt (by exact D6 hij) (by exact D7 hj)] at h1;lia
theorem Q8{xs ys:List Str}{n a:Int}(hx:xs.Nodup)(hn:n=xs.length)(hn0:0 < n)(hl:(ys.length:Int)≤n)(h:∀ (i:Nat) y,ys[i]?=some y→xs[((a+i).fmod n).toNat]?=some y):ys.Nodup:=by
 refine List.pairwise_iff_getElem.mpr fun i j hi hj hij e=>?_;have h1:=h i _ (List.getElem?_eq_getElem hi);have h2:=h j _ (List.getElem?_eq_getElem hj);rw[← e] at h2;obtain⟨p1,p2⟩:=List.getElem?_eq_some_iff.mp h1;obtain⟨q1,q2⟩:=List.getElem?_eq_some_iff.mp h2;have e2:=(List.getElem_inj (h₀:=p1) (h₁:=q1) hx).mp (p2.trans q2.symm);have r1:=bA (a+i) hn0;have r2:=bA (a+j) hn0;exact Q7 (a:=a) hn0 (by exact D8 hl hj) hij (by exact D9 e2 r1 r2)
theorem Ws(S:List Str):aD (.ok (.fz (.list (S.map .str)))) .NotEq (.ok (.own (.list [])))=.ok (.fz (.bool (!S.isEmpty))):=(congrArg (fun p=>aS (ofP (bU p))) (oB S)).trans rfl
inductive NlR(N:List Str)(i:Int)(r:R V):Prop where
 |mk (x:Str) (h:x∈N) (g:N[i.toNat]?=some x) (e:r=.ok (.fz (.str x))):NlR N i r
theorem tP(H:Wld N){e:R V}{i:Int}(he:e=.ok (.fz (.int i)))(h:0≤i∧i < 14):NlR N i (aJ (.ok (NL N)) e):=by
 obtain⟨x,hx,ix,gx⟩:=gD H h;exact⟨x,hx,ix,by rw[he];exact congrArg ofP gx⟩
theorem Q9{S:List Str}(h:S≠[])(M:Int):∃ x,x∈S∧aJ (.ok (.list (S.map .str))) (aB .Mod (.ok (.fz (.int M))) (aK bO (.ok (.fz (.list (S.map .str))))))=.ok (.fz (.str x)):=by
 obtain⟨x,hx,e⟩:=Q2 h M;exact⟨x,hx,(by kernel_rfl:_=rb (ofP (aH .Mod (.int M) (.int (S.map PyData.str).length))) (fun i=>ofP (getItem (.list (S.map .str)) (dOf i)))).trans e⟩
end Mine
namespace Mine
open PySem
variable {N:List Str} {m:Nat}
theorem Gives.ite{P:PyData→Prop}{c a b:R V}{t:Bool}(hc:c=.ok (.fz (.bool t)))(ha:t=true→Gives a P)(hb:t=false→Gives b P):Gives (ifS c a b) P:=by
 rw[hc];cases t with
 |true=>exact ha rfl
 |false=>exact hb rfl
theorem tQ(H:Wld N){n:Nat}{l:LP}{f:Str→Option TT}(B:Bld N m l f)(hn:m≤n):∃ l',rn (n+2) "_law_copy" [.fz (.dict (mkd l))]=.ok (.own (.dict (mkd l')))∧Bld N m l' f:=by
 obtain⟨l',e,C⟩:=tA (N:=N) (m:=m) (F:=f) (t:=fun _=>.ok true) (e:=fun d1=>aX [.ok (.fz d1),aG (rn (n+1) "_law_copy") [ofP (getItem (.dict (mkd l)) d1)]]) (xs:=ks l) (by rw[d8];exact B.lt H (by decide)) fun k hk=>by
  obtain⟨d,u,h1,h2,h3⟩:=B.key hk;obtain⟨v,d',e1,e2,e3⟩:=oM H h3 hn;refine⟨B.sub k hk,.inr ⟨rfl,.fz (.tuple [.str k,d']),d',u,?_,rfl,h2,e3⟩⟩;rw[bE h1];exact Ak _ e1 e2
 refine⟨l',?_,B.all (fun _ h=>h) C⟩;rw[kI,b6,aO,e];rfl
theorem Ra{a b:PyData}{i:Int}(h:0≤i∧i < 2):∃ d,getItem (.list [a,b]) (.int i)=.ok (.fz d)∧(d=a∨d=b):=by
 have:i=0∨i=1:=by exact uI h
 rcases this with rfl | rfl
 ·exact⟨a,rfl,.inl rfl⟩
 ·exact⟨b,rfl,.inr rfl⟩
theorem tR{a b:R V}{va vb:V}{da db:PyData}(ha:a=.ok va)(hva:va.clear=.fz da)(hb:b=.ok vb)(hvb:vb.clear=.fz db){e:R V}{i:Int}(he:e=.ok (.fz (.int i)))(h:0≤i∧i < 2):∃ d,aJ (cB (bR [a,b])) e=.ok (.fz d)∧(d=da∨d=db):=by
 obtain⟨d,h1,h2⟩:=Ra (a:=da) (b:=db) h;refine⟨d,?_,h2⟩;rw[ha,hb,he];show ofP (getItem (.list [dOf va.clear,dOf vb.clear]) (.int i))=_;rw[hva,hvb];exact congrArg ofP h1
theorem Rb{a b c:R V}{va vb vc:V}{da db dc:PyData}(ha:a=.ok va)(hva:va.clear=.fz da)(hb:b=.ok vb)(hvb:vb.clear=.fz db)(hc:c=.ok vc)(hvc:vc.clear=.fz dc){e:R V}{i:Int}(he:e=.ok (.fz (.int i)))(h:0≤i∧i < 3):∃ d,aJ (cB (bR [a,b,c])) e=.ok (.fz d)∧(d=da∨d=db∨d=dc):=by
 obtain⟨d,h1,h2⟩:=Q0 (a:=da) (b:=db) (c:=dc) h;refine⟨d,?_,h2⟩;rw[ha,hb,hc,he];show ofP (getItem (.list [dOf va.clear,dOf vb.clear,dOf vc.clear]) (.int i))=_;rw[hva,hvb,hvc];exact congrArg ofP h1
set_option maxHeartbeats 1000000 in
theorem Az(H:Wld N):∀ {m n:Nat} {c:Int} {d:PyData},Tr N m d→m+3≤n→Gives (rn (n+1) "_law_other" [.fz d,.fz (.int c),.fz (NL N)]) fun d'=>Tr N (m+1) d':=by
 intro m
 induction m using Nat.strongRecOn with
 |_ m ih =>
 intro n c d hd hn;refine exnE (c:=2) n hn hn fun n hn=>?_;rw[Nn,show aH .Mod (.int c) (.int 8)=.ok (.fz (.int (c.fmod 8))) from hY _ (by decide),show aH .FloorDiv (.int c) (.int 8)=.ok (.fz (.int (c.fdiv 8))) from tM _ (by decide)];simp only[aO,aE,eY,jF,gA];generalize c.fmod 8=K;generalize c.fdiv 8=M;obtain⟨t,hs⟩:=hd;refine Gives.ite (t:=K==0) (by kernel_rfl) (fun _=>?_) fun _=>?_
 ·obtain⟨v,d',e1,e2,e3⟩:=(oM H hs (n:=n+1) (by exact Ea hn)).rb;exact⟨v,d',e1,e2,t,e3.mono (Nat.le_succ _)⟩
 obtain⟨vn,an,bn⟩:=Qp (n+1) M;have r14:=bA M (n:=14) (by decide);obtain⟨y14,m14,_,g14⟩:=tP H (e:=aB .Mod (.ok (.fz (.int M))) (.ok (.fz (.int 14)))) (i:=M.fmod 14) (by kernel_rfl) r14;have place:Gives (rb (aJ (cB (bR [aG (rn (n+2) "_law_number") [.ok (.fz (.int M))],.ok (.own (.dict [])),fY [(aJ (.ok (NL N)) (aB .Mod (.ok (.fz (.int M))) (.ok (.fz (.int 14)))),.ok (.fz (.int 1)))]])) (aB .Mod (aB .FloorDiv (.ok (.fz (.int M))) (.ok (.fz (.int 14)))) (.ok (.fz (.int 3))))) R.ok) fun d'=>Tr N (m+1) d':=by
  rw[g14,Ax y14 (r:=.ok (.fz (.int 1))) rfl rfl];obtain⟨d,e,hd⟩:=Rb (a:=aG (rn (n+2) "_law_number") [.ok (.fz (.int M))]) an rfl (b:=.ok (.own (.dict []))) rfl rfl (c:=.ok (.own (.dict (mkd (sts [(y14,.int 1)] []))))) rfl rfl (e:=aB .Mod (aB .FloorDiv (.ok (.fz (.int M))) (.ok (.fz (.int 14)))) (.ok (.fz (.int 3)))) (i:=(M.fdiv 14).fmod 3) (by kernel_rfl) (bA _ (by decide));rw[e];refine⟨_,d,rfl,rfl,?_⟩;rcases hd with rfl | rfl | rfl
  ·exact .int bn
  ·exact Tr.mono (BT.toTr (m:=0) (l:=[]) BT.nil) (by exact lH)
  ·exact Tr.mono (BT.toTr (m:=0) ((BT.nil (m:=0)).set m14 (.int (i:=1) (by decide)))) (by exact lH)
 obtain⟨i,_⟩ | ⟨m,l,f,B⟩:=hs.inv
 ·exact place
 refine Gives.ite (t:=K==1&&M.fmod 3==0) (by
  rw[show aD (R.ok (V.fz (.int K))) .Eq (.ok (.fz (.int 1)))=.ok (.fz (.bool (K==1))) from by kernel_rfl];cases (K==1)<;>kernel_rfl) (fun _=>place) fun _=>?_
 obtain⟨l',ec,C⟩:=tQ H B (n:=n) (by exact Eb hn);rw[ec,lE H B];simp only[aE,n8,eY,jF,aO,gA,Oq,Ot];have hmem:∀ x∈aZ (ks l),x∈ks l:=fun x hx=>cT.mp hx;generalize aZ (ks l)=S at hmem;have C1:=C.mono (Nat.le_succ m);have putIn:∀ {x:Str} {d:PyData} {r:R V} {v:V} {k:R V},r=.ok v→v.clear=.fz d→x∈N→Tr N (m+1) d→k=.ok (.fz (.str x))→Gives (bC r (.ok (.dict (mkd l'))) k fun o=>R.ok (.own o)) fun d'=>Tr N (m+1+1) d':=fun {x d r v k} h1 h2 h3 h4 h5=>by
  obtain⟨t,h4⟩:=h4;refine⟨.own (.dict (mkd (st l' x d))),_,?_,rfl,_,(C1.set h3 h4).toSem⟩;rw[h1,h5];show rb (ofP (Mine.setItem (.dict (mkd l')) (.str x) (dOf v))) _=_;rw[eF h2,b7 x d (C.lt H (by decide))];rfl
 refine Gives.ite (t:=K==2||S.isEmpty) (by
  rw[show aD (R.ok (V.fz (.int K))) .Eq (.ok (.fz (.int 2)))=.ok (.fz (.bool (K==2))) from by kernel_rfl,show aD (R.ok (V.fz (.list (S.map .str)))) .Eq (.ok (.own (.list [])))=.ok (.fz (.bool S.isEmpty)) from (congrArg (fun p=>aS (ofP p)) (oB S)).trans rfl];cases (K==2)<;>rfl) (fun _=>?_) fun ht=>?_
 ·obtain⟨x5,m5,_,g5⟩:=gD H (i:=5) (by decide);obtain⟨x6,m6,_,g6⟩:=gD H (i:=6) (by decide);obtain⟨x7,m7,_,g7⟩:=gD H (i:=7) (by decide);obtain⟨x8,m8,_,g8⟩:=gD H (i:=8) (by decide);have r9:=bA M (n:=9) (by decide);have r9':=bA (M.fdiv 9) (n:=9) (by decide);rw[g5,g6,g7,g8];simp only[aO];rw[show fY [(.ok (.fz (.str x5)),aB .Sub (aB .Mod (.ok (.fz (.int M))) (.ok (.fz (.int 9)))) (.ok (.fz (.int 2)))),(.ok (.fz (.str x7)),aB .Sub (aB .Mod (aB .FloorDiv (.ok (.fz (.int M))) (.ok (.fz (.int 9)))) (.ok (.fz (.int 9)))) (.ok (.fz (.int 2)))),(.ok (.fz (.str x6)),.ok (.fz (.int 2))),(.ok (.fz (.str x8)),.ok (.fz (.int 3)))]=.ok (.own (.dict (mkd (sts [(x5,.int (M.fmod 9 - 2)),(x7,.int ((M.fdiv 9).fmod 9 - 2)),(x6,.int 2),(x8,.int 3)] [])))) from
   (by kernel_rfl:_=ofP (iG (mkd [(x5,.int (M.fmod 9 - 2)),(x7,.int ((M.fdiv 9).fmod 9 - 2)),(x6,.int 2),(x8,.int 3)]))).trans (congrArg ofP (tN _))]
  have Brow:BT N 0 (sts [(x5,.int (M.fmod 9 - 2)),(x7,.int ((M.fdiv 9).fmod 9 - 2)),(x6,.int 2),(x8,.int 3)] []) :=
   (((BT.nil.set m5 (.int (i:=M.fmod 9 - 2) (by unfold big;omega))).set m7 (.int (i:=(M.fdiv 9).fmod 9 - 2) (by unfold big;omega))).set m6 (.int (i:=2) (by decide))).set m8 (.int (i:=3) (by decide))
  generalize sts [(x5,.int (M.fmod 9 - 2)),(x7,.int ((M.fdiv 9).fmod 9 - 2)),(x6,.int 2),(x8,.int 3)] []=rowl at Brow;simp only[aE,n8,jF,aO];have r4:=bA (M.fdiv 81) (n:=4) (by decide);have r14':=bA (M.fdiv 81) (n:=14) (by decide);obtain⟨di,ei,hi⟩:=tR (a:=aB .Add (.ok (.fz (.int 9))) (aB .Mod (aB .FloorDiv (.ok (.fz (.int M))) (.ok (.fz (.int 81)))) (.ok (.fz (.int 4))))) (va:=.fz (.int (9+(M.fdiv 81).fmod 4))) (by kernel_rfl) rfl (b:=aB .Mod (aB .FloorDiv (.ok (.fz (.int M))) (.ok (.fz (.int 81)))) (.ok (.fz (.int 14)))) (vb:=.fz (.int ((M.fdiv 81).fmod 14))) (by kernel_rfl) rfl (e:=aB .Mod (.ok (.fz (.int M))) (.ok (.fz (.int 2)))) (i:=M.fmod 2) (by kernel_rfl) (bA _ (by decide));obtain⟨ii,hii,rfl⟩:∃ ii:Int,(0≤ii∧ii < 14)∧di=.int ii:=by
   rcases hi with rfl | rfl
   ·exact⟨_,by exact Dy r4,rfl⟩
   ·exact⟨_,r14',rfl⟩
  obtain⟨y,my,_,gy⟩:=tP H ei hii;rw[gy];simp only[aE,jF,aO];obtain⟨dv,ev,hv⟩:=tR (a:=.ok (.fz (.dict (mkd rowl)))) (va:=.fz (.dict (mkd rowl))) rfl rfl (b:=aB .Mod (.ok (.fz (.int M))) (.ok (.fz (.int 7)))) (vb:=.fz (.int (M.fmod 7))) (by kernel_rfl) rfl (e:=aK dS (aD (aB .Mod (aB .FloorDiv (.ok (.fz (.int M))) (.ok (.fz (.int 3)))) (.ok (.fz (.int 5)))) .Eq (.ok (.fz (.int 1))))) (i:=if ((M.fdiv 3).fmod 5==1)=true then 1 else 0) (by kernel_rfl) (by split<;>decide);refine putIn ev rfl my ?_ rfl;have r7:=bA M (n:=7) (by decide);rcases hv with rfl | rfl
  ·exact Brow.toTr.mono (by exact lH)
  ·exact .int (by unfold big;omega)
 have hS:S≠[]:=fun e=>by rw[e] at ht;simp at ht
 obtain⟨x,hx,ex⟩:=Q9 hS M;obtain⟨dx,tx,q1,q2,q3⟩:=B.key (hmem x hx);obtain⟨dx',q4,q5⟩:=C.get q2;have mx:=B.sub x (hmem x hx);rw[ex];simp only[aE,eY,jF,aO];refine Gives.ite (t:=K==3) (by kernel_rfl) (fun _=>?_) fun _=>?_
 ·refine⟨.own (.dict (mkd (dl l' x))),_,?_,rfl,_,(C1.del x).toSem⟩;show rb (ofP (if (bS (mkd l') x).isSome then P.ok (PyData.dict (c8 (mkd l') x)) else .no)) _=_;rw[jC,q4,n6];rfl
 refine Gives.ite (t:=K==4) (by kernel_rfl) (fun _=>?_) fun _=>?_
 ·obtain⟨y,my,_,gy⟩:=tP H (e:=aB .Mod (aB .FloorDiv (.ok (.fz (.int M))) (.ok (.fz (.int 16)))) (.ok (.fz (.int 14)))) (i:=(M.fdiv 16).fmod 14) (by kernel_rfl) (bA _ (by decide));refine⟨.own (.dict (mkd (st (dl l' x) y dx'))),_,?_,rfl,_,((C1.del x).set my (q5.mono (Nat.le_succ _))).toSem⟩;rw[gy,show(P.ok (PyData.dict (mkd l'))).bind fU=.ok (mkd l') from rfl];show rb (ofP ((ofO (bS (mkd l') x)).bind fun d=>P.ok (d,PyData.dict (c8 (mkd l') x)))) _=_;rw[jC,q4,n6];show rb (ofP (Mine.setItem (.dict (mkd (dl l' x))) (.str y) dx')) _=_;rw[b7 y dx' ((C.del x).lt H (by decide))];rfl
 refine Gives.ite (t:=K==5) (by kernel_rfl) (fun _=>?_) fun _=>?_
 ·obtain⟨dv,ev,hv⟩:=tR (a:=aG (rn (n+2) "_law_number") [.ok (.fz (.int M))]) an rfl (b:=.ok (.own (.dict []))) (vb:=.own (.dict [])) rfl rfl (e:=aB .Mod (aB .FloorDiv (.ok (.fz (.int M))) (.ok (.fz (.int 8)))) (.ok (.fz (.int 2)))) (i:=(M.fdiv 8).fmod 2) (by kernel_rfl) (bA _ (by decide));refine putIn ev rfl mx ?_ rfl;rcases hv with rfl | rfl
  ·exact .int bn
  ·exact Tr.mono (BT.toTr (m:=0) (l:=[]) BT.nil) (by exact lH)
 obtain⟨v,d',e1,e2,e3⟩:=ih m (Nat.lt_succ_self m) (n:=n+1) (c:=M.fdiv 8) ⟨tx,q3⟩ (by exact Ec hn);refine putIn (v:=v) ?_ e2 mx e3 rfl;rw[show aJ (.ok (.dict (mkd l))) (.ok (.fz (.str x)))=.ok (.fz dx) from congrArg ofP (bE q1)];exact(by kernel_rfl:_=rn (n+2) "_law_other" [.fz dx,.fz (.int (M.fdiv 8)),.fz (NL N)]).trans e1
end Mine
namespace Mine
open PySem
variable {N:List Str} {m:Nat}
noncomputable def e9:Str:=so "tree"
noncomputable def d9:Str:=so "refused"
structure Wy(N:List Str)(ws:List PyData):Prop where
 l:ws.length≤900
 e:∀ d∈ws,(∃ s,s∈N∧d=.str s)∨d=.int 0∨d=.int 1
inductive BackR(N:List Str)(m:Nat)(o:Option TT)(x:Rf)(r:R V):Prop where
 |tree (t:TT) (d:PyData) (h:o=some t) (e:r=.ok (.fz (.tuple [.str e9,d]))) (g:Sem N m d t):BackR N m o x r
 |ref (d:PyData) (h:o=none) (e:r=.ok (.fz (.tuple [.str d9,.list x.way,.str x.kind,d]))) (g:Sem N m d x.part) (y:Wy N x.way):BackR N m o x r
theorem BackR.mono{m':Nat}{o:Option TT}{x:Rf}{r:R V}(h:BackR N m o x r)(hm:m≤m'):BackR N m' o x r:=by
 rcases h with ⟨t,d,h,e,g⟩ | ⟨d,h,e,g,y⟩
 ·exact .tree t d h e (g.mono hm)
 ·exact .ref d h e (g.mono hm) y
theorem BackR.rb{o:Option TT}{x:Rf}{r:R V}(h:BackR N m o x r):BackR N m o x (rb r R.ok):=by
 rcases h with ⟨t,d,h,rfl,g⟩ | ⟨d,h,rfl,g,y⟩
 ·exact .tree t d h rfl g
 ·exact .ref d h rfl g y
theorem Wu{l:LP}(k:Str)(d:PyData)(h:lk l k=some d):aX [.ok (.fz (.str k)),ofP (getItem (.dict (mkd l)) (.str k))]=.ok (.fz (.tuple [.str k,d])):=Ah h
noncomputable def bI(l:List Str):PyData:=.list (l.map .str)
theorem Wv(d:PyData):dJ (so "append") (.list []) [d]=.ok (.list [d]):=by kernel_rfl
theorem Ww(e d:PyData):dJ (so "append") (.list [e]) [d]=.ok (.list [e,d]):=by kernel_rfl
theorem Wx{ps:LP}(p:Str×PyData)(h:ps.length < aV):dJ (so "append") (.list (ps.map cZ)) [cZ p]=.ok (.list ((ps++[p]).map cZ)):=by
 show(if (ps.map cZ).length < aV then P.ok (PyData.list (ps.map cZ++[cZ p])) else .no)=_;rw[List.length_map,if_pos h,List.map_append];rfl
theorem tS{l:List PyData}{y:PyData}{v:V}(h:dJ (so "append") (.list l) [dOf v.clear]=.ok y)(k:PyData→R V):dA (.ok (.list l)) (so "append") [.ok v] k=k y:=by
 show(if iL (so "append") (.list l)=true then rb (ofP (dJ (so "append") (.list l) [dOf v.clear])) k else .no)=_;rw[show iL (so "append") (.list l)=true from by kernel_rfl,h];rfl
noncomputable def Rc(x:Rf)(d:PyData):V:=.fz (.tuple [.str d9,.list x.way,.str x.kind,d])
noncomputable def A0(d:PyData):V:=.fz (.tuple [.str e9,d])
theorem Wz(d:PyData):aD (aJ (b9 (A0 d)) (.ok (.fz (.int 0)))) .Eq (.ok (.fz (.str d9)))=.ok (.fz (.bool false)):=by kernel_rfl
theorem W0(x:Rf)(d:PyData):aD (aJ (b9 (Rc x d)) (.ok (.fz (.int 0)))) .Eq (.ok (.fz (.str d9)))=.ok (.fz (.bool true)):=by kernel_rfl
theorem W1(d:PyData):aJ (b9 (A0 d)) (.ok (.fz (.int 1)))=.ok (.fz d):=rfl
noncomputable def iC(x p:Str)(v:WW):PyData:=.tuple [.str x,.str p,enc v]
theorem Rd{l:LP}{f:Str→Option TT}(B:Bld N m l f){x y:Str}(hx:x∈N)(hfx:f x=none):∀ {xs:List Str},(∀ k∈xs,k∈ks l) →
  ∃ ps:LP,aU (fun _=>.ok true) (fun d3=>aX [eS (aD (.ok (.fz d3)) .Eq (.ok (.fz (.str y)))) (.ok (.fz (.str x))) (.ok (.fz d3)),ofP (getItem (.dict (mkd l)) d3)]) (xs.map .str)=.ok (ps.map cZ)∧ps.length=xs.length∧(∀ k,k∈ks ps↔∃ z∈xs,k=if z=y then x else z)∧∀ p∈ps,p.1∈N∧∃ u,cP y x f p.1=some u∧Sem N m p.2 u:=by
 intro xs
 induction xs with
 |nil=>exact fun _=>⟨[],rfl,rfl,fun k=>⟨fun h=>cL h,fun ⟨z,hz,_⟩=>cL hz⟩,fun p hp=>cL hp⟩
 |cons z xs ih =>
  intro h;obtain⟨ps,e1,e2,e3,e4⟩:=ih fun k hk=>h k (List.mem_cons_of_mem _ hk);obtain⟨d,u,h1,h2,h3⟩:=B.key (h z List.mem_cons_self);have hzx:z≠x:=fun e=>by rw[e,hfx] at h2;exact ns h2
  have et:aX [eS (aD (.ok (.fz (.str z))) .Eq (.ok (.fz (.str y)))) (.ok (.fz (.str x))) (.ok (.fz (.str z))),ofP (getItem (.dict (mkd l)) (.str z))]=.ok (.fz (cZ (if z=y then x else z,d))):=by
   rw[bE h1];show aX [rb (R.ok (z==y)) (fun c=>if c=true then _ else _),_]=_
   by_cases e:z=y
   ·rw[beq_iff_eq.mpr e,if_pos e];rfl
   ·rw[beq_false_of_ne e,if_neg e];rfl
  refine⟨(if z=y then x else z,d)::ps,?_,congrArg Nat.succ e2,fun k=>?_,fun p hp=>?_⟩
  ·show rb (nx (R.ok true)) (fun b=>if b then rb (nx (aX [eS (aD (.ok (.fz (.str z))) .Eq (.ok (.fz (.str y)))) (.ok (.fz (.str x))) (.ok (.fz (.str z))),ofP (getItem (.dict (mkd l)) (.str z))])) fun v=>rb (aU _ _ (xs.map .str)) fun xs=>.ok (dOf v::xs) else _)=_;rw[et,e1];rfl
  ·show k∈(if z=y then x else z)::ks ps↔_;rw[List.mem_cons,e3];constructor
   ·rintro(hh | ⟨z',hz,hh⟩)
    ·exact⟨z,List.mem_cons_self,hh⟩
    ·exact⟨z',List.mem_cons_of_mem _ hz,hh⟩
   ·rintro⟨z',hz,hh⟩
    rcases List.mem_cons.mp hz with rfl | hz
    ·exact .inl hh
    ·exact .inr ⟨z',hz,hh⟩
  ·rcases List.mem_cons.mp hp with rfl | hp
   ·by_cases e:z=y
    ·subst e;simp only[if_true];exact⟨hx,u,by simp only[cP,if_true];exact h2,h3⟩
    ·simp only[if_neg e];exact⟨B.sub z (kR h1),u,by simp only[cP,if_neg hzx,if_neg e];exact h2,h3⟩
   ·exact e4 p hp
theorem W2(l:List Str)(y:Str):Mine.contains (.str y) (bI l)=.ok (l.contains y):=by
 show((ofO (strs? (l.map .str))).bind fun ss=>P.ok (ss.contains y))=_;rw[gB];rfl
theorem W3(a b:List Str):aD (ofP (rdv (V.clear (.own (bI a))))) .NotEq (ofP (.ok (.own (bI b))))=.ok (.fz (.bool (!(a==b)))):=by
 show aS (ofP (bU (eqO (bI a) (bI b))))=_;rw[show eqO (bI a) (bI b)=.ok (a==b) from lA a b];rfl
theorem W4(v:WW)(xs:List Str):aL (.ok (xs.map .str)) (fun _=>.ok true) (fun d7=>aX [.ok (.fz d7),.ok (.fz d7),.ok (.fz (enc v))])=.ok (.own (.list (xs.map fun k=>iC k k v))):=by
 show rb (aU _ _ (xs.map .str)) (fun r=>ofP (own (.list r)))=_;rw[jG (t:=fun _=>.ok true) (e:=fun d7=>aX [.ok (.fz d7),.ok (.fz d7),.ok (.fz (enc v))]) (g:=fun d=>.tuple [d,d,enc v]) fun d hd=>⟨rfl,_,rfl,rfl⟩,List.map_map];rfl
end Mine
namespace Mine
open PySem
variable {N:List Str} {m:Nat}
noncomputable def c7(a b:Str)(y:TT):Option TT:=aI (.call a b) (.num 0) y
noncomputable def cF(a b:Str)(q:Str→Option TT)(k:Str):Option TT:=(q k).bind (c7 a b)
noncomputable def dH(a b:Str)(xs:List Str):WW:=eZ (xs.map fun k=>(k,k,.call a b))
theorem oP(a b:Str)(xs:List Str):(dH a b xs).names=xs:=by
 unfold dH;rw[(lF _).1,List.map_map];exact List.map_id xs
theorem oQ(a b k:Str)(xs:List Str):dH a b (k::xs)=.bcons k k (.call a b) (dH a b xs):=rfl
theorem tT(n p:Str)(v r:WW)(f q:Str→Option TT):aI (.bcons n p v r) (.br f) (.br q)=(f p).bind fun o=>(q n).bind fun x=>(aI v o x).bind fun y=>(aI r (.br f) (.br q)).bind fun z=>some (.br (upd z.get p (some y))):=rfl
theorem A1(n p:Str)(v r:WW)(f q:Str→Option TT)(w:List PyData):aR (.bcons n p v r) (.br f) (.br q) w=(f p).elim ⟨w,bK,.br q⟩ fun o=>(q n).elim ⟨w,bK,.br q⟩ fun x=>(aI v o x).elim (aR v o x (w++[.str n])) fun _=>aR r (.br f) (.br q) w:=rfl
theorem tU{a b k:Str}{q:Str→Option TT}(h:(cF a b q k).isSome=true):∃ y z,q k=some y∧c7 a b y=some z∧cF a b q k=some z:=by
 unfold cF at h ⊢;cases hq:q k with
 |none=>rw[hq] at h;exact bft h
 |some y =>
  rw[hq] at h;obtain⟨z,hz⟩:=cU h;exact⟨y,z,rfl,hz,hz⟩
theorem Re{a b:Str}{f q:Str→Option TT}:∀ {xs:List Str},(∀ k∈xs,(f k).isSome=true)→(∀ k∈xs,(cF a b q k).isSome=true) →
  ∃ g,aI (dH a b xs) (.br f) (.br q)=some (.br g)∧∀ k,g k=if k∈xs then cF a b q k else f k:=by
 intro xs
 induction xs with
 |nil=>exact fun _ _=>⟨f,rfl,fun k=>by rw[if_neg List.not_mem_nil]⟩
 |cons x xs ih =>
  intro h1 h2;obtain⟨g,e1,e2⟩:=ih (fun k hk=>h1 k (List.mem_cons_of_mem _ hk)) fun k hk=>h2 k (List.mem_cons_of_mem _ hk);obtain⟨o,ho⟩:=cU (h1 x List.mem_cons_self);obtain⟨y,z,hy,hz,hc⟩:=tU (h2 x List.mem_cons_self);refine⟨upd g x (some z),?_,fun k=>?_⟩
  ·rw[oQ,tT,ho,hy,Option.bind_some,Option.bind_some,show aI (.call a b) o y=some z from hz,Option.bind_some,e1];rfl
  ·unfold upd
   by_cases hk:k=x
   ·subst hk;rw[if_pos rfl,if_pos List.mem_cons_self,hc]
   ·rw[if_neg hk,e2]
    by_cases hm:k∈xs
    ·rw[if_pos hm,if_pos (List.mem_cons_of_mem _ hm)]
    ·rw[if_neg hm,if_neg fun h=>(List.mem_cons.mp h).elim hk hm]
theorem Rg{a b:Str}{f q:Str→Option TT}{w:List PyData}{k:Str}{y:TT}{r0:List Str}(hq:q k=some y)(hn:c7 a b y=none):∀ {q0:List Str},(∀ i∈q0++k::r0,(f i).isSome=true)→(∀ i∈q0,(cF a b q i).isSome=true) →
  aI (dH a b (q0++k::r0)) (.br f) (.br q)=none∧aR (dH a b (q0++k::r0)) (.br f) (.br q) w=⟨w++[.str k],bK,y⟩:=by
 intro q0
 induction q0 with
 |nil =>
  intro h1 _;obtain⟨o,ho⟩:=cU (h1 k (by simp));have hp:aI (.call a b) o y=none:=hn;rw[List.nil_append,oQ];exact⟨by rw[tT,ho,hq,Option.bind_some,Option.bind_some,hp];rfl,by rw[A1,ho,hq];show(aI (.call a b) o y).elim _ _=_;rw[hp];rfl⟩
 |cons x xs ih =>
  intro h1 h2;obtain⟨e1,e2⟩:=ih (fun i hi=>h1 i (List.mem_cons_of_mem _ hi)) fun i hi=>h2 i (List.mem_cons_of_mem _ hi);obtain⟨o,ho⟩:=cU (h1 x List.mem_cons_self);obtain⟨y',z,hy,hz,hc⟩:=tU (h2 x List.mem_cons_self);have hp:aI (.call a b) o y'=some z:=hz;rw[List.cons_append,oQ];exact⟨by rw[tT,ho,hy,Option.bind_some,Option.bind_some,hp,Option.bind_some,e1];rfl,by rw[A1,ho,hy];show(aI (.call a b) o y').elim _ _=_;rw[hp];exact e2⟩
noncomputable def pcW(e:Bool)(a b:Str)(xs:List Str):WW:=match e with
 |true=>.each (.call a b)
 |false=>.beside (dH a b xs)
noncomputable def kdP(e:Bool):Str:=match e with
 |true=>gZ
 |false=>bK
theorem Rh(e:Bool)(a b:Str)(xs:List Str)(t:TT)(i:Int)(w:List PyData):aI (pcW e a b xs) t (.num i)=none∧aR (pcW e a b xs) t (.num i) w=⟨w,bK,.num i⟩:=by
 cases e<;>exact⟨rfl,rfl⟩
theorem tV{f q:Str→Option TT}{xs:List Str}(hf:∀ k,(f k).isSome=true↔k∈xs):(∀ k,(q k).isSome=(f k).isSome)↔∀ k,(q k).isSome=true↔k∈xs :=
 ⟨fun h k=>by rw[h k];exact hf k,fun h k=>Bool.eq_iff_iff.mpr ((h k).trans (hf k).symm)⟩
theorem tW(a b:Str)(f q:Str→Option TT):aI (.each (.call a b)) (.br f) (.br q)=grd ((∀ k,(q k).isSome=(f k).isSome)∧∀ k x y,f k=some x→q k=some y→(aI (.call a b) x y).isSome=true) (some (.br fun k=>(f k).bind fun x=>(q k).bind fun y=>aI (.call a b) x y)):=rfl
theorem tX(r:WW)(f q:Str→Option TT):aI (.beside r) (.br f) (.br q)=grd (∀ k,(q k).isSome=true↔k∈r.names) (aI r (.br f) (.br q)):=rfl
theorem A2(r:WW)(f q:Str→Option TT)(w:List PyData):aR (.beside r) (.br f) (.br q) w=sel (∀ k,(q k).isSome=true↔k∈r.names) (aR r (.br f) (.br q) w) ⟨w,bK,.br q⟩:=rfl
theorem A3(a b:Str)(f q:Str→Option TT)(w:List PyData):aR (.each (.call a b)) (.br f) (.br q) w=sel (∀ k,(q k).isSome=(f k).isSome) (((f (dC (.call a b) f q)).bind fun x=>(q (dC (.call a b) f q)).map fun y=>aR (.call a b) x y (w++[.str (dC (.call a b) f q)])).getD ⟨w,bK,.br q⟩) ⟨w,gZ,.br q⟩:=rfl
theorem Ri(e:Bool){a b:Str}{xs:List Str}{f q:Str→Option TT}{w:List PyData}(hf:∀ k,(f k).isSome=true↔k∈xs)(h:¬ ∀ k,(q k).isSome=(f k).isSome):aI (pcW e a b xs) (.br f) (.br q)=none∧aR (pcW e a b xs) (.br f) (.br q) w=⟨w,kdP e,.br q⟩:=by
 cases e with
 |true=>exact⟨(tW a b f q).trans (cN (fun z=>h z.1) _),(A3 a b f q w).trans (jB h _ _)⟩
 |false =>
  have h':¬ ∀ k,(q k).isSome=true↔k∈(dH a b xs).names:=by rw[oP];exact fun z=>h ((tV hf).mpr z)
  exact⟨(tX _ f q).trans (cN h' _),(A2 _ f q w).trans (jB h' _ _)⟩
theorem Rj(e:Bool){a b:Str}{xs:List Str}{f q:Str→Option TT}(hf:∀ k,(f k).isSome=true↔k∈xs)(h:∀ k,(q k).isSome=(f k).isSome)(hc:∀ k∈xs,(cF a b q k).isSome=true):aI (pcW e a b xs) (.br f) (.br q)=some (.br (cF a b q)):=by
 have out:∀ k,k∉xs→f k=none∧q k=none:=fun k hk=>by
  have h1:f k=none:=ocs (f k) (fun e=>e) fun u e=>absurd ((hf k).mp (by rw[e];rfl)) hk;have h2:=h k;rw[h1] at h2;exact⟨h1,ocs (q k) (fun e=>e) fun u e=>by rw[e] at h2;exact btf h2⟩
 cases e with
 |true =>
  have hh:∀ k x y,f k=some x→q k=some y→(aI (.call a b) x y).isSome=true:=fun k x y hx hy=>by
   obtain⟨y',z,h1,h2,_⟩:=tU (hc k ((hf k).mp (by rw[hx];rfl)));rw[hy] at h1;obtain rfl:=si h1;show(c7 a b y).isSome=true;rw[h2];rfl
  refine(tW a b f q).trans ((dF ⟨h,hh⟩ _).trans (congrArg (fun g=>some (T.br g)) (funext fun k=>?_)))
  by_cases hk:k∈xs
  ·obtain⟨x,hx⟩:=cU ((hf k).mpr hk);rw[hx];rfl
  ·obtain⟨h1,h2⟩:=out k hk;unfold cF;rw[h1,h2];rfl
 |false =>
  obtain⟨g,e1,e2⟩:=Re (a:=a) (b:=b) (q:=q) (fun k hk=>(hf k).mpr hk) hc;refine(tX _ f q).trans ((dF (by rw[oP];exact(tV hf).mp h) _).trans (e1.trans (congrArg (fun g=>some (T.br g)) (funext fun k=>?_))));rw[e2]
  by_cases hk:k∈xs
  ·rw[if_pos hk]
  ·obtain⟨h1,h2⟩:=out k hk;rw[if_neg hk,h1];unfold cF;rw[h2];rfl
noncomputable def jL(e:Bool)(xs ys:List Str):List Str:=match e with
 |true=>aZ ys
 |false=>xs
theorem Rk(e:Bool){a b:Str}{xs ys:List Str}{f q:Str→Option TT}{w:List PyData}(hf:∀ k,(f k).isSome=true↔k∈xs)(h:∀ k,(q k).isSome=(f k).isSome)(hy:∀ k,k∈ys↔(q k).isSome=true)(hnd:ys.Nodup){q0 r0:List Str}{k:Str}{y:TT}(ho:jL e xs ys=q0++k::r0)
  (hc:∀ i∈q0,(cF a b q i).isSome=true) (hq:q k=some y) (hn:c7 a b y=none):aI (pcW e a b xs) (.br f) (.br q)=none∧aR (pcW e a b xs) (.br f) (.br q) w=⟨w++[.str k],bK,y⟩:=by
 cases e with
 |true =>
  obtain⟨x,hx⟩:=cU (show(f k).isSome=true by rw[← h k,hq];rfl);have hl:dC (.call a b) f q=k:=zK tG ⟨⟨x,y,hx,hq,hn⟩,fun i hi hP=>by
   obtain⟨x',y',e1,e2,e3⟩:=hP;have:=hc i (Ai (k7 hnd) (show[]++aZ ys=_ from ho) hi (cT.mpr ((hy i).mpr (by rw[e2];rfl))));unfold cF at this;rw[e2] at this;exact bft ((congrArg Option.isSome (show c7 a b y'=none from e3)).symm.trans this)⟩
  exact⟨(tW a b f q).trans (cN (fun z=>by have:=z.2 k x y hx hq;rw[show aI (.call a b) x y=none from hn] at this;exact bft this) _),(A3 a b f q w).trans ((jA h _ _).trans (by rw[hl,hx,hq];rfl))⟩
 |false =>
  have ho:xs=q0++k::r0:=ho;obtain⟨e1,e2⟩:=Rg (a:=a) (b:=b) (f:=f) (w:=w) (r0:=r0) hq hn (q0:=q0) (fun i hi=>(hf i).mpr (ho▸hi)) hc;have h':∀ k,(q k).isSome=true↔k∈(dH a b xs).names:=by rw[oP];exact(tV hf).mp h
  rw[← ho] at e1 e2;exact⟨(tX _ f q).trans ((dF h' _).trans e1),(A2 _ f q w).trans ((jA h' _ _).trans e2)⟩
end Mine
namespace Mine
open PySem
variable {N:List Str} {m:Nat}
theorem tY(a b:Str)(f:Str→Option TT):c7 a b (.br f)=grd ((f b).isSome=true∧f a=none) (some (.br (cP b a f))):=rfl
theorem tZ(a b:Str)(i:Int):c7 a b (.num i)=none:=cN (fun h=>bft h.1) _
theorem Rl(n:Nat)(a b:Str){d:PyData}{t:TT}(h:Sem N m d t):rn (n+1) "_law_is_called" [.fz (enc (.call a b)),.fz d]=.ok (.fz (.bool (c7 a b t).isSome)):=by
 rw[Nx];refine h.by (fun m i _=>?_) fun m l f B=>?_
 ·rw[tZ];rfl
 ·show rb (aY (.ok (.fz (.bool true))) (aY (aS (ofP (Mine.contains (.str b) (.dict (mkd l))))) (aS (ofP (bU (Mine.contains (.str a) (.dict (mkd l)))))))) R.ok=_;rw[dZ,dZ,B.dom,B.dom,tY]
  by_cases hc:(f b).isSome=true∧f a=none
  ·rw[dF hc,hc.1,hc.2];rfl
  ·rw[cN hc];cases h1:f b with
   |none=>rfl
   |some u =>
    cases h2:f a with
    |none=>exact absurd ⟨by rw[h1];rfl,h2⟩ hc
    |some v=>rfl
noncomputable def qS(x1 old:PyData)(ln:LP)(w:List PyData)(a b:Str)(w6:V)(c:LP)(j:Option V×Option V):aA:=f7 (ζ x1) (ζ (enc (.call a b))) (ζ old) (ζ (.dict (mkd ln))) (ζ (.list w)) (some w6) (some (.own (.dict (mkd c)))) j.1 j.2
inductive StepB(N:List Str)(m n:Nat)(x1 old:PyData)(ln:LP)(w:List PyData)(a b:Str)(w6:V)(c:LP)(j:Option V×Option V)(k:Str)(dy:PyData)(y:TT):Prop where
 |ref (h:c7 a b y=none) (e:∀ kn kr,(rb (ofP (aT f9 (.str k) (qS x1 old ln w a b w6 c j))) fun σ=>f8 n σ kn kr)=kr (.fz (.tuple [.str d9,.list (w++[.str k]),.str bK,dy]))):StepB N m n x1 old ln w a b w6 c j k dy y
 |ok (z:TT) (d':PyData) (j':Option V×Option V) (h:c7 a b y=some z) (s:Sem N m d' z) (e:∀ kn kr,(rb (ofP (aT f9 (.str k) (qS x1 old ln w a b w6 c j))) fun σ=>f8 n σ kn kr)=kn (qS x1 old ln w a b w6 (st c k d') j')):StepB N m n x1 old ln w a b w6 c j k dy y
theorem Rm{l ps:LP}{f:Str→Option TT}(B:Bld N m l f){a b:Str}(hb:(f b).isSome=true)(e3:∀ k,k∈ks ps↔∃ z∈ks l,k=if z=b then a else z)(e4:∀ p∈ps,p.1∈N∧∃ u,cP b a f p.1=some u∧Sem N m p.2 u):Bld N m (sts ps []) (cP b a f):=by
 refine(n9 (F:=cP b a f) Bld.nil e4).ext fun k=>?_
 by_cases hk:k∈ks ps
 ·rw[if_pos hk]
 ·rw[if_neg hk];have nk:∀ z,(f z).isSome=true→k≠if z=b then a else z:=fun z hz e=>hk ((e3 k).mpr ⟨z,B.mem.mpr hz,e⟩);unfold cP
  by_cases e:k=a
  ·exact absurd (e.trans (if_pos rfl).symm) (nk b hb)
  ·rw[if_neg e]
   by_cases e':k=b
   ·rw[if_pos e']
   ·rw[if_neg e'];exact ocs (f k) (fun z=>z.symm) fun u z=>absurd (if_neg e').symm (nk k (by rw[z];rfl))
theorem Rn(H:Wld N)(n:Nat){x1 old:PyData}{ln:LP}{w:List PyData}(hw:w.length < 1000){a b:Str}(ha:a∈N){w6:V}{c:LP}(hc:c.length < aV)(j:Option V×Option V){k:Str}{dy:PyData}{y:TT}(hk:lk ln k=some dy)(s:Sem N m dy y):StepB N m (n+1) x1 old ln w a b w6 c j k dy y:=by
 have hb:∀ kn kr,(rb (ofP (aT f9 (.str k) (qS x1 old ln w a b w6 c j))) fun σ=>f8 (n+1) σ kn kr)=ifS (unS .Not (.ok (.fz (.bool (c7 a b y).isSome)))) (kr (.fz (.tuple [.str d9,.list (w++[.str k]),.str bK,dy])))
   (rb (aL (plI (.ok (.fz dy))) (fun _=>.ok true) (fun d1=>aX [eS (aD (.ok (.fz d1)) .Eq (.ok (.fz (.str b)))) (.ok (.fz (.str a))) (.ok (.fz d1)),ofP (getItem dy d1)])) fun v2=>bC (aK bV (ofP (rdv (V.clear v2)))) (.ok (.dict (mkd c))) (.ok (.fz (.str k))) fun o3=>kn (f7 (ζ x1) (ζ (enc (.call a b))) (ζ old) (ζ (.dict (mkd ln))) (ζ (.list w)) (some w6) (some (.own o3)) (ζ (.str k)) (some (V.clear v2)))):=fun kn kr=>by
  unfold qS;rw[Nz,aO,aE,N0,bE hk];rw[show aG (rn (n+1) "_law_is_called") [.ok (.fz (enc (.call a b))),ofP (.ok (.fz dy))]=.ok (.fz (.bool (c7 a b y).isSome)) from Rl n a b s];rw[show aX [.ok (.fz (.str (so "refused"))),aB .Add (.ok (.fz (.list w))) (bR [.ok (.fz (.str k))]),.ok (.fz (.str (so "form"))),ofP (.ok (.fz dy))]=.ok (.fz (.tuple [.str d9,.list (w++[.str k]),.str bK,dy])) from by
   show aX [_,ofP (gF .Add w (.list [.str k])),_,_]=_;rw[lC _ hw];rfl]
  rfl
 revert hb hk
 refine s.by (fun m i hi hk hb=>?_) fun m l f B hk hb=>?_
 ·exact .ref (tZ a b i) fun kn kr=>(hb kn kr).trans (by rw[tZ];rfl)
 ·by_cases hcc:(f b).isSome=true∧f a=none
  ·have hp:c7 a b (.br f)=some (.br (cP b a f)):=(tY a b f).trans (dF hcc _);obtain⟨ps,e1,e2,e3,e4⟩:=Rd B (y:=b) ha hcc.2 (xs:=ks l) fun k hk=>hk;refine .ok (.br (cP b a f)) (.dict (mkd (sts ps []))) (some (.fz (.str k)),some (.fz (.list (ps.map cZ)))) hp (Rm B hcc.1 e3 e4).toSem fun kn kr=>(hb kn kr).trans ?_;rw[hp];show rb (rb (ofP (Mine.items (.dict (mkd l)))) fun x=>rb (aU (fun _=>.ok true) (fun d1=>aX [eS (aD (.ok (.fz d1)) .Eq (.ok (.fz (.str b)))) (.ok (.fz (.str a))) (.ok (.fz d1)),ofP (getItem (.dict (mkd l)) d1)]) x) fun r=>ofP (own (.list r))) _=_;rw[b6,aO,aE,e1];show bC (ofP (bV (.list (ps.map cZ)))) _ _ _=_;rw[zS (by rw[e2,d8];exact B.lt H (by decide))];show rb (ofP (Mine.setItem (.dict (mkd c)) (.str k) (.dict (mkd (sts ps []))))) _=_;rw[b7 k _ hc];rfl
  ·have hp:c7 a b (.br f)=none:=(tY a b f).trans (cN hcc _);exact .ref hp fun kn kr=>(hb kn kr).trans (by rw[hp];rfl)
inductive StepO(N:List Str)(m n:Nat)(x1 old:PyData)(ln:LP)(w:List PyData)(a b:Str)(w6:V)(q:Str→Option TT)(xs:List Str)(c:LP)(g:Str→Option TT)(j:Option V×Option V):Prop where
 |all (c':LP) (j':Option V×Option V) (h:∀ k∈xs,(cF a b q k).isSome=true) (B:Bld N m c' fun k=>if k∈xs then cF a b q k else g k) (e:∀ kn kr,aP (f8 n) f9 (xs.map .str) (qS x1 old ln w a b w6 c j) kn kr=kn (qS x1 old ln w a b w6 c' j')):StepO N m n x1 old ln w a b w6 q xs c g j
 |ref (q0 r0:List Str) (k:Str) (y:TT) (d:PyData) (e0:xs=q0++k::r0) (h:∀ i∈q0,(cF a b q i).isSome=true) (h2:q k=some y) (h3:c7 a b y=none) (s:Sem N m d y) (e:∀ kn kr,aP (f8 n) f9 (xs.map .str) (qS x1 old ln w a b w6 c j) kn kr=kr (.fz (.tuple [.str d9,.list (w++[.str k]),.str bK,d]))):StepO N m n x1 old ln w a b w6 q xs c g j
theorem Ro(H:Wld N)(n:Nat){x1 old:PyData}{ln:LP}{w:List PyData}(hw:w.length < 1000){a b:Str}(ha:a∈N){w6:V}{q:Str→Option TT}(C:Bld N m ln q) :
  ∀ {xs:List Str},(∀ k∈xs,k∈ks ln)→∀ {c:LP} {g:Str→Option TT} (j:Option V×Option V),Bld N m c g→StepO N m (n+1) x1 old ln w a b w6 q xs c g j:=by
 intro xs
 induction xs with
 |nil=>exact fun _ c g j hc=>.all c j (fun k hk=>cL hk) (hc.ext fun k=>by rw[if_neg List.not_mem_nil]) fun _ _=>rfl
 |cons k xs IH =>
  intro hx c g j hc;obtain⟨dy,y,b1,b2,b3⟩:=C.key (hx k List.mem_cons_self);have hF:cF a b q k=c7 a b y:=by unfold cF;rw[b2];rfl
  rcases Rn H n (x1:=x1) (old:=old) hw (b:=b) (w6:=w6) ha (hc.lt H (by decide)) j b1 b3 with ⟨h,e⟩ | ⟨z,d',j1,h,s,e⟩
  ·exact .ref [] xs k y dy rfl (fun i hi=>cL hi) b2 h b3 fun kn kr=>e _ kr
  ·rcases IH (fun i hi=>hx i (List.mem_cons_of_mem _ hi)) j1 (hc.set (C.sub k (hx k List.mem_cons_self)) s) with ⟨c',j',h1,B',e'⟩ | ⟨q0,r0,k',y',d1,e0,h1,h2,h3,s',e'⟩
   ·refine .all c' j' (fun i hi=>?_) (B'.ext fun i=>?_) fun kn kr=>(e _ kr).trans (e' kn kr)
    ·rcases List.mem_cons.mp hi with rfl | hi
     ·rw[hF,h];rfl
     ·exact h1 i hi
    ·by_cases hi:i∈xs
     ·rw[if_pos hi,if_pos (List.mem_cons_of_mem _ hi)]
     ·rw[if_neg hi]
      by_cases ei:i=k
      ·subst ei;rw[if_pos List.mem_cons_self,hF,h];simp only[upd,if_true]
      ·rw[if_neg (fun z=>(List.mem_cons.mp z).elim ei hi)];simp only[upd,if_neg ei]
   ·refine .ref (k::q0) r0 k' y' d1 (by rw[e0];rfl) (fun i hi=>?_) h2 h3 s' fun kn kr=>(e _ kr).trans (e' kn kr);rcases List.mem_cons.mp hi with rfl | hi
    ·rw[hF,h];rfl
    ·exact h1 i hi
end Mine
namespace Mine
open PySem
variable {N:List Str} {m:Nat}
theorem Rp(n:Nat)(v:WW):rn (n+1) "_law_order" [.fz (enc (.each v))]=.ok (.fz .none):=by kernel_rfl
theorem Rq(n:Nat)(r:WW):rn (n+1) "_law_order" [.fz (enc (.beside r))]=rb (aL (plI (.ok (.fz (enc r)))) (fun d1=>.ok true) (fun d1=>ofP (getItem d1 (.int 0)))) R.ok:=by kernel_rfl
theorem A4(a b:Str)(xs:List Str):enc (dH a b xs)=.tuple (xs.map fun k=>iC k k (.call a b)):=by
 unfold dH;rw[kX (tO _),Ay,List.map_map];rfl
theorem Rr(v:WW):∀ xs:List Str,aU (fun _=>.ok true) (fun d1=>ofP (getItem d1 (.int 0))) (xs.map fun k=>iC k k v)=.ok (xs.map .str):=by
 intro xs
 induction xs with
 |nil=>rfl
 |cons x xs ih =>
  show rb (aU _ _ (xs.map fun k=>iC k k v)) (fun r=>R.ok (PyData.str x::r))=_;rw[ih];rfl
theorem Rs(n:Nat)(a b:Str)(xs:List Str):rn (n+1) "_law_order" [.fz (enc (.beside (dH a b xs)))]=.ok (.own (bI xs)):=by
 rw[Rq,A4];show rb (rb (aU _ _ (xs.map fun k=>iC k k (.call a b))) fun r=>ofP (own (.list r))) R.ok=_;rw[Rr];rfl
theorem Rt(a b:List Str):aD (.ok (.own (.list (a.map .str)))) .NotEq (.ok (.own (.list (b.map .str))))=.ok (.fz (.bool (!(a==b)))):=by
 show aS (ofP (bU (eqO (bI a) (bI b))))=_;rw[show eqO (bI a) (bI b)=.ok (a==b) from lA a b];rfl
theorem Ru(v:WW):aJ (cB (bR [.ok (.fz (.str (so "form"))),.ok (.fz (.str (so "names")))])) (aK dS (aD (ofP (getItem (enc (.each v)) (.int 0))) .Eq (.ok (.fz (.str (so "each"))))))=.ok (.fz (.str gZ)):=by kernel_rfl
theorem Rv(r:WW):aJ (cB (bR [.ok (.fz (.str (so "form"))),.ok (.fz (.str (so "names")))])) (aK dS (aD (ofP (getItem (enc (.beside r)) (.int 0))) .Eq (.ok (.fz (.str (so "each"))))))=.ok (.fz (.str bK)):=by kernel_rfl
theorem Rw(e:Bool)(a b:Str)(xs:List Str):aJ (cB (bR [.ok (.fz (.str (so "form"))),.ok (.fz (.str (so "names")))])) (aK dS (aD (ofP (getItem (enc (pcW e a b xs)) (.int 0))) .Eq (.ok (.fz (.str (so "each"))))))=.ok (.fz (.str (kdP e))):=by
 cases e with
 |true=>exact Ru _
 |false=>exact Rv _
inductive OrdR(e:Bool)(n:Nat)(a b:Str)(xs:List Str)(ln:LP):Prop where
 |mk (v:V) (h:rn n "_law_order" [.fz (enc (pcW e a b xs))]=.ok v) (i:plI (eS (aD (ofP (rdv (V.clear v))) .Is (.ok (.fz .none))) (.ok (.own (.list ((aZ (ks ln)).map .str)))) (ofP (rdv (V.clear v))))=.ok ((jL e xs (ks ln)).map .str)):OrdR e n a b xs ln
theorem Rx(H:Wld N)(e:Bool)(n:Nat)(a b:Str)(xs:List Str){ln:LP}{q:Str→Option TT}(C:Bld N m ln q):OrdR e (n+1) a b xs ln:=by
 cases e with
 |true =>
  exact⟨_,Rp n _,rfl⟩
 |false=>exact⟨_,Rs n a b xs,rfl⟩
theorem Wy.add{w:List PyData}(h:Wy N w)(hl:w.length < 900){k:Str}(hk:k∈N):Wy N (w++[.str k]):=⟨by rw[List.length_append];exact hl,fun d hd=>by
 rcases List.mem_append.mp hd with hd | hd
 ·exact h.e d hd
 ·exact .inl ⟨k,hk,List.mem_singleton.mp hd⟩⟩
theorem A5(H:Wld N)(n:Nat)(e:Bool){a b:Str}(ha:a∈N){xs:List Str}{mo:Nat}{lo:LP}{fo f:Str→Option TT}(Bo:Bld N mo lo fo)(hfo:∀ k,(fo k).isSome=true↔k∈xs)(hf:∀ k,(f k).isSome=true↔k∈xs){d:PyData}{t:TT}(hd:Sem N m d t){w:List PyData}(hy:Wy N w)(hl:w.length < 900) :
  BackR N m (aI (pcW e a b xs) (.br f) t) (aR (pcW e a b xs) (.br f) t w) (rn (n+2) "_law_step" [.fz (enc (pcW e a b xs)),.fz (enc (.call a b)),.fz (.dict (mkd lo)),.fz d,.fz (.list w)]):=by
 rw[Ny];refine hd.by (fun m i hi=>?_) fun m ln q C=>?_
 ·obtain⟨h1,h2⟩:=Rh e a b xs (.br f) i w;rw[h1,h2];exact .ref (.int i) rfl rfl (.num hi) hy
 rw[lE H C,lE H Bo,Rt,oJ C.nd Bo.nd];have hiff:(∀ k,k∈ks ln↔k∈ks lo)↔∀ k,(q k).isSome=(f k).isSome:=⟨fun h k=>by have:=h k;rw[C.mem,Bo.mem,hfo,← hf] at this;exact Bool.eq_iff_iff.mpr this,fun h k=>by rw[C.mem,Bo.mem,hfo,← hf,h k]⟩
 by_cases hc:∀ k,(q k).isSome=(f k).isSome
 case neg =>
  obtain⟨h1,h2⟩:=Ri e (a:=a) (b:=b) (w:=w) hf hc;rw[dR.mpr fun h=>hc (hiff.mp h),h1,h2,Rw];exact .ref (.dict (mkd ln)) rfl rfl C.toSem hy
 rw[cQ.mpr (hiff.mpr hc)];obtain⟨v,e1,e2⟩:=Rx H e n a b xs C;have hm:∀ k,k∈jL e xs (ks ln)↔k∈xs:=fun k=>by
  cases e with
  |true=>exact cT.trans (C.mem.trans (by rw[hc k];exact hf k))
  |false=>exact Iff.rfl
 have L:=Ro H n (x1:=enc (pcW e a b xs)) (old:=.dict (mkd lo)) (w:=w) (b:=b) (w6:=v.clear) (Nat.lt_trans hl (by decide)) ha C (xs:=jL e xs (ks ln)) (fun k hk=>C.mem.mpr (by rw[hc k];exact(hf k).mpr ((hm k).mp hk))) (none,none) Bld.nil;show BackR N (m+1) _ _ (rb (rn (n+1) "_law_order" [.fz (enc (pcW e a b xs))]) fun v1=>rb (plI (eS (aD (ofP (rdv (V.clear v1))) .Is (.ok (.fz .none))) (.ok (.own (.list ((aZ (ks ln)).map .str)))) (ofP (rdv (V.clear v1))))) fun l2=>_);rw[e1,aE,e2,aE];show BackR N (m+1) _ _ (aP (f8 (n+1)) f9 ((jL e xs (ks ln)).map .str) (qS (enc (pcW e a b xs)) (.dict (mkd lo)) ln w a b v.clear [] (none,none)) _ _);rcases L with ⟨c',j',h1,B',e3⟩ | ⟨q0,r0,k,y,dy,e0,h1,h2,h3,s,e3⟩
 ·rw[e3,Rj e hf hc fun k hk=>h1 k ((hm k).mpr hk)];refine .tree _ (.dict (mkd c')) rfl ?_ (B'.ext fun k=>?_).toSem
  ·unfold qS;rw[N1];rfl
  ·by_cases hk:k∈jL e xs (ks ln)
   ·rw[if_pos hk]
   ·rw[if_neg hk];have h4:(q k).isSome≠true:=fun h=>hk ((hm k).mpr ((hf k).mp (by rw[← hc k];exact h)));unfold cF;exact ocs (q k) (fun e=>by rw[e];rfl) fun u e=>absurd (by rw[e];rfl) h4
 ·obtain⟨g1,g2⟩:=Rk e (w:=w) hf hc (ys:=ks ln) (fun k=>C.mem) C.nd e0 h1 h2 h3;rw[e3,g1,g2];exact .ref dy rfl rfl (s.mono (Nat.le_succ _)) (hy.add hl (C.sub k (C.mem.mpr (by rw[h2];rfl))))
end Mine
namespace Mine
open PySem
variable {N:List Str} {m:Nat}
structure KdOk(k:Str):Prop where
 t:k≠e9
 l:k.cps.size≤8
 c:(k.cps.toList.all fun c=>decide (c < 16 ^ 8))=true
theorem fA:KdOk bK:=⟨by decide +kernel,by decide +kernel,by decide +kernel⟩
theorem Ry:KdOk eW:=⟨by decide +kernel,by decide +kernel,by decide +kernel⟩
theorem Rz:KdOk gZ:=⟨by decide +kernel,by decide +kernel,by decide +kernel⟩
theorem A6(p:Prop):KdOk (frm p eW):=by
 by_cases hp:p
 ·rw[sX hp];exact Ry
 ·rw[kQ hp];exact fA
theorem R0:∀ {w:WW} {t b:TT} {wl:List PyData},KdOk (aR w t b wl).kind:=by
 intro w
 induction w with
 |sift a l=>intro t b wl;exact A6 _
 |join x y fs=>intro t b wl;exact A6 _
 |each v ih =>
  intro t b wl;cases b with
  |num i=>exact fA
  |br q =>
   show KdOk (sel (∀ k,(q k).isSome=(t.get k).isSome) (((t.get (dC v t.get q)).bind fun x=>(q (dC v t.get q)).map fun y=>aR v x y (wl++[.str (dC v t.get q)])).getD ⟨wl,bK,.br q⟩) ⟨wl,gZ,.br q⟩).kind
   by_cases hc:∀ k,(q k).isSome=(t.get k).isSome
   ·rw[jA hc];cases t.get (dC v t.get q) with
    |none=>exact fA
    |some x =>
     cases q (dC v t.get q) with
     |none=>exact fA
     |some y=>exact ih
   ·rw[jB hc];exact Rz
 |andThen x y ihx ihy =>
  intro t b wl;show KdOk ((aW x t).elim _ _:Rf).kind;cases aW x t with
  |none=>exact fA
  |some mt =>
   show KdOk ((aI y mt b).elim _ _:Rf).kind;cases aI y mt b with
   |none=>exact ihy
   |some z=>exact ihx
 |beside r ih =>
  intro t b wl;cases b with
  |num i=>exact fA
  |br q =>
   show KdOk (sel (∀ k,(q k).isSome=true↔k∈r.names) (aR r t (.br q) wl) ⟨wl,bK,.br q⟩).kind
   by_cases hc:∀ k,(q k).isSome=true↔k∈r.names
   ·rw[jA hc];exact ih
   ·rw[jB hc];exact fA
 |bcons x p v r ihv ihr =>
  intro t b wl;show KdOk ((t.get p).elim _ _:Rf).kind;cases t.get p with
  |none=>exact fA
  |some o =>
   show KdOk ((b.get x).elim _ _:Rf).kind;cases b.get x with
   |none=>exact fA
   |some y =>
    show KdOk ((aI v o y).elim _ _:Rf).kind;cases aI v o y with
    |none=>exact ihv
    |some z=>exact ihr
 |_=>intro t b wl;exact fA
structure Brf(l:List PyData):Prop where
 a:PyData.leavesShortAll 8 l=true
 w:PyData.weightAll l≤9*l.length
 f:l.all fP=true
theorem R1(H:Wld N){l:List PyData}(h:∀ d∈l,(∃ s,s∈N∧d=.str s)∨d=.int 0∨d=.int 1):Brf l:=by
 induction l with
 |nil=>exact⟨rfl,Nat.le_refl _,rfl⟩
 |cons d l ih =>
  obtain⟨a,w,f⟩:=ih fun d hd=>h d (List.mem_cons_of_mem _ hd);have key:d.leavesShort 8=true∧d.weight≤8∧fP d=true:=by
   rcases h d List.mem_cons_self with ⟨s,hs,rfl⟩ | rfl | rfl
   ·have ok:=H.ok s hs;exact⟨List.all_eq_true.mpr fun c hc=>decide_eq_true (ok.let_ c hc).2,ok.hi,rfl⟩
   ·exact⟨by decide +kernel,by decide +kernel,rfl⟩
   ·exact⟨by decide +kernel,by decide +kernel,rfl⟩
  obtain⟨k1,k2,k3⟩:=key;refine⟨?_,?_,?_⟩
  ·show(d.leavesShort 8&&PyData.leavesShortAll 8 l)=true;simp only[k1,a];rfl
  ·show d.weight+1+PyData.weightAll l≤9*(l.length+1);simp only[Nat.mul_succ,Nat.add_comm (9*l.length)];exact Nat.add_le_add (Nat.succ_le_succ k2) w
  ·show(fP d&&l.all fP)=true;simp only[k3,f];rfl
theorem R2(H:Wld N){l:List PyData}(h:Wy N l){k:Str}(hk:KdOk k):gG (.tuple [.list l,.str k])=.ok (.fz (.str (PyData.shown (.tuple [.list l,.str k])))):=by
 obtain⟨a,w,f⟩:=R1 H h.e;refine if_pos ⟨?_,PyData.shown_fits (B:=8) (by decide) (by decide) ?_ ?_⟩
 ·show(l.all fP&&(true&&true))=true;rw[f];rfl
 ·show(PyData.leavesShortAll 8 l&&((k.cps.toList.all fun c=>decide (c < 16 ^ 8))&&true))=true;rw[a,hk.c];rfl
 ·show PyData.weightAll l+1+(k.cps.size+1+0)≤2 ^ 20;have h1:=h.l;have h2:=hk.l;have:(2:Nat) ^ 20=1048576:=by decide
  exact Ed w h1 h2 this
inductive TriedR(N:List Str)(m:Nat)(o:Option TT)(x:Rf)(r:R V):Prop where
 |tree (t:TT) (d:PyData) (h:o=some t) (e:r=.ok (.fz (.tuple [.str e9,d]))) (g:Sem N m d t):TriedR N m o x r
 |ref (d:PyData) (h:o=none) (e:r=.ok (.fz (.tuple [.str d9,.list x.way,.str x.kind,d]))) (g:Sem N m d x.part):TriedR N m o x r
theorem R3{v:V}{d:PyData}(h:v.clear=.fz d):aX [.ok (.fz (.str e9)),.ok v]=.ok (.fz (.tuple [.str e9,d])):=by
 show R.ok (V.fz (.tuple [.str e9,dOf v.clear]))=_;rw[h];rfl
theorem R4(w:List PyData)(k:Str)(dp:PyData):rW BB (so "BadPut") (.exc (BP (.list w) (.str k) dp)) (fun y1=>(aX [(.ok (.fz (.str (so "refused")))),(iW BB y1 (so "way")),(iW BB y1 (so "kind")),(iW BB y1 (so "part"))])) R.ok=.ok (.fz (.tuple [.str d9,.list w,.str k,dp])):=by kernel_rfl
theorem R5(H:Wld N){w:WW}(ho:okW N w)(hr:w.isRows=false){n:Nat}{o d:PyData}{to tn:TT}(hn:3*w.hgt+m+w.grow+10≤n)(hh:w.hgt≤900)(hO:Sem N m o to)(hD:Sem N m d tn){s:TT}(hs:aW w to=some s):TriedR N (m+w.grow) (aI w to tn) (aR w to tn []) (rn (n+1) "_law_told" [.fz (enc w),.fz o,.fz d]):=by
 have hp:=Qk H ho hr hn hh hO hD hs;rw[N3];refine ocs (aI w to tn) (fun hpt=>?_) fun r hpt=>?_
 ·rw[hpt] at hp;obtain⟨dp,hp,hdp⟩:=hp;rw[hp];exact .ref dp hpt (R4 ..) hdp
 ·rw[hpt] at hp;obtain⟨v,d',e1,e2,e3⟩:=hp;rw[e1];refine .tree r d' hpt ?_ e3;show rW BB _ (aX [.ok (.fz (.str e9)),.ok v]) _ _=_;rw[R3 e2];rfl
theorem oR{r:R V}(h:r=.ok (.fz (.bool true))):unS .Not r=.ok (.fz (.bool false)):=by rw[h];rfl
theorem t6{l:List PyData}(d:PyData)(h:l.length < aV):dJ (so "append") (.list l) [d]=.ok (.list (l++[d])):=by
 show(if l.length < aV then P.ok (PyData.list (l++[d])) else .no)=_;rw[if_pos h]
theorem A7(n k:Nat):clipAt n (k:Int)=min k n:=by
 rcases Nat.le_total k n with h | h
 ·simp only[Aq (Int.natCast_nonneg k) (Int.ofNat_le.mpr h),Int.toNat_natCast,Nat.min_eq_left h]
 ·simp only[Ar (Int.natCast_nonneg k) (Int.ofNat_le.mpr h),Nat.min_eq_right h]
theorem R6(s:List Int)(lo hi:Option Int):slice (s.map PyData.int) lo hi=(slice s lo hi).map .int:=by
 unfold slice;rw[List.length_map,List.map_take,List.map_drop]
inductive AnsR(n:Nat)(r1 r2:R V):Prop where
 |mk (a b:PyData) (h1:r1=.ok (.fz a)) (h2:r2=.ok (.fz b)) (e:rn n "_law_is_due" [.fz a,.fz b]=.ok (.fz (.bool true))):AnsR n r1 r2
theorem R7(H:Wld N){m' n:Nat}{d d':PyData}{t:TT}(g:Sem N m d t)(g':Sem N m' d' t)(hn:m+m'≤n):rn (n+2) "_law_is_due" [.fz (.tuple [.str e9,d]),.fz (.tuple [.str e9,d'])]=.ok (.fz (.bool true)):=by
 rw[zF];show rb (rn (n+1) "_law_same" [.fz d,.fz d']) R.ok=_;rw[oN H (g.mono (Nat.le_add_right m m')) (g'.mono (Nat.le_add_left m' m)) hn];rfl
theorem R8(H:Wld N){m' n:Nat}{x:Rf}{d d':PyData}(g:Sem N m d x.part)(g':Sem N m' d' x.part)(hy:Wy N x.way)(hk:KdOk x.kind)(hn:m+m'≤n):rn (n+2) "_law_is_due" [.fz (.tuple [.str d9,.list x.way,.str x.kind,d]),.fz (.tuple [.str d9,.list x.way,.str x.kind,d'])]=.ok (.fz (.bool true)):=by
 rw[zF];show rb (aY (.ok (.fz (.bool true))) (aY (aD (ofP (gG (.tuple [.list x.way,.str x.kind]))) .Eq (ofP (gG (.tuple [.list x.way,.str x.kind])))) (rn (n+1) "_law_same" [.fz d,.fz d']))) R.ok=_;rw[R2 H hy hk,oN H (g.mono (Nat.le_add_right m m')) (g'.mono (Nat.le_add_left m' m)) hn];show rb (aY (.ok (.fz (.bool true))) (aY (.ok (.fz (.bool (PyData.shown (.tuple [.list x.way,.str x.kind])==PyData.shown (.tuple [.list x.way,.str x.kind]))))) (.ok (.fz (.bool true))))) R.ok=_;rw[beq_self_eq_true];rfl
theorem R9(H:Wld N){m' n:Nat}{o:Option TT}{x:Rf}{r1 r2:R V}(h1:TriedR N m o x r1)(h2:BackR N m' o x r2)(hk:KdOk x.kind)(hn:m+m'≤n):AnsR (n+2) r1 r2:=by
 rcases h1 with ⟨t,d,rfl,rfl,g⟩ | ⟨d,rfl,rfl,g⟩
 ·rcases h2 with ⟨t',d',h',rfl,g'⟩ | ⟨d',h',_,_,_⟩
  ·obtain rfl:=si h';exact⟨_,_,rfl,rfl,R7 H g g' hn⟩
  ·exact sn h'
 ·rcases h2 with ⟨t',d',h',_,_⟩ | ⟨d',_,rfl,g',hy⟩
  ·exact ns h'
  ·exact⟨_,_,rfl,rfl,R8 H g g' hy hk hn⟩
theorem Sa(H:Wld N)(n:Nat)(e:Bool){a0 b0 a1 b1:Str}(h0:a0∈N)(h1:a1∈N){xs:List Str}{mo:Nat}{lo:LP}{fo fm:Str→Option TT}(Bo:Bld N mo lo fo)(hfo:∀ k,(fo k).isSome=true↔k∈xs)(hs:aW (pcW e a0 b0 xs) (.br fo)=some (.br fm))(hfm:∀ k,(fm k).isSome=true↔k∈xs){d:PyData}{t:TT}(hd:Sem N m d t) :
  BackR N m (aI (.andThen (pcW e a0 b0 xs) (pcW e a1 b1 xs)) (.br fo) t) (aR (.andThen (pcW e a0 b0 xs) (pcW e a1 b1 xs)) (.br fo) t []) (rn (n+3) "_law_due" [.fz (enc (.andThen (pcW e a0 b0 xs) (pcW e a1 b1 xs))),.fz (.list [enc (.call a0 b0),enc (.call a1 b1)]),.fz (.dict (mkd lo)),.fz d]):=by
 have y1:Wy N [.int 1]:=⟨by decide,fun d hd=>.inr (.inr (List.mem_singleton.mp hd))⟩
 have y0:Wy N [.int 0]:=⟨by decide,fun d hd=>.inr (.inl (List.mem_singleton.mp hd))⟩
 have S1:=A5 H n e (b:=b1) h1 Bo hfo hfm hd y1 (by decide);have hp:aI (.andThen (pcW e a0 b0 xs) (pcW e a1 b1 xs)) (.br fo) t=(aI (pcW e a1 b1 xs) (.br fm) t).bind fun mid=>aI (pcW e a0 b0 xs) (.br fo) mid:=by
  show((aW (pcW e a0 b0 xs) (.br fo)).bind fun m=>_)=_;rw[hs];rfl
 have hr:aR (.andThen (pcW e a0 b0 xs) (pcW e a1 b1 xs)) (.br fo) t []=(aI (pcW e a1 b1 xs) (.br fm) t).elim (aR (pcW e a1 b1 xs) (.br fm) t [.int 1]) fun mid=>aR (pcW e a0 b0 xs) (.br fo) mid [.int 0]:=by
  show(aW (pcW e a0 b0 xs) (.br fo)).elim _ _=_;rw[hs];rfl
 rw[hp,hr,N2];show BackR N m _ _ (rb (rn (n+2) "_law_step" [.fz (enc (pcW e a1 b1 xs)),.fz (enc (.call a1 b1)),.fz (.dict (mkd lo)),.fz d,.fz (.list [.int 1])]) _);rcases S1 with ⟨z,dz,g1,g2,g3⟩ | ⟨dz,g1,g2,g3,g4⟩
 ·rw[g1,g2,aE];show BackR N m (aI (pcW e a0 b0 xs) (.br fo) z) (aR (pcW e a0 b0 xs) (.br fo) z [.int 0]) (rb (rn (n+2) "_law_step" [.fz (enc (pcW e a0 b0 xs)),.fz (enc (.call a0 b0)),.fz (.dict (mkd lo)),.fz dz,.fz (.list [.int 0])]) R.ok);exact(A5 H n e (b:=b0) h0 Bo hfo hfo g3 y0 (by decide)).rb
 ·rw[g1,g2,aE];exact .ref dz rfl rfl g3 g4
end Mine
namespace Mine
open PySem
variable {N:List Str} {m:Nat}
structure Nm9(N:List Str)(a5 a6 a7 a8:Str):Prop where
 g5:N[5]?=some a5
 g6:N[6]?=some a6
 g7:N[7]?=some a7
 g8:N[8]?=some a8
inductive NmX(N:List Str):Prop where
 |mk (a5 a6 a7 a8:Str) (h:Nm9 N a5 a6 a7 a8):NmX N
theorem Sb(H:Wld N):NmX N:=by
 have g:∀ i,i < 14→N[i]?=some (N[i]?.getD bK):=fun i hi=>by
  rw[List.getElem?_eq_getElem (by rw[H.len];exact hi)];rfl
 exact⟨_,_,_,_,g 5 (by decide),g 6 (by decide),g 7 (by decide),g 8 (by decide)⟩
theorem cK(H:Wld N){i j:Nat}{x y:Str}(hx:N[i]?=some x)(hy:N[j]?=some y)(h:i≠j):x≠y:=fun e=>by
 obtain⟨p1,p2⟩:=List.getElem?_eq_some_iff.mp hx;obtain⟨q1,q2⟩:=List.getElem?_eq_some_iff.mp hy;exact h ((List.getElem_inj (h₀:=p1) (h₁:=q1) H.nd).mp (p2.trans (e.trans q2.symm)))
theorem jM{i:Nat}{x:Str}(hx:N[i]?=some x):x∈N:=List.mem_of_getElem? hx
theorem jN{i:Int}{x:Str}(h0:0≤i)(h:N[i.toNat]?=some x):getItem (NL N) (.int i)=.ok (.fz (.str x)):=lD h0 (by rw[List.getElem?_map,h];rfl)
inductive RowOk(a b c d:Str)(t:TT):Prop where
 |mk (g:Str→Option TT) (e:t=.br g) (ha:(g a).isSome=true) (hb:(g b).isSome=true) (hc:g c=none) (hd:g d=none):RowOk a b c d t
theorem RowOk.swap{a b c d:Str}{t:TT}(h:RowOk a b c d t):RowOk b a c d t:=by
 obtain⟨g,e,h1,h2,h3,h4⟩:=h;exact⟨g,e,h2,h1,h3,h4⟩
theorem A8:∀ (l:LP) (x:Str) (d:PyData),0 < (st l x d).length∧(st l x d).length≤l.length+1:=by
 intro l x d
 induction l with
 |nil=>exact⟨Nat.one_pos,Nat.le_refl _⟩
 |cons p r ih =>
  show 0 < (if x=p.1 then (p.1,d)::r else p::st r x d).length∧(if x=p.1 then (p.1,d)::r else p::st r x d).length≤r.length+1+1
  by_cases h:x=p.1
  ·rw[if_pos h];exact⟨Nat.succ_pos _,Nat.le_succ _⟩
  ·rw[if_neg h];exact⟨Nat.succ_pos _,Nat.succ_le_succ ih.2⟩
theorem iD(f:Str→Option TT)(k:Str)(x:Option TT):upd f k x k=x:=by unfold upd;rw[if_pos rfl]
theorem dD{f:Str→Option TT}{j k:Str}{x:Option TT}(h:j≠k):upd f k x j=f j:=by unfold upd;rw[if_neg h]
noncomputable def rS(c:Int)(N:List Str)(l:LP)(j:Option V):aA:=gY (ζ (.int c)) (ζ (NL N)) (some (.own (.dict (mkd l)))) j
theorem Sc{E I C E' I' J:R V}{l r:LP}{x y:Str}{b:Bool}{v':V}{d':PyData}(hE:E=.ok (.own (.dict (mkd r))))(hl:l.length < aV)(hr:r.length < aV)(hI:I=.ok (.fz (.str x)))(hC:C=.ok (.fz (.bool b)))(hE':E'=.ok v')(hv:v'.clear=.fz d')(hI':I'=.ok (.fz (.str x)))(hJ:J=.ok (.fz (.str y)))(kn:PyData→R V) :
  yR E (.dict (mkd l)) I C E' I' J kn=kn (.dict (mkd (st l x (.dict (mkd (if b then st r y d' else r)))))):=by
 rw[hE,hI,hC,hE',hI',hJ];show(if (mkd l).length < aV then _ else R.no)=_;rw[s6,if_pos hl];cases b with
 |false =>
  show kn (.dict (bY (mkd l) x (.dict (mkd r))))=_;rw[n0];rfl
 |true =>
  show(if x=x then rb (ofP (Mine.setItem (.dict (mkd r)) (.str y) (dOf v'))) (fun d'=>kn (.dict (bY (mkd l) x d'))) else R.no)=_;rw[if_pos rfl,eF hv,b7 y d' hr];show kn (.dict (bY (mkd l) x (.dict (mkd (st r y d')))))=_;rw[n0];rfl
inductive RowR(N:List Str)(a b c d:Str)(n:Nat)(cc:Int)(l:LP)(j:Option V)(k:Int):Prop where
 |mk (x:Str) (dr:PyData) (t:TT) (hx:x∈N) (ok:RowOk a b c d t) (s:Sem N 2 dr t) (e:∀ kn kr,(rb (ofP (aT kK (.int k) (rS cc N l j))) fun σ=>kJ n σ kn kr)=kn (rS cc N (st l x dr) (ζ (.int k)))):RowR N a b c d n cc l j k
theorem Sd(H:Wld N)(n:Nat){a b c d:Str}(Q:Nm9 N a b c d)(cc:Int){l:LP}(hl:l.length < aV)(j:Option V){k:Int}(hk:0≤k∧k < 5):RowR N a b c d n cc l j k:=by
 have r5:=bA (k+cc.fdiv 4) (n:=5) (by decide);have r9:=bA (cc.fdiv 20) (n:=9) (by decide);obtain⟨x,hx,ix,gx⟩:=gD H (i:=9+(k+cc.fdiv 4).fmod 5) (by lia);obtain⟨x0,hx0,ix0,gx0⟩:=gD H (i:=0) (by decide);obtain⟨x1,hx1,ix1,gx1⟩:=gD H (i:=1) (by decide);have e5:getItem (NL N) (.int 5)=.ok (.fz (.str a)):=jN (by decide) Q.g5;have e6:getItem (NL N) (.int 6)=.ok (.fz (.str b)):=jN (by decide) Q.g6;have s1:Sem N 1 (.int ((cc.fdiv 20).fmod 9+k)) (.num ((cc.fdiv 20).fmod 9+k)):=.num (by unfold big;omega);have s2:Sem N 1 (.int k) (.num k):=.num (by unfold big;omega);have s7:Sem N 1 (.dict (mkd (st [] x1 (.int 7)))) (.br (upd (fun _=>none) x1 (some (.num 7)))):=(Bld.nil.set hx1 (.num (by decide))).toSem;have B2:Bld N 1 (sts [(a,.int ((cc.fdiv 20).fmod 9+k)),(b,.int k)] []) (upd (upd (fun _=>none) a (some (.num ((cc.fdiv 20).fmod 9+k)))) b (some (.num k))):=(Bld.nil.set (jM Q.g5) s1).set (jM Q.g6) s2;have nca:=cK H Q.g7 Q.g5 (by decide);have ncb:=cK H Q.g7 Q.g6 (by decide);have nda:=cK H Q.g8 Q.g5 (by decide);have ndb:=cK H Q.g8 Q.g6 (by decide);have nab:=cK H Q.g5 Q.g6 (by decide);have fa:((upd (upd (fun _=>none) a (some (.num ((cc.fdiv 20).fmod 9+k)))) b (some (.num k))) a).isSome=true:=by rw[dD nab,iD];rfl
 have fb:((upd (upd (fun _=>none) a (some (.num ((cc.fdiv 20).fmod 9+k)))) b (some (.num k))) b).isSome=true:=by rw[iD];rfl
 have fc:(upd (upd (fun _=>none) a (some (.num ((cc.fdiv 20).fmod 9+k)))) b (some (.num k))) c=none:=by rw[dD ncb,dD nca]
 have fd:(upd (upd (fun _=>none) a (some (.num ((cc.fdiv 20).fmod 9+k)))) b (some (.num k))) d=none:=by rw[dD ndb,dD nda]
 generalize (upd (upd (fun _=>none) a (some (.num ((cc.fdiv 20).fmod 9+k)))) b (some (.num k)))=g at B2 fa fb fc fd;have hb:∀ kn kr,(rb (ofP (aT kK (.int k) (rS cc N l j))) fun σ=>kJ n σ kn kr)=kn (rS cc N (st l x (.dict (mkd (if ((cc.fdiv 180).fmod 3==k) then st (sts [(a,.int ((cc.fdiv 20).fmod 9+k)),(b,.int k)] []) x0 (.dict (mkd (st [] x1 (.int 7)))) else sts [(a,.int ((cc.fdiv 20).fmod 9+k)),(b,.int k)] [])))) (ζ (.int k))):=fun kn kr=>by
  unfold rS;rw[Np,aO,aE,Nq,e5,e6,gx0,gx1];have eI:aJ (.ok (NL N)) (aB .Add (.ok (.fz (.int 9))) (aB .Mod (aB .Add (.ok (.fz (.int k))) (ofP (aH .FloorDiv (.int cc) (.int 4)))) (.ok (.fz (.int 5)))))=.ok (.fz (.str x)):=(by kernel_rfl:_=ofP (getItem (NL N) (.int (9+(k+cc.fdiv 4).fmod 5)))).trans (by rw[gx];rfl);exact Sc (Qz a b (v1:=.fz (.int ((cc.fdiv 20).fmod 9+k))) (by kernel_rfl) rfl (r2:=.ok (.fz (.int k))) rfl rfl) hl (B2.lt H (by decide)) eI (b:=(cc.fdiv 180).fmod 3==k) (by kernel_rfl) (Ax x1 (r:=.ok (.fz (.int 7))) rfl rfl) rfl eI rfl _
 cases hc:(cc.fdiv 180).fmod 3==k with
 |false =>
  rw[hc] at hb;exact⟨x,_,_,hx,⟨g,rfl,fa,fb,fc,fd⟩,B2.toSem,hb⟩
 |true =>
  rw[hc] at hb;exact⟨x,_,_,hx,⟨_,rfl,by rw[dD (cK H Q.g5 ix0 (by decide))];exact fa,by rw[dD (cK H Q.g6 ix0 (by decide))];exact fb,by rw[dD (cK H Q.g7 ix0 (by decide))];exact fc,by rw[dD (cK H Q.g8 ix0 (by decide))];exact fd⟩,(B2.set hx0 s7).toSem,hb⟩
structure RowsT(N:List Str)(a b c d:Str)(l:LP)(f:Str→Option TT):Prop where
 B:Bld N 2 l f
 ok:∀ k t,f k=some t→RowOk a b c d t
theorem RowsT.set{a b c d:Str}{l:LP}{f:Str→Option TT}(h:RowsT N a b c d l f){x:Str}{dr:PyData}{t:TT}(hx:x∈N)(ok:RowOk a b c d t)(s:Sem N 2 dr t):RowsT N a b c d (st l x dr) (upd f x (some t)):=⟨h.B.set hx s,fun k u hu=>by
 by_cases e:k=x
 ·rw[e,iD] at hu;obtain rfl:=si hu;exact ok
 ·rw[dD e] at hu;exact h.ok k u hu⟩
inductive RowsG(N:List Str)(a b c d:Str)(P:LP→Prop):Prop where
 |mk (l:LP) (f:Str→Option TT) (T:RowsT N a b c d l f) (h0:0 < l.length) (h:l.length≤5) (p:P l):RowsG N a b c d P
theorem Se(H:Wld N)(n:Nat){a b c d:Str}(Q:Nm9 N a b c d)(cc:Int)(kn:KN)(kr:KR):∀ (q:Nat) (i:Nat) {l:LP} {f:Str→Option TT} (j:Option V),RowsT N a b c d l f→l.length≤i→i+q≤5→0 < l.length+q →
  RowsG N a b c d fun l'=>∃ j',aP (kJ n) kK (cR i q) (rS cc N l j) kn kr=kn (rS cc N l' j'):=by
 intro q
 induction q with
 |zero=>exact fun i l f j T h1 h2 h3=>⟨l,f,T,h3,Nat.le_trans h1 h2,j,rfl⟩
 |succ q ih =>
  intro i l f j T h1 h2 h3;obtain⟨x,dr,t,hx,ok,s,e⟩:=Sd H n Q cc (T.B.lt H (by decide)) j (k:=i) (by lia);obtain⟨p1,p2⟩:=A8 l x dr;obtain⟨l',f',T',q0,q1,j',e'⟩:=ih (i+1) (ζ (.int i)) (T.set hx ok s) (by lia) (by lia) (by lia);exact⟨l',f',T',q0,q1,j',(e _ kr).trans e'⟩
theorem Sf(H:Wld N)(n:Nat){a b c d:Str}(Q:Nm9 N a b c d)(cc:Int):RowsG N a b c d fun l=>rn (n+1) "_law_rows" [.fz (.int cc),.fz (NL N)]=.ok (.own (.dict (mkd l))):=by
 have r4:=bA cc (n:=4) (by decide);obtain⟨l,f,T,h0,h1,j,e⟩:=Se H n Q cc (fun σ=>sQ n σ (fun _=>R.ok (.fz .none)) R.ok) R.ok (2+cc.fmod 4).toNat 0 (l:=[]) none ⟨Bld.nil,fun k t h=>ns h⟩ (Nat.le_refl _) (by lia) (by simp only[List.length_nil];lia);refine⟨l,f,T,h0,h1,?_⟩;rw[No];have hr:rgI (aB .Add (.ok (.fz (.int 2))) (ofP (aH .Mod (.int cc) (.int 4))))=.ok (cR 0 (2+cc.fmod 4).toNat):=by
  rw[hY _ (by decide)];show ofP (if -4096≤2+cc.fmod 4∧2+cc.fmod 4≤4096 then P.ok (cR 0 (2+cc.fmod 4).toNat) else .no)=_;rw[if_pos (by lia)];rfl
 rw[hr,aE];refine Eq.trans e ?_;unfold rS;rw[Nr]
end Mine
namespace Mine
open PySem
variable {N:List Str} {m:Nat}
noncomputable def fN(S:List Str)(q:Int)(d:PyData):R V:=aJ (.ok (bI S)) (aB .Mod (aB .Add (.ok (.fz d)) (.ok (.fz (.int q)))) (aK bO (.ok (.fz (bI S)))))
theorem Sg{S:List Str}{q:Int}{i:Int}(hS:0 < S.length):∃ x,x∈S∧S[((i+q).fmod (S.length:Int)).toNat]?=some x∧fN S q (.int i)=.ok (.fz (.str x)):=by
 obtain⟨x,h1,h2,h3⟩:=Q6 (xs:=S) (a:=i+q) rfl (Int.natCast_pos.mpr hS);refine⟨x,h1,h2,?_⟩;have hl:bO (bI S)=.ok (.fz (.int S.length)):=by
  show P.ok (V.fz (.int (S.map PyData.str).length))=_;rw[List.length_map]
 show rb (rb (ofP (bO (bI S))) fun b=>ofP (aH .Mod (.int (i+q)) (dOf b))) (fun j=>ofP (getItem (bI S) (dOf j)))=_;rw[hl];show rb (ofP (aH .Mod (.int (i+q)) (.int S.length))) (fun j=>ofP (getItem (bI S) (dOf j)))=_;rw[hY _ (Int.ne_of_gt (Int.natCast_pos.mpr hS))];exact congrArg ofP h3
inductive TurnR(S:List Str)(q:Int)(i:Int)(p:Nat):Prop where
 |mk (ys:List Str) (e:aU (fun _=>.ok true) (fN S q) (cR i p)=.ok (ys.map .str)) (l:ys.length=p) (h:∀ (j:Nat) y,ys[j]?=some y→y∈S∧S[((i+q+j).fmod (S.length:Int)).toNat]?=some y):TurnR S q i p
theorem Sh{S:List Str}{q:Int}(hS:0 < S.length):∀ (p:Nat) (i:Int),TurnR S q i p:=by
 intro p
 induction p with
 |zero=>exact fun i=>⟨[],rfl,rfl,fun j y h=>by rw[List.getElem?_nil] at h;exact ns h⟩
 |succ p ih =>
  intro i;obtain⟨ys,e,l,h⟩:=ih (i+1);obtain⟨x,h1,h2,h3⟩:=Sg (q:=q) (i:=i) hS;refine⟨x::ys,?_,congrArg Nat.succ l,fun j y hy=>?_⟩
  ·show rb (nx (fN S q (.int i))) (fun v=>rb (aU (fun _=>.ok true) (fN S q) (cR (i+1) p)) fun xs=>.ok (dOf v::xs))=_;rw[h3,e];rfl
  ·cases j with
   |zero =>
    obtain rfl:=si hy;exact⟨h1,by rw[show i+q+((0:Nat):Int)=i+q from Int.add_zero _];exact h2⟩
   |succ j =>
    obtain⟨k1,k2⟩:=h j y hy;exact⟨k1,by rw[show i+q+((j+1:Nat):Int)=i+1+q+(j:Int) from by lia];exact k2⟩
inductive TurnX(S:List Str)(q:Int):Prop where
 |mk (xs:List Str) (nd:xs.Nodup) (mem:∀ k,k∈xs↔k∈S) (e:aL (rgI (aK bO (.ok (.fz (bI S))))) (fun _=>.ok true) (fN S q)=.ok (.own (bI xs))):TurnX S q
theorem Si{S:List Str}(nd:S.Nodup)(q:Int)(hS:0 < S.length)(hl:S.length≤5):TurnX S q:=by
 obtain⟨ys,e,l,h⟩:=Sh (q:=q) hS S.length 0;have sub:∀ y∈ys,y∈S:=fun y hy=>by
  obtain⟨j,hj⟩:=List.getElem?_of_mem hy;exact(h j y hj).1
 have ynd:ys.Nodup:=Q8 (a:=0+q) nd rfl (Int.natCast_pos.mpr hS) (by rw[l];exact Int.le_refl _) fun j y hy=>(h j y hy).2;refine⟨ys,ynd,fun k=>⟨sub k,fun hk=>Classical.byContradiction fun hn=>?_⟩,?_⟩
 ·have:=jD (a:=k::ys) (b:=S) (List.nodup_cons.mpr ⟨hn,ynd⟩) fun x hx=>(List.mem_cons.mp hx).elim (fun e=>e▸hk) (sub x);rw[List.length_cons,l] at this;exact Nat.not_succ_le_self _ this
 ·have hr:rgI (aK bO (.ok (.fz (bI S))))=.ok (cR 0 S.length):=by
   show ofP (if -4096≤((S.map PyData.str).length:Int)∧((S.map PyData.str).length:Int)≤4096 then P.ok (cR 0 ((S.map PyData.str).length:Int).toNat) else .no)=_;rw[List.length_map,if_pos (by lia),Int.toNat_natCast];rfl
  rw[hr];show rb (aU _ (fN S q) (cR 0 S.length)) (fun r=>ofP (own (.list r)))=_;rw[e];rfl
noncomputable def vwS(c:Int)(l:LP)(N:List Str)(w4 w5:V)(L:List PyData)(j6 j7:Option V):aA:=eV (ζ (.int c)) (ζ (.dict (mkd l))) (ζ (NL N)) (some w4) (some w5) (some (.own (.list L))) j6 j7
inductive VwB(n:Nat)(c:Int)(l:LP)(N:List Str)(w4 w5:V)(S:List Str)(L:List PyData)(j6 j7:Option V)(a b:Str)(x:WW)(kn:KN)(kr:KR):Prop where
 |mk (w5':V) (j6' j7':Option V) (hw:w5'.clear=.fz (bI S)) (e:(rb (ofP (aT kM (enc (.call a b)) (vwS c l N w4 w5 L j6 j7))) fun σ=>kL n σ kn kr)=kn (vwS c l N w4 w5' (L++[enc x]) j6' j7')):VwB n c l N w4 w5 S L j6 j7 a b x kn kr
theorem W5{w:V}{d:PyData}(h:w.clear=.fz d):w.clear.clear=.fz d:=by rw[h];rfl
theorem A9(n:Nat)(c:Int)(l:LP)(N:List Str)(w4 w5:V){S:List Str}(hw:w5.clear=.fz (bI S)){L:List PyData}(hL:L.length < aV)(j6 j7:Option V)(a b:Str){e:Bool}(he:((c.fdiv 2).fmod 2==0)=e){xs:List Str}(hx:e=false→aL (rgI (aK bO (.ok (.fz (bI S))))) (fun _=>.ok true) (fN S (c.fdiv 4))=.ok (.own (bI xs)))(kn:KN)(kr:KR):VwB n c l N w4 w5 S L j6 j7 a b (pcW e a b xs) kn kr:=by
 have hb:(rb (ofP (aT kM (enc (.call a b)) (vwS c l N w4 w5 L j6 j7))) fun σ=>kL n σ kn kr)=ifS (.ok (.fz (.bool e))) (dA (.ok (.list L)) (so "append") [.ok (.fz (enc (.each (.call a b))))] fun o1=>kn (eV (ζ (.int c)) (ζ (.dict (mkd l))) (ζ (NL N)) (some w4) (some w5) (some (.own o1)) (ζ (enc (.call a b))) j7))
   (rb (aL (rgI (aK bO (.ok (.fz (bI S))))) (fun _=>.ok true) (fN S (c.fdiv 4))) fun v3=>dA (.ok (.list L)) (so "append") [aX [.ok (.fz (.str (so "beside"))),aK lM (aL (plI (ofP (rdv (V.clear v3)))) (fun _=>.ok true) (fun d6=>.ok (.fz (.tuple [d6,d6,enc (.call a b)]))))]] fun o4=>kn (eV (ζ (.int c)) (ζ (.dict (mkd l))) (ζ (NL N)) (some w4) (ζ (bI S)) (some (.own o4)) (ζ (enc (.call a b))) (some (V.clear v3)))):=by
  unfold vwS;rw[Nu,aO,aE,Nv,hw,show aD (aB .Mod (ofP (aH .FloorDiv (.int c) (.int 2))) (.ok (.fz (.int 2)))) .Eq (.ok (.fz (.int 0)))=.ok (.fz (.bool ((c.fdiv 2).fmod 2==0))) from by kernel_rfl,he,show aH .FloorDiv (.int c) (.int 4)=.ok (.fz (.int (c.fdiv 4))) from tM _ (by decide)];rfl
 cases e with
 |true =>
  refine⟨w5,some (.fz (enc (.call a b))),j7,hw,hb.trans ?_⟩;show dA (.ok (.list L)) (so "append") [.ok (.fz (enc (.each (.call a b))))] _=_;rw[tS (t6 _ hL)];rfl
 |false =>
  refine⟨.fz (bI S),some (.fz (enc (.call a b))),some (.fz (bI xs)),rfl,hb.trans ?_⟩;show rb (aL _ _ _) _=_;rw[hx rfl,aE];have hr:aL (plI (ofP (rdv (V.clear (.own (bI xs)))))) (fun _=>.ok true) (fun d6=>.ok (.fz (.tuple [d6,d6,enc (.call a b)])))=.ok (.own (.list (xs.map fun k=>iC k k (.call a b)))):=by
   show rb (aU _ _ (xs.map .str)) (fun r=>ofP (own (.list r)))=_;rw[jG (t:=fun _=>.ok true) (e:=fun d6=>.ok (.fz (.tuple [d6,d6,enc (.call a b)]))) (g:=fun d=>.tuple [d,d,enc (.call a b)]) fun d hd=>⟨rfl,_,rfl,rfl⟩,List.map_map];rfl
  rw[hr];show dA (.ok (.list L)) (so "append") [.ok (.fz (.tuple [.str (so "beside"),.tuple (xs.map fun k=>iC k k (.call a b))]))] _=_;rw[← A4];rw[tS (t6 _ hL)];rfl
inductive Two(a b:Str)(x y:Str):Prop where
 |l (h:x=a) (g:y=b):Two a b x y
 |r (h:x=b) (g:y=a):Two a b x y
inductive ViewsR(a b c d:Str)(l:LP)(r:R V):Prop where
 |mk (e:Bool) (x y:Str) (xs:List Str) (T:Two a b x y) (nd:xs.Nodup) (mem:∀ k,k∈xs↔k∈ks l) (h:r=.ok (.fz (.tuple [enc (.andThen (pcW e x c xs) (pcW e y d xs)),.list [enc (.call x c),enc (.call y d)]]))):ViewsR a b c d l r
theorem Sj(H:Wld N)(n:Nat){a b c d:Str}(Q:Nm9 N a b c d)(cc:Int){l:LP}{f:Str→Option TT}(B:Bld N m l f)(h0:0 < l.length)(hl:l.length≤5):ViewsR a b c d l (rn (n+1) "_law_views" [.fz (.int cc),.fz (.dict (mkd l)),.fz (NL N)]):=by
 have r2:=bA cc (n:=2) (by decide);have e7:getItem (NL N) (.int 7)=.ok (.fz (.str c)):=jN (by decide) Q.g7;have e8:getItem (NL N) (.int 8)=.ok (.fz (.str d)):=jN (by decide) Q.g8;obtain⟨x,y,T,ex,ey⟩:∃ x y,Two a b x y∧aJ (.ok (NL N)) (aB .Add (.ok (.fz (.int 5))) (ofP (aH .Mod (.int cc) (.int 2))))=.ok (.fz (.str x))∧aJ (.ok (NL N)) (aB .Sub (.ok (.fz (.int 6))) (ofP (aH .Mod (.int cc) (.int 2))))=.ok (.fz (.str y)):=by
  rw[hY _ (by decide)];have g5:=jN (i:=5) (by decide) Q.g5;have g6:=jN (i:=6) (by decide) Q.g6;rcases(show cc.fmod 2=0∨cc.fmod 2=1 by lia) with h | h
  ·rw[h];exact⟨a,b,.l rfl rfl,congrArg ofP g5,congrArg ofP g6⟩
  ·rw[h];exact⟨b,a,.r rfl rfl,congrArg ofP g6,congrArg ofP g5⟩
 have nd:=Ae B.nd;have sl:(aZ (ks l)).length=l.length:=by rw[Af B.nd,d8]
 have key:∃ xs:List Str,xs.Nodup∧(∀ k,k∈xs↔k∈ks l)∧(((cc.fdiv 2).fmod 2==0)=false→aL (rgI (aK bO (.ok (.fz (bI (aZ (ks l))))))) (fun _=>.ok true) (fN (aZ (ks l)) (cc.fdiv 4))=.ok (.own (bI xs))):=by
  obtain⟨xs,t1,t2,t3⟩:=Si nd (cc.fdiv 4) (by rw[sl];exact h0) (by rw[sl];exact hl);exact⟨xs,t1,fun k=>(t2 k).trans cT,fun _=>t3⟩
 obtain⟨xs,k1,k2,k3⟩:=key;refine⟨(cc.fdiv 2).fmod 2==0,x,y,xs,T,k1,k2,?_⟩;rw[Nt,ex,ey,e7,e8,lE H B];obtain⟨w1,j1,j2,hw1,s1⟩:=A9 n cc l N (.fz (.list [enc (.call x c),enc (.call y d)])) (.own (bI (aZ (ks l)))) (S:=aZ (ks l)) rfl (L:=[]) (by decide) none none x c rfl (xs:=xs) k3 (fun σ=>aP (kL n) kM [enc (.call y d)] σ (fun σ=>nQ n σ (fun _=>R.ok (.fz .none)) R.ok) R.ok) R.ok;obtain⟨w2,j3,j4,hw2,s2⟩:=A9 n cc l N (.fz (.list [enc (.call x c),enc (.call y d)])) w1 hw1 (L:=[enc (pcW ((cc.fdiv 2).fmod 2==0) x c xs)]) (show 1 < aV from by decide) j1 j2 y d rfl (xs:=xs) k3 (fun σ=>nQ n σ (fun _=>R.ok (.fz .none)) R.ok) R.ok;refine Eq.trans s1 (Eq.trans s2 ?_);unfold vwS;rw[Nw];rfl
theorem Ba{a b:Str}{g:Str→Option TT}(h1:(g a).isSome=true)(h2:g b=none):aW (.call a b) (.br g)=some (.br (cP a b g)):=dF (p:=(g a).isSome=true∧g b=none) ⟨h1,h2⟩ _
theorem Sk{a b:Str}{f:Str→Option TT}:∀ {xs:List Str},(∀ k∈xs,∃ t,f k=some t∧(aW (.call a b) t).isSome=true)→∃ g,aW (dH a b xs) (.br f)=some (.br g)∧∀ k,g k=if k∈xs then (f k).bind (aW (.call a b)) else none:=by
 intro xs
 induction xs with
 |nil=>exact fun _=>⟨fun _=>none,rfl,fun k=>by rw[if_neg List.not_mem_nil]⟩
 |cons x xs ih =>
  intro h;obtain⟨g,e1,e2⟩:=ih fun k hk=>h k (List.mem_cons_of_mem _ hk);obtain⟨t,h1,h2⟩:=h x List.mem_cons_self;obtain⟨s,hs⟩:=cU h2;refine⟨upd g x (some s),?_,fun k=>?_⟩
  ·rw[oQ];show((f x).bind fun t=>(aW (.call a b) t).bind fun y=>(aW (dH a b xs) (.br f)).bind fun z=>some (T.br (upd z.get x (some y))))=_;rw[h1,Option.bind_some,hs,Option.bind_some,e1];rfl
  ·by_cases hk:k=x
   ·rw[hk,iD,if_pos List.mem_cons_self,h1,Option.bind_some,hs]
   ·rw[dD hk,e2]
    by_cases hm:k∈xs
    ·rw[if_pos hm,if_pos (List.mem_cons_of_mem _ hm)]
    ·rw[if_neg hm,if_neg fun z=>(List.mem_cons.mp z).elim hk hm]
theorem Bb(e:Bool){a b:Str}{xs:List Str}{f:Str→Option TT}(hf:∀ k,(f k).isSome=true↔k∈xs)(h:∀ k t,f k=some t→(aW (.call a b) t).isSome=true):aW (pcW e a b xs) (.br f)=some (.br fun k=>(f k).bind (aW (.call a b))):=by
 cases e with
 |true=>exact dF h _
 |false =>
  obtain⟨g,e1,e2⟩:=Sk (a:=a) (b:=b) (f:=f) (xs:=xs) fun k hk=>by
   obtain⟨t,ht⟩:=cU ((hf k).mpr hk);exact⟨t,ht,h k t ht⟩
  refine Eq.trans e1 (congrArg (fun g=>some (T.br g)) (funext fun k=>?_));rw[e2]
  by_cases hk:k∈xs
  ·rw[if_pos hk]
  ·rw[if_neg hk,ocs (f k) (fun e=>e) fun u z=>absurd ((hf k).mp (by rw[z];rfl)) hk];rfl
inductive ShwR(e:Bool)(x y c d:Str)(xs:List Str)(f:Str→Option TT):Prop where
 |mk (g:Str→Option TT) (s:TT) (h:aW (pcW e x c xs) (.br f)=some (.br g)) (hk:∀ k,(g k).isSome=true↔k∈xs) (h2:aW (.andThen (pcW e x c xs) (pcW e y d xs)) (.br f)=some s):ShwR e x y c d xs f
theorem Sl(e:Bool){x y c d:Str}(nyx:y≠x)(nyc:y≠c)(ndc:d≠c)(ndx:d≠x){xs:List Str}{f:Str→Option TT}(hf:∀ k,(f k).isSome=true↔k∈xs)(ok:∀ k t,f k=some t→RowOk x y c d t):ShwR e x y c d xs f:=by
 have r1:∀ k t,f k=some t→∃ u,aW (.call x c) t=some u∧(aW (.call y d) u).isSome=true:=fun k t ht=>by
  obtain⟨g,rfl,h1,h2,h3,h4⟩:=ok k t ht;refine⟨_,Ba h1 h3,?_⟩;rw[Ba (g:=cP x c g) (by unfold cP;rw[if_neg nyc,if_neg nyx];exact h2) (by unfold cP;rw[if_neg ndc,if_neg ndx];exact h4)];rfl
 have e1:=Bb e (b:=c) hf fun k t ht=>by
  obtain⟨u,h1,_⟩:=r1 k t ht;rw[h1];rfl
 have hk:∀ k,((f k).bind (aW (.call x c))).isSome=true↔k∈xs:=fun k=>by
  rw[← hf k];refine ocs (f k) (fun z=>by rw[z];exact Iff.rfl) fun t z=>?_;obtain⟨u,h1,_⟩:=r1 k t z;rw[z,Option.bind_some,h1];exact Iff.rfl
 have e2:=Bb e (a:=y) (b:=d) (xs:=xs) (f:=fun k=>(f k).bind (aW (.call x c))) hk fun k t ht=>by
  obtain⟨t0,h0,h1⟩:=sV ht;obtain⟨u,h2,h3⟩:=r1 k t0 h0;rw[h2] at h1;obtain rfl:=si h1;exact h3
 exact⟨_,_,e1,hk,(congrArg (fun o=>o.bind (aW (pcW e y d xs))) e1).trans e2⟩
theorem Bc(e:Bool){x c:Str}(hx:x∈N)(hc:c∈N)(h:x≠c){xs:List Str}(nd:xs.Nodup)(sub:∀ k∈xs,k∈N)(h0:1≤xs.length)(h6:xs.length≤6):(okW N (pcW e x c xs)∧(pcW e x c xs).isRows=false)∧(pcW e x c xs).hgt≤1∧(pcW e x c xs).grow=0:=by
 cases e with
 |true=>exact⟨⟨⟨⟨hx,hc,h⟩,rfl⟩,rfl⟩,Nat.le_refl _,rfl⟩
 |false =>
  have M:∀ p:Str×Str×WW→Str,(∀ k,p (k,k,.call x c)=k)→(xs.map fun k=>(k,k,(W.call x c:WW))).map p=xs:=fun p hp=>by
   rw[List.map_map];exact(List.map_congr_left fun k _=>hp k).trans (List.map_id xs)
  obtain⟨o1,o2,o3⟩:=Q4 (N:=N) (h:=0) (g:=0) (L:=xs.map fun k=>(k,k,.call x c)) (fun z hz=>by
   obtain⟨k,hk,rfl⟩:=List.mem_map.mp hz;exact⟨sub k hk,sub k hk,⟨hx,hc,h⟩,rfl,Nat.le_refl _,Nat.le_refl _⟩) (by rw[M (·.1) fun _=>rfl];exact nd) (by rw[M (·.2.1) fun _=>rfl];exact nd)
  refine⟨⟨⟨⟨o1,tO _⟩,?_⟩,rfl⟩,Nat.succ_le_succ o2,Nat.le_antisymm o3 (Nat.zero_le _)⟩;rw[oP];exact⟨h0,h6⟩
end Mine
namespace Mine
open PySem
variable {N:List Str} {m:Nat}
inductive RowS(c d:Str)(t:TT):Prop where
 |mk (g:Str→Option TT) (e:t=.br g) (hc:(g c).isSome=true) (hd:(g d).isSome=true):RowS c d t
structure RowsS(N:List Str)(c d:Str)(l:LP)(f:Str→Option TT):Prop where
 B:Bld N 2 l f
 ok:∀ k t,f k=some t→RowS c d t
theorem RowsS.set{c d:Str}{l:LP}{f:Str→Option TT}(h:RowsS N c d l f){x:Str}{dr:PyData}{t:TT}(hx:x∈N)(ok:RowS c d t)(s:Sem N 2 dr t):RowsS N c d (st l x dr) (upd f x (some t)):=⟨h.B.set hx s,fun k u hu=>by
 by_cases e:k=x
 ·rw[e,iD] at hu;obtain rfl:=si hu;exact ok
 ·rw[dD e] at hu;exact h.ok k u hu⟩
noncomputable def snS(cl:PyData)(l lf:LP)(k:Str)(w5:V)(j:Option V):aA:=dB (ζ cl) (ζ (.dict (mkd l))) (some (.own (.dict (mkd lf)))) (ζ (.str k)) (some w5) j
theorem Bd(H:Wld N)(n:Nat){cl:PyData}{l lf r:LP}{k:Str}{j:Option V}{g:Str→Option TT}(B:Bld N m r g){x c:Str}{dx:PyData}(hx:lk r x=some dx)(kn:KN)(kr:KR):(rb (ofP (aT nS (enc (.call x c)) (snS cl l lf k (.own (.dict (mkd r))) j))) fun σ=>nR n σ kn kr)=kn (snS cl l lf k (.own (.dict (mkd (st (dl r x) c dx)))) (ζ (enc (.call x c)))):=by
 unfold snS;rw[N8,aO,aE,N9];show rb (ofP ((ofO (bS (mkd r) x)).bind fun d=>P.ok (d,PyData.dict (c8 (mkd r) x)))) _=_;rw[jC,hx,n6];show rb (ofP (Mine.setItem (.dict (mkd (dl r x))) (.str c) dx)) _=_;rw[b7 c dx ((B.del x).lt H (by decide))];rfl
inductive SeenB(N:List Str)(c d:Str)(cl:PyData)(l lf:LP)(k:Str)(kn:KN)(r:R V):Prop where
 |mk (dr:PyData) (t:TT) (w:V) (j:Option V) (ok:RowS c d t) (s:Sem N 2 dr t) (e:r=kn (snS cl l (st lf k dr) k w j)):SeenB N c d cl l lf k kn r
theorem Sm(H:Wld N)(n:Nat){x y c d:Str}(nyx:y≠x)(nyc:y≠c)(ndc:d≠c)(hc:c∈N)(hd:d∈N){l lf:LP}{f:Str→Option TT}(T:RowsT N x y c d l f)(hlf:lf.length < aV){k:Str}(hk:k∈ks l)(o3 o5 o6:Option V)(kn:KN)(kr:KR):SeenB N c d (.list [enc (.call x c),enc (.call y d)]) l lf k kn (rb (ofP (aT kO (.str k) (dB (ζ (.list [enc (.call x c),enc (.call y d)])) (ζ (.dict (mkd l))) (some (.own (.dict (mkd lf)))) o3 o5 o6))) fun σ=>kN (n+3) σ kn kr):=by
 obtain⟨dr,t,b1,b2,b3⟩:=T.B.key hk;obtain⟨g,rfl,g1,g2,g3,g4⟩:=T.ok k t b2;obtain⟨m',lr,hm,rfl,Br⟩:=b3.br_inv';obtain rfl:=Nat.succ.inj hm;obtain⟨r,ec,C⟩:=tQ H Br (n:=n+1) (Nat.succ_le_succ (Nat.zero_le n));obtain⟨tx,htx⟩:=cU g1;obtain⟨dx,hx,sx⟩:=C.get htx;have B1:=((C.del x).set hc sx)
 have gy:(upd (upd g x none) c (some tx)) y=g y:=by rw[dD nyc,dD nyx]
 obtain⟨ty,hty⟩:=cU g2;obtain⟨dy,hy,sy⟩:=B1.get (gy.trans hty);have B2:=((B1.del y).set hd sy)
 refine⟨_,_,.fz (.dict (mkd (st (dl (st (dl r x) c dx) y) d dy))),some (.fz (enc (.call y d))),⟨_,rfl,?_,?_⟩,B2.toSem,?_⟩
 ·rw[dD ndc.symm,dD nyc.symm,iD];rfl
 ·rw[iD];rfl
 rw[N5,aO,aE,N6,bE b1];show rb (rn (n+3) "_law_copy" [.fz (.dict (mkd lr))]) _=_;rw[ec,aE];refine Eq.trans (Bd H (n+3) (cl:=.list [enc (.call x c),enc (.call y d)]) (l:=l) (lf:=lf) (k:=k) (j:=o6) C (c:=c) hx (fun σ=>aP (nR (n+3)) nS [enc (.call y d)] σ (fun σ=>nT (n+3) σ kn kr) kr) kr) ?_;refine Eq.trans (Bd H (n+3) (cl:=.list [enc (.call x c),enc (.call y d)]) (l:=l) (lf:=lf) (k:=k) (j:=some (.fz (enc (.call x c)))) B1 (c:=d) hy (fun σ=>nT (n+3) σ kn kr) kr) ?_;unfold snS;rw[Oa];show rb (ofP (Mine.setItem (.dict (mkd lf)) (.str k) (.dict (mkd (st (dl (st (dl r x) c dx) y) d dy))))) _=_;rw[b7 k _ hlf];rfl
inductive SeenR(N:List Str)(c d:Str)(q:Nat)(P:LP→Prop):Prop where
 |mk (l:LP) (f:Str→Option TT) (T:RowsS N c d l f) (h:l.length≤q) (p:P l):SeenR N c d q P
theorem Sn(H:Wld N)(n:Nat){x y c d:Str}(nyx:y≠x)(nyc:y≠c)(ndc:d≠c)(hc:c∈N)(hd:d∈N){l:LP}{f:Str→Option TT}(T:RowsT N x y c d l f)(kn:KN)(kr:KR):∀ {xs:List Str},(∀ k∈xs,k∈ks l)→∀ {lf:LP} {ff:Str→Option TT} (o3 o5 o6:Option V),RowsS N c d lf ff →
  SeenR N c d (lf.length+xs.length) fun l'=>∃ o3' o5' o6',aP (kN (n+3)) kO (xs.map .str) (dB (ζ (.list [enc (.call x c),enc (.call y d)])) (ζ (.dict (mkd l))) (some (.own (.dict (mkd lf)))) o3 o5 o6) kn kr=kn (dB (ζ (.list [enc (.call x c),enc (.call y d)])) (ζ (.dict (mkd l))) (some (.own (.dict (mkd l')))) o3' o5' o6'):=by
 intro xs
 induction xs with
 |nil=>exact fun _ lf ff o3 o5 o6 S=>⟨lf,ff,S,Nat.le_refl _,o3,o5,o6,rfl⟩
 |cons k xs ih =>
  intro hx lf ff o3 o5 o6 S;obtain⟨dr,t,w,j,ok,s,e⟩:=Sm H n nyx nyc ndc hc hd T (S.B.lt H (by decide)) (hx k List.mem_cons_self) o3 o5 o6 (fun σ=>aP (kN (n+3)) kO (xs.map .str) σ kn kr) kr;obtain⟨l',f',S',h',o3',o5',o6',e'⟩:=ih (fun i hi=>hx i (List.mem_cons_of_mem _ hi)) (ζ (.str k)) (some w) j (S.set (T.B.sub k (hx k List.mem_cons_self)) ok s);refine⟨l',f',S',Nat.le_trans h' ?_,o3',o5',o6',Eq.trans e e'⟩;have:=(A8 lf k dr).2;rw[List.length_cons];lia
theorem So(H:Wld N)(n:Nat){x y c d:Str}(nyx:y≠x)(nyc:y≠c)(ndc:d≠c)(hc:c∈N)(hd:d∈N){l:LP}{f:Str→Option TT}(T:RowsT N x y c d l f)(hl:l.length≤5):SeenR N c d 5 fun l'=>rn (n+4) "_law_seen" [.fz (.list [enc (.call x c),enc (.call y d)]),.fz (.dict (mkd l))]=.ok (.own (.dict (mkd l'))):=by
 obtain⟨l',f',S',h',o3,o5,o6,e⟩:=Sn H n nyx nyc ndc hc hd T (fun σ=>sR (n+3) σ (fun _=>R.ok (.fz .none)) R.ok) R.ok (xs:=ks l) (fun k hk=>hk) (lf:=[]) none none none ⟨Bld.nil,fun k t h=>ns h⟩;rw[d8] at h';refine⟨l',f',S',Nat.le_trans h' (by rw[List.length_nil,Nat.zero_add];exact hl),?_⟩;rw[N4,b6,aO,aE];refine Eq.trans e ?_;rw[N7]
noncomputable def btS(a1 cl:PyData)(cc:Int)(N:List Str)(lf:LP)(o6 o7 o8 o9:Option V):aA:=dX (ζ a1) (ζ cl) (ζ (.int cc)) (ζ (NL N)) (some (.own (.dict (mkd lf)))) o6 o7 o8 o9
inductive BentB(N:List Str)(a1 cl:PyData)(cc:Int)(lf:LP)(k:Str)(kn:KN)(r:R V):Prop where
 |mk (d:PyData) (o6 o7 o8 o9:Option V) (h:Tr N 3 d) (e:r=kn (btS a1 cl cc N (st lf k d) o6 o7 o8 o9)):BentB N a1 cl cc lf k kn r
theorem BentB.ite{a1 cl:PyData}{cc:Int}{lf:LP}{k:Str}{kn:KN}{c a b:R V}{t:Bool}(hc:c=.ok (.fz (.bool t)))(ha:BentB N a1 cl cc lf k kn a)(hb:BentB N a1 cl cc lf k kn b):BentB N a1 cl cc lf k kn (ifS c a b):=by
 rw[hc];cases t with
 |true=>exact ha
 |false=>exact hb
theorem gE{r I:R V}{X:R PyData}{v:V}{d:PyData}{lf:LP}{k:Str}(hr:r=.ok v)(hv:v.clear=.fz d)(hX:X=.ok (.dict (mkd lf)))(hI:I=.ok (.fz (.str k)))(hl:lf.length < aV)(kn:PyData→R V):bC r X I kn=kn (.dict (mkd (st lf k d))):=by
 rw[hr,hX,hI];show rb (ofP (Mine.setItem (.dict (mkd lf)) (.str k) (dOf v))) _=_;rw[eF hv,b7 k d hl];rfl
theorem Be{l:LP}{x:Str}{dx:PyData}(h:lk l x=some dx){i:R V}(hi:i=.ok (.fz (.str x)))(kn:PyData→R V):dA (ofP (bW (.own (.dict (mkd l))))) (so "pop") [i] kn=kn (.dict (mkd (dl l x))):=by
 rw[hi];show rb (ofP (if (bS (mkd l) x).isSome then P.ok (PyData.dict (c8 (mkd l) x)) else .no)) _=_;rw[jC,h,n6];rfl
theorem Sp(cc:Int){k:Int}(hk:0≤k∧k < 5):∃ w:Int,aB .Mod (aB .FloorDiv (.ok (.fz (.int cc))) (aJ (cB (bR [(.ok (.fz (.int 1))),(.ok (.fz (.int 7))),(.ok (.fz (.int 49))),(.ok (.fz (.int 343))),(.ok (.fz (.int 2401)))])) (.ok (.fz (.int k))))) (.ok (.fz (.int 7)))=.ok (.fz (.int w)):=by
 rcases(show k=0∨k=1∨k=2∨k=3∨k=4 by lia) with rfl | rfl | rfl | rfl | rfl
 ·exact⟨(cc.fdiv 1).fmod 7,by kernel_rfl⟩
 ·exact⟨(cc.fdiv 7).fmod 7,by kernel_rfl⟩
 ·exact⟨(cc.fdiv 49).fmod 7,by kernel_rfl⟩
 ·exact⟨(cc.fdiv 343).fmod 7,by kernel_rfl⟩
 ·exact⟨(cc.fdiv 2401).fmod 7,by kernel_rfl⟩
theorem Sq(H:Wld N)(n:Nat){x y c d:Str}(hx:x∈N)(hy:y∈N){l lf:LP}{f:Str→Option TT}(T:RowsS N c d l f)(hlf:lf.length < aV)(cc:Int){i:Int}(hi:0≤i∧i < 5){k:Str}(hk:k∈ks l)(o6 o7 o8 o9:Option V)(kn:KN)(kr:KR):BentB N (.dict (mkd l)) (.list [enc (.call x c),enc (.call y d)]) cc lf k kn (rb (ofP (aT iY (.tuple [.int i,.str k]) (btS (.dict (mkd l)) (.list [enc (.call x c),enc (.call y d)]) cc N lf o6 o7 o8 o9))) fun σ=>iX (n+6) σ kn kr):=by
 obtain⟨dr,t,b1,b2,b3⟩:=T.B.key hk;obtain⟨g,rfl,g1,g2⟩:=T.ok k t b2;obtain⟨m',lr,hm,rfl,Br⟩:=b3.br_inv';obtain rfl:=Nat.succ.inj hm;obtain⟨r,ec,C⟩:=tQ H Br (n:=n+4) (Nat.succ_le_succ (Nat.zero_le _));obtain⟨w,hw⟩:=Sp cc hi;have hr:=C.lt H (k:=aV) (by decide);have up:∀ {l':LP} {g':Str→Option TT},Bld N 1 l' g'→Tr N 3 (.dict (mkd l')):=fun B=>⟨_,B.toSem.mono (by decide)⟩
 unfold btS;rw[Oc,aO,aE,Od,bE b1,show aG (rn (n+6) "_law_copy") [ofP (.ok (.fz (.dict (mkd lr))))]=_ from ec,aE,hw,aE];have q:∀ p:Int,aD (.ok (.fz (.int w))) .Eq (.ok (.fz (.int p)))=.ok (.fz (.bool (w==p))):=fun p=>rfl;refine BentB.ite (q 1) ?_ (BentB.ite (q 2) ?_ (BentB.ite (q 3) ?_ (BentB.ite (q 4) ?_ (BentB.ite (q 5) ?_ ?_))))
 ·obtain⟨td,hd⟩:=cU g2;obtain⟨dd,hd,_⟩:=C.get hd;exact⟨_,_,_,_,_,up (C.del d),Eq.trans (Be hd (by kernel_rfl) _) (gE rfl rfl rfl rfl hlf _)⟩
 ·exact⟨_,_,_,_,_,up (C.set hx (.num (i:=5) (by decide))),Eq.trans (gE (lf:=r) (k:=x) rfl rfl rfl (by kernel_rfl) hr _) (gE rfl rfl rfl rfl hlf _)⟩
 ·exact⟨_,_,_,_,_,up (C.set hy (Bld.toSem (m:=0) (l:=[]) Bld.nil)),Eq.trans (gE (v:=.own (.dict [])) (lf:=r) (k:=y) rfl rfl rfl (by kernel_rfl) hr _) (gE rfl rfl rfl rfl hlf _)⟩
 ·obtain⟨td,hd⟩:=cU g1;obtain⟨dd,hd,_⟩:=C.get hd;exact⟨_,_,_,_,_,up (C.del c),Eq.trans (Be hd (by kernel_rfl) _) (gE rfl rfl rfl rfl hlf _)⟩
 ·obtain⟨v,d',e1,e2,e3⟩:=Az H (m:=2) (n:=n+5) (c:=cc.fdiv 7+i) (d:=.dict (mkd r)) ⟨_,C.toSem⟩ (by lia);rw[show aG (rn (n+6) "_law_other") [cA (V.clear (.own (.dict (mkd r)))),aB .Add (ofP (aH .FloorDiv (.int cc) (.int 7))) (.ok (.fz (.int i))),.ok (.fz (NL N))]=.ok v from (by kernel_rfl:_=rn (n+6) "_law_other" [.fz (.dict (mkd r)),.fz (.int (cc.fdiv 7+i)),.fz (NL N)]).trans e1,aE,e2];exact⟨d',_,_,_,_,e3,gE rfl rfl rfl rfl hlf _⟩
 ·exact⟨_,_,_,_,_,up C,gE rfl rfl rfl rfl hlf _⟩
inductive BentR(N:List Str)(P:LP→Prop):Prop where
 |mk (l:LP) (T:BT N 3 l) (p:P l):BentR N P
theorem Sr(H:Wld N)(n:Nat){x y c d:Str}(hx:x∈N)(hy:y∈N){l:LP}{f:Str→Option TT}(T:RowsS N c d l f)(cc:Int)(kn:KN)(kr:KR):∀ {xs:List Str},(∀ k∈xs,k∈ks l)→∀ {i:Nat},i+xs.length≤5→∀ {lf:LP} (o6 o7 o8 o9:Option V),BT N 3 lf →
  BentR N fun l'=>∃ o6' o7' o8' o9',aP (iX (n+6)) iY (eA i (xs.map .str)) (btS (.dict (mkd l)) (.list [enc (.call x c),enc (.call y d)]) cc N lf o6 o7 o8 o9) kn kr=kn (btS (.dict (mkd l)) (.list [enc (.call x c),enc (.call y d)]) cc N l' o6' o7' o8' o9'):=by
 intro xs
 induction xs with
 |nil=>exact fun _ i _ lf o6 o7 o8 o9 S=>⟨lf,S,o6,o7,o8,o9,rfl⟩
 |cons k xs ih =>
  intro hs i hi lf o6 o7 o8 o9 S;rw[List.length_cons] at hi;obtain⟨d',p6,p7,p8,p9,ht,e⟩:=Sq H n hx hy T (S.lt H (by decide)) cc (i:=i) (by lia) (hs k List.mem_cons_self) o6 o7 o8 o9 (fun σ=>aP (iX (n+6)) iY (eA (i+1) (xs.map .str)) σ kn kr) kr;obtain⟨l',S',q6,q7,q8,q9,e'⟩:=ih (fun j hj=>hs j (List.mem_cons_of_mem _ hj)) (i:=i+1) (by lia) p6 p7 p8 p9 (S.set (T.B.sub k (hs k List.mem_cons_self)) ht);exact⟨l',S',q6,q7,q8,q9,Eq.trans e e'⟩
theorem Ss(H:Wld N)(n:Nat){x y c d:Str}(hx:x∈N)(hy:y∈N){l:LP}{f:Str→Option TT}(T:RowsS N c d l f)(hl:l.length≤5)(cc:Int):Gives (rn (n+9) "_law_bent" [.fz (.dict (mkd l)),.fz (.list [enc (.call x c),enc (.call y d)]),.fz (.int cc),.fz (NL N)]) fun d=>Tr N 5 d:=by
 obtain⟨l',S,o6,o7,o8,o9,e⟩:=Sr H (n+2) hx hy T cc (fun σ=>sS (n+8) σ (fun _=>R.ok (.fz .none)) R.ok) R.ok (xs:=aZ (ks l)) (fun k hk=>cT.mp hk) (i:=0) (by rw[Af T.B.nd,d8,Nat.zero_add];exact hl) (lf:=[]) none none none none BT.nil;rw[Ob,lE H T.B];show Gives (aP (iX (n+8)) iY (eA 0 ((aZ (ks l)).map .str)) (btS (.dict (mkd l)) (.list [enc (.call x c),enc (.call y d)]) cc N [] none none none none) _ _) _;refine(congrArg (fun r=>Gives r fun d=>Tr N 5 d) e).mpr ?_;unfold btS;rw[Oe];refine Gives.ite (t:=(cc.fdiv 16807).fmod 7==3) (by kernel_rfl) (fun _=>?_) fun _=>?_
 ·obtain⟨v,d',e1,e2,e3⟩:=Az H (m:=4) (n:=n+7) (c:=cc.fdiv 117649) (d:=.dict (mkd l')) S.toTr (by lia);exact⟨v,d',(by kernel_rfl:_=rb (rn (n+8) "_law_other" [.fz (.dict (mkd l')),.fz (.int (cc.fdiv 117649)),.fz (NL N)]) R.ok).trans (by rw[e1];rfl),e2,e3⟩
 ·exact⟨_,_,rfl,rfl,S.toTr.mono (by decide)⟩
end Mine
namespace Mine
open PySem
variable {N:List Str} {m:Nat}
inductive Held(d:PyData):Prop where
 |mk (x y:PyData) (e:d=.tuple [x,y]) (h:rn 399 "_law_is_due" [.fz x,.fz y]=.ok (.fz (.bool true))):Held d
theorem Su(s:List Int):(slice s (some 1) (some 21)).length≤20:=by
 refine Nat.le_trans (List.length_take_le _ _) ?_;show clipAt s.length ((21:Nat):Int) - clipAt s.length ((1:Nat):Int)≤20;simp only[A7,A7];refine Nat.sub_le_of_le_add ?_;rcases Nat.le_total 1 s.length with h | h
 ·simp only[Nat.min_eq_left h];exact Nat.min_le_left _ _
 ·simp only[Nat.min_eq_right h];exact Nat.le_trans (Nat.min_le_right _ _) (Nat.le_add_left _ _)
noncomputable def lS(s:List Int)(w2:V)(hl:List PyData)(o4 o5 o6 o7 o8 o9 o10 o11:Option V):aA:=eE (ζ (Li s)) (some w2) (some (.own (.list hl))) o4 o5 o6 o7 o8 o9 o10 o11
inductive TurnB(N:List Str)(s:List Int)(hl:List PyData)(kn:KN)(r:R V):Prop where
 |mk (d:PyData) (o4 o5 o6 o7 o8 o9 o10 o11:Option V) (h:Held d) (e:r=kn (lS s (.fz (NL N)) (hl++[d]) o4 o5 o6 o7 o8 o9 o10 o11)):TurnB N s hl kn r
theorem Sv{a b:R V}{va vb:V}{da db:PyData}(ha:a=.ok va)(hva:va.clear=.fz da)(hb:b=.ok vb)(hvb:vb.clear=.fz db):bR [a,b]=.ok (.own (.list [da,db])):=by
 rw[ha,hb];show R.ok (V.own (.list [dOf va.clear,dOf vb.clear]))=_;rw[hva,hvb];rfl
inductive Go(N:List Str)(c:Int):Prop where
 |mk (l l1:LP) (w cl d3 d4 d5 x6 x4:PyData) (v3 v4 v5:V) (h1:rn 399 "_law_rows" [.fz (.int c),.fz (NL N)]=.ok (.own (.dict (mkd l))))
  (h2:rn 399 "_law_views" [.fz (.int (c.fdiv 540)),.fz (.dict (mkd l)),.fz (NL N)]=.ok (.fz (.tuple [w,cl])))
  (h3:rn 399 "_law_seen" [.fz cl,.fz (.dict (mkd l))]=.ok (.own (.dict (mkd l1))))
  (h4:rn 399 "_law_bent" [.fz (.dict (mkd l1)),.fz cl,.fz (.int ((c*48271).fmod 2147483647)),.fz (NL N)]=.ok v3) (g4:v3.clear=.fz d3)
  (h5:rn 399 "_law_copy" [.fz (.dict (mkd l))]=.ok v4) (g5:v4.clear=.fz d4)
  (h6:rn 399 "_law_copy" [.fz d3]=.ok v5) (g6:v5.clear=.fz d5)
  (h7:rn 399 "_law_due" [.fz w,.fz cl,.fz (.dict (mkd l)),.fz d3]=.ok (.fz x4))
  (h8:rn 399 "_law_told" [.fz w,.fz d4,.fz d5]=.ok (.fz x6))
  (h9:rn 399 "_law_is_due" [.fz x6,.fz x4]=.ok (.fz (.bool true)))
  (h10:rn 399 "_law_same" [.fz d4,.fz (.dict (mkd l))]=.ok (.fz (.bool true)))
  (h11:rn 399 "_law_same" [.fz d5,.fz d3]=.ok (.fz (.bool true))):Go N c
theorem Sw(H:Wld N)(cc:Int){a b c d x y:Str}(Q:Nm9 N a b c d)(Wt:Two a b x y){l:LP}{f:Str→Option TT}(T:RowsT N a b c d l f)(h0:0 < l.length)(hl:l.length≤5)(e:Bool){xs:List Str}(nd:xs.Nodup)(mem:∀ k,k∈xs↔k∈ks l)
  (h1:rn 399 "_law_rows" [.fz (.int cc),.fz (NL N)]=.ok (.own (.dict (mkd l))))
  (h2:rn 399 "_law_views" [.fz (.int (cc.fdiv 540)),.fz (.dict (mkd l)),.fz (NL N)]=.ok (.fz (.tuple [enc (.andThen (pcW e x c xs) (pcW e y d xs)),.list [enc (.call x c),enc (.call y d)]]))):Go N cc:=by
 have key:RowsT N x y c d l f∧(x∈N∧y∈N)∧(y≠x∧y≠c∧x≠c)∧y≠d∧d≠x:=by
  have m5:=jM Q.g5;have m6:=jM Q.g6;rcases Wt with ⟨rfl,rfl⟩ | ⟨rfl,rfl⟩
  ·exact⟨T,⟨m5,m6⟩,⟨cK H Q.g6 Q.g5 (by decide),cK H Q.g6 Q.g7 (by decide),cK H Q.g5 Q.g7 (by decide)⟩,cK H Q.g6 Q.g8 (by decide),cK H Q.g8 Q.g5 (by decide)⟩
  ·exact⟨⟨T.B,fun k t h=>(T.ok k t h).swap⟩,⟨m6,m5⟩,⟨cK H Q.g5 Q.g6 (by decide),cK H Q.g5 Q.g7 (by decide),cK H Q.g6 Q.g7 (by decide)⟩,cK H Q.g5 Q.g8 (by decide),cK H Q.g8 Q.g6 (by decide)⟩
 obtain⟨T,⟨mx,my⟩,⟨nyx,nyc,nxc⟩,nyd,ndx⟩:=key;have ndc:d≠c:=cK H Q.g8 Q.g7 (by decide);have mc:=jM Q.g7;have md:=jM Q.g8;have hf:∀ k,(f k).isSome=true↔k∈xs:=fun k=>(T.B.mem (k:=k)).symm.trans (mem k).symm;have xl:xs.length=l.length:=(Nat.le_antisymm (jD nd fun k hk=>(mem k).mp hk) (jD T.B.nd fun k hk=>(mem k).mpr hk)).trans (d8 l);have sub:∀ k∈xs,k∈N:=fun k hk=>T.B.sub k ((mem k).mp hk);obtain⟨l1,f1,S1,hl1,h3⟩:=So H 395 nyx nyc ndc mc md T hl;obtain⟨v3,d3,h4,g4,tn,s3⟩:=Ss H 390 mx my S1 hl1 ((cc*48271).fmod 2147483647);obtain⟨v4,d4,h5,g5,s4⟩:=oM H (n:=398) T.B.toSem (by decide);obtain⟨v5,d5,h6,g6,s5⟩:=oM H (n:=398) s3 (by decide);obtain⟨fm,sh,i1,i2,i3⟩:=Sl e nyx nyc ndc ndx hf T.ok;obtain⟨⟨o1,r1⟩,q1,p1⟩:=Bc e mx mc nxc nd sub (by rw[xl];exact h0) (by rw[xl];exact Nat.le_trans hl (by decide));obtain⟨⟨o2,r2⟩,q2,p2⟩:=Bc e my md nyd nd sub (by rw[xl];exact h0) (by rw[xl];exact Nat.le_trans hl (by decide));have hw:(W.andThen (pcW e x c xs) (pcW e y d xs):WW).hgt≤2:=Nat.succ_le_succ (Nat.max_le.mpr ⟨q1,q2⟩);have gw:(W.andThen (pcW e x c xs) (pcW e y d xs):WW).grow=0:=by
  show(pcW e x c xs).grow+(pcW e y d xs).grow=0;rw[p1,p2]
 have T4:=Sa H 396 e (b0:=c) (b1:=d) mx my T.B hf i1 i2 s3;have T6:=R5 H (w:=.andThen (pcW e x c xs) (pcW e y d xs)) ⟨⟨o1,r1⟩,o2,r2⟩ rfl (n:=398) (by rw[gw];lia) (Nat.le_trans hw (by decide)) (s4.mono (by decide:3≤5)) s5 i3;obtain⟨x6,x4,e6,e4,ha⟩:=R9 H (n:=397) T6 T4 R0 (by rw[gw];decide);exact⟨l,l1,_,_,d3,d4,d5,x6,x4,v3,v4,v5,h1,h2,h3,h4,g4,h5,g5,h6,g6,e4,e6,ha,oN H (n:=398) s4 T.B.toSem (by decide),oN H (n:=398) s5 s3 (by decide)⟩
theorem Sx(H:Wld N)(cc:Int):Go N cc:=by
 obtain⟨a,b,c,d,Q⟩:=Sb H;obtain⟨l,f,T,h0,hl,h1⟩:=Sf H 398 Q cc;obtain⟨e,x,y,xs,W,nd,mem,h2⟩:=Sj H 398 Q (cc.fdiv 540) T.B h0 hl;exact Sw H cc Q W T h0 hl e nd mem h1 h2
theorem Sy(H:Wld N)(s:List Int){w2:V}(hw:w2.clear=.fz (NL N)){hl:List PyData}(hlen:hl.length < aV)(c:Int)(o4 o5 o6 o7 o8 o9 o10 o11:Option V)(kn:KN)(kr:KR):TurnB N s hl kn (rb (ofP (aT i0 (.int c) (lS s w2 hl o4 o5 o6 o7 o8 o9 o10 o11))) fun σ=>iZ 399 σ kn kr):=by
 obtain⟨l,l1,w,cl,d3,d4,d5,x6,x4,v3,v4,v5,h1,h2,h3,h4,g4,h5,g5,h6,g6,h7,h8,h9,h10,h11⟩:=Sx H c;refine⟨.tuple [x6,x4],some (.fz (.int c)),some (.fz (.dict (mkd l))),some (.fz w),some (.fz cl),some (.fz d3),some (.own (.list [d4,d5])),some (.fz x4),some (.fz x6),⟨x6,x4,rfl,h9⟩,?_⟩;unfold lS;rw[Og,aO,aE,Oh,hw];simp only[eY,gA];rw[show aG (rn 399 "_law_rows") [.ok (.fz (.int c)),.ok (.fz (NL N))]=_ from h1,aE];simp only[n8,eY,gA];rw[show aH .FloorDiv (.int c) (.int 540)=.ok (.fz (.int (c.fdiv 540))) from tM _ (by decide),show aG (rn 399 "_law_views") [ofP (.ok (.fz (.int (c.fdiv 540)))),.ok (.fz (.dict (mkd l))),.ok (.fz (NL N))]=_ from h2,aE,kS,Oj,aO,aE,Ok];simp only[n8,eY,gA];rw[show aG (rn 399 "_law_seen") [.ok (.fz cl),.ok (.fz (.dict (mkd l)))]=_ from h3,show aH .Mult (.int c) (.int 48271)=.ok (.fz (.int (c*48271))) from oO _ (by decide),show aB .Mod (ofP (.ok (.fz (.int (c*48271))))) (.ok (.fz (.int 2147483647)))=.ok (.fz (.int ((c*48271).fmod 2147483647))) from congrArg ofP (hY (c*48271) (y:=2147483647) (by decide)),show aG (rn 399 "_law_bent") [.ok (.own (.dict (mkd l1))),.ok (.fz cl),.ok (.fz (.int ((c*48271).fmod 2147483647))),.ok (.fz (NL N))]=_ from h4,aE,g4];simp only[eY,gA];rw[Sv (show aG (rn 399 "_law_copy") [.ok (.fz (.dict (mkd l)))]=_ from h5) g5 (show aG (rn 399 "_law_copy") [.ok (.fz d3)]=_ from h6) g6,aE];simp only[Os];rw[show aJ (.ok (.list [d4,d5])) (.ok (.fz (.int 0)))=.ok (.fz d4) from rfl,show aJ (.ok (.list [d4,d5])) (.ok (.fz (.int 1)))=.ok (.fz d5) from rfl,show aG (rn 399 "_law_due") [.ok (.fz w),.ok (.fz cl),.ok (.fz (.dict (mkd l))),.ok (.fz d3)]=_ from h7,aE,show aG (rn 399 "_law_told") [.ok (.fz w),.ok (.fz d4),.ok (.fz d5)]=_ from h8,aE];simp only[eY,gA,jF,aO];rw[oR (show aG (rn 399 "_law_is_due") [.ok (.fz x6),.ok (.fz x4)]=_ from h9),oR (show aG (rn 399 "_law_same") [.ok (.fz d4),.ok (.fz (.dict (mkd l)))]=_ from h10),oR (show aG (rn 399 "_law_same") [.ok (.fz d5),.ok (.fz d3)]=_ from h11),show aX [.ok (.fz x6),.ok (.fz x4)]=.ok (.fz (.tuple [x6,x4])) from rfl];show dA (.ok (.list hl)) (so "append") [.ok (.fz (.tuple [x6,x4]))] _=_;rw[tS (v:=.fz (.tuple [x6,x4])) (t6 _ hlen)];rfl
inductive LoopR(N:List Str)(s:List Int)(kn:KN)(r:R V):Prop where
 |mk (hl:List PyData) (w2:V) (o4 o5 o6 o7 o8 o9 o10 o11:Option V) (h:∀ d∈hl,Held d) (e:r=kn (lS s w2 hl o4 o5 o6 o7 o8 o9 o10 o11)):LoopR N s kn r
theorem Sz(H:Wld N)(s:List Int)(kn:KN)(kr:KR):∀ {cs:List Int} {w2:V},w2.clear=.fz (NL N)→∀ {hl:List PyData},hl.length+cs.length≤20→(∀ d∈hl,Held d)→∀ o4 o5 o6 o7 o8 o9 o10 o11,LoopR N s kn (aP (iZ 399) i0 (cs.map .int) (lS s w2 hl o4 o5 o6 o7 o8 o9 o10 o11) kn kr):=by
 intro cs
 induction cs with
 |nil=>exact fun {w2} hw {hl} _ h o4 o5 o6 o7 o8 o9 o10 o11=>⟨hl,w2,o4,o5,o6,o7,o8,o9,o10,o11,h,rfl⟩
 |cons c cs ih =>
  intro w2 hw hl hn h o4 o5 o6 o7 o8 o9 o10 o11;rw[List.length_cons] at hn;obtain⟨d,p4,p5,p6,p7,p8,p9,p10,p11,hd,e⟩:=Sy H s hw (hl:=hl) (Nat.lt_of_le_of_lt (Nat.le_trans (Nat.le_add_right _ _) hn) (by decide)) c o4 o5 o6 o7 o8 o9 o10 o11 (fun σ=>aP (iZ 399) i0 (cs.map .int) σ kn kr) kr;refine(congrArg (LoopR N s kn) (show aP (iZ 399) i0 ((c::cs).map .int) (lS s w2 hl o4 o5 o6 o7 o8 o9 o10 o11) kn kr=_ from e)).mpr (ih (hl:=hl++[d]) rfl (by rw[List.length_append];simp only[List.length_singleton];lia) (fun d' hd'=>?_) p4 p5 p6 p7 p8 p9 p10 p11);rcases List.mem_append.mp hd' with h' | h'
  ·exact h d' h'
  ·rw[List.mem_singleton.mp h'];exact hd
theorem S0(s:List Int):rn 400 "law" [.fz (Li s)]=.ok (.fz (.bool true)):=by
 have H:=Qx (iA s 0);rw[Of,Qy 397 s,aE,show plI (iV (.ok (Li s)) (some (.ok (.fz (.int 1)))) (some (.ok (.fz (.int 21)))))=.ok (slice (s.map PyData.int) (some 1) (some 21)) from rfl,R6,aE];obtain⟨hl,w2,o4,o5,o6,o7,o8,o9,o10,o11,h,e⟩:=Sz H s (fun σ=>sU 399 σ (fun _=>R.ok (.fz .none)) R.ok) R.ok (cs:=slice s (some 1) (some 21)) (w2:=.own (NL (nms (iA s 0)))) rfl (hl:=[]) (by rw[List.length_nil,Nat.zero_add];exact Su s) (fun d hd=>cL hd) none none none none none none none none;refine Eq.trans e ?_;unfold lS;rw[Oi];show rb (aD (aL (.ok hl) _ _) _ _) _=_;have hf:aL (.ok hl) (fun d1=>tst (unS .Not (aG (rn 399 "_law_is_due") [ofP (getItem d1 (.int 0)),ofP (getItem d1 (.int 1))]))) (fun d1=>.ok (.fz d1))=.ok (.own (.list [])):=by
  show rb (aU _ _ hl) (fun r=>ofP (own (.list r)))=_;rw[Al (g:=fun _=>false) fun d hd=>by
   obtain⟨x,y,rfl,hr⟩:=h d hd;rw[oR (show aG (rn 399 "_law_is_due") [ofP (getItem (.tuple [x,y]) (.int 0)),ofP (getItem (.tuple [x,y]) (.int 1))]=_ from hr)];rfl]
  rw[show hl.filter (fun _=>false)=[] from List.filter_eq_nil_iff.mpr fun _ _=>Bool.false_ne_true];rfl
 rw[hf];rfl
end Mine
set_option Elab.async false
namespace Mine
open PySem PySem.W PyProof.Rows
set_option maxRecDepth 100000 in
set_option maxHeartbeats 8000000 in
theorem S2:PySem.Challenge.rw_uf010037_15.wellSaid=true:=by
 unfold OpenLaw.wellSaid OpenRow.wellSaid OpenRow.partSaid looksOpen
 with_reducible repeat' (refine look_both ?_ ?_)
 all_goals decide +kernel
set_option maxRecDepth 100000 in
theorem S3:yP PySem.Challenge.rw_uf010037_15.row.prog.main.body:=fun c b ps h p hp=>by
 have hc:=rT h;rw[show j9 PySem.Challenge.rw_uf010037_15.row.prog.main.body=[Str.ofString "ViewError", Str.ofString "BadTree", Str.ofString "BadView", Str.ofString "BadPut"] from by kernel_rfl] at hc;simp only[List.mem_cons,List.not_mem_nil,or_false] at hc;rcases hc with rfl | rfl | rfl | rfl
 ·rw[show bG (Str.ofString "ViewError") PySem.Challenge.rw_uf010037_15.row.prog.main.body=some (Str.ofString "ValueError", none) from by kernel_rfl] at h;cases h
 ·rw[show bG (Str.ofString "BadTree") PySem.Challenge.rw_uf010037_15.row.prog.main.body=some (Str.ofString "ViewError", none) from by kernel_rfl] at h;cases h
 ·rw[show bG (Str.ofString "BadView") PySem.Challenge.rw_uf010037_15.row.prog.main.body=some (Str.ofString "ViewError", none) from by kernel_rfl] at h;cases h
 ·rw[show bG (Str.ofString "BadPut") PySem.Challenge.rw_uf010037_15.row.prog.main.body=some (Str.ofString "ViewError", some [Str.ofString "way", Str.ofString "kind", Str.ofString "part"]) from by kernel_rfl] at h;cases h;simp only[List.mem_cons,List.not_mem_nil,or_false] at hp;rcases hp with rfl | rfl | rfl<;>(rw[typeLookup_type,builtinLookup_eq_fast];kernel_rfl)
end Mine
open PySem PySem.W PyProof.Rows Mine
set_option maxRecDepth 100000 in
set_option maxHeartbeats 8000000 in
theorem PySem.Challenge.cw_uf010037_15_holds : PySem.Challenge.rw_uf010037_15.Holds := by
 refine holds_law Mine.S2 fun said=>?_;refine holds_open (q:=Mine.V15) (loose:=[]) (Xt:=fun s=>(xlAt Mine.V15 [] s&&recOk (RowW.records PySem.Challenge.rw_uf010037_15.row.toRowW) s)&&Mine.qF s.heap PySem.Challenge.rw_uf010037_15.row.prog.main.body) (XP:=fun mg h=>XL Mine.V15 [] mg h∧Mine.iT PySem.Challenge.rw_uf010037_15.row.prog.main.body mg h) (Yf:=Hook.obs Hook.none) (Ya:=Hook.val Hook.none) (YP:=Hook.says Hook.none) (N:=4914)
  Mine.E6 (Hook.of Hook.none) (Hook.keeps Hook.none) (fun s e=>⟨xl_of s (Bool.and_eq_true_iff.mp (Bool.and_eq_true_iff.mp e).1).1,Mine.K9 (Bool.and_eq_true_iff.mp e).2⟩) (fun mg h h' x k=>⟨XL.keeps mg h h' x.1 k,x.2.keeps k⟩) (by rfl) (by rfl) (by rfl) (fun s e=>recFacts_of (Bool.and_eq_true_iff.mp (Bool.and_eq_true_iff.mp e).1).2) (by rfl) said (by decide +kernel) ⟨rfl,rfl,rfl,rfl,rfl,by decide +kernel⟩ ?hw ?hc
 case hw=>w_witness2
 intro w s₀ s₁ mg mb G Y fa o pm cd doc dV kV ho hd hcd hD hmg hg args vals as hpre hlay hrd hwl hlo;have GL:Mine.Glo PySem.Challenge.rw_uf010037_15.row.prog w mg mb s₁.heap:=Mine.Lg G.T G.X.2 Mine.S3 (fun f=>by kernel_rfl) (by kernel_rfl) (by kernel_rfl) (by kernel_rfl);replace hmg:mg (Str.ofString "law")=some (.ref fa):=hmg;clear ho hd hcd hD G Y
 wrow_args hpre hlay hrd hwl hlo
 rename_i ns _ _ _ _ _ _ _ l _ _ _ _ hw _ _ _ hn _;refine Mine.Lj GL hmg hw (by omega) (by kernel_rfl) (N:=400) (by decide) (Mine.S0 ns) fun s' k=>?_;obtain⟨h',tk,rfl,hk⟩:=k;exact GoodW.toG ⟨.inl ⟨_,.bool true,[],rfl,fun _=>by kernel_rfl,.bool true,by kernel_rfl,fun _=>⟨List.nodup_nil,by simp⟩⟩,hk,rfl,hg⟩
