import PyProof.Rows.All
import Wide.All
import OpenK.AllK
import Wide.FinOn
import KE.FramesApart
import KE.IntText
import KE.KDictList
import KE.KDictOf
import KE.KDictSum
import KE.KIntText
import KE.KItemsList
import KE.KRevIter
import Open.Pieces
import PyProof.AssignAttr
import PyProof.AttrMiss
import PyProof.CallStr
import PyProof.CallTypeRange
import PyProof.Cells
import PyProof.CompFree
import PyProof.CompIC
import PyProof.CompMap
import PyProof.ConsumeWalk
import PyProof.DictCalls
import PyProof.DictDisplay
import PyProof.DictItems
import PyProof.DictRoads
import PyProof.DictStraight
import PyProof.DictTruth
import PyProof.DictUpdate
import PyProof.DictWalks
import PyProof.Ends
import PyProof.EnumMake
import PyProof.EqKinds
import PyProof.ExcAttrAll.ValueError
import PyProof.ExcBaseAll.ValueError
import PyProof.ExcClass2
import PyProof.ExcClsAt2
import PyProof.FitsInt
import PyProof.ForAny
import PyProof.ForRange
import PyProof.InstStoreFacts
import PyProof.IsInstance
import PyProof.IsiH_list
import PyProof.IsiHeapPairs
import PyProof.IsiNone
import PyProof.IsiPairs
import PyProof.IsiSeqPairs
import PyProof.IsiTuple
import PyProof.LetGo
import PyProof.ListCopy
import PyProof.ListIndex
import PyProof.ListIndexNeg
import PyProof.ListOps
import PyProof.MeetsDictList
import PyProof.MeetsStr2
import PyProof.Methods
import PyProof.NeKinds
import PyProof.NsMap
import PyProof.P3Eq
import PyProof.P3Statements
import PyProof.PassesOwn
import PyProof.PureInt
import PyProof.PureStr
import PyProof.Raises
import PyProof.ReprReads
import PyProof.Rows.CountFlat
import PyProof.Rows.IntRules
import PyProof.Rows.RuleB_floordiv
import PyProof.Rows.RuleB_mod
import PyProof.Rows.RuleB_pow
import PyProof.Rows.RuleB_small
import PyProof.Rows.RuleN_abs
import PyProof.Rows.SeqMore
import PyProof.Rows.SetFrom
import PyProof.Rows.SortShellK
import PyProof.Rows.SortStr
import PyProof.Rows.SortWalk
import PyProof.Rows.StrRules
import PyProof.Rows.StrTemp
import PyProof.Rows.Top
import PyProof.Rows.TupMore
import PyProof.Rows.Walk
import PyProof.Rules2
import PyProof.Rules3
import PyProof.RulesAs
import PyProof.SeqInW
import PyProof.SetRoads
import PyProof.SliceMore
import PyProof.SliceStr2
import PyProof.StationsW
import PyProof.StrBlock
import PyProof.StrBlock2
import PyProof.StrBlockI
import PyProof.StrBlockL
import PyProof.StrCalls3
import PyProof.StrLawsJoin
import PyProof.StrOps2
import PyProof.StrWalks
import PyProof.TableCode
import PyProof.TupleOfSeq
import PyProof.TupleOps
import PyProof.WalkInts
import PyProof.WalksEnum
import PyProof.WalksMore
import PySem.PyData
import PySem.Syntax
import Wide.Seal
import Wide.Well
import PySem.Challenge.RW_uf010037_07
set_option Elab.async false
set_option linter.all false
set_option maxRecDepth 100000
namespace Mine
theorem pL{x y:Int}(hx:0≤x)(hy:0≤y)(h:x.toNat=y.toNat):x=y:=by rw[← Int.toNat_of_nonneg hx,h,Int.toNat_of_nonneg hy]
theorem lU{a:Int}{n:Nat}(h:a < n):(1+a).toNat≤n:=Int.toNat_le.mpr (by rw[Int.add_comm];exact h)
theorem p1{a:Int}(h:0≤a):0≤1+a:=Int.add_nonneg (by decide) h
theorem ax0{a b c:Nat}(h:a+16*b+300 < c):a+70 < c:=Nat.lt_of_le_of_lt (Nat.add_le_add (Nat.le_add_right a (16*b)) (by decide:70≤300)) h
theorem ax1{a b c:Nat}(h:a+(b+1) < c):a+1+b < c:=(Nat.add_right_comm a 1 b).symm▸h
theorem ax2{a b:Nat}(h:a+70 < b):a < b:=Nat.lt_of_le_of_lt (Nat.le_add_right _ _) h
theorem ax3{a b:Nat}(h:a+70 < b):a+1+24 < b:=Nat.lt_of_le_of_lt (Nat.add_le_add_left (by decide:25≤70) a) h
theorem ax4{a b:Nat}(h:¬a < b):b≤a:=Nat.le_of_not_lt h
theorem ax5{a b c:Nat}(h:a=b)(h1:¬c < a):b≤c:=h▸Nat.le_of_not_lt h1
theorem ax6:0≤300:=by decide
theorem ax7{a:Nat}(h:a < 63):a / 30+1≤300:=Nat.succ_le_succ (Nat.le_trans (Nat.div_le_self _ _) (Nat.le_trans (Nat.le_of_lt h) (by decide)))
theorem ax8{a:Nat}(h:a≤300):¬a > 300:=Nat.not_lt.mpr h
theorem ax9{a:Nat}(h:a≤1024):a≤16777216:=Nat.le_trans h (by decide)
theorem Dl{a b c:Nat}:a+b+c*b=a+(c*b+b):=by first | lia | omega
theorem Dm{a:Int}(h:a≤1024):a.toNat≤1024:=Int.toNat_le.mpr h
theorem Dn{b:Nat}{a:Int}(h:a.toNat*b≤1024*1024):a.toNat*b≤16777216:=Nat.le_trans h (by decide)
theorem Do{c:Nat}{a b:Int}(h:0≤a∧a≤1000∧b.natAbs < c):a≤1000000:=Int.le_trans h.2.1 (by decide)
theorem Dp{a:Int}(h:1≤a):0 < a:=h
theorem Dq{a:Int}(h:1≤a):0≤a:=Int.le_trans (by decide) h
theorem Dr{a:Int}(h:¬a < 1):1≤a:=Int.not_lt.mp h
theorem Ds{a:Nat}{b c:Int}(h:(↑a:Int)≤(b - 1) / c):¬(↑a:Int) > (b - 1) / c:=Int.not_lt.mpr h
theorem Dt{b:Nat}{a:Int}(h:-100≤a∧a≤1024∧b≤1024):a.toNat≤1024:=Int.toNat_le.mpr h.2.1
theorem Du{a b c:Nat}:min (a - b) (c - b)≤c:=Nat.le_trans (Nat.min_le_right _ _) (Nat.sub_le _ _)
theorem vE{a b:Nat}(h:a - b=0)(h1:b≤a):b=a:=Nat.le_antisymm h1 (Nat.le_of_sub_eq_zero h)
theorem vF{a b c:Nat}(h:a - b=c+1):b < a:=Nat.lt_of_sub_pos (by rw[h];exact Nat.succ_pos c)
theorem Dv{a b c:Nat}(h:a≤b):min c a≤b:=Nat.le_trans (Nat.min_le_right _ _) h
theorem vG{a b c:Nat}(h:a - b=c+1):a - (b+1)=c:=congrArg Nat.pred h
theorem Dw{a b:Nat}:min a b≤b:=Nat.min_le_right _ _
theorem Wl{a b c d:Nat}(h:a+1 < b)(h1:c≤d)(h2:d≤a):c+1 < b:=Nat.lt_of_le_of_lt (Nat.succ_le_succ (Nat.le_trans h1 h2)) h
theorem Dx:0 < 4096:=by decide
theorem vH{a:Nat}(h:a < 64):a+1 < 4096:=Nat.lt_of_le_of_lt h (by decide)
theorem Dy{a:Nat}(h:a≤3):a < 30:=Nat.lt_of_le_of_lt h (by decide)
theorem vI{b:Nat}{a:Int}:a+1+(↑b:Int)=a+((↑b:Int)+1):=by rw[Int.add_assoc,Int.add_comm 1]
theorem Wm:-10000≤0:=by decide
theorem Wn:0≤10000:=by decide
theorem Wo{a:Int}(h:a≤4096):a≤10000:=Int.le_trans h (by decide)
theorem Wp:-10000≤1:=by decide
theorem Wq:1≤10000:=by decide
theorem Wr{a:Int}:-10000≤(↑a.toNat:Int):=Int.le_trans (by decide) (Int.natCast_nonneg _)
theorem Ws{a:Int}(h:a≤4096):(↑a.toNat:Int)≤10000:=Int.ofNat_le.mpr (Int.toNat_le.mpr (Int.le_trans h (by decide)))
theorem Wt:1 > 0:=by decide
theorem Dz{a:Int}(h:-10000≤a):-10000≤a+(1 - 1):=by rw[Int.sub_self,Int.add_zero];exact h
theorem D0{a:Int}(h:a≤4096):a+(1 - 1)≤10000:=by rw[Int.sub_self,Int.add_zero];exact Int.le_trans h (by decide)
theorem D1{a:Int}(h:a≤4096):a.toNat≤16777216:=Int.toNat_le.mpr (Int.le_trans h (by decide))
theorem D2{a:Int}(h:-4096≤a∧a≤4096):-10000≤a:=Int.le_trans (by decide) h.1
theorem vJ{a b c:Nat}(h:a+b=c)(h1:¬a=c):a < c:=Nat.lt_of_le_of_ne (h▸Nat.le_add_right a b) h1
theorem pM{a b c:Nat}(h:a+b=c)(h1:¬a=c):b - 1 < b:=by
 cases b with
 |zero=>exact absurd h h1
 |succ b=>exact Nat.lt_succ_self b
theorem pN{a b c:Nat}(h:a+b=c)(h1:¬a=c):a+1+(b - 1)=c:=by
 cases b with
 |zero=>exact absurd h h1
 |succ b=>exact(Nat.add_right_comm a 1 b).trans h
theorem D3{a b:Nat}(h:a≤b):a≤b+1:=Nat.le_succ_of_le h
theorem D4{a b c d e f:Nat}(h:a≤b)(h1:c+d=a)(h2:e≤c)(h3:f=e):f≤b:=by rw[h3];exact Nat.le_trans h2 (Nat.le_trans (Nat.le_trans (Nat.le_add_right c d) (Nat.le_of_eq h1)) h)
theorem D5{a b:Nat}(h:a≤b):a≤b:=h
theorem D6{a b c d e:Nat}(h:a+b < 4096)(h1:c=a)(h2:d=b)(h3:e=16777216):c+d≤e:=by rw[h1,h2,h3];exact Nat.le_trans (Nat.le_of_lt h) (by decide)
theorem D7{a b:Nat}(h:(↑a:Int) < (↑b:Int)):a < b:=Int.ofNat_lt.mp h
theorem D8{a b c d e:Nat}(h:a < b)(h1:c=a)(h2:d≤c+1)(h3:b=e):d≤e:=by rw[← h3];exact Nat.le_trans h2 (by rw[h1];exact h)
theorem D9{b c:Nat}{a:Int}(h:0≤a∧a < (↑b:Int))(h1:c=b):a < (↑c:Int):=by rw[h1];exact h.2
theorem Ea{a:Nat}(h:a < 100):a+1≤16777216+1:=Nat.succ_le_succ (Nat.le_trans (Nat.le_of_lt h) (by decide))
theorem Eb{a b c:Nat}(h:a=b)(h1:c < a):c < b:=h▸h1
theorem Ec{a b:Nat}(h:a+(b+1) < 100):a < 100:=Nat.lt_of_le_of_lt (Nat.le_add_right _ _) h
theorem Ed{a b:Nat}(h:a+(b+1) < 100):a+1+b < 100:=(Nat.add_right_comm a 1 b).symm▸h
theorem Ee{a:Nat}(h:a < 50):a < 100:=Nat.lt_trans h (by decide)
theorem Ef{a b c:Nat}(h:a=b)(h1:a < 50)(h2:c=16777216):b≤c:=by rw[← h,h2];exact Nat.le_trans (Nat.le_of_lt h1) (by decide)
theorem Eg{a b:Nat}(h:a=1)(h1:b=16777216):a≤b:=by rw[h,h1];decide
theorem Eh{a:Nat}(h:1 < a):0 < a:=Nat.lt_trans Nat.zero_lt_one h
theorem Ei{a b c:Nat}(h:a+b+1 < c):a+1 < c:=Nat.lt_of_le_of_lt (Nat.succ_le_succ (Nat.le_add_right _ _)) h
theorem Ej{a b c:Nat}(h:a+(b+1)+1 < c):a+1+b+1 < c:=by rw[Nat.add_right_comm a 1 b];exact h
theorem Ek{a b c:Nat}(h:a+16*(b+1)+300 < c):a+3+16*b+300 < c:=by rw[Nat.add_right_comm a 3];exact Nat.lt_of_le_of_lt (by rw[Nat.mul_succ,← Nat.add_assoc];exact Nat.add_le_add_right (Nat.add_le_add_left (by decide) _) 300) h
theorem El{a b c:Nat}(h:a+(b+1)+1 < c):a < c:=Nat.lt_of_le_of_lt (Nat.le_trans (Nat.le_add_right _ _) (Nat.le_add_right _ _)) h
theorem Em{a b c:Nat}(h:a≤63)(h1:b=a)(h2:c=16777216):b≤c:=by rw[h1,h2];exact Nat.le_trans h (by decide)
theorem En{a b c:Nat}(h:a≤400)(h1:b+400+1 < c):b+a+1 < c:=Nat.lt_of_le_of_lt (Nat.succ_le_succ (Nat.add_le_add_left h b)) h1
theorem Eo{a b c:Nat}(h:a≤400)(h1:b+16*400+300 < c):b+16*a+300 < c:=Nat.lt_of_le_of_lt (Nat.add_le_add_right (Nat.add_le_add_left (Nat.mul_le_mul_left 16 h) b) 300) h1
theorem Ep{a b:Nat}(h:a≤b - 1)(h1:0 < b):a+1≤b:=Nat.le_trans (Nat.succ_le_succ h) (Nat.le_of_eq (Nat.sub_add_cancel h1))
theorem vK{a:Nat}(h:1≤a):1≤(↑a:Int):=Int.ofNat_le.mpr h
theorem Er{a:Nat}(h:a≤8):(↑a:Int)≤8:=Int.ofNat_le.mpr h
theorem Es{a b:Nat}(h:14 < a)(h1:b≤14):b < a:=Nat.lt_of_le_of_lt h1 h
theorem Et{a b:Nat}(h:a+1+1≤b+1):a+1≤b:=Nat.le_of_succ_le_succ h
theorem Eu{a:Nat}(h:a≤6):(↑a:Int)≤6:=Int.ofNat_le.mpr h
theorem vL{a:Nat}(h:a≤6):a < 64:=Nat.lt_of_le_of_lt h (by decide)
theorem Ev{a b:Nat}(h:1≤a)(h1:b=a):1≤b:=h1▸h
theorem Ew{a b:Nat}(h:a≤6)(h1:b=a):b≤6:=h1▸h
theorem Ex{a b:Nat}(h:a≤6)(h1:b=a):b < 64:=h1▸Nat.lt_of_le_of_lt h (by decide)
theorem Ey{a b c:Nat}(h:a=b)(h1:c=b):a=c:=h.trans h1.symm
theorem Ez{a b c:Nat}(h:a≤b)(h1:c≤b)(h2:b=14):a+c < 4096:=by rw[h2] at h h1;exact Nat.lt_of_le_of_lt (Nat.add_le_add h h1) (by decide)
theorem E0{a b c:Nat}(h:3*a+b+6≤c+3):2*a+4≤c+2:=Nat.le_of_succ_le_succ (show 2*a+5≤c+3 from Nat.le_trans (Nat.add_le_add (Nat.le_trans (Nat.mul_le_mul_right a (by decide:2≤3)) (Nat.le_add_right _ b)) (by decide:5≤6)) h)
theorem E1{a b c:Nat}(h:3*a+b+6≤c+3):3*a+3≤c+1:=Nat.le_of_add_le_add_right (b:=2) (show 3*a+5≤c+3 from Nat.le_trans (Nat.add_le_add (Nat.le_add_right (3*a) b) (by decide:5≤6)) h)
theorem E2{a b c:Nat}(h:3*a+b+6≤c+3):b+1≤c:=Nat.le_of_add_le_add_right (b:=3) (show b+4≤c+3 from Nat.le_trans (Nat.add_le_add (Nat.le_add_left b (3*a)) (by decide:4≤6)) h)
theorem E3{a b c:Nat}(h:3*a+b+6≤c+3):b≤c+1:=Nat.le_of_add_le_add_right (Nat.le_trans (Nat.add_le_add (Nat.le_add_left b _) (by decide:2≤6)) h)
theorem Wu{a b:Nat}(h:a < 1000)(h1:b=16777216):a+1≤b:=by rw[h1];exact Nat.le_trans h (by decide)
theorem Wv{a b c d:Nat}(h:2*(a+1)+(b+1)+c+8≤d+4):2*a+b+c+8≤d+2:=by
 have e:2*(a+1)+(b+1)+c+8=2*a+b+c+11:=by rw[Nat.mul_succ,Nat.add_add_add_comm,Nat.add_right_comm (2*a+b) (2+1)]
 rw[e] at h;exact Nat.le_of_add_le_add_right (b:=2) (Nat.le_trans (Nat.add_le_add_left (by decide:10≤11) _) h)
theorem Ww{a b:Nat}(h:a+(b+1)≤900):a+1+b≤900:=(Nat.add_right_comm a 1 b).symm▸h
theorem E4{a b c d e f:Nat}(h:2*(max a b+1)+c+(d+e)+8≤f+1):2*a+4≤f:=Nat.le_of_succ_le_succ (Nat.le_trans (Nat.add_le_add (Nat.le_trans (Nat.le_trans (Nat.mul_le_mul_left 2 (Nat.le_succ_of_le (Nat.le_max_left a b))) (Nat.le_add_right _ _)) (Nat.le_add_right _ _)) (by decide:5≤8)) h)
theorem Wx{a b c d e f:Nat}(h:2*(max a b+1)+c+(d+e)+8≤f+1):2*b+c+e+8≤f:=by
 have e:2*(max a b+1)+c+(d+e)+8=2*max a b+c+(d+e)+10:=by rw[Nat.mul_succ,Nat.add_right_comm (2*max a b) 2 c,Nat.add_right_comm _ 2 (d+e)]
 rw[e] at h;exact Nat.le_of_succ_le_succ (Nat.le_trans (Nat.add_le_add (Nat.add_le_add (Nat.add_le_add_right (Nat.mul_le_mul_left 2 (Nat.le_max_right a b)) c) (Nat.le_add_left _ d)) (by decide:9≤10)) h)
theorem Wy{a b c:Nat}(h:a+(max b c+1)≤900):a+1+c≤900:=Nat.le_trans (by rw[Nat.add_right_comm];exact Nat.succ_le_succ (Nat.add_le_add_left (Nat.le_max_right b c) a)) h
theorem Wz{a b c:Nat}:a+b≤a+(c+b):=Nat.add_le_add_left (Nat.le_add_left _ _) _
theorem W0{a b c d e f:Nat}(h:2*(max a b+1)+c+(d+e)+8≤f+1):2*a+(c+e)+d+8≤f:=by
 have e:2*(max a b+1)+c+(d+e)+8=2*max a b+(c+e)+d+10:=by rw[Nat.mul_succ,Nat.add_right_comm (2*max a b) 2 c,Nat.add_right_comm _ 2 (d+e),Nat.add_comm d e,← Nat.add_assoc,Nat.add_assoc (2*max a b) c e]
 rw[e] at h;exact Nat.le_of_succ_le_succ (Nat.le_trans (Nat.add_le_add (Nat.add_le_add_right (Nat.add_le_add_right (Nat.mul_le_mul_left 2 (Nat.le_max_left a b)) _) d) (by decide:9≤10)) h)
theorem W1{a b c:Nat}(h:a+(max b c+1)≤900):a+1+b≤900:=Nat.le_trans (by rw[Nat.add_right_comm];exact Nat.succ_le_succ (Nat.add_le_add_left (Nat.le_max_left b c) a)) h
theorem W2{a b:Nat}(h:a+(b+1)≤900):a+b+1≤900:=h
theorem W3{a b:Nat}:a≤a+b:=Nat.le_add_right _ _
theorem W4{a b c d e f:Nat}(h:2*max a b+c+max d e+8≤f):2*a+c+d+8≤f:=Nat.le_trans (Nat.add_le_add_right (Nat.add_le_add (Nat.add_le_add_right (Nat.mul_le_mul_left 2 (Nat.le_max_left a b)) c) (Nat.le_max_left d e)) 8) h
theorem W5{a b c:Nat}(h:a+max b c+1≤900):a+1+b≤900:=Nat.le_trans (by rw[Nat.add_right_comm];exact Nat.add_le_add_right (Nat.add_le_add_left (Nat.le_max_left b c) a) 1) h
theorem W6{a b c d:Nat}(h:a+max b c≤d):a+b≤d:=Nat.le_trans (Nat.add_le_add_left (Nat.le_max_left b c) a) h
theorem W7{a b c d e f:Nat}(h:2*max a b+c+max d e+8≤f):2*b+c+e+8≤f:=Nat.le_trans (Nat.add_le_add_right (Nat.add_le_add (Nat.add_le_add_right (Nat.mul_le_mul_left 2 (Nat.le_max_right a b)) c) (Nat.le_max_right d e)) 8) h
theorem W8{a b c:Nat}(h:a+max b c+1≤900):a+c+1≤900:=Nat.le_trans (Nat.add_le_add_right (Nat.add_le_add_left (Nat.le_max_right b c) a) 1) h
theorem W9{a b c d:Nat}(h:a+max b c≤d):a+c≤d:=Nat.le_trans (Nat.add_le_add_left (Nat.le_max_right b c) a) h
theorem E5{a b c d:Nat}(h:3*a+b+c+10≤d+3):2*a+4≤d+2:=Nat.le_of_succ_le_succ (show 2*a+5≤d+3 from Nat.le_trans (Nat.add_le_add (Nat.le_trans (Nat.mul_le_mul_right a (by decide:2≤3)) (Nat.le_trans (Nat.le_add_right _ b) (Nat.le_add_right _ c))) (by decide:5≤10)) h)
theorem Xa{a b c d:Nat}(h:3*a+b+c+10≤d+3):2*a+b+c+8≤d+2:=Nat.le_of_succ_le_succ (show 2*a+b+c+9≤d+3 from Nat.le_trans (Nat.add_le_add (Nat.add_le_add_right (Nat.add_le_add_right (Nat.mul_le_mul_right a (by decide:2≤3)) b) c) (by decide:9≤10)) h)
theorem Xb{a b c d:Nat}(h:3*a+b+c+10≤d+3):3*a+3≤d+1:=Nat.le_of_add_le_add_right (b:=2) (show 3*a+5≤d+3 from Nat.le_trans (Nat.add_le_add (Nat.le_trans (Nat.le_add_right (3*a) b) (Nat.le_add_right _ c)) (by decide:5≤10)) h)
theorem Xc{a b c d:Nat}(h:3*a+b+c+10≤d+3):b+1≤d:=Nat.le_of_add_le_add_right (b:=3) (show b+4≤d+3 from Nat.le_trans (Nat.add_le_add (Nat.le_trans (Nat.le_add_left b (3*a)) (Nat.le_add_right _ c)) (by decide:4≤10)) h)
theorem Xd{a b c d:Nat}(h:3*a+b+c+10≤d+3):b+c≤d+1:=Nat.le_of_add_le_add_right (Nat.le_trans (Nat.add_le_add (Nat.add_le_add_right (Nat.le_add_left b _) c) (by decide:2≤10)) h)
theorem E6{a b c d:Nat}(h:a≤b)(h1:c≤b)(h2:b=14)(h3:d=16777216):a+c≤d:=by rw[h3];rw[h2] at h h1;exact Nat.le_trans (Nat.add_le_add h h1) (by decide)
theorem E7{a b c:Nat}(h:a+b+3≤c+2):b≤c:=Nat.le_of_add_le_add_right (Nat.le_trans (Nat.add_le_add (Nat.le_add_left b a) (by decide:2≤3)) h)
theorem lV{a b c:Nat}(h:a+(b+1)+3≤c+2):b≤c:=Nat.le_of_add_le_add_right (Nat.le_trans (Nat.add_le_add (Nat.le_trans (Nat.le_succ b) (Nat.le_add_left _ a)) (by decide:2≤3)) h)
theorem E8{a b c:Nat}(h:a≤b)(h1:b < 1000)(h2:c=16777216):a+1≤c:=by rw[h2];exact Nat.le_trans (Nat.succ_le_of_lt (Nat.lt_of_le_of_lt h h1)) (by decide)
theorem E9{a b:Nat}(h:a≤b)(h1:b < 1000):a+1 < 4096:=Nat.lt_of_le_of_lt (Nat.succ_le_of_lt (Nat.lt_of_le_of_lt h h1)) (by decide)
theorem Fa{a b c:Nat}(h:a+(b+1)+3≤c+3):b≤c:=Nat.le_of_add_le_add_right (Nat.le_trans (Nat.add_le_add_right (Nat.le_trans (Nat.le_succ b) (Nat.le_add_left _ a)) 3) h)
theorem vM{a b c:Nat}(h:a+1+(b+1)+3≤c+2):a+b+3≤c+1:=Nat.le_of_succ_le_succ (show a+b+4≤c+2 from Nat.le_trans (by rw[Nat.add_right_comm a 1 (b+1)];exact Nat.add_le_add_left (by decide:4≤5) (a+b)) h)
theorem Xe{a b:Nat}(h:a=b)(h1:b < 4096):a < 4096:=h▸h1
theorem Fb{a b c d:Nat}(h:max a b+1+c+3≤d+1):a+c+3≤d:=Nat.le_of_succ_le_succ (Nat.le_trans (Nat.add_le_add_right (Nat.add_le_add_right (Nat.le_max_left a b) c) 4) ((Nat.add_right_comm (max a b) 1 c)▸h:max a b+c+1+3≤d+1))
theorem Fc{a b c d:Nat}(h:max a b+1+c+3≤d+1):b+c+3≤d:=Nat.le_of_succ_le_succ (Nat.le_trans (Nat.add_le_add_right (Nat.add_le_add_right (Nat.le_max_right a b) c) 4) ((Nat.add_right_comm (max a b) 1 c)▸h:max a b+c+1+3≤d+1))
theorem Xf{a b:Nat}(h:a=b)(h1:b≤6):a < 4096:=h▸Nat.lt_of_le_of_lt h1 (by decide)
theorem Fd{a b c d:Nat}(h:max a b+c+3≤d):b+c+3≤d:=Nat.le_trans (Nat.add_le_add_right (Nat.add_le_add_right (Nat.le_max_right a b) c) 3) h
theorem Fe{a b c d:Nat}(h:max a b+c+3≤d):a+c+3≤d:=Nat.le_trans (Nat.add_le_add_right (Nat.add_le_add_right (Nat.le_max_left a b) c) 3) h
theorem pO{a:Int}(h:0 < a):0≤a:=Int.le_of_lt h
theorem Ff{a:Int}(h:0 < a):a≠0:=fun e=>Int.lt_irrefl 0 (e▸h)
theorem Fg{b:Nat}{a:Int}(h:a.toNat < b):a < (↑b:Int):=Int.lt_of_le_of_lt (Int.self_le_toNat a) (Int.ofNat_lt.mpr h)
theorem Fh{b:Nat}{a:Int}(h:0≤a)(h1:a < (↑b:Int)):a.toNat < b:=(Int.toNat_lt h).mpr h1
theorem Fi{a:Int}(h:0≤a):0≤2+a:=Int.add_nonneg (by decide) h
theorem vN{a:Int}(h:0≤a∧a < 2):a=0∨a=1:=by first | lia | omega
theorem Fj{a b:Nat}:a+1+b=a+(b+1):=Nat.add_right_comm a 1 b
theorem Fk{a:Nat}(h:a≤1000):a≤16777216:=Nat.le_trans h (by decide)
theorem Fl{a:Int}(h:0≤a∧a < 26):a < (↑26:Int):=h.2
theorem lW{a:Int}(h:0≤a∧a < 26):a.toNat < 26:=(Int.toNat_lt h.1).mpr h.2
theorem Fm{a b:Int}(h:0≤a∧a < 26)(h1:0≤b∧b < 26)(h2:a.toNat=b.toNat):a=b:=pL h.1 h1.1 h2
theorem Fn{a:Int}(h:0≤a∧a < 8):0 < 1+a:=Int.lt_of_lt_of_le Int.zero_lt_one (Int.le_add_of_nonneg_right h.1)
theorem vO{a:Int}(h:0≤a∧a < 8):0≤1+a:=Int.add_nonneg (by decide) h.1
theorem vP{a:Int}:min (1+a).toNat 8≤1000:=Nat.le_trans (Nat.min_le_right _ _) (by decide)
theorem Fo{a:Int}(h:0≤a∧a < 8):1+a≠0:=fun e=>absurd (Int.le_add_of_nonneg_right h.1:(1:Int)≤1+a) (by rw[e];decide)
theorem Fp{a b:Int}(h:0≤a∧a < 8)(h1:0≤b∧b < 1+a):0≤b∧b < 8:=⟨h1.1,Int.lt_of_lt_of_le h1.2 (by rw[Int.add_comm];exact h.2)⟩
theorem Xg{a:Int}(h:0≤a∧a < 8):1≤min (1+a).toNat 8:=Nat.le_min.mpr ⟨(Int.lt_toNat).mpr (Int.lt_of_lt_of_le Int.zero_lt_one (Int.le_add_of_nonneg_right h.1)),by decide⟩
theorem Xh{a:Int}:min (1+a).toNat 8≤8:=Nat.min_le_right _ _
theorem Fq{a b c:Int}(h:0≤a∧a < 26)(h1:0≤b∧b < 26)(h2:(c+a) % 26=(c+b) % 26):a=b:=by
 have:=Int.emod_add_cancel_left.mp h2
 rwa [Int.emod_eq_of_lt h.1 h.2,Int.emod_eq_of_lt h1.1 h1.2] at this
theorem Fs{a:Int}(h:0≤a∧a < 14):0≤a / 8∧a / 8 < 26:=⟨Int.ediv_nonneg h.1 (by decide),Int.lt_of_le_of_lt (Int.ediv_le_self 8 h.1) (Int.lt_trans h.2 (by decide))⟩
theorem Ft{a b:Int}(h:0≤a∧a < 8)(h1:0≤b∧b < 8)(h2:min (1+a).toNat 8=min (1+b).toNat 8):a=b:=by
 rw[Nat.min_eq_left (lU h.2),Nat.min_eq_left (lU h1.2)] at h2;exact Int.add_left_cancel (pL (p1 h.1) (p1 h1.1) h2)
theorem Fu{a:Int}(h:0≤a∧a < 8):0 < (1+a).toNat:=(Int.lt_toNat).mpr (Int.lt_of_lt_of_le Int.zero_lt_one (Int.le_add_of_nonneg_right h.1))
theorem Fv{a b:Int}(h:0≤a∧a < 8)(h1:0≤b∧b < 1+a):b.toNat < 8∧b.toNat < (1+a).toNat:=⟨(Int.toNat_lt h1.1).mpr (Int.lt_of_lt_of_le h1.2 (by rw[Int.add_comm];exact h.2)),(Int.toNat_lt h1.1).mpr (Int.lt_of_lt_of_le h1.2 (Int.self_le_toNat _))⟩
theorem Fw{a:Int}(h:0≤a∧a < 14):a.toNat < 14:=(Int.toNat_lt h.1).mpr h.2
theorem Fx{a:Int}(h:0≤a∧a < 4):0≤9+a∧9+a < 14:=⟨Int.add_nonneg (by decide) h.1,Int.lt_of_lt_of_le (Int.add_lt_add_left h.2 9) (by decide)⟩
theorem Fy{a:Int}(h:0≤a∧a < 3):a=0∨a=1∨a=2:=by first | lia | omega
theorem vQ{a:Nat}(h:a < 5):a=0∨a=1∨a=2∨a=3∨a=4:=by first | lia | omega
theorem Fz{a:Nat}(h:a < 5):0≤(↑a:Int)∧(↑a:Int) < 14:=⟨Int.natCast_nonneg a,Int.lt_trans (Int.ofNat_lt.mpr h) (by decide)⟩
theorem vR{a b:Nat}(h:a+1≤b):a≤b:=Nat.le_of_succ_le h
theorem pP{a:Nat}(h:0 < a):0 < (↑a:Int):=Int.ofNat_lt.mpr h
theorem F0{b:Nat}{a:Int}(h:0≤a∧a < (↑b:Int)):a.toNat < b:=(Int.toNat_lt h.1).mpr h.2
theorem vT{a:Nat}(h:0 < a):(↑a:Int)≠0:=fun e=>Nat.ne_of_gt h (Int.ofNat.inj e)
theorem vU{a:Int}(h:0≤a∧a < 4):0≤5+a∧5+a < 14:=⟨Int.add_nonneg (by decide) h.1,Int.lt_of_lt_of_le (Int.add_lt_add_left h.2 5) (by decide)⟩
theorem F1{c:Nat}{a b:Int}(h:0≤a)(h1:a < b)(h2:c=b.toNat - a.toNat):1≤c:=by rw[h2];exact Nat.sub_pos_of_lt ((Int.toNat_lt h).mpr (Int.lt_of_lt_of_le h1 (Int.self_le_toNat b)))
theorem F2{c:Nat}{a b:Int}(h:a≤b+6)(h1:c=a.toNat - b.toNat):c≤6:=by
 rw[h1];exact Nat.sub_le_of_le_add (Int.toNat_le.mpr (Int.le_trans h (by rw[Int.natCast_add,Int.add_comm];exact Int.add_le_add_left (Int.self_le_toNat b) 6)))
theorem F3{a b c:Nat}(h:a≤0)(h1:b+1+4≤c+2):a+(b+1)+3≤c+2:=Nat.le_trans (Nat.add_le_add_right (Nat.add_le_add_right h (b+1)) 3) (by rw[Nat.zero_add];exact Nat.le_trans (Nat.le_succ _) h1)
theorem F4{a b:Nat}(h:a≤0)(h1:b≤0):max a b+1≤1:=Nat.succ_le_succ (Nat.max_le.mpr ⟨h,h1⟩)
theorem F5{a b:Nat}(h:a≤1)(h1:b≤1):a+b≤2:=Nat.add_le_add h h1
theorem F6{a:Nat}(h:a≤0):a≤1:=Nat.le_succ_of_le h
theorem vV{a:Nat}(h:a≤1):a≤2:=Nat.le_succ_of_le h
theorem F7{a b c:Nat}(h:a+1+4≤b+2)(h1:c≤1):c+(a+1)+3≤b+2:=Nat.le_trans (Nat.add_le_add_right (Nat.add_le_add_right h1 (a+1)) 3) (by rw[Nat.add_comm 1];exact Nat.le_trans (Nat.le_refl _) h)
theorem F8{a:Nat}(h:a≤0):a+1≤1:=Nat.succ_le_succ h
theorem F9{a:Nat}(h:a≤0):max a 0+1≤1:=by rw[Nat.max_eq_left (Nat.zero_le a)];exact Nat.succ_le_succ h
theorem Ga{a:Nat}(h:a≤1):max a 0≤2:=by rw[Nat.max_eq_left (Nat.zero_le a)];exact Nat.le_succ_of_le h
theorem Gb{b:Nat}{a:Int}:a+1+(↑b:Int)=a+(↑(b+1):Int):=by rw[Int.natCast_add,Int.add_assoc,Int.natCast_one,Int.add_comm 1]
theorem Gc{b:Nat}{a c:Int}(h:a=(↑b:Int))(h1:0≤c∧c < a):c.toNat < b:=(Int.toNat_lt h1.1).mpr (h▸h1.2)
theorem Gd{b c:Nat}{a:Int}:a+(↑b:Int) - (a+(↑c:Int))=(↑b:Int) - (↑c:Int):=by first | lia | omega
theorem Ge{a b:Nat}(h:a < b):0≤(↑b:Int) - (↑a:Int):=Int.sub_nonneg.mpr (Int.ofNat_le.mpr (Nat.le_of_lt h))
theorem Gf{a c:Nat}{b:Int}(h:(↑a:Int) < b):(↑a:Int) - (↑c:Int) < b:=Int.lt_of_le_of_lt (Int.sub_le_self _ (Int.natCast_nonneg c)) h
theorem Gg{a c:Nat}{b:Int}(h:(↑a:Int)≤b)(h1:c < a):(↑c:Int) < b:=Int.lt_of_lt_of_le (Int.ofNat_lt.mpr h1) h
theorem Gh{a b c:Int}(h:a.toNat=b.toNat)(h1:0≤a∧a < c)(h2:0≤b∧b < c):a=b:=pL h1.1 h2.1 h
theorem Xi{a:Int}(h:0≤a∧a < 6):1≤(1+a).toNat:=(Int.lt_toNat).mpr (Int.lt_of_lt_of_le Int.zero_lt_one (Int.le_add_of_nonneg_right h.1))
theorem Xj{a:Nat}(h:0 < a):1≤(↑a:Int).toNat:=h
theorem Xk{a:Int}(h:0≤a∧a < 6):(1+a).toNat≤6:=lU h.2
theorem Xl{a:Nat}:(↑a:Int).toNat≤a:=Nat.le_of_eq (Int.toNat_natCast a)
theorem Xm{a:Int}(h:0≤a∧a < 6):-4096≤1+a∧1+a≤4096:=⟨Int.le_trans (by decide) (Int.add_nonneg (by decide:(0:Int)≤1) h.1),Int.le_trans (Int.add_le_add_left (Int.le_of_lt h.2) 1) (by decide)⟩
theorem Xn{a:Nat}(h:a≤14):-4096≤(↑a:Int)∧(↑a:Int)≤4096:=⟨Int.le_trans (by decide) (Int.natCast_nonneg a),Int.le_trans (Int.ofNat_le.mpr h) (by decide)⟩
theorem vW{a b:Nat}(h:a - b > 0):1≤a - b:=h
theorem vX{a b:Nat}(h:¬a < b)(h1:a - b=0):a=b:=Nat.le_antisymm (Nat.le_of_sub_eq_zero h1) (Nat.le_of_not_lt h)
theorem Gi{a b c:Nat}(h:a≤6)(h1:b < a)(h2:c=16777216):b < c:=by rw[h2];exact Nat.lt_of_lt_of_le h1 (Nat.le_trans h (by decide))
theorem Gj{a b:Nat}(h:a≤6)(h1:b=a):(↑b:Int)≤14:=h1▸Int.le_trans (Int.ofNat_le.mpr h) (by decide)
theorem Gk{a b c:Nat}(h:a≤b)(h1:c=a):(↑c:Int)≤(↑b:Int):=h1▸Int.ofNat_le.mpr h
theorem Gl{a b:Nat}(h:a+1+4≤b):a+4≤b:=Nat.le_trans (Nat.le_succ _) (Nat.le_trans (Nat.le_of_eq (Nat.add_right_comm a 4 1)) h)
theorem Gm{a:Int}(h:0≤a∧a < 2):0≤2+a∧2+a < 14:=⟨Int.add_nonneg (by decide) h.1,Int.lt_trans (Int.add_lt_add_left h.2 2) (by decide)⟩
theorem Gn{a:Int}(h:0≤a∧a < 2):0≤3 - a∧3 - a < 14:=⟨Int.sub_nonneg.mpr (Int.le_trans (Int.le_of_lt h.2) (by decide)),Int.lt_of_le_of_lt (Int.sub_le_self 3 h.1) (by decide)⟩
theorem Gp{a:Int}:(2+a).toNat≠(3 - a).toNat:=by first | lia | omega
theorem Gq{a:Int}(h:0≤a∧a < 4):0≤4+a:=Int.add_nonneg (by decide) h.1
theorem Gr{a b:Int}(h:0≤a∧a < 6):4+b < 4+b+1+a:=Int.lt_add_of_pos_right _ (Int.lt_of_lt_of_le Int.zero_lt_one (Int.le_add_of_nonneg_right h.1)) |> fun z=>by rw[Int.add_assoc (4+b)];exact z
theorem Gs{a b:Int}(h:0≤a∧a < 6):4+b+1+a≤4+b+6:=by rw[Int.add_assoc (4+b),Int.add_comm 1 a];exact Int.add_le_add_left h.2 _
theorem Gu{a b:Int}(h:0≤a∧a < 4)(h1:0≤b∧b < 6):4+a+1+b≤14:=by
 have e1:a≤3:=Int.le_of_lt_add_one h.2;have e2:b≤5:=Int.le_of_lt_add_one h1.2;exact Int.le_trans (Int.add_le_add (Int.add_le_add_right (Int.add_le_add_left e1 4) 1) e2) (by decide)
theorem Gv{a:Int}(h:0≤a∧a < 2):0≤5+2*a:=Int.add_nonneg (by decide) (Int.mul_nonneg (by decide) h.1)
theorem Gy{a:Int}:5+2*a < 5+2*a+2:=by first | lia | omega
theorem Gz{a:Int}:5+2*a+2≤5+2*a+6:=by first | lia | omega
theorem G0{a:Int}(h:0≤a∧a < 2):5+2*a+2≤14:=Int.le_trans (Int.add_le_add_right (Int.add_le_add_left (Int.mul_le_mul_of_nonneg_left (Int.le_of_lt h.2) (by decide)) 5) 2) (by decide)
theorem G1{a b:Nat}(h:a+1+4≤b):a+4≤b+1:=Nat.le_trans (Nat.le_succ _) (Nat.le_succ_of_le (Nat.le_trans (Nat.le_of_eq (Nat.add_right_comm a 4 1)) h))
theorem G2{a b c:Nat}(h:a+4≤b)(h1:c≤2):c+a+3≤b+3:=Nat.le_trans (Nat.add_le_add_right (Nat.add_le_add_right h1 a) 3) (by rw[Nat.add_comm 2 a];exact Nat.add_le_add_right (Nat.le_trans (Nat.add_le_add_left (by decide:2≤4) a) h) 3)
theorem Xo{a b c d:Nat}(h:a≤b)(h1:c≤d):max a c+1≤max b d+1:=Nat.succ_le_succ (Nat.max_le.mpr ⟨Nat.le_trans h (Nat.le_max_left ..),Nat.le_trans h1 (Nat.le_max_right ..)⟩)
theorem G3{a b:Nat}:a.succ+b≤a+(b+1):=Nat.le_of_eq (Nat.succ_add a b)
theorem G4{a b:Nat}:a+2+2*b≤a+2*(b+1):=by first | lia | omega
theorem G5{a:Nat}:2+a+1≤2+(a+1):=Nat.le_refl _
theorem G6{a:Nat}:2+(2+2*a)≤2+2*(a+1):=by first | lia | omega
theorem G7{a:Nat}:-(↑(a+1):Int)≤-1:=Int.neg_le_neg (Int.ofNat_le.mpr (Nat.succ_pos a))
theorem G8{a:Nat}:(-1+(↑(a+1):Int)).toNat=a:=by rw[Int.natCast_add,Int.add_comm,Int.natCast_one,Int.add_neg_cancel_right,Int.toNat_natCast]
theorem G9{a:Nat}:1≤(↑(a+1):Int):=Int.ofNat_le.mpr (Nat.succ_pos a)
theorem Ha{a:Nat}:(max 0 (min (-1+((↑a:Int)+1)) ((↑a:Int)+1))).toNat=a:=by rw[(Int.add_comm _ _).trans (Int.add_neg_cancel_right (↑a:Int) 1),Int.min_eq_left (Int.le_add_one (Int.le_refl _)),Int.max_eq_right (Int.natCast_nonneg a),Int.toNat_natCast]
theorem Hb{a:Int}(h:0≤a∧a < 4):1≤(1+a).toNat:=(Int.lt_toNat).mpr (Int.lt_of_lt_of_le Int.zero_lt_one (Int.le_add_of_nonneg_right h.1))
theorem Hc{a:Int}(h:0≤a∧a < 4):(1+a).toNat≤4:=lU h.2
theorem Hd{a:Int}(h:0≤a∧a < 4):-4096≤1+a∧1+a≤4096:=⟨Int.le_trans (by decide) (Int.add_nonneg (by decide:(0:Int)≤1) h.1),Int.le_trans (Int.add_le_add_left (Int.le_of_lt h.2) 1) (by decide)⟩
theorem He{a b c d:Nat}(h:a+4≤b)(h1:c≤2∧d≤2):c+a+3≤b+4:=Nat.le_trans (Nat.add_le_add_right (Nat.add_le_add_right h1.1 a) 3) (by rw[Nat.add_comm 2 a];exact Nat.add_le_add_right (Nat.le_trans (Nat.add_le_add_left (by decide:1≤4) a) h) 4)
theorem Hf{a b c:Nat}(h:a≤4)(h1:b < a)(h2:c=16777216):b < c:=by rw[h2];exact Nat.lt_of_lt_of_le h1 (Nat.le_trans h (by decide))
theorem Hg{a b:Nat}(h:a≤4)(h1:b+1=a):b≤3:=by rw[← h1] at h;exact Nat.le_of_succ_le_succ h
theorem Hh{a b:Nat}(h:a≤3)(h1:a+1=b+1):b≤3:=Nat.succ.inj h1▸h
theorem vY{a:Nat}(h:a≤3):2+a≤5:=Nat.add_le_add_left h 2
theorem vZ{a:Nat}(h:a≤3):2+2*a≤8:=Nat.add_le_add_left (Nat.mul_le_mul_left 2 h) 2
theorem Xp{a b:Nat}(h:a+3≤b+2):a≤b+1:=Nat.le_trans (Nat.le_succ a) (Nat.le_trans (Nat.le_of_succ_le_succ (Nat.le_of_succ_le_succ h)) (Nat.le_succ b))
theorem Xq{a:Nat}:0+1≤a+1:=Nat.succ_le_succ (Nat.zero_le a)
theorem Xr{a b:Nat}(h:a+1+3≤b+2):a≤b:=Nat.le_of_add_le_add_right (b:=2) (Nat.le_trans (Nat.add_le_add_left (by decide:2≤4) a) h)
theorem Xs{a b:Nat}(h:a+1+3≤b+2):a+3≤b+1:=Nat.le_of_succ_le_succ (Nat.le_trans (Nat.le_refl _) h)
theorem Xu:5+4≤394:=by decide
theorem Xv{a:Nat}(h:a≤5):3*a+5+6≤399:=Nat.le_trans (Nat.add_le_add_right (Nat.add_le_add_right (Nat.mul_le_mul_left 3 h) 5) 6) (by decide)
theorem Xw:5+3≤398:=by decide
theorem Xx:5+1+3≤398:=by decide
theorem Xy{a b:Nat}(h:a≤5)(h1:b≤8):3*a+Nat.succ 5+b+10≤398:=Nat.le_trans (Nat.add_le_add_right (Nat.add_le_add (Nat.add_le_add_right (Nat.mul_le_mul_left 3 h) 6) h1) 10) (by decide)
theorem Xz{a:Nat}(h:a≤5):a≤900:=Nat.le_trans h (by decide)
theorem X0{a b:Nat}(h:a≤5)(h1:b≤8):3*a+6+b+10≤398:=Nat.le_trans (Nat.add_le_add_right (Nat.add_le_add (Nat.add_le_add_right (Nat.mul_le_mul_left 3 h) 6) h1) 10) (by decide)
theorem X3:5≤6:=by decide
theorem X4{a b:Nat}(h:a≤5)(h1:b≤8):3*a+14+b+10≤398:=Nat.le_trans (Nat.add_le_add_right (Nat.add_le_add (Nat.add_le_add_right (Nat.mul_le_mul_left 3 h) 14) h1) 10) (by decide)
theorem X5{a:Nat}(h:a≤8):6+a≤14:=Nat.add_le_add_left h 6
theorem X6:5+1+1≤14:=by decide
theorem X7{a b:Nat}(h:a≤5)(h1:b≤8):3*a+7+b+10≤398:=Nat.le_trans (Nat.add_le_add_right (Nat.add_le_add (Nat.add_le_add_right (Nat.mul_le_mul_left 3 h) 7) h1) 10) (by decide)
theorem X8:5≤7:=by decide
theorem X9:5≤14:=by decide
theorem Yb{a:Nat}(h:a≤8):14+a+(7+a)≤397:=Nat.le_trans (Nat.add_le_add (Nat.add_le_add_left h 14) (Nat.add_le_add_left h 7)) (by decide)
theorem Yc{a:Nat}(h:a≤8):14+a+5≤397:=Nat.le_trans (Nat.add_le_add_right (Nat.add_le_add_left h 14) 5) (by decide)
theorem Ye{a b:Nat}(h:a < b)(h1:b≤12):a < 12:=Nat.lt_of_lt_of_le h h1
theorem Yg{a b c d e f:Nat}(h:3*a+3*b+c+d+e+10≤f):3*a+c+6≤f+1:=Nat.le_trans (Nat.add_le_add (Nat.le_trans (Nat.add_le_add_right (Nat.le_add_right (3*a) (3*b)) c) (Nat.le_trans (Nat.le_add_right _ d) (Nat.le_add_right _ e))) (by decide:6≤10)) (Nat.le_succ_of_le h)
theorem Yh{a b c d e f:Nat}(h:3*a+3*b+c+d+e+10≤f):3*b+c+e+10≤f:=Nat.le_trans (Nat.add_le_add_right (Nat.add_le_add_right (Nat.le_trans (Nat.add_le_add_right (Nat.le_add_left (3*b) (3*a)) c) (Nat.le_add_right _ d)) e) 10) h
theorem Yi{a b c d e f:Nat}(h:3*a+3*b+c+d+e+10≤f):3*a+(c+e)+d+10≤f:=Nat.le_trans (Nat.add_le_add_right (by rw[← Nat.add_assoc,Nat.add_right_comm _ e d];exact Nat.add_le_add_right (Nat.add_le_add_right (Nat.add_le_add_right (Nat.le_add_right (3*a) (3*b)) c) d) e) 10) h
theorem Yj{a b:Nat}(h:a≤6∧b≤8):3*a+Nat.succ 5+b+10≤398:=Nat.le_trans (Nat.add_le_add_right (Nat.add_le_add (Nat.add_le_add_right (Nat.mul_le_mul_left 3 h.1) 6) h.2) 10) (by decide)
theorem Yk{a b:Nat}(h:a≤6∧b≤8):a≤900:=Nat.le_trans h.1 (by decide)
theorem Yl{a b:Nat}(h:a≤5∧b≤8):3*a+Nat.succ 5+b+10≤398:=Nat.le_trans (Nat.add_le_add_right (Nat.add_le_add (Nat.add_le_add_right (Nat.mul_le_mul_left 3 h.1) 6) h.2) 10) (by decide)
theorem Ym{a b:Nat}(h:a≤5∧b≤8):a≤900:=Nat.le_trans h.1 (by decide)
theorem Yn{a b c d:Nat}(h:a≤5∧b≤8)(h1:c≤6∧d≤8):Nat.succ 5+d+(Nat.succ 5+b)≤397:=Nat.le_trans (Nat.add_le_add (Nat.add_le_add_left h1.2 6) (Nat.add_le_add_left h.2 6)) (by decide)
theorem Yo{a b:Nat}(h:a≤5∧b≤8):a+5+3≤399:=Nat.le_trans (Nat.add_le_add_right (Nat.add_le_add_right h.1 5) 3) (by decide)
theorem Yp:5+4≤395:=by decide
theorem Yq{a b:Nat}(h:a≤5∧b≤8):3*a+5+6≤399:=Nat.le_trans (Nat.add_le_add_right (Nat.add_le_add_right (Nat.mul_le_mul_left 3 h.1) 5) 6) (by decide)
theorem Yr{a b:Nat}(h:a≤2∧b≤2):3*a+5+6≤399:=Nat.le_trans (Nat.add_le_add_right (Nat.add_le_add_right (Nat.mul_le_mul_left 3 h.1) 5) 6) (by decide)
theorem Ys{a:Nat}(h:a≤max (max 5 5+1) 2+1):3*a+5+6≤399:=Nat.le_trans (Nat.add_le_add_right (Nat.add_le_add_right (Nat.mul_le_mul_left 3 h) 5) 6) (by decide)
theorem Yt{a:Nat}(h:a≤max 5 (max 5 2+1)+1):3*a+5+6≤399:=Nat.le_trans (Nat.add_le_add_right (Nat.add_le_add_right (Nat.mul_le_mul_left 3 h) 5) 6) (by decide)
theorem Yu:5≤398:=by decide
theorem Yv{a:Nat}(h:a≤max (max 5 5+1) 2+1):3*a+(5+1)+6≤398:=Nat.le_trans (Nat.add_le_add_right (Nat.add_le_add_right (Nat.mul_le_mul_left 3 h) (5+1)) 6) (by decide)
theorem Yw{a:Nat}(h:a≤max 5 (max 5 2+1)+1):3*a+(5+1)+6≤398:=Nat.le_trans (Nat.add_le_add_right (Nat.add_le_add_right (Nat.mul_le_mul_left 3 h) (5+1)) 6) (by decide)
theorem Yx{a b:Nat}(h:a≤max (max 5 5+1) 2+1)(h1:b≤8+8+2):3*a+7+b+10≤398:=Nat.le_trans (Nat.add_le_add_right (Nat.add_le_add (Nat.add_le_add_right (Nat.mul_le_mul_left 3 h) 7) h1) 10) (by decide)
theorem Yy{a:Nat}(h:a≤max (max 5 5+1) 2+1):a≤900:=Nat.le_trans h (by decide)
theorem Yz{a b:Nat}(h:a≤max 5 (max 5 2+1)+1)(h1:b≤8+(8+2)):3*a+7+b+10≤398:=Nat.le_trans (Nat.add_le_add_right (Nat.add_le_add (Nat.add_le_add_right (Nat.mul_le_mul_left 3 h) 7) h1) 10) (by decide)
theorem Y0{a:Nat}(h:a≤max 5 (max 5 2+1)+1):a≤900:=Nat.le_trans h (by decide)
theorem Y6{a b c d:Nat}(h:a≤2∧b≤2)(h1:c≤max 5 5+1)(h2:d≤8+8):3*c+3*a+7+d+b+10≤397:=Nat.le_trans (Nat.add_le_add_right (Nat.add_le_add (Nat.add_le_add (Nat.add_le_add_right (Nat.add_le_add (Nat.mul_le_mul_left 3 h1) (Nat.mul_le_mul_left 3 h.1)) 7) h2) h.2) 10) (by decide)
theorem Y7{a:Nat}(h:a≤max 5 5+1):a≤900:=Nat.le_trans h (by decide)
theorem Y8{a b:Nat}(h:a≤2∧b≤2):a≤900:=Nat.le_trans h.1 (by decide)
theorem Y9{a b:Nat}(h:a≤8+8+2)(h1:b≤8+(8+2)):7+a+(7+b)≤397:=Nat.le_trans (Nat.add_le_add (Nat.add_le_add_left h 7) (Nat.add_le_add_left h1 7)) (by decide)
theorem Za{a b c d:Nat}(h:a≤2∧b≤2)(h1:c≤8+8+2)(h2:d≤8+8):7+c+(7+b+d)≤397:=Nat.le_trans (Nat.add_le_add (Nat.add_le_add_left h1 7) (Nat.add_le_add (Nat.add_le_add_left h.2 7) h2)) (by decide)
theorem Zb:max 5 0+1≤6:=by decide
theorem Zc:8+0≤8:=by decide
theorem Zd:max 0 5+1≤6:=by decide
theorem Ze:0+8≤8:=by decide
theorem Zf:5+1+(5+1)≤397:=by decide
theorem Zg{a b:Nat}(h:a < b)(h1:b≤8):a < 8:=Nat.lt_of_lt_of_le h h1
theorem Zh{a b c:Nat}(h:a+b < 4096)(h1:c=16777216):a+b≤c:=by rw[h1];exact Nat.le_trans (Nat.le_of_lt h) (by decide)
theorem Zi{a b c d e f g:Nat}(h:a≤b)(h1:c≤d)(h2:e≤f)(h3:g≤f)(h4:f=14)(h5:b≤e)(h6:d=g):a+c < 4096:=by rw[h4] at h2 h3;exact Nat.lt_of_le_of_lt (Nat.add_le_add (Nat.le_trans h (Nat.le_trans h5 h2)) (Nat.le_trans h1 (h6▸h3))) (by decide)
theorem Zj{a b c:Nat}(h:a+(b+1)=c):a+1≤c:=Nat.le_trans (Nat.add_le_add_left (Nat.succ_le_succ (Nat.zero_le b)) a) (Nat.le_of_eq h)
theorem Zk{a b c d e:Nat}(h:a < 4096)(h1:b≤c)(h2:d≤a+b)(h3:c < 4096)(h4:e=16777216):d < e:=by rw[h4];exact Nat.lt_of_le_of_lt (Nat.le_trans h2 (Nat.add_le_add (Nat.le_of_lt h) (Nat.le_trans h1 (Nat.le_of_lt h3)))) (by decide)
theorem Zl{a b c d e f:Nat}(h:a≤b+c)(h1:d≤e)(h2:f≤e)(h3:e=14)(h4:b≤d)(h5:c=f):a < 4096:=by rw[h3] at h1 h2;exact Nat.lt_of_le_of_lt (Nat.le_trans h (Nat.add_le_add (Nat.le_trans h4 h1) (h5▸h2))) (by decide)
theorem Zm{a b c d e f:Nat}(h:a≤b)(h1:c≤b)(h2:b=14)(h3:d≤a)(h4:e≤c)(h5:f=16777216):d+e≤f:=by rw[h5];rw[h2] at h h1;exact Nat.le_trans (Nat.add_le_add (Nat.le_trans h3 h) (Nat.le_trans h4 h1)) (by decide)
theorem Zn{a b c d:Nat}(h:2*(a+1)+(b+1)+c+8≤d+3):2*a+b+c+8≤d+1:=by first | lia | omega
theorem Zo{a b c d e f:Nat}(h:2*(max a b+1)+c+(d+e)+8≤f+1):a+c+3≤f:=Nat.le_of_succ_le_succ (Nat.le_trans (Nat.add_le_add (Nat.le_trans (Nat.add_le_add_right (Nat.le_trans (Nat.le_max_left a b) (Nat.le_trans (Nat.le_succ _) (Nat.le_mul_of_pos_left _ (by decide:0 < 2)))) c) (Nat.le_add_right _ (d+e))) (by decide:4≤8)) h)
theorem Zp{a b c d:Nat}(h:a≤9*b)(h1:b≤900)(h2:c≤8)(h3:d=1048576):a+1+(c+1+0)≤d:=by rw[h3];exact Nat.le_trans (Nat.add_le_add (Nat.succ_le_succ (Nat.le_trans h (Nat.mul_le_mul_left 9 h1))) (Nat.succ_le_succ h2)) (by decide)
theorem Zq{a:Nat}(h:a≤5):a+5+3≤399:=Nat.le_trans (Nat.add_le_add_right (Nat.add_le_add_right h 5) 3) (by decide)
theorem Zr{a b:Nat}(h:a≤5)(h1:b≤8):2*a+7+b+8≤399:=Nat.le_trans (Nat.add_le_add_right (Nat.add_le_add (Nat.add_le_add_right (Nat.mul_le_mul_left 2 h) 7) h1) 8) (by decide)
theorem Zs:5+1+1≤398:=by decide
theorem Zt{a:Nat}(h:a≤8):7+a+(7+a)≤397:=Nat.le_trans (Nat.add_le_add (Nat.add_le_add_left h 7) (Nat.add_le_add_left h 7)) (by decide)
theorem Zu{a b c d:Nat}(h:a < b)(h1:b≤12)(h2:c=a)(h3:d=16777216):c < d:=by rw[h2,h3];exact Nat.lt_of_lt_of_le h (Nat.le_trans h1 (by decide))
end Mine
namespace Mine
open PySem
inductive P(α:Type) where
 |no
 |ok (a:α)
theorem bft{p:Prop}(h:false=true):p:=Bool.noConfusion h
theorem btf{p:Prop}(h:true=false):p:=Bool.noConfusion h
theorem ns{α:Type}{a:α}{p:Prop}(h:none=some a):p:=nomatch h
theorem sn{α:Type}{a:α}{p:Prop}(h:some a=none):p:=nomatch h
theorem si{α:Type}{a b:α}(h:some a=some b):a=b:=Option.some.inj h
theorem pno{α:Type}{a:α}{p:Prop}(h:P.no=.ok a):p:=nomatch h
theorem pi{α:Type}{a b:α}(h:P.ok a=.ok b):a=b:=P.ok.inj h
theorem cL{α:Type}{a:α}{p:Prop}(h:a∈([]:List α)):p:=nomatch h
theorem ocs{α:Type}{p:Prop}(o:Option α)(h:o=none→p)(g:∀ x,o=some x→p):p:=by cases o with | none=>exact h rfl | some x=>exact g x rfl
theorem bcs{p:Prop}(b:Bool)(h:b=false→p)(g:b=true→p):p:=by cases b with | false=>exact h rfl | true=>exact g rfl
theorem pcs{α:Type}{p:Prop}(o:P α)(h:o=.no→p)(g:∀ x,o=.ok x→p):p:=by cases o with | no=>exact h rfl | ok x=>exact g x rfl
noncomputable def P.bind{α β:Type}(x:P α)(f:α→P β):P β :=
 match x with
 | .no=>.no
 | .ok a=>f a
structure X where
 cls:Str
 fields:List (Str×PyData)
inductive V where
 |fz (d:PyData)
 |own (d:PyData)
 |ex (x:X)
abbrev aA:=List (Str×Option V)
noncomputable def aA.get:aA→Str→Option (Option V)
 | [],_=>none
 | (y,v)::r,x=>if x=y then some v else aA.get r x
noncomputable def aA.set:aA→Str→V→aA
 | [],_,_=>[]
 | (y,v)::r,x,u=>if x=y then (y,some u)::r else (y,v)::aA.set r x u
noncomputable def V.clear:V→V
 | .own d=>.fz d
 |v=>v
noncomputable def aA.clear:aA→List Str→aA
 | [],_=>[]
 | (y,v)::r,xs=>(y,if xs.contains y then v.map V.clear else v)::aA.clear r xs
noncomputable def dOf:V→PyData
 | .fz d=>d
 | .own d=>d
 | .ex _=>.none
inductive R(α:Type) where
 |no
 |ok (a:α)
 |exc (x:X)
noncomputable def rb{α β:Type}(r:R α)(k:α→R β):R β :=
 match r with
 | .no=>.no
 | .ok a=>k a
 | .exc x=>.exc x
noncomputable def ofP{α:Type}:P α→R α
 | .no=>.no
 | .ok a=>.ok a
noncomputable def nx{α:Type}:R α→R α
 | .ok a=>.ok a
 |_=>.no
noncomputable def ofO{α:Type}:Option α→P α
 |some a=>.ok a
 |none=>.no
noncomputable def Hi:PyData→P Bool
 | .bool b=>.ok b
 |_=>.no
noncomputable def cR:V→P Bool
 | .fz d=>Hi d
 |_=>.no
noncomputable def aX:Nat:=16777216
noncomputable def mkS(s:Str):P V:=if s.length≤aX then .ok (.fz (.str s)) else .no
noncomputable def jH(x:Str)(n:Int):Str :=
 if n < 1 then Str.empty else if (n==1||x.length==0)=true then x else ⟨(List.replicate n.toNat x.cps).foldl (·++·) #[]⟩
noncomputable def wA(op:Operator)(x y:Int):P V :=
 match op with
 | .Add=>.ok (.fz (.int (x+y)))
 | .Sub=>.ok (.fz (.int (x - y)))
 | .Mult=>if x.natAbs < 2 ^ 63∨y.natAbs < 2 ^ 63 then .ok (.fz (.int (x*y))) else .no
 | .FloorDiv=>if y≠0∧y.natAbs < 2 ^ 63 then .ok (.fz (.int (x.fdiv y))) else .no
 | .Mod=>if y≠0 then .ok (.fz (.int (x.fmod y))) else .no
 | .Pow=>if 0≤y∧y≤1000∧x.natAbs < 2 ^ 63 then .ok (.fz (.int (x ^ y.toNat))) else .no
 |_=>.no
noncomputable def iF:Operator→Bool
 | .Add=>true
 |_=>false
noncomputable def wB:Operator→Bool
 | .Mult=>true
 |_=>false
noncomputable def Hj(op:Operator)(x:Int):PyData→P V
 | .int y=>wA op x y
 |_=>.no
noncomputable def Hk(op:Operator)(x:Str):PyData→P V
 | .str y=>if iF op=true∧x.length+y.length≤aX then .ok (.fz (.str (x++y))) else .no
 | .int y=>if wB op=true∧-100≤y∧y≤1024∧x.length≤1024 then .ok (.fz (.str (jH x y))) else .no
 |_=>.no
noncomputable def eP(op:Operator)(x:List PyData):PyData→P V
 | .list y=>if iF op=true∧x.length+y.length≤aX then .ok (.own (.list (x++y))) else .no
 |_=>.no
noncomputable def aD(op:Operator)(a b:PyData):P V :=
 match a with
 | .int x=>Hj op x b
 | .str x=>Hk op x b
 | .list x=>eP op x b
 |_=>.no
noncomputable def eqI(x:Int):PyData→P Bool
 | .int y=>.ok (x==y)
 |_=>.no
noncomputable def eqS(x:Str):PyData→P Bool
 | .str y=>.ok (x==y)
 |_=>.no
noncomputable def eqB(x:Bool):PyData→P Bool
 | .bool y=>.ok (x==y)
 |_=>.no
noncomputable def strs?:List PyData→Option (List Str)
 | []=>some []
 |d::r=>match d with
  | .str s=>(strs? r).map (s::·)
  |_=>none
noncomputable def eQ(x y:List PyData):P Bool :=
 match strs? x with
 |none=>.no
 |some a=>match strs? y with
  |none=>.no
  |some b=>.ok (a==b)
noncomputable def eqL(x:List PyData):PyData→P Bool
 | .list y=>if x.length=y.length then eQ x y else .ok false
 |_=>.no
noncomputable def eqT(x:List PyData):PyData→P Bool
 | .tuple y=>if x.length=y.length then eQ x y else .no
 |_=>.no
noncomputable def eqZ:PyData→P Bool
 | .list _=>.ok false
 |_=>.no
noncomputable def eqO(a b:PyData):P Bool :=
 match a with
 | .none=>eqZ b
 | .int x=>eqI x b
 | .str x=>eqS x b
 | .bool x=>eqB x b
 | .list x=>eqL x b
 | .tuple x=>eqT x b
 |_=>.no
noncomputable def dI(a:Str):List Str→List Str
 | []=>[a]
 |b::r=>if b.cps.toList < a.cps.toList then b::dI a r else a::b::r
noncomputable def a8:List Str→List Str
 | []=>[]
 |a::r=>dI a (a8 r)
noncomputable def cC:List (PyData×PyData)→Str→Option PyData
 | [],_=>none
 | (.str y,v)::r,x=>if x=y then some v else cC r x
 |_::r,x=>cC r x
noncomputable def dJ:List (PyData×PyData)→Str→PyData→List (PyData×PyData)
 | [],x,u=>[(.str x,u)]
 | (.str y,v)::r,x,u=>if x=y then (.str y,u)::r else (.str y,v)::dJ r x u
 |p::r,x,u=>p::dJ r x u
noncomputable def eR:List (PyData×PyData)→Str→List (PyData×PyData)
 | [],_=>[]
 | (.str y,v)::r,x=>if x=y then r else (.str y,v)::eR r x
 |p::r,x=>p::eR r x
noncomputable def fG:List (PyData×PyData)→Bool
 | []=>false
 |p::_=>match p.1 with
  | .int _=>true
  |_=>false
noncomputable def slice{α:Type}(l:List α)(lo hi:Option Int):List α:=(l.drop (lo.elim 0 (clipAt l.length))).take (hi.elim l.length (clipAt l.length) - lo.elim 0 (clipAt l.length))
noncomputable def bO(c:Nat):PyData:=.str ⟨#[c]⟩
noncomputable def frz:Option PyData→P V
 |some d=>.ok (.fz d)
 |none=>.no
noncomputable def atP(l:List PyData)(k:Int):P V:=if 0≤k∧k < l.length then frz l[k.toNat]? else .no
noncomputable def atN(l:List PyData)(k:Int):P V:=if k < 0∧-(l.length:Int)≤k then frz l[(k+l.length).toNat]? else .no
noncomputable def atS(s:Str)(k:Int):P V:=if 0≤k∧k < s.cps.size then frz (s.cps[k.toNat]?.map bO) else .no
noncomputable def Hl(k:Int):PyData→P V
 | .list l=>if 0≤k then atP l k else atN l k
 | .tuple l=>atP l k
 | .str s=>atS s k
 |_=>.no
noncomputable def Hm(x:Str):PyData→P V
 | .dict l=>frz (cC l x)
 |_=>.no
noncomputable def getItem(a i:PyData):P V :=
 match i with
 | .int k=>Hl k a
 | .str x=>Hm x a
 |_=>.no
noncomputable def Hn(l:List PyData)(lo hi:Option Int):P V:=match lo with
 |some a=>(match hi with | none=>if 1≤a∧a≤l.length then .ok (.fz (.tuple (l.drop a.toNat))) else .no | some _=>.no)
 |none=>.no
noncomputable def iG(a:PyData)(lo hi:Option Int):P V :=
 match a with
 | .list l=>.ok (.own (.list (slice l lo hi)))
 | .tuple l=>Hn l lo hi
 |_=>.no
noncomputable def lX(x:Str)(l:List PyData):P Bool:=(ofO (strs? l)).bind fun ss=>.ok (ss.contains x)
noncomputable def inS(x:Str):PyData→P Bool
 | .str y=>.ok (Txt.contains y x)
 | .dict l=>if fG l=true then .no else .ok (cC l x).isSome
 | .list l=>lX x l
 | .tuple l=>lX x l
 |_=>.no
noncomputable def contains(a b:PyData):P Bool :=
 match a with
 | .str x=>inS x b
 |_=>.no
noncomputable def bK(p:P Bool):P Bool:=p.bind fun b=>.ok (!b)
noncomputable def c8:PyData→Bool
 | .none=>true
 |_=>false
noncomputable def lY(a b:PyData):P Bool :=
 match b with
 | .none=>.ok (c8 a)
 |_=>.no
noncomputable def jI(f:Int→Int→Bool)(a b:PyData):P Bool :=
 match a with
 | .int x=>(match b with | .int y=>.ok (f x y) | _=>.no)
 |_=>.no
noncomputable def cmp(op:CmpOp)(a b:PyData):P Bool :=
 match op with
 | .Eq=>eqO a b
 | .NotEq=>bK (eqO a b)
 | .Lt=>jI (fun x y=>decide (x < y)) a b
 | .LtE=>jI (fun x y=>decide (x≤y)) a b
 | .Gt=>jI (fun x y=>decide (y < x)) a b
 | .GtE=>jI (fun x y=>decide (y≤x)) a b
 | .In=>contains a b
 | .NotIn=>bK (contains a b)
 | .Is=>lY a b
 | .IsNot=>bK (lY a b)
noncomputable def items:PyData→P (List PyData)
 | .list l=>.ok l
 | .tuple l=>.ok l
 | .dict l=>.ok (l.map (·.1))
 | .str s=>.ok (s.cps.toList.map bO)
 |_=>.no
noncomputable def wC:PyData→P (List PyData)
 | .list l=>.ok l
 | .tuple l=>.ok l
 |_=>.no
noncomputable def dK(i:Int):List PyData→List PyData
 | []=>[]
 |x::r=>.tuple [.int i,x]::dK (i+1) r
noncomputable def cW(i:Int):Nat→List PyData
 |0=>[]
 |n+1=>.int i::cW (i+1) n
noncomputable def bools?:List PyData→Option (List Bool)
 | []=>some []
 | .bool b::r=>(bools? r).map (b::·)
 |_::_=>none
noncomputable def Ho(l:List PyData):P Bool:=(ofO (bools? l)).bind fun bs=>.ok (bs.all id)
noncomputable def b4:List Str→List Str
 | []=>[]
 |a::r=>if r.contains a then b4 r else a::b4 r
noncomputable def Hp:List PyData→Option (PyData×PyData)
 | []=>none
 |a::r=>match r with
  | []=>none
  |b::r=>match r with
   | []=>some (a,b)
   |_::_=>none
noncomputable def two:PyData→Option (PyData×PyData)
 | .tuple l=>Hp l
 |_=>none
noncomputable def keys?:List (PyData×PyData)→Option (List (Str×PyData))
 | []=>some []
 |p::r=>match p.1 with
  | .str k=>(keys? r).map ((k,p.2)::·)
  |_=>none
noncomputable def twos?:List PyData→Option (List (PyData×PyData))
 | []=>some []
 |x::r=>(two x).bind fun p=>(twos? r).map (p::·)
noncomputable def cS:List (Str×PyData)→List (PyData×PyData)→List (PyData×PyData)
 | [],acc=>acc
 |p::r,acc=>cS r (dJ acc p.1 p.2)
noncomputable def lZ(i:Int):Str:=Str.ofString (toString i)
noncomputable def bR:PyData→Bool
 | .dict _=>true
 |_=>false
noncomputable def eB:PyData→Bool
 | .int _=>true
 | .bool _=>true
 |_=>false
noncomputable def fU:PyData→Bool
 | .bool _=>true
 |_=>false
noncomputable def pQ:PyData→Bool
 | .str _=>true
 |_=>false
noncomputable def wD:PyData→Bool
 | .list _=>true
 |_=>false
noncomputable def l0:PyData→Bool
 | .tuple _=>true
 |_=>false
noncomputable def fz(d:PyData):P V:=.ok (.fz d)
noncomputable def own(d:PyData):P V:=.ok (.own d)
noncomputable def fzb(b:P Bool):P V:=b.bind fun b=>.ok (.fz (.bool b))
noncomputable def bH:PyData→P V
 | .list l=>fz (.int l.length)
 | .tuple l=>fz (.int l.length)
 | .str s=>fz (.int s.cps.size)
 | .dict l=>fz (.int l.length)
 |_=>.no
noncomputable def cE:PyData→P V
 | .list l=>fzb (Ho l)
 |_=>.no
noncomputable def eS(l:List PyData):P V:=(ofO (strs? l)).bind fun l=>if l.length < 64 then own (.list ((a8 l).map .str)) else .no
noncomputable def cP:PyData→P V
 | .list l=>eS l
 | .dict l=>eS (l.map (·.1))
 |_=>.no
noncomputable def dR:PyData→P V
 | .dict l=>if fG l=true then .no else own (.list (l.map (·.1)))
 | .list l=>own (.list l)
 |_=>.no
noncomputable def eT:PyData→P V
 | .list l=>fz (.tuple l)
 |_=>.no
noncomputable def bE:PyData→P V
 | .list l=>(ofO (twos? l)).bind fun l=>(ofO (keys? l)).bind fun l=>if l.length < 4096 then own (.dict (cS l [])) else .no
 | .dict l=>if fG l=true then .no else own (.dict l)
 |_=>.no
noncomputable def iH:PyData→P V
 | .bool b=>fz (.int (if b then 1 else 0))
 | .str s=>if s.length≤640 then (ofO (PySem.intText? s)).bind fun i=>fz (.int i) else .no
 |_=>.no
noncomputable def l5:PyData→P V
 | .str s=>fz (.str s)
 | .int i=>if i.natAbs.log2 < 1920 then fz (.str (lZ i)) else .no
 |_=>.no
noncomputable def pR:PyData→P V
 | .int i=>fz (.int (if i < 0 then -i else i))
 |_=>.no
noncomputable def pS(f:Str)(d:PyData):P V :=
 if f = "len" then bH d
 else if f = "all" then cE d
 else if f = "sorted" then cP d
 else if f = "list" then dR d
 else if f = "tuple" then eT d
 else if f = "dict" then bE d
 else if f = "int" then iH d
 else if f = "str" then l5 d
 else if f = "abs" then pR d
 else .no
noncomputable def iI(f:Str):Bool:=f == "len" || f == "all" || f == "sorted" || f == "list" || f == "tuple" || f == "dict" || f == "int" || f == "str" || f == "abs"
noncomputable def Hq:List PyData→Option PyData
 | []=>some .none
 |d::r=>match r with
  | []=>some d
  |_::_=>none
noncomputable def wE(l:List (PyData×PyData))(r:List PyData):PyData→P V
 | .str k=>if fG l=true then .no else (ofO (Hq r)).bind fun d=>fz ((cC l k).getD d)
 |_=>.no
noncomputable def wF:PyData→P (List PyData)
 | .list l=>.ok l
 |_=>.no
noncomputable def wG(sep:Str)(r:List PyData)(d:PyData):P V :=
 match r with
 | []=>(wC d).bind fun l=>(ofO (strs? l)).bind fun l=>if JoinOk sep l then fz (.str (Txt.join sep l)) else .no
 |_::_=>.no
noncomputable def wH(m:Str)(l:List PyData)(as:List PyData):P V:=match as with
 | []=>.no
 |d::r=>match r with
  | []=>(match d with
   | .bool k=>(ofO (bools? l)).bind fun bs=>if m = "count" then fz (.int (bs.countP (·==k))) else (ofO (bs.findIdx? (·==k))).bind fun j=>if j < aX then fz (.int j) else .no
   |_=>.no)
  |_::_=>.no
noncomputable def mOk(m:Str)(o:PyData):Bool :=
 match o with
 | .list _=>decide (m = "count")||decide (m = "index")
 | .dict _=>decide (m = "get")
 | .str _=>decide (m = "join")
 |_=>false
noncomputable def eU(o:PyData)(as:List PyData):P V :=
 match as with
 | []=>.no
 |k::r=>match o with
  | .dict l=>wE l r k
  | .str sep=>wG sep r k
  |_=>.no
noncomputable def l8(m:Str)(o:PyData)(as:List PyData):P V:=match o with
 | .list l=>wH m l as
 |_=>eU o as
inductive EW where
 |name (x:Str)
 |tup (es:List Expr)
 |star
 |call (f:Expr) (as:List Expr) (kws:List Keyword) (q:Pos)
 |attr (o:Expr) (m:Str) (p:Pos)
 |sub (o i:Expr)
 |slice (a b c:Option Expr)
 |comp
 |setd
 |other
noncomputable def vw:Expr→EW
 | .Name x _=>.name x
 | .Tuple es _ _=>.tup es
 | .Starred _ _=>.star
 | .Call f as kws q=>.call f as kws q
 | .Attribute o m p=>.attr o m p
 | .Subscript o i _=>.sub o i
 | .Slice a b c _=>.slice a b c
 | .ListComp _ _ _ _=>.comp
 | .SetComp _ _ _ _=>.comp
 | .DictComp _ _ _ _ _=>.comp
 | .Set _ _ _=>.setd
 |_=>.other
noncomputable def bI(e:Expr):Option Str:=match vw e with | .name x=>some x | _=>none
noncomputable def gN(e:Expr):Bool:=match vw e with | .call _ _ _ _=>true | _=>false
noncomputable def gO(e:Expr):Bool:=match vw e with | .comp=>true | _=>false
noncomputable def Hr(e:Expr):Bool:=match vw e with | .slice _ _ _=>true | _=>false
noncomputable def jJ(e:Expr):Bool:=match vw e with | .tup _=>true | _=>false
noncomputable def gP(e:Expr):Option (Expr×List Expr×List Keyword×Pos):=match vw e with | .call f as kws q=>some (f,as,kws,q) | _=>none
noncomputable def jK(e:Expr):Option (Expr×Str×Pos):=match vw e with | .attr o m p=>some (o,m,p) | _=>none
noncomputable def pT{α:Type}(kws:List Keyword)(a:α):Option α:=match kws with | []=>some a | _::_=>none
noncomputable def bad(e:Expr):Bool:=match vw e with | .star=>true | .setd=>true | .slice _ _ _=>true | _=>false
structure Ctx where
 call:Str→List V→R V
 has:Str→Bool
 const:Str→Option PyData
 hd:Bool
 sub:Str→Str→Option Bool
 init:Str→Option (Option (List Str))
noncomputable def evs(rec:Expr→R V):List Expr→R (List V)
 | []=>.ok []
 |e::r=>rb (rec e) fun v=>rb (evs rec r) fun vs=>.ok (v.clear::vs)
noncomputable def b6(l:List V):List PyData:=l.map dOf
noncomputable def isG(sc:Scope)(x:Str):Bool:=sc.names.lookup x==some .globalImplicit
noncomputable def isL(sc:Scope)(x:Str):Bool :=
 match sc.names.lookup x with
 |some .local=>true
 |some .cell=>true
 |some .free=>true
 |_=>false
noncomputable def tst(r:R V):R Bool:=rb r fun v=>ofP (cR v)
noncomputable def jL(rec:Expr→R V):List Expr→R V
 | []=>.no
 |e::r=>match r with
  | []=>rec e
  |r=>rb (rec e) fun v=>rb (ofP (cR v)) fun b=>if b then jL rec r else .ok v
noncomputable def jM(rec:Expr→R V):List Expr→R V
 | []=>.no
 |e::r=>match r with
  | []=>rec e
  |r=>rb (rec e) fun v=>rb (ofP (cR v)) fun b=>if b then .ok v else jM rec r
noncomputable def aP(b:R Bool):R V:=rb b fun b=>.ok (.fz (.bool b))
noncomputable def pU(rec:Expr→R V)(a:PyData)(op:CmpOp)(e:Expr):R Bool:=rb (rec e) fun v=>ofP (cmp op a (dOf v))
noncomputable def Hs(rec:Expr→R V)(a:PyData)(op op':CmpOp)(e e':Expr):R Bool:=rb (rec e) fun v=>rb (ofP (cmp op a (dOf v))) fun t=>if t then pU rec (dOf v) op' e' else .ok false
noncomputable def mB(rec:Expr→R V)(a:PyData)(ops:List CmpOp)(es:List Expr):R Bool :=
 match ops with
 | []=>.no
 |op::ops=>match es with
  | []=>.no
  |e::es=>match ops with
   | []=>(match es with | []=>pU rec a op e | _::_=>.no)
   |op'::ops=>match es with
    | []=>.no
    |e'::es=>match ops with
     | []=>(match es with | []=>Hs rec a op op' e e' | _::_=>.no)
     |_::_=>.no
noncomputable def iJ(rec:Expr→R V):List (Option Expr)→List Expr→R (List (PyData×PyData))
 | [],[]=>.ok []
 |some k::ks,e::es=>rb (rec k) fun k=>rb (rec e) fun v=>rb (iJ rec ks es) fun r=>.ok ((dOf k,dOf v)::r)
 |_,_=>.no
noncomputable def iK(l:List (PyData×PyData)):P V:=(ofO (keys? l)).bind fun l=>own (.dict (cS l []))
noncomputable def jN(l:List (PyData×PyData)):P V:=match l with
 | []=>.no
 |p::r=>match r with
  | []=>(match p.1 with | .int _=>.ok (.fz (.dict [p])) | _=>.no)
  |_::_=>.no
noncomputable def Ht(e:Expr):Bool:=match e with
 | .Constant c _ _=>(match c with | .int _=>true | _=>false)
 |_=>false
noncomputable def pV(ks:List (Option Expr)):Bool:=ks.any fun o=>o.any Ht
noncomputable def eC:List Expr→Option (List Str)
 | []=>some []
 |e::r=>(bI e).bind fun x=>(eC r).map (x::·)
noncomputable def iL(rec:Expr→R V)(e:Expr):R (List PyData):=rb (rec e) fun v=>ofP (items (dOf v))
noncomputable def mD(n:PyData):P (List PyData) :=
 match n with
 | .int n=>if -4096≤n∧n≤4096 then .ok (cW 0 n.toNat) else .no
 |_=>.no
noncomputable def gQ:V→P PyData
 | .fz d=>.ok d
 |_=>.no
noncomputable def pW(rec:Expr→R V)(a:Expr):R (List PyData):=rb (rec a) fun v=>ofP ((gQ v).bind mD)
noncomputable def wI:PyData→P (List PyData)
 | .list l=>.ok l.reverse
 |_=>.no
noncomputable def pX(rec:Expr→R V)(a:Expr):R (List PyData):=rb (rec a) fun v=>ofP (wI (dOf v))
noncomputable def pY(rec:Expr→R V)(a:Expr):R (List PyData):=rb (rec a) fun v=>ofP ((wF (dOf v)).bind fun l=>.ok (dK 0 l))
noncomputable def wJ:PyData→P (List PyData)
 | .tuple l=>.ok l
 |_=>.no
noncomputable def iM(e:Expr):Option (Str×List Expr):=(gP e).bind fun c=>(bI c.1).bind fun x=>pT c.2.2.1 (x,c.2.1)
noncomputable def fH(rec:Expr→R V)(hd:Bool)(sc:Scope)(target:Expr)(e:Expr):R (List PyData) :=
 if hd then .no else
 match iM e with
 |none=>iL rec e
 |some c =>
  if c.1 = "range" ∨ c.1 = "enumerate" ∨ c.1 = "reversed" ∨ c.1 = "zip" then
   if isG sc c.1 then match c.2 with
    | []=>.no
    |a::r=>match r with
     | []=>if c.1 = "range" then pW rec a else if c.1 = "enumerate" ∧ jJ target=true then pY rec a else if c.1 = "reversed" then pX rec a else .no
     |_::_=>.no
   else .no
  else iL rec e
noncomputable def bnd(x:Str)(d:PyData)(σ:aA):aA:=(".0", none)::(x,some (.fz d))::σ
noncomputable def aT(test:PyData→R Bool)(elt:PyData→R V):List PyData→R (List PyData)
 | []=>.ok []
 |d::r=>rb (nx (test d)) fun b =>
  if b then rb (nx (elt d)) fun v=>rb (aT test elt r) fun xs=>.ok (dOf v::xs)
  else aT test elt r
inductive Tg where
 |one (x:Str)
noncomputable def jO(e:Expr):Option Tg:=match vw e with
 | .name x=>some (.one x)
 |_=>none
noncomputable def Tg.ns:Tg→List Str
 | .one x=>[x]
noncomputable def jP(t:Tg)(d:PyData)(σ:aA):Option aA:=match t with
 | .one x=>some (bnd x d σ)
noncomputable def jQ{α:Type}(t:Tg)(d:PyData)(σ:aA)(k:aA→R α):R α:=match t with
 | .one x=>k (bnd x d σ)
noncomputable def fV(test:aA→R Bool)(elt:aA→R V)(t:Tg)(σ:aA)(l:List PyData):R (List PyData):=aT (fun d=>jQ t d σ test) (fun d=>jQ t d σ elt) l
noncomputable def jR(sc:Scope)(σ:aA)(x:Str):Option PyData :=
 match aA.get σ x with
 |some o=>(match o with
  |some v=>(match v with | .own d=>if isL sc x then some d else none | _=>none)
  |none=>none)
 |none=>none
noncomputable def mE(sc:Scope)(σ:aA)(e:Expr):Option PyData:=match bI e with | some x=>jR sc σ x | none=>none
noncomputable def wK(sc:Scope)(σ:aA)(x:Str):Option X :=
 match aA.get σ x with
 |some o=>(match o with
  |some v=>(match v with | .ex d=>if isL sc x then some d else none | _=>none)
  |none=>none)
 |none=>none
noncomputable def fW(sc:Scope)(σ:aA)(e:Expr):Option X:=match bI e with | some x=>wK sc σ x | none=>none
noncomputable def mF(rec:Expr→R V)(sc:Scope)(σ:aA)(o:Expr):R PyData :=
 match mE sc σ o with
 |some d=>.ok d
 |none=>rb (rec o) fun v=>.ok (dOf v)
noncomputable def mG:Option NameKind→Bool
 |some .cell=>true
 |some .free=>true
 |_=>false
noncomputable def mH(sc sc':Scope)(t:Tg):Bool :=
 sc'.kind==.function&&(sc'.names.all fun p=>match p.2 with
  | .local=>(p.1 == ".0" || t.ns.contains p.1)&&sc'.names.lookup p.1==some .local
  | .cell=>false
  | .free=>mG (sc.names.lookup p.1)
  |_=>true)&&(t.ns.all fun x=>x != ".0" && sc'.names.lookup x==some .local)&&(sc'.names.lookup (Str.ofString "__debug__")).isNone&&(sc'.names.lookup (Str.ofString "__classdict__")).isNone
noncomputable def Hu(a b:PyData):P V :=
 match a with
 | .int x=>(match b with | .int y=>fz (.int (if y < x then y else x)) | _=>.no)
 |_=>.no
noncomputable def mI:List V→P V
 | []=>.no
 |a::r=>match r with
  | []=>.no
  |b::r=>(match r with | []=>(gQ a).bind fun a=>(gQ b).bind fun b=>Hu a b | _::_=>.no)
noncomputable def mJ(t:Str)(d:PyData):P V :=
 if t = "dict" then fz (.bool (bR d))
 else if t = "int" then fz (.bool (eB d))
 else if t = "bool" then fz (.bool (fU d))
 else if t = "str" then fz (.bool (pQ d))
 else if t = "list" then fz (.bool (wD d))
 else if t = "tuple" then fz (.bool (l0 d))
 else .no
noncomputable def mK(e:Expr):Bool:=match vw e with | .call f _ _ _=>(bI f).isNone | _=>true
noncomputable def dS(d:PyData):P V:=(wC d).bind fun l=>(ofO (strs? l)).bind fun ss=>if ss.length < 64 then fz (.int (b4 ss.reverse).length) else .no
noncomputable def eD:PyData→P V
 | .dict l=>if fG l=true then .no else own (.list (l.map fun p=>.tuple [p.1,p.2]))
 |_=>.no
noncomputable def wL(rec:Expr→R V)(sc:Scope)(as:List Expr):R V :=
 match as with
 | []=>.no
 |x::r=>match r with
  | []=>if isG sc "set" = true then rb (rec x) fun v=>ofP (dS (dOf v)) else .no
  |_::_=>.no
noncomputable def wM(rec:Expr→R V)(o:Expr)(ap cp:Pos)(as:List Expr):R V :=
 match as with
 | []=>if mK o=true∧(ap.endLine==cp.line)=true then rb (rec o) fun v=>ofP (eD (dOf v)) else .no
 |_::_=>.no
noncomputable def pZ(f:Str):Bool:=f == "all" || f == "list" || f == "dict" || f == "set" || f == "sorted"
noncomputable def fX(rec:Expr→R V)(hd:Bool)(f:Str)(a:Expr):R V:=if hd&&pZ f then .no else rb (rec a) fun v=>ofP (pS f (dOf v))
noncomputable def wN(rec:Expr→R V)(hd:Bool)(sc:Scope)(f:Str)(as:List Expr)(kws:List Keyword):R V :=
 if f = "len" ∧ hd=false then (match kws with | []=>wL rec sc as | _::_=>.no) else .no
noncomputable def wO(rec:Expr→R V)(hd:Bool)(f:Str)(o:Expr)(ap cp:Pos)(as:List Expr)(kws:List Keyword):R V :=
 if f = "list" ∧ hd=false then (match kws with | []=>wM rec o ap cp as | _::_=>.no) else .no
noncomputable def wP(rec:Expr→R V)(hd:Bool)(sc:Scope)(f:Str)(a:Expr)(as:List Expr)(kws:List Keyword)(cp:Pos):EW→R V
 | .name g=>if g = "set" then wN rec hd sc f as kws else fX rec hd f a
 | .attr o m ap=>if m = "items" then wO rec hd f o ap cp as kws else fX rec hd f a
 |_=>fX rec hd f a
noncomputable def qA(rec:Expr→R V)(hd:Bool)(sc:Scope)(f:Str)(a:Expr):R V :=
 match gP a with
 |some c=>wP rec hd sc f a c.2.1 c.2.2.1 c.2.2.2 (vw c.1)
 |none=>fX rec hd f a
noncomputable def isX(K:Ctx)(c t:Str):P V:=(ofO (K.sub c t)).bind fun b=>if t = "ValueError" then (if b=true then fz (.bool true) else .no) else fz (.bool b)
noncomputable def wQ(rec:Expr→R V)(K:Ctx)(sc:Scope)(σ:aA)(a:Expr)(r:List Expr):Option Str→R V
 |some t=>(match r with
  | []=>if isG sc t then (match fW sc σ a with
   |some x=>ofP (isX K x.cls t)
   |none=>rb (rec a) fun v=>ofP (mJ t (dOf v))) else .no
  |_::_=>.no)
 |none=>.no
noncomputable def wR(rec:Expr→R V)(K:Ctx)(sc:Scope)(σ:aA)(as:List Expr):R V :=
 match as with
 | []=>.no
 |a::r=>match r with
  | []=>.no
  |b::r=>wQ rec K sc σ a r (bI b)
noncomputable def Hv(rec:Expr→R V)(hd:Bool)(sc:Scope)(f:Str)(as:List Expr):R V :=
 match as with
 | []=>.no
 |a::r=>(match r with | []=>qA rec hd sc f a | _::_=>.no)
noncomputable def iN(rec:Expr→R V)(sc:Scope)(σ:aA)(e:Expr):R V :=
 match fW sc σ e with
 |some x=>.ok (.ex x)
 |none=>rec e
noncomputable def mM(rec:Expr→R V)(K:Ctx)(sc:Scope)(σ:aA)(f:Str)(as:List Expr):R V :=
 if isG sc f then
  if f = "isinstance" then wR rec K sc σ as
  else if f = "min" then (if as.any bad=true∨K.hd=true then .no else rb (evs rec as) fun vs=>ofP (mI vs))
  else if iI f then Hv rec K.hd sc f as
  else if as.any bad=true∨K.has f=false then .no else rb (evs (iN rec sc σ) as) fun vs=>K.call f vs
 else .no
noncomputable def qB(rec:Scope→aA→Expr→R V)(sc':Scope):List Expr→Option (aA→R Bool)
 | []=>some fun _=>.ok true
 | [c]=>some fun σ'=>tst (rec sc' σ' c)
 |_=>none
noncomputable def iO(rec:Scope→aA→Expr→R V)(hd:Bool)(sc:Scope)(σ:aA)(elt:Expr)(g:Comprehension)(sc':Scope):R V :=
 match jO g.target with
 |none=>.no
 |some x=>if mH sc sc' x&&g.is_async==0 then match qB rec sc' g.ifs with
  |none=>.no
  |some t=>rb (rb (fH (rec sc σ) hd sc g.target g.iter) fun l=>fV t (fun σ'=>rec sc' σ' elt) x σ l) fun r=>ofP (own (.list r))
 else .no
noncomputable def rdv:V→P V
 | .fz d=>.ok (.fz d)
 |_=>.no
noncomputable def qC(K:Ctx)(sc:Scope)(σ:aA)(x:Str):P V :=
 if isL sc x then match aA.get σ x with
  |some o=>(match o with | some v=>rdv v | none=>.no)
  |none=>.no
 else if isG sc x then (ofO (K.const x)).bind fz
 else .no
noncomputable def qD:Const→P V
 | .none=>fz .none
 | .bool b=>fz (.bool b)
 | .int i=>fz (.int i)
 | .str s=>mkS s
 |_=>.no
noncomputable def wS:PyData→P V
 | .int i=>fz (.int (-i))
 |_=>.no
noncomputable def eV(op:UnaryOp)(v:V):P V :=
 match op with
 | .Not=>(cR v).bind fun b=>fz (.bool !b)
 | .USub=>wS (dOf v)
 |_=>.no
noncomputable def Hw(rec:Expr→R V)(a:PyData)(i:Expr):R V:=rb (rec i) fun i=>ofP (getItem a (dOf i))
noncomputable def toI:V→P (Option Int)
 | .fz d=>(match d with | .int i=>.ok (some i) | _=>.no)
 |_=>.no
noncomputable def qE(rec:Expr→R V):Option Expr→R (Option Int)
 |none=>.ok none
 |some e=>rb (rec e) fun v=>ofP (toI v)
noncomputable def jS(e:Expr):Option (Option Expr×Option Expr×Option Expr):=match vw e with | .slice a b c=>some (a,b,c) | _=>none
noncomputable def qF(rec:Expr→R V)(sc:Scope)(σ:aA)(o i:Expr):R V :=
 match jS i with
 |some c=>(match c.2.2 with
  |none=>rb (mF rec sc σ o) fun a=>rb (qE rec c.1) fun lo=>rb (qE rec c.2.1) fun hi=>ofP (iG a lo hi)
  |some _=>.no)
 |none=>if bad i then .no else rb (mF rec sc σ o) fun a=>Hw rec a i
noncomputable def jT(rec:Expr→R V)(o:Expr)(m:Str)(ap:Pos)(as:List Expr)(cp:Pos):R V :=
 if m = "items" ∨ mK o=false∨(ap.endLine==cp.line)=false∨as.any bad=true∨3 < as.length then .no else
  rb (rec o) fun o=>if mOk m (dOf o) then rb (evs rec as) fun as=>ofP (l8 m (dOf o) (b6 as)) else .no
noncomputable def qG:List (Str×PyData)→Str→Option PyData
 | [],_=>none
 | (y,d)::r,x=>if x=y then some d else qG r x
noncomputable def Hx:Option (Option V)→Option X
 |some (some (.ex x))=>some x
 |_=>none
noncomputable def fY(rec:Scope→aA→Expr→R V)(K:Ctx)(sc:Scope)(σ:aA)(e:Expr):R V :=
 match e with
 | .Constant c _ _=>ofP (qD c)
 | .Name x _=>ofP (qC K sc σ x)
 | .BoolOp op vs _=>match op with | .And=>jL (rec sc σ) vs | .Or=>jM (rec sc σ) vs
 | .BinOp l op r _=>rb (rec sc σ l) fun a=>rb (rec sc σ r) fun b=>ofP (aD op (dOf a) (dOf b))
 | .UnaryOp op x _=>rb (rec sc σ x) fun v=>ofP (eV op v)
 | .IfExp t b o _=>rb (tst (rec sc σ t)) fun c=>if c then rec sc σ b else rec sc σ o
 | .Dict ks vs _=>if ks.all Option.isSome=true∧ks.length=vs.length∧vs.length≤15 then rb (iJ (rec sc σ) ks vs) fun l=>ofP (if pV ks=true then jN l else iK l) else .no
 | .List es _=>rb (evs (rec sc σ) es) fun l=>if l.length≤aX then .ok (.own (.list (b6 l))) else .no
 | .Tuple es _ _=>rb (evs (rec sc σ) es) fun l=>if l.length≤aX then .ok (.fz (.tuple (b6 l))) else .no
 | .ListComp elt gens sc' _=>match gens with
  | []=>.no
  |g::gs=>(match gs with | []=>iO rec K.hd sc σ elt g sc' | _::_=>.no)
 | .Compare l ops es _=>rb (rec sc σ l) fun a=>aP (mB (rec sc σ) (dOf a) ops es)
 | .Subscript o i _=>qF (rec sc σ) sc σ o i
 | .Call f as kws cp=>match kws with
  | []=>(match vw f with
   | .attr o m ap=>jT (rec sc σ) o m ap as cp
   | .name f=>mM (rec sc σ) K sc σ f as
   |_=>.no)
  |_::_=>.no
 |_=>.no
noncomputable def evE(K:Ctx):Nat→Scope→aA→Expr→R V
 |0=>fun _ _ _=>.no
 |k+1=>fY (evE K k) K
inductive SV where
 |fn (n:Str) (a:Arguments) (b:List Stmt) (sc:Scope)
 |cls (n:Str) (bs:List Expr) (b:List Stmt)
 |asg (ts:List Expr) (e:Expr)
 |other
noncomputable def sv:Stmt→SV
 | .FunctionDef n a b _ _ _ sc _ _ _=>.fn n a b sc
 | .ClassDef n bs _ b _ _ _ _ _ _ _=>.cls n bs b
 | .Assign ts e _=>.asg ts e
 |_=>.other
noncomputable def Hy:Expr→Option Const
 | .Constant c _ _=>some c
 |_=>none
noncomputable def dL(f:Str):List Stmt→Option (Arguments×List Stmt×Scope)
 | []=>none
 |s::r=>match sv s with
  | .fn n a b sc=>if f=n then some (a,b,sc) else dL f r
  |_=>dL f r
noncomputable def wT(s:Stmt):Option (Str×Const):=match sv s with
 | .asg ts e=>(match ts with
  | []=>none
  |t::r=>(match r with
   | []=>(bI t).bind fun x=>(Hy e).bind fun c=>some (x,c)
   |_::_=>none))
 |_=>none
noncomputable def Hz:Const→Option PyData
 | .int i=>some (.int i)
 | .str s=>if s.length≤aX then some (.str s) else none
 |_=>none
noncomputable def gR(body:List Stmt)(x:Str):Option PyData :=
 if x = "__name__" then none else body.findSome? fun s=>(wT s).bind fun p=>if x=p.1 then Hz p.2 else none
noncomputable def wU(b:List Stmt):Option (List Str):=match b with
 | []=>none
 |s::r=>(match r with
  | []=>(match sv s with | .fn _ a _ _=>some (a.args.drop 1 |>.map (·.arg)) | _=>none)
  |_::_=>none)
noncomputable def bF(c:Str):List Stmt→Option (Str×Option (List Str))
 | []=>none
 |s::r=>match sv s with
  | .cls n bs b=>if c=n then (match eC bs with | some [y]=>some (y,wU b) | _=>none) else bF c r
  |_=>bF c r
noncomputable def fZ(body:List Stmt):Nat→Str→Str→Bool
 |0,_,_=>false
 |n+1,c,d=>c==d||(match bF c body with | some p=>fZ body n p.1 d | none=>false)
noncomputable def eW(body:List Stmt)(c d:Str):Option Bool :=
 if ((bF d body).isSome||d == "ValueError")&&(bF c body).isSome then some (fZ body 4 c d) else none
end Mine
namespace Mine
open PySem
noncomputable def esc:Nat→Expr→List Str
 |0,_=>[]
 |k+1,e =>
  match e with
  | .Name x _=>[x]
  | .BoolOp _ vs _=>vs.flatMap (esc k)
  | .BinOp l _ r _=>esc k l++esc k r
  | .UnaryOp _ x _=>esc k x
  | .IfExp a b c _=>esc k a++esc k b++esc k c
  | .Dict ks vs _=>ks.flatMap (fun o=>o.elim [] (esc k))++vs.flatMap (esc k)
  | .List es _=>es.flatMap (esc k)
  | .Tuple es _ _=>es.flatMap (esc k)
  | .ListComp elt gens _ _=>esc k elt++gens.flatMap fun g=>esc k g.iter++g.ifs.flatMap (esc k)
  | .Compare l _ es _=>esc k l++es.flatMap (esc k)
  | .Subscript o i _=>if (bI o).isSome then esc k i else esc k o++esc k i
  | .Slice a b _ _=>a.elim [] (esc k)++b.elim [] (esc k)
  | .Attribute o _ _=>esc k o
  | .Call f as _ _=>(jK f).elim [] (fun c=>esc k c.1)++as.flatMap (esc k)
  |_=>[]
noncomputable def dM(x:Str)(v:V)(σ:aA):P aA :=
 match aA.get σ x with
 |some _=>.ok (aA.set σ x v)
 |none=>.no
noncomputable def mO:List Str→List PyData→aA→P aA
 | [],[],σ=>.ok σ
 |x::xs,d::ds,σ=>(dM x (.fz d) σ).bind fun σ=>mO xs ds σ
 |_,_,_=>.no
noncomputable def aR(target:Expr)(d:PyData)(σ:aA):P aA :=
 match vw target with
 | .name x=>dM x (.fz d) σ
 | .tup es=>(wJ d).bind fun ds=>(ofO (eC es)).bind fun xs=>mO xs ds σ
 |_=>.no
abbrev KN:=aA→R V
abbrev KR:=V→R V
noncomputable def aQ(body:aA→KN→KR→R V)(target:Expr):List PyData→aA→KN→KR→R V
 | [],σ,kn,_=>kn σ
 |d::r,σ,kn,kr=>rb (ofP (aR target d σ)) fun σ=>body σ (fun σ=>aQ body target r σ kn kr) kr
noncomputable def mP(l:List (PyData×PyData))(d:PyData):PyData→P PyData
 | .str k=>if l.length < aX then .ok (.dict (dJ l k d)) else .no
 |_=>.no
noncomputable def wV(l:List PyData)(d:PyData):PyData→P PyData
 | .int k=>if 0≤k∧k < l.length then .ok (.list (l.set k.toNat d)) else .no
 |_=>.no
noncomputable def setItem(o:PyData)(i d:PyData):P PyData :=
 match o with
 | .dict l=>mP l d i
 | .list l=>wV l d i
 |_=>.no
noncomputable def c9:V→P PyData
 | .own d=>.ok d
 |_=>.no
noncomputable def jU(σ:aA)(x:Str):P PyData :=
 match aA.get σ x with
 |some o=>(match o with | some v=>c9 v | none=>.no)
 |none=>.no
noncomputable def blk(rec:Stmt→aA→KN→KR→R V):List Stmt→aA→KN→KR→R V
 | [],σ,kn,_=>kn σ
 |s::r,σ,kn,kr=>rec s σ (fun σ=>blk rec r σ kn kr) kr
noncomputable def mQ(m:Str):PyData→Bool
 | .list _=>decide (m = "append")
 | .dict _=>decide (m = "pop")||decide (m = "update")
 |_=>false
noncomputable def wW(l:List (PyData×PyData)):PyData→P PyData
 | .str k=>if (cC l k).isSome then .ok (.dict (eR l k)) else .no
 |_=>.no
noncomputable def wX(l:List (PyData×PyData)):PyData→P PyData
 | .dict m=>(ofO (keys? m)).bind fun m=>if l.length+m.length < 4096 then .ok (.dict (cS m l)) else .no
 |_=>.no
noncomputable def f0(m:Str)(o:PyData)(as:List PyData):P PyData :=
 match as with
 | []=>.no
 |d::r=>match r with
  | []=>(match o with
   | .list l=>if l.length < aX then .ok (.list (l++[d])) else .no
   | .dict l=>if m = "pop" then wW l d else wX l d
   |_=>.no)
  |_::_=>.no
noncomputable def qH(e:Expr):Option (Str×Str×Pos×List Expr×Pos) :=
 (gP e).bind fun c=>(jK c.1).bind fun a=>(bI a.1).bind fun x=>pT c.2.2.1 (x,a.2.1,a.2.2,c.2.1,c.2.2.2)
abbrev EV:=aA→Expr→R V
noncomputable def qI(ev:EV)(F:Nat)(sc:Scope)(σ:aA)(e:Expr)(kr:KR):R V :=
 match bI e with
 |some x=>(match jR sc σ x with
  |some d=>kr (.own d)
  |none=>rb (ev σ e) kr)
 |none=>rb (ev (aA.clear σ (esc F e)) e) kr
noncomputable def wY(ev:EV)(σ:aA)(x:Str)(i e:Expr)(kn:KN):R V :=
 if Hr i then .no else
 rb (ev σ e) fun v=>rb (ofP (jU σ x)) fun o=>rb (ev σ i) fun iv=>rb (ofP (setItem o (dOf iv) (dOf v))) fun o=>rb (ofP (dM x (.own o) σ)) kn
noncomputable def wZ(ev:EV)(hd:Bool)(σ:aA)(t e:Expr)(kn:KN):R V :=
 if gN e=true∧hd=false then rb (ev σ e) fun v=>rb (ofP (aR t (dOf v) σ)) kn else .no
noncomputable def H0:PyData→P (List (PyData×PyData))
 | .dict l=>.ok l
 |_=>.no
noncomputable def mR(ev:EV)(F:Nat)(σ:aA)(x:Str)(i e:Expr)(kn:KN):R V:=wY ev (aA.clear σ (esc F e)) x i e kn
noncomputable def qJ(ev:EV)(F:Nat)(hd:Bool)(σ:aA)(t e:Expr)(kn:KN):R V :=
 match vw t with
 | .name x=>rb (ev (aA.clear σ (esc F e)) e) fun v=>rb (ofP (dM x v (aA.clear σ (esc F e)))) kn
 | .sub o i=>(match bI o with | some x=>mR ev F σ x i e kn | none=>.no)
 | .tup _=>wZ ev hd (aA.clear σ (esc F e)) t e kn
 |_=>.no
noncomputable def mS(ev:EV)(σ:aA)(x m:Str)(ap:Pos)(as:List Expr)(cp:Pos)(kn:KN):R V :=
 if (ap.endLine==cp.line)=false∨as.any bad=true∨3 < as.length then .no else
 rb (ofP (jU σ x)) fun o=>if mQ m o then rb (evs (ev σ) as) fun as'=>rb (ofP (f0 m o (b6 as'))) fun o=>rb (ofP (dM x (.own o) σ)) kn else .no
noncomputable def qK(ev:EV)(F:Nat)(σ:aA)(e:Expr)(kn:KN):R V :=
 match qH e with
 |some (x,m,ap,as,cp)=>mS ev (aA.clear σ (as.flatMap (esc F))) x m ap as cp kn
 |none=>if gO e then .no else rb (ev (aA.clear σ (esc F e)) e) fun _=>kn (aA.clear σ (esc F e))
noncomputable def mT(ev:EV)(F:Nat)(K:Ctx)(sc:Scope)(σ:aA)(e:Expr):R V :=
 match iM e with
 |some (c,as)=>if isG sc c=true∧as.any bad=false∧K.hd=false then
   (match K.init c with
   |some (some ps)=>rb (evs (ev (aA.clear σ (as.flatMap (esc F)))) as) fun vs=>if ps.length=vs.length then .exc ⟨c,[]⟩ else .no
   |some none=>rb (evs (ev (aA.clear σ (as.flatMap (esc F)))) as) fun vs=>if vs.length=1 then .exc ⟨c,[]⟩ else .no
   |none=>.no) else .no
 |none=>.no
noncomputable def jV:List Stmt→Option Expr
 | []=>none
 |s::r=>match r with
  | []=>(match s with | .Return o _=>o | _=>none)
  |_::_=>none
noncomputable def mU:List ExceptHandler→Option (Str×Option Str×Expr)
 | []=>none
 |h::r=>match r with
  | []=>(match h with
   | .ExceptHandler t x b _=>match t with
    |some t=>(match bI t with
     |some c=>(match jV b with | some e=>some (c,x,e) | none=>none)
     |none=>none)
    |none=>none)
  |_::_=>none
noncomputable def eX{α:Type}(l:List α):Option α:=match l with
 | []=>none
 |a::r=>match r with | []=>some a | _::_=>none
noncomputable def fJ(ev:Expr→R V):Nat→Stmt→R V
 |0,_=>.no
 |k+1,s=>match s with
  | .Expr e _=>if gN e=true then ev e else .no
  | .If t b o _=>(match eX b with
   |none=>.no
   |some b=>match eX o with
    |none=>.no
    |some o=>rb (tst (ev t)) fun c=>if c then fJ ev k b else fJ ev k o)
  |_=>.no
noncomputable def mV(ev ev':EV)(F:Nat)(K:Ctx)(sc:Scope)(σ:aA)(b:Stmt)(c:Str)(x:Option Str)(e':Expr)(kn:KN)(kr:KR):R V :=
 if isG sc c=true∧(K.init c).isSome=true then match fJ (ev (aA.clear σ (σ.map (·.1)))) 3 b with
  | .no=>.no
  | .ok _=>kn (aA.clear σ (σ.map (·.1)))
  | .exc y=>match K.sub y.cls c with
   |some true=>(match x with
    |none=>.no
    |some z=>if sc.names.lookup z=some .local then rb (ofP (dM z (.ex y) (aA.clear σ (σ.map (·.1))))) fun σ=>rb (nx (ev' (aA.clear σ (esc F e')) e')) kr else .no)
   |_=>.no
 else .no
noncomputable def xA(ev ev':EV)(F:Nat)(K:Ctx)(sc:Scope)(rec:Stmt→aA→KN→KR→R V)(s:Stmt)(σ:aA)(kn:KN)(kr:KR):R V :=
 match s with
 | .Return o _=>(match o with | none=>kr (.fz .none) | some e=>qI ev F sc σ e kr)
 | .Assign ts e _=>match ts with
  | []=>.no
  |t::r=>(match r with | []=>qJ ev F K.hd σ t e kn | _::_=>.no)
 | .Expr e _=>qK ev F σ e kn
 | .If t b o _=>rb (tst (ev (aA.clear σ (esc F t)) t)) fun c=>if c then blk rec b (aA.clear σ (esc F t)) kn kr else blk rec o (aA.clear σ (esc F t)) kn kr
 | .For t it b o _=>match o with
  | []=>rb (fH (ev (aA.clear σ (esc F it))) K.hd sc t it) fun l=>aQ (blk rec b) t l (aA.clear σ (esc F it)) kn kr
  |_::_=>.no
 | .Raise o c _=>match o with
  |some e=>(match c with | none=>mT ev F K sc σ e | some _=>.no)
  |none=>.no
 | .Try b hs o f _=>match o with
  | []=>(match f with
   | []=>(match eX b with
    |some b=>(match mU hs with | some (c,x,e')=>if K.hd then .no else mV ev ev' F K sc σ b c x e' kn kr | none=>.no)
    |none=>.no)
   |_::_=>.no)
  |_::_=>.no
 | .Pass _=>kn σ
 |_=>.no
noncomputable def evS(ev ev':EV)(F:Nat)(K:Ctx)(sc:Scope):Nat→Stmt→aA→KN→KR→R V
 |0=>fun _ _ _ _=>.no
 |k+1=>xA ev ev' F K sc (evS ev ev' F K sc k)
noncomputable def dT(ps:List Str)(vs:List V):List (Str×NameKind)→aA
 | []=>[]
 | (x,k)::r=>match k with
  | .local=>(x,(ps.zip vs).lookup x)::dT ps vs r
  | .cell=>(x,(ps.zip vs).lookup x)::dT ps vs r
  |_=>dT ps vs r
noncomputable def dN:Nat:=24
noncomputable def iP:List Str→Bool
 | []=>true
 |x::r=>!r.contains x&&iP r
noncomputable def mW(a:Arguments)(sc:Scope):Bool :=
 a.posonlyargs.isEmpty&&a.vararg.isNone&&a.kwonlyargs.isEmpty&&a.kwarg.isNone&&a.defaults.isEmpty&&a.kw_defaults.isEmpty &&
 sc.kind==.function&&!sc.isGenerator&&!sc.isCoroutine&&iP (sc.names.map (·.1))&&iP (a.args.map (·.arg)) &&
 (sc.names.all fun p=>p.2 != .free)&&(a.args.all fun x=>match sc.names.lookup x.arg with | some .local=>true | some .cell=>true | _=>false) &&
 (sc.names.lookup (Str.ofString "__debug__")).isNone&&(sc.names.lookup (Str.ofString "__classdict__")).isNone
noncomputable def eE(body:List Stmt)(call:Str→List V→R V)(hd:Bool):Ctx :=
 ⟨call,fun f=>(dL f body).isSome,gR body,hd,eW body,fun c=>(bF c body).map (·.2)⟩
noncomputable def run(body:List Stmt):Nat→Bool→Str→List V→R V
 |0,_,_,_=>.no
 |n+1,hd,f,vs=>match dL f body with
  |none=>.no
  |some (a,b,sc) =>
   if a.args.length=vs.length∧mW a sc=true then
    blk (evS (evE (eE body (run body n hd) hd) dN sc) (evE (eE body (run body n true) true) dN sc) dN (eE body (run body n hd) hd) sc dN) b (dT (a.args.map (·.arg)) vs sc.names) (fun _=>.ok (.fz .none)) .ok
   else .no
end Mine
namespace Mine
open PySem
noncomputable def mX(st:Stmt):Option (Str×Str×Str) :=
 match sv st with
 | .asg ts e=>(match ts with
  | []=>none
  |t::r=>(match r with
   | []=>(jK t).bind fun c=>(bI c.1).bind fun x=>(bI e).bind fun y=>some (x,c.2.1,y)
   |_::_=>none))
 |_=>none
noncomputable def bmV:List Value:=[.type "ValueError", .type "Exception", .type "BaseException", .type "object"]
noncomputable def mY(body:List Stmt):Nat→Str→List Str
 |0,_=>[]
 |n+1,c=>match bF c body with
  |some p=>(match bF p.1 body with | some _=>p.1::mY body n p.1 | none=>[])
  |none=>[]
noncomputable def qL(h:Heap)(n:Str):Value:=(h.nsMap mainGlobals n).getD .none
noncomputable def jW(h:Heap)(bS:List Str):List Value:=bS.map (qL h)++bmV
noncomputable def mZ(h:Heap)(ns:Addr)(l:List Str):Bool:=l.all fun n=>(h.nsMap ns n).isNone
noncomputable def m7(h:Heap)(l:List Str)(bS:List Str):Bool:=bS.all fun n=>match h.clsAt mainGlobals n with
 |some x=>h.isNs x.2.2.ns&&mZ h x.2.2.ns l
 |none=>false
noncomputable def H1(sf:Str)(ps:List Str):FuncBody→Bool
 | .stmts b=>decide (b.map mX=ps.map fun p=>some (sf,p,p))
 |_=>false
noncomputable def qM(fd:FuncData)(ps:List Str):Bool :=
 match fd.params.args with
 | []=>false
 |a::r=>fd.params.posonlyargs.isEmpty&&fd.params.vararg.isNone&&fd.params.kwonlyargs.isEmpty&&fd.params.kwarg.isNone&&decide (r.map (·.arg)=ps)&&H1 a.arg ps fd.body&&fd.closure.isEmpty&&decide (fd.defaults=.none) &&
  decide (fd.scope.kind=.function)&&!fd.scope.isGenerator&&!fd.scope.isCoroutine&&iP (a.arg::ps)&&((a.arg::ps).all fun x=>decide (fd.scope.names.lookup x=some .local)&&!(x==("__debug__" : Str)))&&decide (ps.length < 50)
noncomputable def qN(h:Heap)(ps:List Str)(oI:Obj):Bool:=decide (oI.cls=.type "function")&&(match oI.data with | .func fd=>h.codeRecOk fd.code fd.qualname&&qM fd ps | _=>false)
noncomputable def hid:List Str:=[Str.ofString "__getattribute__", Str.ofString "__getattr__", Str.ofString "__class__"]
noncomputable def xB(h:Heap)(cd:ClassData)(bS:List Str):Option (List Str)→Bool
 |none=>(h.nsMap cd.ns "__init__").isNone&&mZ h cd.ns hid&&m7 h (Str.ofString "__init__" :: hid) bS
 |some ps=>cd.hasDict&&(match h.nsMap cd.ns "__init__" with | some (.ref fI)=>(h.get? fI).any (qN h ps) | _=>false)&&mZ h cd.ns (Str.ofString "__setattr__" :: (ps++hid))&&m7 h (Str.ofString "__init__" :: Str.ofString "__setattr__" :: (ps++hid)) bS
noncomputable def m8(h:Heap)(bS:List Str)(ini:Option (List Str))(x:Addr×Obj×ClassData):Bool :=
 decide (x.2.1.cls=.type "type")&&decide (x.2.2.mro=.ref x.1::jW h bS)&&!x.2.2.hasDel&&decide (x.2.1.slots.size=6)&&decide (x.2.1.slots[4]?=some (some (.builtin "ValueError.__new__")))&&h.isNs x.2.2.ns&&xB h x.2.2 bS ini
noncomputable def H3(s:Stmt):Option Str:=match sv s with
 | .cls n _ _=>some n
 |_=>none
noncomputable def jX(body:List Stmt):List Str:=body.filterMap H3
noncomputable def xC(h:Heap)(body:List Stmt)(c:Str)(C:Addr):Bool:=(jX body).all fun d=>match h.nsMap mainGlobals d with
 |some (.ref D)=>decide ((Value.ref C::jW h (mY body 4 c)).contains (.ref D)=fZ body 4 c d)
 |_=>true
noncomputable def H4(h:Heap)(body:List Stmt)(c:Str)(p:Str×Option (List Str)):Bool:=(h.clsAt mainGlobals c).any fun x=>m8 h (mY body 4 c) p.2 x&&xC h body c x.1
noncomputable def m9(h:Heap)(body:List Stmt):Bool:=(jX body).all fun c=>match bF c body with
 |none=>true
 |some p=>H4 h body c p
end Mine
namespace Mine
open PySem PySem.W PyProof.Rows
noncomputable def H5(s:Stmt):Bool:=match sv s with
 | .asg ts _=>(match ts with
  | []=>true
  |t::r=>(match r with
   | []=>(bI t).elim true fun x=>!(x == "__name__")
   |_::_=>true))
 |_=>true
noncomputable def H6(p:Program):Program:={ p with main:={ p.main with body:=p.main.body.filter H5 } }
end Mine
namespace Mine
open PySem PySem.W
noncomputable def jY(tb:String→Option Builtin)(p:Program)(w:World)(n₀:Nat)(ann:Option Value):Nat→SharedT→Thread→Option SharedT
 |0,_,_=>none
 |n+1,s,t=>match through t with
  |true=>some s
  |false=>match stepOk n₀ ann t with
   |false=>none
   |true=>match stepT (denote tb) p w s t with
    |some r=>jY tb p w n₀ ann n r.1 r.2
    |none=>none
theorem H7{tb:String→Option Builtin}{p:Program}{w:World}{n₀:Nat}{ann:Option Value}:∀ {n:Nat} {s s':SharedT} {t:Thread},jY tb p w n₀ ann n s t=some s'→topRun tb p w n₀ ann n s.abs t=some s'.abs:=by
 intro v0
 induction v0 with
 |zero =>
  intro _ _ _ h;cases h
 |succ n ih =>
  intro s s' t h;unfold jY at h;unfold topRun;cases he:through t with
  |true=>rw[he] at h;cases h;rfl
  |false =>
   rw[he] at h;cases hk:stepOk n₀ ann t with
   |false=>rw[hk] at h;cases h
   |true =>
    rw[hk] at h;cases hs:stepT (denote tb) p w s t with
    |none=>rw[hs] at h;cases h
    |some r=>obtain⟨s₂,t₂⟩:=r;rw[hs] at h;rw[stepT_spec hs];exact ih h
noncomputable def xD(l:List Obj):BT×Nat:=l.foldl (fun x o=>(x.1.ins x.2 o,x.2+1)) (.nil,0)
noncomputable def jZ(w:World)(os:OsState):SharedT:=⟨(xD (boot_heap w.params).objs.toList).1,(xD (boot_heap w.params).objs.toList).2,(boot_heap w.params).life,Array.mk [],boot_drawn,boot_toks,os⟩
noncomputable def qO{α:Type}(p q:Program)(loose:List Str)(Xt:Shared→Bool)(Yf:Shared→α)(g0:Bool)(w:World)(S:SharedT) :=
 (staticsOk (importedModules p.main.body) (boot_heap w.params) S.abs.heap&&namesBound p S.abs.heap&&gensDone S.abs&&laidKept (boot_heap w.params) S.abs.heap,openSeen q loose (importedModules p.main.body) Xt g0 S.abs,Yf S.abs)
theorem H8{p q:Program}{loose:List Str}{Xt:Shared→Bool}{α:Type}{Yf:Shared→α}{Ya:World→α}{N:Nat}{g0:Bool}
  (ho:∀ w:World,(fencedOpening treeTable p w N).map (fun s=>(s.heap,s.gens,s.drawn,s.toks))=some (boot_heap w.params,Array.mk [],boot_drawn,boot_toks))
  (hb:∀ w os,(jZ w os).abs=⟨boot_heap w.params,Array.mk [],boot_drawn,boot_toks,os⟩) (hns:∀ w:World,(boot_heap w.params).isNs mainGlobals=true)
  (hr:∀ (w:World) (os:OsState),(jY treeTable p w (boot_heap w.params).objs.size ((boot_heap w.params).nsMap mainGlobals "__annotations__") N (jZ w os) (topStub p)).map (qO p q loose Xt Yf g0 w)=some (true,openGood q loose,Ya w)):LeftO p q loose Xt Yf Ya N g0:=fun w=>by
 obtain⟨s,hs,hv⟩:=Option.map_eq_some_iff.mp (ho w);obtain⟨S,h1,h2⟩:=Option.map_eq_some_iff.mp (hr w s.os);have e:s=(jZ w s.os).abs:=by
  rw[hb];obtain⟨h,g,d,t,os⟩:=s;cases hv;rfl
 have h3:=H7 h1;rw[← e] at h3;have eh:s.heap=boot_heap w.params:=congrArg (·.1) hv;have eg:s.gens=Array.mk []:=congrArg (·.2.1) hv;unfold openEnds;rw[hs];show(topFrom treeTable p w N s).map _=_;unfold topFrom;rw[eh,eg,hns w];unfold qO at h2;obtain⟨k1,k2⟩:=Prod.mk.inj h2;show((topRun treeTable p w (boot_heap w.params).objs.size ((boot_heap w.params).nsMap mainGlobals "__annotations__") N s (topStub p)).bind _).map _=_;rw[h3];show(match (staticsOk (importedModules p.main.body) (boot_heap w.params) S.abs.heap&&namesBound p S.abs.heap&&gensDone S.abs&&laidKept (boot_heap w.params) S.abs.heap) with | true=>some S.abs | false=>none).map _=_;rw[k1];exact congrArg some k2
end Mine
set_option Elab.async false
namespace Mine
open PySem PySem.W PyProof.Rows
noncomputable def V07:Program:=H6 PySem.Challenge.rw_uf010037_07.prog
set_option maxRecDepth 100000 in
set_option maxHeartbeats 8000000 in
theorem H9:∀ w os,(jZ w os).abs=⟨boot_heap w.params,Array.mk [],boot_drawn,boot_toks,os⟩:=fun w os=>by kernel_rfl
set_option maxRecDepth 100000 in
theorem Ia:∀ w:World,(boot_heap w.params).isNs mainGlobals=true:=fun w=>by kernel_rfl
set_option maxRecDepth 100000 in
theorem Ib:∀ w:World,(fencedOpening treeTable PySem.Challenge.rw_uf010037_07.row.prog w 6080).map (fun s=>(s.heap,s.gens,s.drawn,s.toks))=some (boot_heap w.params,Array.mk [],boot_drawn,boot_toks) :=
 boot_open (by kernel_rfl) (by kernel_rfl) fun s=>by kernel_rfl
end Mine
set_option Elab.async false
namespace Mine
open PySem PySem.W PyProof.Rows
noncomputable def xE(q:Program)(S:SharedT):=(seen ((recsOf q).map (·.name)) (ownsOf q) [] { S.abs with gens:=#[] },S.abs.heap.bltView)
noncomputable def xF{α:Type}(p q:Program)(loose:List Str)(Xt:Shared→Bool)(Yf:Shared→α)(g0:Bool)(w:World)(S:SharedT) :=
 (staticsOk (importedModules p.main.body) (boot_heap w.params) S.abs.heap&&namesBound p S.abs.heap&&gensDone S.abs&&laidKept (boot_heap w.params) S.abs.heap,
  S.abs.heap.keysOk (looseW q loose) ((recsOf q).map (·.name)) ((litsOf q).map (·.1)) ((clssOf q (looseW q loose)).map (·.name))&&S.abs.heap.accountedOkI (importedModules p.main.body)&&S.abs.heap.isNs mainGlobals&&S.abs.heap.isNs builtinsNs&&tablesOk q S.abs.heap&&Xt S.abs&&(if g0 then S.abs.gens.size==0 else !leftWithCleanup S.abs.gens),Yf S.abs)
noncomputable def qP(q:Program)(loose:List Str)(S:SharedT):=(tabsOk q S.abs,pinSeenD q (drecsOf q) S.abs,plainSeenE q (looseW q loose) S.abs,plainSeenD q loose S.abs,wideSeen q S.abs,clsSeenW q loose S.abs)
theorem Ic{p q:Program}{loose:List Str}{Xt:Shared→Bool}{α:Type}{Yf:Shared→α}{Ya:α}{g0:Bool}{w:World}{o:Option SharedT}
  (h1:o.map (xE q)=some (expectedOf q,bltViewBooted)) (h2:o.map (xF p q loose Xt Yf g0 w)=some (true,true,Ya)) (h3:o.map (qP q loose)=some (true,pinGoodD (drecsOf q),plainGoodE q (looseW q loose),plainGoodD q loose,wideGood q,clsGoodW q loose)) :
  o.map (qO p q loose Xt Yf g0 w)=some (true,openGood q loose,Ya):=by
 cases o with
 |none=>cases h1
 |some S =>
  obtain⟨a1,a2⟩:=Prod.mk.inj (Option.some.inj h1);obtain⟨b1,b2⟩:=Prod.mk.inj (Option.some.inj h2);obtain⟨b2,b3⟩:=Prod.mk.inj b2;have c:=Option.some.inj h3;show some (_,(_,_,_,qP q loose S),Yf S.abs)=_;rw[b1,a1,a2,b2,c,b3];rfl
noncomputable def qQ(w:World)(os:OsState):Option SharedT:=jY treeTable PySem.Challenge.rw_uf010037_07.row.prog w (boot_heap w.params).objs.size ((boot_heap w.params).nsMap mainGlobals "__annotations__") 6080 (jZ w os) (topStub PySem.Challenge.rw_uf010037_07.row.prog)
set_option maxRecDepth 100000 in
set_option maxHeartbeats 8000000 in
theorem Id:∀ (w:World) (os:OsState),(qQ w os).map (xE V07)=some (expectedOf V07,bltViewBooted):=fun w os=>by kernel_rfl
set_option maxRecDepth 100000 in
set_option maxHeartbeats 8000000 in
theorem Ie:∀ (w:World) (os:OsState),(qQ w os).map (xF PySem.Challenge.rw_uf010037_07.row.prog V07 [] (fun s=>(xlAt V07 [] s&&recOk (RowW.records PySem.Challenge.rw_uf010037_07.row.toRowW) s)&&m9 s.heap PySem.Challenge.rw_uf010037_07.row.prog.main.body) (Hook.obs Hook.none) true w)=some (true,true,Hook.val Hook.none w):=fun w os=>by kernel_rfl
set_option maxRecDepth 100000 in
set_option maxHeartbeats 8000000 in
theorem Ig:∀ (w:World) (os:OsState),(qQ w os).map (qP V07 [])=some (true,pinGoodD (drecsOf V07),plainGoodE V07 (looseW V07 []),plainGoodD V07 [],wideGood V07,clsGoodW V07 []):=fun w os=>by kernel_rfl
theorem Ih:LeftO PySem.Challenge.rw_uf010037_07.row.prog V07 [] (fun s=>(xlAt V07 [] s&&recOk (RowW.records PySem.Challenge.rw_uf010037_07.row.toRowW) s)&&m9 s.heap PySem.Challenge.rw_uf010037_07.row.prog.main.body) (Hook.obs Hook.none) (Hook.val Hook.none) 6080 :=
 H8 Ib H9 Ia fun w os=>Ic (Id w os) (Ie w os) (Ig w os)
end Mine
namespace Mine
open PySem
noncomputable def Vw(e:Expr):EW→Prop
 | .name x=>∃ p,e=.Name x p
 | .tup es=>∃ k p,e=.Tuple es k p
 | .call f as kws q=>e=.Call f as kws q
 | .attr o m p=>e=.Attribute o m p
 | .sub o i=>∃ p,e=.Subscript o i p
 | .slice a b c=>∃ p,e=.Slice a b c p
 |_=>True
theorem Ii(e:Expr):Vw e (vw e):=by
 cases e<;>first | exact trivial | exact⟨_,rfl⟩ | exact⟨_,_,rfl⟩ | exact rfl
theorem cX{e:Expr}{v:EW}(h:vw e=v):Vw e v:=h▸Ii e
theorem ob{α β:Type}{o:Option α}{f:α→Option β}{b:β}(h:o.bind f=some b):∃ a,o=some a∧f a=some b:=by
 cases o with
 |none=>cases h
 |some a=>exact⟨a,rfl,h⟩
theorem Ij{α:Type}{kws:List Keyword}{a b:α}(h:pT kws a=some b):kws=[]∧a=b:=by
 cases kws with
 |nil=>cases h;exact⟨rfl,rfl⟩
 |cons=>cases h
theorem dU{e:Expr}{x:Str}(h:bI e=some x):∃ p,e=.Name x p:=by
 unfold bI at h;generalize hv:vw e=v at h;cases v with
 |name y=>cases h;exact cX hv
 |_=>cases h
theorem qR{e:Expr}{c:Expr×List Expr×List Keyword×Pos}(h:gP e=some c):e=.Call c.1 c.2.1 c.2.2.1 c.2.2.2:=by
 unfold gP at h;generalize hv:vw e=v at h;cases v with
 |call f as kws q=>cases h;exact cX hv
 |_=>cases h
theorem xG{e:Expr}{c:Expr×Str×Pos}(h:jK e=some c):e=.Attribute c.1 c.2.1 c.2.2:=by
 unfold jK at h;generalize hv:vw e=v at h;cases v with
 |attr o m p=>cases h;exact cX hv
 |_=>cases h
theorem Ik{e:Expr}{c:Option Expr×Option Expr×Option Expr}(h:jS e=some c):∃ p,e=.Slice c.1 c.2.1 c.2.2 p:=by
 unfold jS at h;generalize hv:vw e=v at h;cases v with
 |slice=>cases h;exact cX hv
 |_=>cases h
theorem xH{e:Expr}{env:Env}(h:bad e=false)(x:Value):foldedSetIterable e env x=pure x:=by
 unfold foldedSetIterable;cases e<;>first | rfl | cases h
theorem fK{e:Expr}{env:Env}{es:List Expr}(h:bad e=false):starEach (e::es) env=(false,eval e env)::starEach es env:=by
 cases e<;>first | rfl | cases h
theorem Il{op:CmpOp}{e:Expr}{t:Sem Value}(h:bad e=false):markedBehindIn op e t=t:=by
 refine markedBehindIn_of_false ?_;cases e<;>first | rfl | cases h
theorem Im{e:Expr}{o i:Value}(h:bad e=false):subscripted e false o i=operate [o,i] (PySem.getItem o i):=by
 cases e<;>first | rfl | cases h
theorem eY{α:Type}{e:Expr}{r:R α}(hb:bad e=true→r=.no)(h:r≠.no):bad e=false:=by
 cases e':bad e with
 |false=>rfl
 |true=>exact absurd (hb e') h
theorem xI{e:Expr}{c:Str×List Expr}(h:iM e=some c):∃ p q,e=.Call (.Name c.1 p) c.2 [] q:=by
 obtain⟨⟨f,as,kws,q⟩,h1,h⟩:=ob h;obtain⟨x,h2,h⟩:=ob h;obtain⟨rfl,rfl⟩:=Ij h;obtain⟨p,rfl⟩:=dU h2;exact⟨p,q,qR h1⟩
end Mine
namespace Mine
open PySem
noncomputable def PlT(h:Heap)(a:Addr)(vs:Array Value):Prop:=∃ n,h.get? a=some { cls:=.type "tuple", data:=.seq vs n }
theorem PlT.isTuple{h:Heap}{a:Addr}{vs:Array Value}(x:PlT h a vs):h.IsTuple a vs:=by obtain⟨n,e⟩:=x;exact⟨_,e,rfl,n,rfl⟩
theorem PlT.at{h h':Heap}{a:Addr}{vs:Array Value}(x:PlT h a vs)(hk:∀ o,h.get? a=some o→h'.get? a=some o):PlT h' a vs:=by obtain⟨n,e⟩:=x;exact⟨n,hk _ e⟩
section
variable (prog:Program) (w:World)
inductive Rep(h:Heap)(av:Addr→Prop):Value→PyData→Prop where
 |none:Rep h av .none .none
 |bool (b:Bool):Rep h av (.bool b) (.bool b)
 |int (i:Int) (t:Tok):Rep h av (.int i t) (.int i)
 |str (x:Str) (t:Tok):x.length≤sizeLine→Rep h av (.str x t) (.str x)
 |list {a:Addr} {vs:List Value} {ds:List PyData}:¬ av a→h.PlainList a vs.toArray→vs.length=ds.length→vs.length≤sizeLine →
   (∀ (i:Nat) (v:Value) (d:PyData),vs[i]?=some v→ds[i]?=some d→Rep h av v d)→Rep h av (.ref a) (.list ds)
 |tuple {a:Addr} {vs:List Value} {ds:List PyData}:¬ av a→PlT h a vs.toArray→vs.length=ds.length→vs.length≤sizeLine →
   (∀ (i:Nat) (v:Value) (d:PyData),vs[i]?=some v→ds[i]?=some d→Rep h av v d)→Rep h av (.ref a) (.tuple ds)
 |dict {a:Addr} {kvs:List (Str×Value)} {ds:List (PyData×PyData)}:¬ av a→h.DictOf (strKind prog w) a kvs→(kvs.length≤sizeLine∧∀ kv∈kvs,kv.1.length≤sizeLine)→(a==sysModules)=false →
   ds.map (·.1)=kvs.map (fun kv=>PyData.str kv.1)→(∀ (i:Nat) (kv:Str×Value) (d:PyData×PyData),kvs[i]?=some kv→ds[i]?=some d→Rep h av kv.2 d.2) →
   Rep h av (.ref a) (.dict ds)
 |odd {a:Addr} {k:Int} {v:Value} {d:PyData}:¬ av a→h.DictOf (intKind prog w) a [(k,v)]→(a==sysModules)=false→Rep h av v d→Rep h av (.ref a) (.dict [(.int k,d)])
variable {prog w}
theorem Rep.mono{h h':Heap}{av av':Addr→Prop}(hk:∀ b o,¬ av b→h.get? b=some o→h'.get? b=some o)(ha:∀ b o,h.get? b=some o→av' b→av b){v:Value}{d:PyData}(r:Rep prog w h av v d) :
  Rep prog w h' av' v d:=by
 induction r with
 |none=>exact .none
 |bool b=>exact .bool b
 |int i t=>exact .int i t
 |str x t hx=>exact .str x t hx
 |list h1 h2 h3 h4 _ ih=>exact .list (fun x=>h1 (by obtain⟨_,e⟩:=h2;exact ha _ _ e x)) (h2.at fun o e=>hk _ o h1 e) h3 h4 ih
 |tuple h1 h2 h3 h4 _ ih=>exact .tuple (fun x=>h1 (by obtain⟨_,e⟩:=h2;exact ha _ _ e x)) (h2.at fun o e=>hk _ o h1 e) h3 h4 ih
 |dict h1 h2 h3 h4 h5 _ ih =>
  obtain⟨o,es,ep,e,r⟩:=h2;exact .dict (fun x=>h1 (ha _ _ e x)) ⟨o,es,ep,hk _ o h1 e,r⟩ h3 h4 h5 ih
 |odd h1 h2 h3 _ ih =>
  obtain⟨o,es,ep,e,r⟩:=h2;exact .odd (fun x=>h1 (ha _ _ e x)) ⟨o,es,ep,hk _ o h1 e,r⟩ h3 ih
theorem Rep.keeps{h h':Heap}{av:Addr→Prop}(hk:∀ b o,h.get? b=some o→h'.get? b=some o){v:Value}{d:PyData}(r:Rep prog w h av v d):Rep prog w h' av v d :=
 r.mono (fun b o _ e=>hk b o e) fun _ _ _ x=>x
variable (prog w)
inductive BodyL(h:Heap)(av:Addr→Prop)(a:Addr)(ds:List PyData):Prop where
 |mk (vs:List Value) (p:h.PlainList a vs.toArray) (l:vs.length=ds.length) (z:vs.length≤sizeLine) (r:∀ (i:Nat) (v:Value) (d:PyData),vs[i]?=some v→ds[i]?=some d→Rep prog w h av v d):BodyL h av a ds
inductive BodyD(h:Heap)(av:Addr→Prop)(a:Addr)(ds:List (PyData×PyData)):Prop where
 |mk (kvs:List (Str×Value)) (p:h.DictOf (strKind prog w) a kvs) (z:kvs.length≤sizeLine∧∀ kv∈kvs,kv.1.length≤sizeLine) (m:(a==sysModules)=false) (l:ds.map (·.1)=kvs.map (fun kv=>PyData.str kv.1))
  (r:∀ (i:Nat) (kv:Str×Value) (d:PyData×PyData),kvs[i]?=some kv→ds[i]?=some d→Rep prog w h av kv.2 d.2):BodyD h av a ds
noncomputable def bL(h:Heap)(av:Addr→Prop)(a:Addr):PyData→Prop
 | .list ds=>BodyL prog w h av a ds
 | .dict ds=>BodyD prog w h av a ds
 |_=>False
variable {prog w}
theorem bL.mono{h h':Heap}{av av':Addr→Prop}{a:Addr}(hk:∀ b o,¬ av b→h.get? b=some o→h'.get? b=some o)(ha:∀ b o,h.get? b=some o→av' b→av b)(hs:∀ o,h.get? a=some o→h'.get? a=some o)
  {d:PyData} (r:bL prog w h av a d):bL prog w h' av' a d:=by
 cases d with
 |list ds=>obtain⟨vs,h1,h2,h3,h4⟩:=r;exact⟨vs,h1.at hs,h2,h3,fun i v d e1 e2=>(h4 i v d e1 e2).mono hk ha⟩
 |dict ds =>
  obtain⟨kvs,⟨o,es,ep,e,r⟩,h2,h3,h4,h5⟩:=r;exact⟨kvs,⟨o,es,ep,hs _ e,r⟩,h2,h3,h4,fun i v d e1 e2=>(h5 i v d e1 e2).mono hk ha⟩
 |_=>exact r.elim
theorem bL.rep{h:Heap}{av:Addr→Prop}{a:Addr}{d:PyData}(ha:¬ av a)(r:bL prog w h av a d):Rep prog w h av (.ref a) d:=by
 cases d with
 |list ds=>obtain⟨vs,h1,h2,h3,h4⟩:=r;exact .list ha h1 h2 h3 h4
 |dict ds=>obtain⟨kvs,h1,h2,h3,h4,h5⟩:=r;exact .dict ha h1 h2 h3 h4 h5
 |_=>exact r.elim
variable (prog w)
noncomputable def Own(s:Shared)(h:Heap)(av:Addr→Prop)(v:Value)(d:PyData):Prop :=
 ∃ a,v=.ref a∧s.heap.get? a=none∧bL prog w h (fun b=>av b∨b=a) a d
noncomputable def bB(s:Shared)(h:Heap)(av:Addr→Prop)(v:Value):V→Prop
 | .fz d=>Rep prog w h av v d
 | .own d=>Own prog w s h av v d
 | .ex _=>False
variable {prog w}
theorem Own.rep{s:Shared}{h:Heap}{av:Addr→Prop}{v:Value}{d:PyData}(hlt:∀ b,av b→∃ o,s.heap.get? b=some o)(r:Own prog w s h av v d):Rep prog w h av v d:=by
 obtain⟨a,rfl,ha,r⟩:=r;exact bL.rep (fun x=>by obtain⟨o,e⟩:=hlt _ x;rw[ha] at e;exact ns e) (r.mono (fun _ _ x e=>e) (fun _ _ _ x=>.inl x) fun _ e=>e)
theorem bB.rep{s:Shared}{h:Heap}{av:Addr→Prop}{v:Value}{u:V}(hlt:∀ b,av b→∃ o,s.heap.get? b=some o)(r:bB prog w s h av v u):Rep prog w h av v (dOf u):=by
 cases u with
 |fz d'=>exact r
 |own d'=>exact Own.rep hlt r
 |ex x=>exact r.elim
noncomputable def Kp(s s':Shared):Prop:=Keeps s s'
theorem Kp.rfl'(s:Shared):Kp s s:=⟨s.heap,s.toks,rfl,fun _ _ e=>e⟩
theorem Kp.tr{s s' s'':Shared}(x:Kp s s')(y:Kp s' s''):Kp s s'':=by
 obtain⟨h,t,rfl,k⟩:=x;obtain⟨h',t',rfl,k'⟩:=y;exact⟨h',t',rfl,fun b o e=>k' b o (k b o e)⟩
theorem Kp.heap{s s':Shared}(x:Kp s s'):∀ b o,s.heap.get? b=some o→s'.heap.get? b=some o:=by
 obtain⟨h,t,rfl,k⟩:=x;exact k
theorem Kp.tok'(s:Shared)(t:Nat):Kp s { s with toks:=t }:=⟨s.heap,t,rfl,fun _ _ e=>e⟩
theorem Kp.push'(s:Shared)(o:Obj):Kp s { s with heap:=s.heap.push o }:=⟨s.heap.push o,s.toks,rfl,fun _ _ e=>Heap.get?_push_of_some o e⟩
end
abbrev WP(γ:Type):=(γ→Shared→Prop)→(Value→Shared→Prop)→Prop
noncomputable def Yd{γ β:Type}(W:WP γ)(R:γ→Shared→β→Prop):P β→Prop
 | .no=>True
 | .ok b=>∀ Q E,(∀ v s',R v s' b→Q v s')→W Q E
theorem Yd.pureBind{γ β β':Type}{W:WP γ}{R:γ→Shared→β'→Prop}{p:P β}{f:β→P β'}(k:∀ b,p=.ok b→Yd W R (f b)):Yd W R (p.bind f):=by
 cases p with
 |no=>exact trivial
 |ok b=>exact k b rfl
theorem Yd.optBind{γ β β':Type}{W:WP γ}{R:γ→Shared→β'→Prop}{p:Option β}{f:β→P β'}(k:∀ b,p=some b→Yd W R (f b)):Yd W R ((ofO p).bind f):=by
 cases p with
 |none=>exact trivial
 |some b=>exact k b rfl
theorem Yd.ite{γ β:Type}{W:WP γ}{R:γ→Shared→β→Prop}{c:Prop}[Decidable c]{p:P β}(k:c→Yd W R p):Yd W R (if c then p else .no):=by
 by_cases h:c
 ·rw[if_pos h];exact k h
 ·rw[if_neg h];exact trivial
theorem Yd.ite2{γ β:Type}{W:WP γ}{R:γ→Shared→β→Prop}{c:Prop}[Decidable c]{p q:P β}(k:c→Yd W R p)(k':¬ c→Yd W R q):Yd W R (if c then p else q):=by
 by_cases h:c
 ·rw[if_pos h];exact k h
 ·rw[if_neg h];exact k' h
end Mine
namespace Mine
open PySem
noncomputable def frs(l:List Env)(b:Addr):Prop:=b∈l.filterMap (·.frame)
inductive K(l:List Env)(s s':Shared):Prop where
 |mk (h:Heap) (t:Nat) (e:s'={ s with heap:=h,toks:=t }) (k:∀ b o,¬ frs l b→s.heap.get? b=some o→h.get? b=some o) (u:∀ b o,s.heap.get? b=some o→∃ sl,h.get? b=some { o with slots:=sl }):K l s s'
theorem K.of{l:List Env}{s s':Shared}(x:Kp s s'):K l s s':=by
 obtain⟨h,t,rfl,k⟩:=x;exact⟨h,t,rfl,fun b o _ e=>k b o e,fun b o e=>⟨o.slots,k b o e⟩⟩
theorem K.rf(l:List Env)(s:Shared):K l s s:=K.of (Kp.rfl' s)
theorem K.tr{l:List Env}{s s' s'':Shared}(x:K l s s')(y:K l s' s''):K l s s'':=by
 obtain⟨h,t,rfl,k,u⟩:=x;obtain⟨h',t',rfl,k',u'⟩:=y;exact⟨h',t',rfl,fun b o n e=>k' b o n (k b o n e),fun b o e=>by obtain⟨_,e1⟩:=u b o e;exact by obtain⟨sl,e2⟩:=u' b _ e1;exact⟨sl,e2⟩⟩
theorem K.trp{l:List Env}{s s' s'':Shared}(x:K l s s')(y:Kp s' s''):K l s s'':=x.tr (K.of y)
theorem K.at{l:List Env}{s s':Shared}(x:K l s s'){b:Addr}{o:Obj}(n:¬ frs l b)(e:s.heap.get? b=some o):s'.heap.get? b=some o:=by
 obtain⟨h,t,rfl,k,u⟩:=x;exact k b o n e
theorem K.up{l:List Env}{s s':Shared}(x:K l s s'){b:Addr}{o:Obj}(e:s.heap.get? b=some o):∃ sl,s'.heap.get? b=some { o with slots:=sl }:=by
 obtain⟨h,t,rfl,k,u⟩:=x;exact u b o e
theorem K.upTo{l:List Env}{s s':Shared}(x:K l s s'):s.heap.UpToSlots s'.heap:=fun _ _ e _=>x.up e
theorem K.non{l:List Env}{s s':Shared}(x:K l s s'){b:Addr}(e:s'.heap.get? b=none):s.heap.get? b=none:=by
 refine ocs (s.heap.get? b) (fun h=>?_) fun o h=>?_
 ·try rewrite[h]
  rfl
 ·try rewrite[h]
  obtain⟨sl,e'⟩:=x.up h;rw[e] at e';cases e'
noncomputable def Fin{α β:Type}(r:R α)(k:α→R β)(fin:R β):Prop:=rb r k=fin∧fin≠.no
theorem qS{α β γ:Type}(p:R α)(f:α→R β)(g:β→R γ):rb (rb p f) g=rb p fun a=>rb (f a) g:=by cases p<;>rfl
theorem Fin.b{α β γ:Type}{r:R α}{f:α→R γ}{k:γ→R β}{fin:R β}(h:Fin (rb r f) k fin):Fin r (fun a=>rb (f a) k) fin:=⟨(qS r f k)▸h.1,h.2⟩
theorem Fin.unb{α β γ:Type}{r:R α}{f:α→R γ}{k:γ→R β}{fin:R β}(h:Fin r (fun a=>rb (f a) k) fin):Fin (rb r f) k fin:=⟨(qS r f k).symm▸h.1,h.2⟩
theorem Fin.no{α β:Type}{k:α→R β}{fin:R β}(h:Fin (.no:R α) k fin):False:=h.2 h.1.symm
theorem Fin.ne{α β:Type}{r:R α}{k:α→R β}{fin:R β}(h:Fin r k fin):r≠.no:=fun e=>by subst e;exact h.no
theorem Fin.ok{α β:Type}{a:α}{k:α→R β}{fin:R β}(h:Fin (.ok a) k fin):k a=fin:=h.1
theorem Fin.p{α β:Type}{p:P α}{k:α→R β}{fin:R β}(h:Fin (ofP p) k fin):∃ a,p=.ok a∧k a=fin:=by
 cases p with
 |no=>exact h.no.elim
 |ok a=>exact⟨a,rfl,h.1⟩
theorem Fin.ite{α β:Type}{c:Prop}[Decidable c]{r:R α}{k:α→R β}{fin:R β}(h:Fin (if c then r else .no) k fin):c∧Fin r k fin:=by
 by_cases hc:c
 ·rw[if_pos hc] at h;exact⟨hc,h⟩
 ·rw[if_neg hc] at h;exact h.no.elim
theorem Yd.fin{γ α β:Type}{W:WP γ}{C:γ→Shared→α→Prop}{p:P α}{k:α→R β}{fin:R β}{Q:γ→Shared→Prop}{E:Value→Shared→Prop}(h:Yd W C p)(hf:Fin (ofP p) k fin)(hq:∀ v s' a,C v s' a→k a=fin→Q v s'):W Q E:=by
 obtain⟨a,rfl,e⟩:=hf.p;exact h Q E fun v s' c=>hq v s' a c e
section
variable (prog:Program) (w:World) (mg mb:Str→Option Value) (base:Heap)
noncomputable def qT:List (Str×Value):=[("isinstance", .builtin "isinstance"),("len", .builtin "len"),("all", .builtin "all"),("sorted", .builtin "sorted"),("abs", .builtin "abs"),("min", .builtin "min"),("list", .type "list"),("tuple", .type "tuple"),("dict", .type "dict"),("set", .type "set"),("int", .type "int"),("str", .type "str"),("bool", .type "bool"),("range", .type "range"),("enumerate", .type "enumerate"),("reversed", .type "reversed"),("ValueError", .type "ValueError")]
noncomputable def iQ(x:Str):Option Value:=qT.lookup x
inductive ExAt(prog:Program)(w:World)(mg:Str→Option Value)(h:Heap)(av:Addr→Prop)(e:Addr)(x:X):Prop where
 |mk (na:¬ av e) (o:Obj) (vs:Array Value) (C:Addr) (he:h.get? e=some o) (hd:o.data=.fields vs) (hc:o.cls=.ref C) (hm:mg x.cls=some (.ref C)):ExAt prog w mg h av e x
noncomputable def b7(l:List Env)(h:Heap)(av:Addr→Prop)(v:Value):V→Prop
 | .fz d=>Rep prog w h av v d
 | .own d=>∃ a,v=.ref a∧¬ frs l a∧bL prog w h av a d
 | .ex x=>∃ e,v=.ref e∧ExAt prog w mg h av e x
inductive MadeAt(s:Shared)(C:Addr)(ini:Option (List Str))(vals:List Value)(v:Value)(s':Shared):Prop where
 |mk (k:Kp s s') (e:Addr) (dx:Option Addr) (t:Addr) (ve:v=.ref e) (n:s.heap.get? e=none) (he:s'.heap.get? e=some { cls:=.ref C,dict:=dx,data:=.fields #[.ref t,.none,.none,.none,.bool false,.none] }):MadeAt s C ini vals v s'
noncomputable def xJ(ini:Option (List Str))(n:Nat):Prop :=
 match ini with
 |some ps=>ps.length=n
 |none=>n=1
inductive ClsObj(base:Heap)(C:Addr)(bm:List Value):Prop where
 |mk (nm q N bs hdct sn sub ab col dd k0 k1 k2 k3 k5 newId) (h:base.get? C=some (excClassObj nm q C N bs bm hdct sn sub ab col dd k0 k1 k2 k3 k5 newId)):ClsObj base C bm
structure ClsOk(C:Addr)(bm:List Value)(ini:Option (List Str)):Prop where
 obj:ClsObj base C bm
 exc:bm.contains (.type "BaseException")=true
 val:bm.contains (.type "ValueError")=true
 make:∀ (A:Around) (vals:List Value) (s:Shared) (E Q:Value→Shared→Prop),A.depth+1 < recursionLimit→(∀ b o,base.get? b=some o→s.heap.get? b=some o)→xJ ini vals.length→(∀ v s',MadeAt s C ini vals v s'→Q v s')→wpAny (model prog w) A (call (.ref C) vals) Q E s
 isi:∀ (A:Around) (s:Shared) (e:Addr) (o:Obj) (D:Addr) (bm':List Value) (b:Bool) (E Q:Value→Shared→Prop),(∀ b o,base.get? b=some o→s.heap.get? b=some o)→s.heap.get? e=some o→o.cls=.ref C→ClsObj base D bm'→(Value.ref C::bm).contains (.ref D)=b→(∀ tk,Q (.bool b) { s with toks:=tk })→wpAny (model prog w) A (call (.builtin "isinstance") [.ref e,.ref D]) Q E s
 isv:∀ (A:Around) (s:Shared) (e:Addr) (o:Obj) (E Q:Value→Shared→Prop),(∀ b o,base.get? b=some o→s.heap.get? b=some o)→s.heap.get? e=some o→o.cls=.ref C→(∀ tk,Q (.bool true) { s with toks:=tk })→wpAny (model prog w) A (call (.builtin "isinstance") [.ref e,.type "ValueError"]) Q E s
structure Glo:Prop where
 g:base.Ns mainGlobals mg
 b:base.Ns builtinsNs mb
 nolimit:base.NoLimit
 mods:∃ mm,base.Ns sysModules mm
 fn:∀ f a b sc,dL f prog.main.body=some (a,b,sc)→∃ ad o pm cd doc,mg f=some (.ref ad)∧base.get? ad=some o∧o.data=.func (Calls.docDef f a b sc pm cd doc)∧base.CodeRec cd f
 const:∀ x d,gR prog.main.body x=some d→∃ v,mg x=some v∧∀ h' av,Rep prog w h' av v d
 blt:∀ x v,iQ x=some v→mg x=none∧mb x=some v
 cls:∀ c p,bF c prog.main.body=some p→∃ C bm,mg c=some (.ref C)∧ClsOk prog w base C bm p.2∧∀ d q D,bF d prog.main.body=some q→mg d=some (.ref D)→(Value.ref C::bm).contains (.ref D)=fZ prog.main.body 4 c d
structure Room(n:Nat)(hd:Bool)(l:List Env)(A:Around):Prop where
 depth:A.depth+n+1 < recursionLimit
 units:A.units+16*n+300 < cLine
 handled:hd=false→A.handled=none
 guards:A.guards=some []
 frames:A.frames=some l
noncomputable def bA(env:Env)(h:Heap)(x:Str)(u:Value):Prop :=
 (env.kindOf x=some .local∧∃ m,h.Ns env.locals m∧m x=some u) ∨
 ((env.kindOf x=some .cell∨env.kindOf x=some .free)∧∃ c,env.cells.lookup x=some c∧h.IsCell c (some u))
structure Gnd(l:List Env)(av:Addr→Prop)(s:Shared):Prop where
 glo:Glo prog w mg mb base
 stay:∀ b o,base.get? b=some o→s.heap.get? b=some o
 ff:s.heap.FunFrames base l
 fav:∀ b,frs l b→av b
 avlt:∀ b,av b→∃ o,s.heap.get? b=some o
 avS:av sysModules
structure Inv0(l:List Env)(env:Env)(sc:Scope)(σ:aA)(av:Addr→Prop)(s:Shared):Prop where
 gnd:Gnd prog w mg mb base l av s
 kind:env.scope.kind=.function
 eg:env.globals=mainGlobals
 eb:env.builtins=builtinsNs
 dbg:sc.names.lookup (Str.ofString "__debug__")=none
 cld:sc.names.lookup (Str.ofString "__classdict__")=none
 glob:∀ x,isG sc x=true→env.kindOf x=some .globalImplicit
 kinds:∀ x,mG (sc.names.lookup x)=true→mG (env.kindOf x)=true∧∃ c,env.cells.lookup x=some c
 get:∀ x v,isL sc x=true→aA.get σ x=some (some v)→∃ u,bA env s.heap x u∧b7 prog w mg l s.heap av u v
inductive Tb(s:Shared)(h:Heap)(e:Addr)(fl:Value):Prop where
 |mk (oe vs T oT ts) (a:h.get? e=some oe) (b:oe.data=.fields vs) (c:vs[1]?=some (.ref T)) (d:s.heap.get? T=none) (f:T≠e) (g:h.get? T=some oT) (i:oT.data=.fields ts) (j:ts[3]?=some fl):Tb s h e fl
inductive Fly(l:List Env)(s:Shared)(av:Addr→Prop)(x:X)(v:Value)(s':Shared):Prop where
 |mk (k:K l s s') (e:Addr) (a:v=.ref e) (b:s.heap.get? e=none) (c:ExAt prog w mg s'.heap av e x) (d:Tb s s'.heap e .none):Fly l s av x v s'
noncomputable def QH{β:Type}(l:List Env)(s:Shared)(av:Addr→Prop)(k:V→R β)(fin:R β)(Q:Value→Shared→Prop):Prop :=
 ∀ v s' u,K l s s'→bB prog w s s'.heap av v u→k u=fin→Q v s'
noncomputable def EH{β:Type}(l:List Env)(s:Shared)(av:Addr→Prop)(fin:R β)(E:Value→Shared→Prop):Prop :=
 ∀ x v s',fin=.exc x→Fly prog w mg l s av x v s'→E v s'
noncomputable def aH(n:Nat)(hd:Bool)(l:List Env)(sc:Scope)(σ:aA)(e:Expr)(r:R V):Prop :=
 ∀ (A:Around) (env:Env) (s:Shared) (av:Addr→Prop),Room n hd l A→Inv0 prog w mg mb base l env sc σ av s →
  ∀ {β:Type} {k:V→R β} {fin:R β} {Q:Value→Shared→Prop} {E:Value→Shared→Prop},Fin r k fin→QH prog w l s av k fin Q→EH prog w mg l s av fin E→wpAny (model prog w) A (eval e env) Q E s
variable {prog w mg mb base}
theorem Rep.k{l:List Env}{s s':Shared}{av:Addr→Prop}(fav:∀ b,frs l b→av b)(k:K l s s'){v:Value}{d:PyData}(r:Rep prog w s.heap av v d):Rep prog w s'.heap av v d :=
 r.mono (fun _ _ n e=>k.at (fun f=>n (fav _ f)) e) fun _ _ _ x=>x
theorem bL.k{l:List Env}{s s':Shared}{av:Addr→Prop}(fav:∀ b,frs l b→av b)(k:K l s s'){a:Addr}{d:PyData}(n:¬ frs l a)(r:bL prog w s.heap av a d):bL prog w s'.heap av a d :=
 r.mono (fun _ _ n e=>k.at (fun f=>n (fav _ f)) e) (fun _ _ _ x=>x) fun _ e=>k.at n e
theorem ExAt.mono{h h':Heap}{av av':Addr→Prop}(hk:∀ b o,¬ av b→h.get? b=some o→h'.get? b=some o)(ha:∀ b o,h.get? b=some o→av' b→av b){e:Addr}{x:X}(r:ExAt prog w mg h av e x):ExAt prog w mg h' av' e x:=by
 obtain⟨h1,o,vs,C,h2,h3,h4,h5⟩:=r;exact⟨fun x=>h1 (ha _ _ h2 x),o,vs,C,hk _ _ h1 h2,h3,h4,h5⟩
theorem b7.k{l:List Env}{s s':Shared}{av:Addr→Prop}(fav:∀ b,frs l b→av b)(k:K l s s'){v:Value}{u:V}(r:b7 prog w mg l s.heap av v u):b7 prog w mg l s'.heap av v u:=by
 cases u with
 |fz d=>exact Rep.k fav k r
 |own d=>obtain⟨a,e,n,r⟩:=r;exact⟨a,e,n,r.k fav k n⟩
 |ex x=>obtain⟨e,h,r⟩:=r;exact⟨e,h,r.mono (fun _ _ n e=>k.at (fun f=>n (fav _ f)) e) fun _ _ _ x=>x⟩
theorem bA.k{l:List Env}{s s':Shared}(k:K l s s'){env:Env}{x:Str}{u:Value}(v:bA env s.heap x u):bA env s'.heap x u:=by
 rcases v with ⟨h1,m,hn,e⟩ | ⟨h1,c,e,o,hc⟩
 ·exact .inl ⟨h1,m,k.upTo.ns hn,e⟩
 ·exact .inr ⟨h1,c,e,by obtain⟨sl,e⟩:=k.up hc.1;exact⟨_,e,hc.2⟩⟩
theorem Gnd.k{l:List Env}{s s':Shared}{av:Addr→Prop}(I:Gnd prog w mg mb base l av s)(k:K l s s'):Gnd prog w mg mb base l av s' where
 glo:=I.glo
 stay:=fun b o e=>k.at (fun f=>by rw[(I.ff.mem f).1] at e;exact ns e) (I.stay b o e)
 ff:=I.ff.of_keeps fun b o e _=>by obtain⟨_,e'⟩:=k.up e;exact⟨_,e',rfl⟩
 fav:=I.fav
 avlt:=fun b hb=>by obtain⟨_,e⟩:=I.avlt b hb;exact by obtain⟨_,e'⟩:=k.up e;exact⟨_,e'⟩
 avS:=I.avS
theorem Inv0.k{l:List Env}{env:Env}{sc:Scope}{σ:aA}{av:Addr→Prop}{s s':Shared}(I:Inv0 prog w mg mb base l env sc σ av s)(k:K l s s'):Inv0 prog w mg mb base l env sc σ av s' :=
 { I with gnd:=I.gnd.k k,get:=fun x v hl e=>by obtain⟨u,h1,h2⟩:=I.get x v hl e;exact⟨u,h1.k k,h2.k I.gnd.fav k⟩ }
theorem bB.back{l:List Env}{s s':Shared}{h:Heap}{av:Addr→Prop}{v:Value}{u:V}(k:K l s s')(r:bB prog w s' h av v u):bB prog w s h av v u:=by
 cases u with
 |fz d=>exact r
 |own d=>obtain⟨a,e,hn,r⟩:=r;exact⟨a,e,k.non hn,r⟩
 |ex x=>exact r
theorem Own.backp{s s':Shared}{h:Heap}{av:Addr→Prop}{v:Value}{d:PyData}(k:Kp s s')(r:Own prog w s' h av v d):Own prog w s h av v d :=
 by obtain⟨a,e,hn,r⟩:=r;exact⟨a,e,(K.of (l:=[]) k).non hn,r⟩
theorem Fly.back{l:List Env}{s s' s'':Shared}{av:Addr→Prop}{x:X}{v:Value}(k:K l s s')(f:Fly prog w mg l s' av x v s''):Fly prog w mg l s av x v s'':=by
 obtain⟨k',e,h1,h2,h3,oe,vs,T,oT,ts,g1,g2,g3,g4,g5,g6,g7,g8⟩:=f;exact⟨k.tr k',e,h1,k.non h2,h3,oe,vs,T,oT,ts,g1,g2,g3,k.non g4,g5,g6,g7,g8⟩
theorem EH.back{β:Type}{l:List Env}{s s':Shared}{av:Addr→Prop}{fin:R β}{E:Value→Shared→Prop}(h:EH prog w mg l s av fin E)(k:K l s s'):EH prog w mg l s' av fin E :=
 fun x v s'' e f=>h x v s'' e (f.back k)
theorem QH.step{β:Type}{l:List Env}{s s' s'':Shared}{av:Addr→Prop}{k:V→R β}{fin:R β}{Q:Value→Shared→Prop}(h:QH prog w l s av k fin Q)(kk:K l s s'){v:Value}{u:V}(r:Kp s' s''∧bB prog w s' s''.heap av v u)(e:k u=fin):Q v s'' :=
 h v s'' u (kk.trp r.1) (r.2.back kk) e
theorem QH.back{β:Type}{l:List Env}{s s':Shared}{av:Addr→Prop}{k:V→R β}{fin:R β}{Q:Value→Shared→Prop}(h:QH prog w l s av k fin Q)(kk:K l s s'):QH prog w l s' av k fin Q :=
 fun v s'' u k' r e=>h v s'' u (kk.tr k') (r.back kk) e
theorem Room.h0{n:Nat}{l:List Env}{A:Around}(h:Room n false l A):A.handled=none:=h.handled rfl
theorem Room.units80{n:Nat}{hd:Bool}{l:List Env}{A:Around}(h:Room n hd l A):A.units+70 < cLine:=by have:=h.units;exact ax0 this
theorem qU{l:List Env}{env:Env}{sc:Scope}{σ:aA}{av:Addr→Prop}{s:Shared}(I:Inv0 prog w mg mb base l env sc σ av s){x:Str}(h:isL sc x=true∨isG sc x=true):(x==("__debug__" : Str))=false:=by
 refine bcs (x==("__debug__" : Str)) (fun hx=>?_) fun hx=>?_
 ·try rewrite[hx]
  rfl
 ·try rewrite[hx]
  have e:x=Str.ofString "__debug__" := eq_of_beq hx;subst e;rcases h with h | h
  ·rw[isL,I.dbg] at h;exact bft h
  ·rw[isG,I.dbg] at h;exact bft h
theorem Io{l:List Env}{env:Env}{sc:Scope}{σ:aA}{av:Addr→Prop}{s:Shared}(I:Inv0 prog w mg mb base l env sc σ av s){x:Str}(h:isL sc x=true):(x==("__classdict__" : Str))=false:=by
 refine bcs (x==("__classdict__" : Str)) (fun hx=>?_) fun hx=>?_
 ·try rewrite[hx]
  rfl
 ·try rewrite[hx]
  have e:x=Str.ofString "__classdict__" := eq_of_beq hx;subst e;rw[isL,I.cld] at h;exact bft h
theorem gS{l:List Env}{A:Around}{env:Env}{sc:Scope}{σ:aA}{av:Addr→Prop}{s:Shared}{x:Str}{u:Value}{Q:Value→Shared→Prop}{E:Value→Shared→Prop}{pos:Pos}(I:Inv0 prog w mg mb base l env sc σ av s)(hl:isL sc x=true)
  (v:bA env s.heap x u) (h:Q u s):wpAny (model prog w) A (eval (.Name x pos) env) Q E s:=by
 refine wpAny_Name ?_ (qU I (.inl hl));rcases v with ⟨k,m,hn,e⟩ | ⟨k | k,c,e,hc⟩
 ·exact wpAny_loadName_local I.kind k hn e h
 ·exact wpAny_loadName_cell I.kind k e hc h
 ·exact wpAny_loadName_free I.kind k e hc h (Io I hl)
theorem Gnd.g{l:List Env}{av:Addr→Prop}{s:Shared}(G:Gnd prog w mg mb base l av s):s.heap.Ns mainGlobals mg:=G.glo.g.keeps G.stay
theorem j0{l:List Env}{A:Around}{env:Env}{sc:Scope}{σ:aA}{av:Addr→Prop}{s:Shared}{x:Str}{u:Value}{Q:Value→Shared→Prop}{E:Value→Shared→Prop}{pos:Pos}(I:Inv0 prog w mg mb base l env sc σ av s)(hg:isG sc x=true)
  (v:mg x=some u) (h:Q u s):wpAny (model prog w) A (eval (.Name x pos) env) Q E s :=
 Calls.Name_function_global I.kind (I.glob x hg) (Calls.loadGlobal_global (I.eg▸I.gnd.g) v h) (qU I (.inr hg))
theorem dW{l:List Env}{A:Around}{env:Env}{sc:Scope}{σ:aA}{av:Addr→Prop}{s:Shared}{x:Str}{u:Value}{Q:Value→Shared→Prop}{E:Value→Shared→Prop}{pos:Pos}(I:Inv0 prog w mg mb base l env sc σ av s)(hg:isG sc x=true)
  (v:iQ x=some u) (h:Q u s):wpAny (model prog w) A (eval (.Name x pos) env) Q E s :=
 Calls.Name_function_global I.kind (I.glob x hg) (Calls.loadGlobal_builtin (I.eg▸I.gnd.g) (I.gnd.glo.blt x u v).1 (I.eb▸I.gnd.glo.b.keeps I.gnd.stay) (I.gnd.glo.blt x u v).2 h) (qU I (.inr hg))
theorem Ip{n:Nat}{hd:Bool}{l:List Env}{C:Ctx}{sc:Scope}{σ:aA}{x:Str}{pos:Pos}(hc:C.const=gR prog.main.body):aH prog w mg mb base n hd l sc σ (.Name x pos) (ofP (qC C sc σ x)):=by
 intro A env s av hA I β k fin Q E hf hq he;obtain⟨u,e1,e2⟩:=hf.p;unfold qC at e1
 split at e1
 ·rename_i hl;refine ocs (aA.get σ x) (fun e=>?_) fun o e=>?_
  ·try rewrite[e]
   rw[e] at e1;exact pno e1
  ·try rewrite[e]
   rw[e] at e1;cases o with
   |none=>exact pno e1
   |some v =>
    cases v with
    |fz d =>
     obtain rfl:=pi e1;obtain⟨u,h1,h2⟩:=I.get _ _ hl e;exact gS I hl h1 (hq _ _ (.fz d) (K.rf l s) h2 e2)
    |_=>exact pno e1
 ·split at e1
  ·rename_i hg;rw[hc] at e1;refine ocs (gR prog.main.body x) (fun e=>?_) fun d e=>?_
   ·try rewrite[e]
    rw[e] at e1;exact pno e1
   ·try rewrite[e]
    rw[e] at e1;obtain rfl:=pi e1;obtain⟨v,h1,h2⟩:=I.gnd.glo.const _ _ e;exact j0 I hg h1 (hq _ _ (.fz d) (K.rf l s) (h2 _ _) e2)
  ·exact pno e1
theorem Iq{n:Nat}{hd:Bool}{l:List Env}{sc:Scope}{σ:aA}{c:Const}{k:Nat}{pos:Pos}:aH prog w mg mb base n hd l sc σ (.Constant c k pos) (ofP (qD c)):=by
 intro A env s av hA I β k fin Q E hf hq he;have key:Yd (fun Q E=>wpAny (model prog w) A (eval (.Constant c ‹_› pos) env) Q E s) (fun v s' u=>Kp s s'∧bB prog w s s'.heap av v u) (qD c):=by
  cases c with
  |none=>exact fun Q E hq=>wpAny_Constant_none (hq _ _ ⟨Kp.rfl' s,.none⟩)
  |bool b=>exact fun Q E hq=>wpAny_Constant_bool (hq _ _ ⟨Kp.rfl' s,.bool b⟩)
  |int i=>exact fun Q E hq=>wpAny_Constant_int (hq _ _ ⟨Kp.tok' s _,.int i _⟩)
  |str x =>
   show Yd _ _ (mkS x);exact Yd.ite fun hx=>fun Q E hq=>wpAny_Constant_str (hq _ _ ⟨Kp.tok' s _,.str x _ hx⟩)
  |_=>exact trivial
 exact key.fin hf fun v s' u r e=>hq.step (K.rf l s) r e
end
end Mine
namespace Mine
open PySem
section
variable {prog:Program} {w:World}
theorem eF(x:Str)(t:Tok):(strKind prog w).is x (.str x t)=true:=by
 show Value.isStrOf x (.str x t)=true;simp[Value.isStrOf]
theorem Rep.str_inv{h:Heap}{av:Addr→Prop}{v:Value}{x:Str}(r:Rep prog w h av v (.str x)):∃ t,v=.str x t∧x.length≤sizeLine:=by
 cases r with
 |str _ t hx=>exact⟨t,rfl,hx⟩
theorem Rep.int_inv{h:Heap}{av:Addr→Prop}{v:Value}{i:Int}(r:Rep prog w h av v (.int i)):∃ t,v=.int i t:=by
 cases r with
 |int _ t=>exact⟨t,rfl⟩
theorem Rep.bool_inv{h:Heap}{av:Addr→Prop}{v:Value}{b:Bool}(r:Rep prog w h av v (.bool b)):v=.bool b:=by cases r;rfl
inductive ListI(prog:Program)(w:World)(h:Heap)(av:Addr→Prop)(v:Value)(ds:List PyData):Prop where
 |mk (a:Addr) (vs:List Value) (e:v=.ref a) (n:¬ av a) (p:h.PlainList a (List.toArray vs)) (l:vs.length=ds.length) (z:vs.length≤sizeLine) (r:∀ (i:Nat) (v:Value) (d:PyData),vs[i]?=some v→ds[i]?=some d→Rep prog w h av v d):ListI prog w h av v ds
inductive TupI(prog:Program)(w:World)(h:Heap)(av:Addr→Prop)(v:Value)(ds:List PyData):Prop where
 |mk (a:Addr) (vs:List Value) (e:v=.ref a) (n:¬ av a) (p:PlT h a (List.toArray vs)) (l:vs.length=ds.length) (z:vs.length≤sizeLine) (r:∀ (i:Nat) (v:Value) (d:PyData),vs[i]?=some v→ds[i]?=some d→Rep prog w h av v d):TupI prog w h av v ds
inductive DictI(prog:Program)(w:World)(h:Heap)(av:Addr→Prop)(v:Value)(ds:List (PyData×PyData)):Prop where
 |mk (a:Addr) (kvs:List (Str×Value)) (e:v=.ref a) (n:¬ av a) (p:h.DictOf (strKind prog w) a kvs) (z:kvs.length≤sizeLine∧∀ kv∈kvs,kv.1.length≤sizeLine) (m:(a==sysModules)=false)
  (l:ds.map (·.1)=kvs.map (fun kv=>PyData.str kv.1)) (r:∀ (i:Nat) (kv:Str×Value) (d:PyData×PyData),kvs[i]?=some kv→ds[i]?=some d→Rep prog w h av kv.2 d.2):DictI prog w h av v ds
theorem Rep.list_inv{h:Heap}{av:Addr→Prop}{v:Value}{ds:List PyData}(r:Rep prog w h av v (.list ds)):ListI prog w h av v ds:=by
 cases r with
 |list h1 h2 h3 h4 h5=>exact⟨_,_,rfl,h1,h2,h3,h4,h5⟩
theorem Rep.tuple_inv{h:Heap}{av:Addr→Prop}{v:Value}{ds:List PyData}(r:Rep prog w h av v (.tuple ds)):TupI prog w h av v ds:=by
 cases r with
 |tuple h1 h2 h3 h4 h5=>exact⟨_,_,rfl,h1,h2,h3,h4,h5⟩
inductive OddI(prog:Program)(w:World)(h:Heap)(v:Value)(ds:List (PyData×PyData))(av:Addr→Prop):Prop where
 |mk (a:Addr) (k:Int) (x:Value) (d:PyData) (e:v=.ref a) (n:¬ av a) (p:h.DictOf (intKind prog w) a [(k,x)]) (m:(a==sysModules)=false) (l:ds=[(.int k,d)]):OddI prog w h v ds av
theorem Rep.dict_or{h:Heap}{av:Addr→Prop}{v:Value}{ds:List (PyData×PyData)}(r:Rep prog w h av v (.dict ds)):DictI prog w h av v ds∨OddI prog w h v ds av:=by
 cases r with
 |dict h1 h2 h3 h4 h5 h6=>exact .inl ⟨_,_,rfl,h1,h2,h3,h4,h5,h6⟩
 |odd h1 h2 h3 h4=>exact .inr ⟨_,_,_,_,rfl,h1,h2,h3,rfl⟩
theorem Rep.dict_inv{h:Heap}{av:Addr→Prop}{v:Value}{ds:List (PyData×PyData)}(r:Rep prog w h av v (.dict ds))(ho:fG ds≠true):DictI prog w h av v ds :=
 r.dict_or.elim id fun x=>by obtain⟨_,_,_,_,_,_,_,_,rfl⟩:=x;exact absurd rfl ho
theorem nA:∀ {ds:List (PyData×PyData)} {kvs:List (Str×Value)} (x:Str),ds.map (·.1)=kvs.map (fun kv=>PyData.str kv.1) →
  (valueAt kvs x=none∧cC ds x=none)∨∃ (i:Nat) (v:Value) (d:PyData),valueAt kvs x=some v∧cC ds x=some d∧kvs[i]?=some (x,v)∧ds[i]?=some (.str x,d)
 := by
 intro ds
 induction ds with
 |nil =>
  intro kvs x h;cases kvs with
  |nil=>exact .inl ⟨rfl,rfl⟩
  |cons=>exact nomatch h
 |cons p ds ih =>
  obtain⟨k,d⟩:=p;intro kvs x h;cases kvs with
  |nil=>exact nomatch h
  |cons q kvs =>
   obtain⟨y,v⟩:=q;obtain⟨rfl,h2⟩:=List.cons.inj h
   by_cases hx:x=y
   ·subst hx;exact .inr ⟨0,v,d,by unfold valueAt;rw[List.find?_cons,decide_eq_true rfl];rfl,if_pos rfl,rfl,rfl⟩
   ·have hv:valueAt ((y,v)::kvs) x=valueAt kvs x:=by unfold valueAt;rw[List.find?_cons,decide_eq_false (fun e=>hx e.symm:¬ (y,v).1=x)]
    rcases ih (kvs:=kvs) x h2 with ⟨a,b⟩ | ⟨i,v',d',a,b,c,e⟩
    ·exact .inl ⟨hv.trans a,(if_neg hx).trans b⟩
    ·exact .inr ⟨i+1,v',d',hv.trans a,(if_neg hx).trans b,c,e⟩
theorem gA{h:Heap}{av:Addr→Prop}:∀ {vs:List Value} {ds:List PyData} {ss:List Str},vs.length=ds.length→(∀ (i:Nat) (v:Value) (d:PyData),vs[i]?=some v→ds[i]?=some d→Rep prog w h av v d) →
  strs? ds=some ss→∃ ts:List Tok,ts.length=ss.length∧vs=List.zipWith (fun x t=>Value.str x t) ss ts∧∀ x∈ss,x.length≤sizeLine
 := by
 intro vs
 induction vs with
 |nil =>
  intro ds ss hl hr hs;cases ds with
  |nil=>obtain rfl:=si hs;exact⟨[],rfl,rfl,fun x hx=>cL hx⟩
  |cons=>exact nomatch hl
 |cons v vs ih =>
  intro ds ss hl hr hs;cases ds with
  |nil=>exact nomatch hl
  |cons d ds =>
   have h0:=hr 0 v d rfl rfl;cases d with
   |str x =>
    obtain⟨t,rfl,hx⟩:=h0.str_inv;obtain⟨ss',hs',rfl⟩:=Option.map_eq_some_iff.mp (show(strs? ds).map (x::·)=some ss from hs);obtain⟨ts,h1,h2,h3⟩:=ih (ds:=ds) (Nat.succ.inj hl) (fun i v d e1 e2=>hr (i+1) v d e1 e2) hs';exact⟨t::ts,congrArg Nat.succ h1,congrArg (Value.str x t::·) h2,List.forall_mem_cons.mpr ⟨hx,h3⟩⟩
   |_=>exact ns hs
noncomputable def fL(x:Str):Value→Bool
 | .str y _=>y==x
 |_=>false
theorem xK(x:Str):∀ (ss:List Str) (ts:List Tok),ts.length=ss.length→(List.zipWith (fun x t=>Value.str x t) ss ts).any (fL x)=ss.contains x
 | [],[],_=>rfl
 | [],_::_,h=>by simp at h
 |_::_,[],h=>by simp at h
 |s::ss,t::ts,h=>by
  have ih:=xK x ss ts (by simpa using h);simp only[List.zipWith_cons_cons,List.any_cons,ih,List.contains_cons,fL];simp only[Bool.beq_comm]
theorem xL{A:Around}{s:Shared}(x:Str)(t:Tok):∀ (ss:List Str) (ts:List Tok) (y:Value),y∈List.zipWith (fun x t=>Value.str x t) ss ts→SeqAt.EqAt A s y (.str x t) (fL x y)
 | [],_,y,h=>by simp at h
 |_::_,[],y,h=>by simp at h
 |s'::ss,t'::ts,y,h=>by
  rcases List.mem_cons.mp h with h | h
  ·subst h;exact SeqAt.EqAt.str_str _ _ _ _
  ·exact xL x t ss ts y h
noncomputable def CS(prog:Program)(w:World)(A:Around)(s:Shared)(op:CmpOp)(va vb:Value)(p:P Bool):Prop :=
 Yd (fun Q E=>wpAny (model prog w) A (compareOp op va vb) Q E s) (fun v s' r=>Kp s s'∧v=.bool r) p
theorem CS.ok{A:Around}{s:Shared}{op:CmpOp}{va vb:Value}{b:Bool}(s':Shared)(k:Kp s s')(h:∀ (Q:Value→Shared→Prop) E,Q (.bool b) s'→wpAny (model prog w) A (compareOp op va vb) Q E s):CS prog w A s op va vb (.ok b) :=
 fun Q E hq=>h Q E (hq _ _ ⟨k,rfl⟩)
theorem nB{A:Around}{s:Shared}{vs:List Value}{l:List PyData}{av:Addr→Prop}{x:Str}{t:Tok}{op:CmpOp}{vb:Value}{g:P Bool→P Bool}(h3:vs.length=l.length)(h5:∀ (i:Nat) (v:Value) (d:PyData),vs[i]?=some v→l[i]?=some d→Rep prog w s.heap av v d)
  (hg:g .no=.no) (h:∀ b,(∀ y∈vs.toArray,SeqAt.EqAt A.in1 s y (.str x t) (fL x y))→vs.toArray.any (fL x)=b→CS prog w A s op (.str x t) vb (g (.ok b))):CS prog w A s op (.str x t) vb (g (lX x l)):=by
 unfold lX;cases hs:strs? l with
 |none =>
  have:g ((ofO (none:Option (List Str))).bind fun ss=>.ok (ss.contains x))=.no:=hg;simp only[this];exact trivial
 |some ss =>
  obtain⟨ts,e1,e2,e3⟩:=gA h3 h5 hs;subst e2;exact h _ (fun y hy=>xL x t ss ts y (by simpa using hy)) (by simpa using xK x ss ts e1)
theorem xM{A:Around}{s:Shared}{av:Addr→Prop}{va vb:Value}{a b:PyData}(ra:Rep prog w s.heap av va a)(rb:Rep prog w s.heap av vb b) :
  CS prog w A s .In va vb (contains a b)∧CS prog w A s .NotIn va vb (bK (contains a b)):=by
 cases a with
 |str x =>
  obtain⟨t,rfl,hx⟩:=ra.str_inv;cases b with
  |str y =>
   obtain⟨u,rfl,hy⟩:=rb.str_inv;exact⟨CS.ok s (Kp.rfl' s) fun Q E h=>SB.contains h,CS.ok s (Kp.rfl' s) fun Q E h=>SB.notContains h⟩
  |dict l =>
   by_cases ho:fG l=true
   ·rw[show contains (.str x) (.dict l)=.no from if_pos ho];exact⟨trivial,trivial⟩
   rw[show contains (.str x) (.dict l)=.ok (cC l x).isSome from if_neg ho];obtain⟨a,kvs,rfl,h1,h2,h3,h4,h5,h6⟩:=rb.dict_inv ho;have hsome:(valueAt kvs x).isSome=(cC l x).isSome:=by
    rcases nA x h5 with ⟨e1,e2⟩ | ⟨i,v,d,e1,e2,_⟩<;>rw[e1,e2]<;>rfl
   exact⟨CS.ok _ (Kp.tok' s _) fun Q E h=>wpAny_in_of (eF x t) h4 h2.mapOf (by rw[hsome];exact h),CS.ok _ (Kp.tok' s _) fun Q E h=>wpAny_notIn_of (eF x t) h4 h2.mapOf (by rw[hsome];exact h)⟩
  |list l =>
   obtain⟨a,vs,rfl,h1,h2,h3,h4,h5⟩:=rb.list_inv;exact⟨nB (g:=id) h3 h5 rfl fun b he hb=>CS.ok s (Kp.rfl' s) fun Q E h=>SeqAt.in_listAt (fL x) h2.isList he (by rw[hb];exact h),
    nB (g:=bK) h3 h5 rfl fun b he hb=>CS.ok s (Kp.rfl' s) fun Q E h=>SeqAt.notIn_listAt (fL x) h2.isList he (by rw[hb];exact h)⟩
  |tuple l =>
   obtain⟨a,vs,rfl,h1,h2,h3,h4,h5⟩:=rb.tuple_inv;exact⟨nB (g:=id) h3 h5 rfl fun b he hb=>CS.ok s (Kp.rfl' s) fun Q E h=>SeqAt.in_tupleAt (fL x) h2.isTuple he (by rw[hb];exact h),
    nB (g:=bK) h3 h5 rfl fun b he hb=>CS.ok s (Kp.rfl' s) fun Q E h=>SeqAt.notIn_tupleAt (fL x) h2.isTuple he (by rw[hb];exact h)⟩
  |_=>exact⟨trivial,trivial⟩
 |_=>exact⟨trivial,trivial⟩
theorem xN{A:Around}{s:Shared}{av:Addr→Prop}{va vb:Value}{a b:PyData}(ra:Rep prog w s.heap av va a)(rb:Rep prog w s.heap av vb b) :
  CS prog w A s .Is va vb (lY a b)∧CS prog w A s .IsNot va vb (bK (lY a b)):=by
 cases b with
 |none =>
  cases rb;have hv:(va==Value.none)=c8 a:=by cases ra<;>rfl
  exact⟨CS.ok s (Kp.rfl' s) fun Q E h=>is_none (by rw[hv];exact h),CS.ok s (Kp.rfl' s) fun Q E h=>isNot_none (by rw[hv];exact h)⟩
 |_=>exact⟨trivial,trivial⟩
theorem Ir{a b:List Str}(h:a.length=b.length):(List.range a.length).all (fun j=>a[j]?==b[j]?)=(a==b):=by
 rw[Bool.eq_iff_iff,List.all_eq_true,beq_iff_eq];constructor
 ·intro hh;refine List.ext_getElem? fun i=>?_
  by_cases hi:i < a.length
  ·exact eq_of_beq (hh i (List.mem_range.mpr hi))
  ·rw[List.getElem?_eq_none (Nat.not_lt.mp hi),List.getElem?_eq_none (h▸Nat.not_lt.mp hi)]
 ·intro hh i _;rw[hh];exact beq_self_eq_true _
theorem xO{A:Around}{s:Shared}{h:Heap}{av:Addr→Prop}{vs vs':List Value}{x y:List PyData}{p:Bool}(hl:x.length=y.length)(h3:vs.length=x.length)(h5:∀ (i:Nat) (v:Value) (d:PyData),vs[i]?=some v→x[i]?=some d→Rep prog w h av v d)(k3:vs'.length=y.length)
  (k5:∀ (i:Nat) (v:Value) (d:PyData),vs'[i]?=some v→y[i]?=some d→Rep prog w h av v d) (he:eQ x y=.ok p):∃ e:Nat→Bool,(List.range vs.length).all e=p∧∀ j (h1:j < vs.toArray.size) (h2:j < vs'.toArray.size),SeqAt.EqAt A s vs.toArray[j] vs'.toArray[j] (e j):=by
 unfold eQ at he;refine ocs (strs? x) (fun hx=>?_) fun a hx=>?_
 ·try rewrite[hx]
  simp only[hx] at he;exact pno he
 ·try rewrite[hx]
  refine ocs (strs? y) (fun hy=>?_) fun b hy=>?_
  ·try rewrite[hy]
   simp only[hx,hy] at he;exact pno he
  ·try rewrite[hy]
   simp only[hx,hy] at he;obtain rfl:=pi he;obtain⟨ta,q1,rfl,_⟩:=gA h3 h5 hx;obtain⟨tb,q2,rfl,_⟩:=gA k3 k5 hy;have la:(List.zipWith (fun x t=>Value.str x t) a ta).length=a.length:=by simp[q1]
   have lb:(List.zipWith (fun x t=>Value.str x t) b tb).length=b.length:=by simp[q2]
   refine⟨fun j=>a[j]?==b[j]?,?_,fun j h1 h2=>?_⟩
   ·simp only[la];exact Ir (by simp only[← la,← lb,h3,k3,hl])
   ·have ja:j < a.length:=by simpa[q1] using h1
    have jb:j < b.length:=by simpa[q2] using h2
    have e1:=List.getElem?_eq_getElem ja;have e2:=List.getElem?_eq_getElem jb;simp only[e1,e2,List.getElem_toArray,List.getElem_zipWith];exact SeqAt.EqAt.str_str _ _ _ _
theorem xP{A:Around}{s:Shared}{av:Addr→Prop}{va vb:Value}{a b:PyData}(hu:A.units+70 < cLine)(ra:Rep prog w s.heap av va a)(rb:Rep prog w s.heap av vb b) :
  CS prog w A s .Eq va vb (eqO a b)∧CS prog w A s .NotEq va vb (bK (eqO a b)):=by
 have hu0:A.units < cLine:=by exact ax2 hu
 cases a with
 |none =>
  cases ra;cases b with
  |list y =>
   obtain⟨a',vs',rfl,k1,k2,k3,k4,k5⟩:=rb.list_inv;exact⟨CS.ok s (Kp.rfl' s) fun Q E h=>SeqAt.RcAt.none_list k2.isList hu0 prog w E Q h,CS.ok s (Kp.rfl' s) fun Q E h=>SeqAt.RcNeAt.none_list k2.isList hu0 prog w E Q h⟩
  |_=>exact⟨trivial,trivial⟩
 |int x =>
  obtain⟨t,rfl⟩:=ra.int_inv;cases b with
  |int y =>
   obtain⟨u,rfl⟩:=rb.int_inv;exact⟨CS.ok s (Kp.rfl' s) fun Q E h=>SeqAt.RcAt.int_int x t y u prog w E Q h,CS.ok s (Kp.rfl' s) fun Q E h=>SeqAt.RcNeAt.int_int x t y u prog w E Q h⟩
  |_=>exact⟨trivial,trivial⟩
 |str x =>
  obtain⟨t,rfl,_⟩:=ra.str_inv;cases b with
  |str y =>
   obtain⟨u,rfl,_⟩:=rb.str_inv;exact⟨CS.ok s (Kp.rfl' s) fun Q E h=>SeqAt.RcAt.str_str x t y u prog w E Q h,CS.ok s (Kp.rfl' s) fun Q E h=>SeqAt.RcNeAt.str_str x t y u prog w E Q h⟩
  |_=>exact⟨trivial,trivial⟩
 |bool x =>
  obtain rfl:=ra.bool_inv;cases b with
  |bool y =>
   obtain rfl:=rb.bool_inv;exact⟨CS.ok s (Kp.rfl' s) fun Q E h=>SeqAt.RcAt.bool_bool x y prog w E Q h,CS.ok s (Kp.rfl' s) fun Q E h=>SeqAt.RcNeAt.bool_bool x y prog w E Q h⟩
  |_=>exact⟨trivial,trivial⟩
 |list x =>
  obtain⟨a,vs,rfl,h1,h2,h3,h4,h5⟩:=ra.list_inv;cases b with
  |list y =>
   obtain⟨a',vs',rfl,k1,k2,k3,k4,k5⟩:=rb.list_inv
   by_cases hl:x.length=y.length
   ·have e0:eqO (.list x) (.list y)=eQ x y:=if_pos hl;rw[e0];refine pcs (eQ x y) (fun he=>?_) fun p he=>?_
    ·try rewrite[he]
     exact⟨trivial,trivial⟩
    ·try rewrite[he]
     obtain⟨e,q1,q2⟩:=xO (A:=A.in1) (s:=s) hl h3 h5 k3 k5 he;have hsz:vs.toArray.size=vs'.toArray.size:=by simp[h3,k3,hl]
     subst q1;exact⟨CS.ok s (Kp.rfl' s) fun Q E h=>SeqAt.RcAt.lists h2.isList k2.isList hsz hu0 q2 prog w E Q (by simpa using h),
      CS.ok s (Kp.rfl' s) fun Q E h=>SeqAt.RcNeAt.lists h2.isList k2.isList hsz hu0 q2 prog w E Q (by simpa using h)⟩
   ·have e0:eqO (.list x) (.list y)=.ok false:=if_neg hl;rw[e0];have hsz:(vs.toArray.size != vs'.toArray.size)=true:=by simp[h3,k3,hl]
    exact⟨CS.ok s (Kp.rfl' s) fun Q E h=>SeqAt.RcAt.lists_lengths h2.isList k2.isList hsz hu0 prog w E Q h,
     CS.ok s (Kp.rfl' s) fun Q E h=>SeqAt.RcNeAt.lists_lengths h2.isList k2.isList hsz hu0 prog w E Q h⟩
  |_=>exact⟨trivial,trivial⟩
 |tuple x =>
  obtain⟨a,vs,rfl,h1,h2,h3,h4,h5⟩:=ra.tuple_inv;cases b with
  |tuple y =>
   obtain⟨a',vs',rfl,k1,k2,k3,k4,k5⟩:=rb.tuple_inv
   by_cases hl:x.length=y.length
   ·have e0:eqO (.tuple x) (.tuple y)=eQ x y:=if_pos hl;rw[e0];refine pcs (eQ x y) (fun he=>?_) fun p he=>?_
    ·rw[he];exact⟨trivial,trivial⟩
    ·rw[he];obtain⟨e,q1,q3⟩:=xO (A:=A.in1) (s:=s) hl h3 h5 k3 k5 he;have hsz:vs'.length=x.length:=by rw[k3,hl]
     subst q1;exact⟨CS.ok s (Kp.rfl' s) fun Q E h=>SeqAt.RcAt.tuples h2.isTuple k2.isTuple hu0 q3 prog w E Q (by simpa[hsz,h3] using h),
      CS.ok s (Kp.rfl' s) fun Q E h=>SeqAt.RcNeAt.tuples h2.isTuple k2.isTuple hu0 q3 prog w E Q (by simpa[hsz,h3] using h)⟩
   ·have e0:eqO (.tuple x) (.tuple y)=.no:=if_neg hl;rw[e0];exact⟨trivial,trivial⟩
  |_=>exact⟨trivial,trivial⟩
 |_=>exact⟨trivial,trivial⟩
theorem nC{A:Around}{s:Shared}{av:Addr→Prop}{va vb:Value}{a b:PyData}{op:CmpOp}{f:Int→Int→Bool}(ra:Rep prog w s.heap av va a)(rb:Rep prog w s.heap av vb b)
  (h:∀ x t y u (Q:Value→Shared→Prop) E,Q (.bool (f x y)) s→wpAny (model prog w) A (compareOp op (.int x t) (.int y u)) Q E s):CS prog w A s op va vb (jI f a b):=by
 cases a with
 |int x =>
  obtain⟨t,rfl⟩:=ra.int_inv;cases b with
  |int y =>
   obtain⟨u,rfl⟩:=rb.int_inv;exact CS.ok s (Kp.rfl' s) fun Q E hq=>h x t y u Q E hq
  |_=>exact trivial
 |_=>exact trivial
theorem It{A:Around}{s:Shared}{av:Addr→Prop}{op:CmpOp}{va vb:Value}{a b:PyData}(hu:A.units+70 < cLine)(ra:Rep prog w s.heap av va a)(rb:Rep prog w s.heap av vb b):CS prog w A s op va vb (cmp op a b):=by
 cases op with
 |Eq=>exact(xP hu ra rb).1
 |NotEq=>exact(xP hu ra rb).2
 |In=>exact(xM ra rb).1
 |NotIn=>exact(xM ra rb).2
 |Is=>exact(xN ra rb).1
 |IsNot=>exact(xN ra rb).2
 |Lt=>exact nC ra rb fun x t y u Q E h=>PyProof.Rows.lt_int h
 |LtE=>exact nC ra rb fun x t y u Q E h=>P.le_int h
 |Gt=>exact nC ra rb fun x t y u Q E h=>PyProof.Rows.gt_int h
 |GtE=>exact nC ra rb fun x t y u Q E h=>P.ge_int h
end
end Mine
namespace Mine
open PySem
section
variable {prog:Program} {w:World}
theorem bT(h:Heap):h.get? h.objs.size=none:=by
 refine ocs (h.get? h.objs.size) (fun e=>?_) fun o e=>?_
 ·try rewrite[e]
  rfl
 ·try rewrite[e]
  exact absurd (Heap.lt_size e) (Nat.lt_irrefl _)
theorem Rep.apart{h:Heap}{av:Addr→Prop}{v:Value}{d:PyData}{a:Addr}(hn:h.get? a=Option.none)(r:Rep prog w h av v d):Rep prog w h (fun b=>av b∨b=a) v d :=
 r.mono (fun _ _ _ e=>e) fun b o e x=>x.elim id fun x=>by subst x;rw[hn] at e;exact ns e
theorem cQ(h:Heap)(o:Obj)(ho:o.isFreed=false):(h.push o).get? h.objs.size=some o:=Heap.get?_push_size h ho
theorem xQ{h:Heap}{av:Addr→Prop}{xs ys:List Value}{as bs:List PyData}(hx:xs.length=as.length)(_hy:ys.length=bs.length)
  (rx:∀ (i:Nat) (v:Value) (d:PyData),xs[i]?=some v→as[i]?=some d→Rep prog w h av v d) (ry:∀ (i:Nat) (v:Value) (d:PyData),ys[i]?=some v→bs[i]?=some d→Rep prog w h av v d) :
  ∀ (i:Nat) (v:Value) (d:PyData),(xs++ys)[i]?=some v→(as++bs)[i]?=some d→Rep prog w h av v d:=by
 intro i v d e1 e2
 by_cases hi:i < xs.length
 ·rw[List.getElem?_append_left hi] at e1;rw[List.getElem?_append_left (hx▸hi)] at e2;exact rx i v d e1 e2
 ·rw[List.getElem?_append_right (by exact ax4 hi)] at e1;rw[List.getElem?_append_right (by exact ax5 hx hi),← hx] at e2;exact ry _ v d e1 e2
theorem qV{s s₁:Shared}{av:Addr→Prop}{vs:List Value}{ds:List PyData}(k:Kp s s₁)(hl:vs.length=ds.length)(hz:vs.length≤sizeLine)
  (hr:∀ (i:Nat) (v:Value) (d:PyData),vs[i]?=some v→ds[i]?=some d→Rep prog w s₁.heap av v d) :
  Kp s { s₁ with heap:=s₁.heap.push { cls:=.type "list", data:=.seq vs.toArray } } ∧
   bB prog w s (s₁.heap.push { cls:=.type "list", data:=.seq vs.toArray }) av (.ref s₁.heap.objs.size) (.own (.list ds)):=by
 refine⟨k.tr (Kp.push' _ _),Own.backp k ⟨_,rfl,bT _,vs,⟨0,cQ _ _ rfl⟩,hl,hz,fun i v d e1 e2=>?_⟩⟩;exact(((hr i v d e1 e2).apart (bT _)).keeps fun b o e=>Heap.get?_push_of_some _ e)
theorem qW{s s₁:Shared}{av:Addr→Prop}{vs:List Value}{ds:List PyData}(k:Kp s s₁)(ha:∀ b,av b→∃ o,s₁.heap.get? b=some o)(hl:vs.length=ds.length)(hz:vs.length≤sizeLine)
  (hr:∀ (i:Nat) (v:Value) (d:PyData),vs[i]?=some v→ds[i]?=some d→Rep prog w s₁.heap av v d) :
  Kp s { s₁ with heap:=s₁.heap.push { cls:=.type "tuple", data:=.seq vs.toArray } } ∧
   bB prog w s (s₁.heap.push { cls:=.type "tuple", data:=.seq vs.toArray }) av (.ref s₁.heap.objs.size) (.fz (.tuple ds)):=by
 refine⟨k.tr (Kp.push' _ _),Rep.tuple (fun x=>?_) ⟨0,cQ _ _ rfl⟩ hl hz fun i v d e1 e2=>(hr i v d e1 e2).keeps fun b o e=>Heap.get?_push_of_some _ e⟩;obtain⟨o,e⟩:=ha _ x;rw[bT] at e;exact ns e
theorem Iu{x y:Int}(hy:y.natAbs < 2 ^ 63):Builtin.divisionGoesByPylong x y=false:=by
 unfold Builtin.divisionGoesByPylong;have:(if (y==0)=true then 0 else y.natAbs.log2 / 30+1)≤300:=by
  split
  ·exact ax6
  ·rename_i h0;have hn:y.natAbs≠0:=by simpa using h0
   have:y.natAbs.log2 < 63:=(Nat.log2_lt hn).mpr hy;exact ax7 this
 simp only[Bool.and_eq_false_iff,decide_eq_false_iff_not];left;exact ax8 this
theorem xR{x:Int}(h:x.natAbs < 2 ^ 63):Builtin.Int.intBits x≤64:=intBits_le_64 (by omega) (by omega)
theorem Iv{x:Str}{n:Int}(hn:n≤1024)(hx:x.length≤1024):(jH x n).length≤sizeLine:=by
 unfold jH
 split
 ·exact Nat.zero_le _
 ·split
  ·rw[sizeLine_eq];exact ax9 hx
  ·have hf:∀ (k:Nat) (acc:Array Nat),((List.replicate k x.cps).foldl (·++·) acc).size=acc.size+k*x.cps.size:=by
    intro k
    induction k with
    |zero=>intro acc;simp
    |succ k ih=>intro acc;rw[List.replicate_succ,List.foldl_cons,ih,Array.size_append,Nat.succ_mul];exact Dl
   show((List.replicate n.toNat x.cps).foldl (·++·) #[]).size≤sizeLine;rw[hf];have h1:n.toNat≤1024:=by exact Dm hn
   have h2:x.cps.size≤1024:=hx;have h3:n.toNat*x.cps.size≤1024*1024:=Nat.mul_le_mul h1 h2;rw[sizeLine_eq];simp;exact Dn h3
theorem xS{op:Operator}(h:iF op=true):op=.Add:=by
 cases op<;>first | rfl | cases h
theorem Iw{op:Operator}(h:wB op=true):op=.Mult:=by
 cases op<;>first | rfl | cases h
noncomputable def OS(prog:Program)(w:World)(A:Around)(s:Shared)(av:Addr→Prop)(op:Operator)(va vb:Value)(p:P V):Prop :=
 Yd (fun Q E=>wpAny (model prog w) A (binaryOp op va vb) Q E s) (fun v s' u=>Kp s s'∧bB prog w s s'.heap av v u) p
theorem Ix{A:Around}{s:Shared}{av:Addr→Prop}{op:Operator}(x y:Int)(t u:Tok):OS prog w A s av op (.int x t) (.int y u) (wA op x y):=by
 cases op with
 |Add=>exact fun Q E hq=>PyProof.Rows.add_int (hq _ _ ⟨Kp.tok' s _,.int _ _⟩)
 |Sub=>exact fun Q E hq=>PyProof.Rows.sub_int (hq _ _ ⟨Kp.tok' s _,.int _ _⟩)
 |Mult=>exact Yd.ite fun h Q E hq=>P.mul_int (hq _ _ ⟨Kp.tok' s _,.int _ _⟩) (h.elim (fun h=>.of_left (xR h)) fun h=>.of_right (xR h))
 |FloorDiv=>exact Yd.ite fun h Q E hq=>PyProof.Rows.floordiv_int h.1 (hq _ _ ⟨Kp.tok' s _,.int _ _⟩) (.inl (Iu h.2))
 |Mod=>exact Yd.ite fun h Q E hq=>PyProof.Rows.mod_int' h (hq _ _ ⟨Kp.tok' s _,.int _ _⟩)
 |Pow=>exact Yd.ite fun h Q E hq=>PyProof.Rows.pow_int_small h.1 (by exact Do h) (by omega) (hq _ _ ⟨Kp.tok' s _,.int _ _⟩)
 |_=>exact trivial
theorem Iy{x:Str}{n:Int}(h1:1≤n)(h2:n≤1024)(hx:x.length≤1024):(x.length:Int)≤(2 ^ 63 - 1) / n :=
 Int.le_ediv_of_mul_le (by exact Dp h1) (Int.le_trans (Int.mul_le_mul (Int.ofNat_le.mpr hx) h2 (by exact Dq h1) (by decide)) (by decide))
theorem Iz{A:Around}{s:Shared}{av:Addr→Prop}(x:Str)(n:Int)(t u:Tok)(h:-100≤n∧n≤1024∧x.length≤1024):OS prog w A s av .Mult (.str x t) (.int n u) (.ok (.fz (.str (jH x n)))):=by
 intro Q E hq;have hlen:=Iv h.2.1 h.2.2;refine P.mul_str (by simp only[Bool.or_eq_false_iff,decide_eq_false_iff_not];lia) (fun h1 _=>?_) (fun h1 _=>?_) ?_
 ·have:=Iy (by exact Dr h1) h.2.1 h.2.2;exact Ds this
 ·exact decide_eq_false (Nat.not_lt.mpr (Nat.le_trans (Nat.mul_le_mul h.2.2 (by exact Dt h:n.toNat≤1024)) (by decide)))
 ·unfold jH at hlen hq
  split
  ·rename_i hn;rw[if_pos hn] at hq hlen;exact⟨hlen,hq _ _ ⟨Kp.tok' s _,.str _ _ hlen⟩⟩
  ·rename_i hn;rw[if_neg hn] at hq hlen
   split
   ·rename_i h1;rw[if_pos h1] at hq hlen;exact hq _ _ ⟨Kp.rfl' s,.str _ _ hlen⟩
   ·rename_i h1;rw[if_neg h1] at hq hlen;exact⟨hlen,hq _ _ ⟨Kp.tok' s _,.str _ _ hlen⟩⟩
theorem I0{A:Around}{s:Shared}{av:Addr→Prop}{va vb:Value}{l m:List PyData}(ra:Rep prog w s.heap av va (.list l))(rb:Rep prog w s.heap av vb (.list m))(h:l.length+m.length≤aX):OS prog w A s av .Add va vb (.ok (.own (.list (l++m)))):=by
 obtain⟨a,vs,rfl,h1,⟨n,e⟩,h3,h4,h5⟩:=ra.list_inv;obtain⟨a',vs',rfl,k1,⟨n',e'⟩,k3,k4,k5⟩:=rb.list_inv;intro Q E hq;have hz:(vs++vs').length≤sizeLine:=by rw[List.length_append,h3,k3];exact h
 have:=qV (prog:=prog) (w:=w) (vs:=vs++vs') (ds:=l++m) (Kp.rfl' s) (by simp[h3,k3]) hz (xQ h3 k3 h5 k5);refine P.add_list e e' ?_ (by simpa using hz);rw[List.append_toArray];exact hq _ _ this
theorem I4{A:Around}{s:Shared}{av:Addr→Prop}{op:Operator}{va vb:Value}{a b:PyData}(hav:∀ b,av b→∃ o,s.heap.get? b=some o)(ra:Rep prog w s.heap av va a)(rb:Rep prog w s.heap av vb b):OS prog w A s av op va vb (aD op a b):=by
 cases a with
 |int x =>
  obtain⟨t,rfl⟩:=ra.int_inv;cases b with
  |int y =>
   obtain⟨u,rfl⟩:=rb.int_inv;exact Ix x y t u
  |_=>exact trivial
 |str x =>
  obtain⟨t,rfl,hx⟩:=ra.str_inv;cases b with
  |str y =>
   obtain⟨u,rfl,hy⟩:=rb.str_inv;exact Yd.ite fun h Q E hq=>by
    cases xS h.1;exact SB.add (fun t' k=>hq _ _ ⟨Kp.tok' s _,.str _ _ (by rw[strLen_append];exact h.2)⟩) h.2
  |int y =>
   obtain⟨u,rfl⟩:=rb.int_inv;exact Yd.ite fun h=>by
    cases Iw h.1;exact Iz x y t u h.2
  |_=>exact trivial
 |list l =>
  cases b with
  |list m=>exact Yd.ite fun h=>by cases xS h.1;exact I0 ra rb h.2
  |_=>exact trivial
 |_=>exact trivial
end
end Mine
namespace Mine
open PySem
section
variable {prog:Program} {w:World} {mg mb:Str→Option Value} {base:Heap}
theorem iR{u:V}{b:Bool}(h:cR u=.ok b):u=.fz (.bool b):=by
 cases u with
 |fz d=>cases d<;>first | (cases h;rfl) | cases h
 |_=>exact pno h
theorem bB.clear{l:List Env}{s:Shared}{h:Heap}{av:Addr→Prop}{v:Value}{u:V}(hlt:∀ b,av b→∃ o,s.heap.get? b=some o)(r:bB prog w s h av v u):b7 prog w mg l h av v u.clear:=by
 cases u with
 |fz d=>exact r
 |own d=>exact Own.rep hlt r
 |ex x=>exact r.elim
variable {n:Nat} {hd:Bool} {l:List Env} {sc:Scope} {σ:aA}
theorem I5{a b:Expr}{op:Operator}{pos:Pos}{pl pr:R V}(hl:aH prog w mg mb base n hd l sc σ a pl)(hr:aH prog w mg mb base n hd l sc σ b pr) :
  aH prog w mg mb base n hd l sc σ (.BinOp a op b pos) (rb pl fun a=>rb pr fun b=>ofP (aD op (dOf a) (dOf b))):=by
 intro A env s av hA I β k fin Q E hf hq he;refine wpAny_BinOp (hl A env s av hA I hf.b (fun va s₁ a k1 ra h1=>?_) he);have I1:=I.k k1;refine hr A env s₁ av hA I1 (Fin.b ⟨h1,hf.2⟩) (fun vb s₂ b k2 rb h2=>?_) (he.back k1);exact(I4 (I1.k k2).gnd.avlt ((ra.rep I.gnd.avlt).k I.gnd.fav k2) (rb.rep I1.gnd.avlt)).fin ⟨h2,hf.2⟩ fun v s' u r e=>hq.step (k1.tr k2) r e
theorem xT{x:Expr}{op:UnaryOp}{pos:Pos}{p:R V}(hx:aH prog w mg mb base n hd l sc σ x p):aH prog w mg mb base n hd l sc σ (.UnaryOp op x pos) (rb p fun v=>ofP (eV op v)):=by
 intro A env s av hA I β k fin Q E hf hq he;refine wpAny_UnaryOp (hx A env s av hA I hf.b (fun va s₁ a k1 ra h1=>?_) he);obtain⟨u,e1,e2⟩:=Fin.p ⟨h1,hf.2⟩;cases op with
 |Not =>
  refine pcs (cR a) (fun ht=>?_) fun b ht=>?_
  ·try rewrite[ht]
   rw[eV,ht] at e1;exact pno e1
  ·try rewrite[ht]
   rw[eV,ht] at e1;obtain rfl:=pi e1;cases iR ht;cases (show Rep prog w s₁.heap av va (.bool b) from ra).bool_inv;exact not_value (wpAny_truthy_bool (hq _ _ (.fz (.bool _)) k1 (.bool _) e2))
 |USub =>
  have r:=ra.rep I.gnd.avlt;have e1:wS (dOf a)=.ok u:=e1;generalize dOf a=d at r e1;cases d with
  |int i =>
   obtain rfl:=pi e1;obtain⟨t,rfl⟩:=r.int_inv;exact P.neg_int (hq _ _ (.fz (.int _)) (k1.trp (Kp.tok' _ _)) (.int _ _) e2)
  |_=>exact pno e1
 |_=>exact pno e1
noncomputable def bU(prog:Program)(w:World)(mg mb:Str→Option Value)(base:Heap)(n:Nat)(hd:Bool)(l:List Env)(sc:Scope)(σ:aA)(e:Expr)(r:R V):Prop :=
 ∀ (A:Around) (env:Env) (s:Shared) (av:Addr→Prop),Room n hd l A→Inv0 prog w mg mb base l env sc σ av s →
  ∀ {β:Type} {k:Bool→R β} {fin:R β} {Q:Bool→Shared→Prop} {E:Value→Shared→Prop},Fin (tst r) k fin→(∀ b s',K l s s'→k b=fin→Q b s')→EH prog w mg l s av fin E→wpAny (model prog w) A (isTrue e env (eval e env)) Q E s
theorem I6{t b o:Expr}{pos:Pos}{pt pb po:R V}(ht:bU prog w mg mb base n hd l sc σ t pt)(hb:aH prog w mg mb base n hd l sc σ b pb)(ho:aH prog w mg mb base n hd l sc σ o po) :
  aH prog w mg mb base n hd l sc σ (.IfExp t b o pos) (rb (tst pt) fun c=>if c then pb else po):=by
 intro A env s av hA I β k fin Q E hf hq he;refine wpAny_IfExp (ht A env s av hA I hf.b (fun c s₁ k1 h1=>?_) he);cases c with
 |true=>exact hb A env s₁ av hA (I.k k1) ⟨h1,hf.2⟩ (hq.back k1) (he.back k1)
 |false=>exact ho A env s₁ av hA (I.k k1) ⟨h1,hf.2⟩ (hq.back k1) (he.back k1)
theorem xU{e:Expr}{r:R V}(h:aH prog w mg mb base n hd l sc σ e r)(he:∀ env whole,isTrue e env whole=(do let v ← whole;standAt e.pos;holding [v] (truthy v))):bU prog w mg mb base n hd l sc σ e r:=by
 intro A env s av hA I β k fin Q E hf hq hE;refine wpAny_isTrue_value (h A env s av hA I hf.b (fun v s₁ a k1 ra h1=>?_) hE) (he env _);obtain⟨b,e1,e2⟩:=Fin.p ⟨h1,hf.2⟩;cases iR e1;cases (show Rep prog w s₁.heap av v (.bool b) from ra).bool_inv;exact wpAny_truthy_bool (hq _ _ k1 e2)
theorem I7{x:Expr}{pos:Pos}{p:R V}(hx:bU prog w mg mb base n hd l sc σ x p):bU prog w mg mb base n hd l sc σ (.UnaryOp .Not x pos) (rb p fun v=>ofP (eV .Not v)):=by
 intro A env s av hA I β k fin Q E hf hq hE;refine wpAny_isTrue_Not (hx A env s av hA I (k:=fun b=>k !b) ⟨?_,hf.2⟩ (fun b s₁ k1 h1=>hq _ _ k1 h1) hE);rw[← hf.1];cases p with
 |ok v =>
  show rb (ofP (cR v)) _=rb (tst (ofP (eV .Not v))) k;unfold eV;cases cR v<;>rfl
 |_=>rfl
theorem I8{t b o:Expr}{pos:Pos}{pt pb po:R V}(ht:bU prog w mg mb base n hd l sc σ t pt)(hb:bU prog w mg mb base n hd l sc σ b pb)(ho:bU prog w mg mb base n hd l sc σ o po) :
  bU prog w mg mb base n hd l sc σ (.IfExp t b o pos) (rb (tst pt) fun c=>if c then pb else po):=by
 intro A env s av hA I β k fin Q E hf hq hE;refine wpAny_bind (ht A env s av hA I hf.b.b (fun c s₁ k1 h1=>?_) hE);cases c with
 |true=>exact hb A env s₁ av hA (I.k k1) (Fin.unb ⟨h1,hf.2⟩) (fun b s' k2 e=>hq b s' (k1.tr k2) e) (hE.back k1)
 |false=>exact ho A env s₁ av hA (I.k k1) (Fin.unb ⟨h1,hf.2⟩) (fun b s' k2 e=>hq b s' (k1.tr k2) e) (hE.back k1)
theorem I9{rec:Expr→R V}{A:Around}{env:Env}{av:Addr→Prop}{pos:Pos}(hA:Room n hd l A):∀ {vs:List Expr} {s:Shared},(∀ e∈vs,aH prog w mg mb base n hd l sc σ e (rec e))→Inv0 prog w mg mb base l env sc σ av s →
  ∀ {β:Type} {k:V→R β} {fin:R β} {Q:Value→Shared→Prop} {E:Value→Shared→Prop},Fin (jL rec vs) k fin→QH prog w l s av k fin Q→EH prog w mg l s av fin E→wpAny (model prog w) A (boolOp pos .And (evalEach vs env)) Q E s:=by
 intro v0
 induction v0 with
 |nil =>
  intro _ _ _ _ _ _ _ _ hf _ _;exact hf.no.elim
 |cons e r0 ih =>
  cases r0 with
  |nil =>
   intro s h I _ _ _ _ _ hf hq he;exact h e List.mem_cons_self A env s av hA I hf hq he
  |cons e' r =>
   intro s h I _ _ _ _ _ hf hq he;refine wpAny_bind (h e List.mem_cons_self A env s av hA I (Fin.b hf) (fun v s₁ a k1 ra h1=>wpAny_bind (wpAny_standAt (wpAny_bind (wpAny_holding ?_)))) he);obtain⟨b,e1,e2⟩:=Fin.p (Fin.b ⟨h1,hf.2⟩);cases iR e1;cases (show Rep prog w s₁.heap av v (.bool b) from ra).bool_inv;cases b with
   |true=>exact wpAny_truthy_bool (ih (fun x hx=>h x (List.mem_cons_of_mem _ hx)) (I.k k1) ⟨e2,hf.2⟩ (hq.back k1) (he.back k1))
   |false=>exact wpAny_truthy_bool (wpAny_pure (hq _ _ (.fz (.bool _)) k1 (.bool _) e2))
theorem Ja{rec:Expr→R V}{A:Around}{env:Env}{av:Addr→Prop}{pos:Pos}(hA:Room n hd l A):∀ {vs:List Expr} {s:Shared},(∀ e∈vs,aH prog w mg mb base n hd l sc σ e (rec e))→Inv0 prog w mg mb base l env sc σ av s →
  ∀ {β:Type} {k:V→R β} {fin:R β} {Q:Value→Shared→Prop} {E:Value→Shared→Prop},Fin (jM rec vs) k fin→QH prog w l s av k fin Q→EH prog w mg l s av fin E→wpAny (model prog w) A (boolOp pos .Or (evalEach vs env)) Q E s:=by
 intro v0
 induction v0 with
 |nil =>
  intro _ _ _ _ _ _ _ _ hf _ _;exact hf.no.elim
 |cons e r0 ih =>
  cases r0 with
  |nil =>
   intro s h I _ _ _ _ _ hf hq he;exact h e List.mem_cons_self A env s av hA I hf hq he
  |cons e' r =>
   intro s h I _ _ _ _ _ hf hq he;refine wpAny_bind (h e List.mem_cons_self A env s av hA I (Fin.b hf) (fun v s₁ a k1 ra h1=>wpAny_bind (wpAny_standAt (wpAny_bind (wpAny_holding ?_)))) he);obtain⟨b,e1,e2⟩:=Fin.p (Fin.b ⟨h1,hf.2⟩);cases iR e1;cases (show Rep prog w s₁.heap av v (.bool b) from ra).bool_inv;cases b with
   |false=>exact wpAny_truthy_bool (ih (fun x hx=>h x (List.mem_cons_of_mem _ hx)) (I.k k1) ⟨e2,hf.2⟩ (hq.back k1) (he.back k1))
   |true=>exact wpAny_truthy_bool (wpAny_pure (hq _ _ (.fz (.bool _)) k1 (.bool _) e2))
theorem Jb{rec:Expr→R V}{A:Around}{env:Env}{av:Addr→Prop}(hA:Room n hd l A):∀ {vs:List Expr} {s:Shared},(∀ e∈vs,bU prog w mg mb base n hd l sc σ e (rec e))→Inv0 prog w mg mb base l env sc σ av s →
  ∀ {β:Type} {k:Bool→R β} {fin:R β} {Q:Bool→Shared→Prop} {E:Value→Shared→Prop},Fin (tst (jL rec vs)) k fin→(∀ b s',K l s s'→k b=fin→Q b s')→EH prog w mg l s av fin E→wpAny (model prog w) A (allTrue .And vs env) Q E s:=by
 intro v0
 induction v0 with
 |nil =>
  intro _ _ _ _ _ _ _ _ hf _ _;exact hf.no.elim
 |cons e r0 ih =>
  cases r0 with
  |nil =>
   intro s h I _ _ _ _ _ hf hq he;exact wpAny_allTrue_And_cons (h e List.mem_cons_self A env s av hA I hf (fun b s₁ k1 h1=>by
    cases b with
    |true=>exact wpAny_allTrue_And_nil (hq _ _ k1 h1)
    |false=>exact hq _ _ k1 h1) he)
  |cons e' r =>
   intro s h I _ k _ _ _ hf hq he;exact wpAny_allTrue_And_cons (h e List.mem_cons_self A env s av hA I (k:=fun b=>if b then rb (tst (jL rec (e'::r))) k else k false) ⟨by
    rw[← hf.1];show rb (tst (rec e)) _=rb (rb (rb (rec e) _) _) k;cases rec e with
    |ok v =>
     show rb (ofP (cR v)) _=rb (rb (rb (ofP (cR v)) _) _) k;cases ht:cR v with
     |ok b=>cases iR ht;cases b<;>rfl
     |_=>rfl
    |_=>rfl,hf.2⟩ (fun b s₁ k1 h1=>by
    cases b with
    |true=>exact ih (fun x hx=>h x (List.mem_cons_of_mem _ hx)) (I.k k1) ⟨h1,hf.2⟩ (fun b s' k2 e=>hq b s' (k1.tr k2) e) (he.back k1)
    |false=>exact hq _ _ k1 h1) he)
theorem Jc{rec:Expr→R V}{A:Around}{env:Env}{av:Addr→Prop}(hA:Room n hd l A):∀ {vs:List Expr} {s:Shared},(∀ e∈vs,bU prog w mg mb base n hd l sc σ e (rec e))→Inv0 prog w mg mb base l env sc σ av s →
  ∀ {β:Type} {k:Bool→R β} {fin:R β} {Q:Bool→Shared→Prop} {E:Value→Shared→Prop},Fin (tst (jM rec vs)) k fin→(∀ b s',K l s s'→k b=fin→Q b s')→EH prog w mg l s av fin E→wpAny (model prog w) A (allTrue .Or vs env) Q E s:=by
 intro v0
 induction v0 with
 |nil =>
  intro _ _ _ _ _ _ _ _ hf _ _;exact hf.no.elim
 |cons e r0 ih =>
  cases r0 with
  |nil =>
   intro s h I _ _ _ _ _ hf hq he;exact wpAny_allTrue_Or_cons (h e List.mem_cons_self A env s av hA I hf (fun b s₁ k1 h1=>by
    cases b with
    |true=>exact hq _ _ k1 h1
    |false=>exact wpAny_allTrue_Or_nil (hq _ _ k1 h1)) he)
  |cons e' r =>
   intro s h I _ k _ _ _ hf hq he;exact wpAny_allTrue_Or_cons (h e List.mem_cons_self A env s av hA I (k:=fun b=>if b then k true else rb (tst (jM rec (e'::r))) k) ⟨by
    rw[← hf.1];show rb (tst (rec e)) _=rb (rb (rb (rec e) _) _) k;cases rec e with
    |ok v =>
     show rb (ofP (cR v)) _=rb (rb (rb (ofP (cR v)) _) _) k;cases ht:cR v with
     |ok b=>cases iR ht;cases b<;>rfl
     |_=>rfl
    |_=>rfl,hf.2⟩ (fun b s₁ k1 h1=>by
    cases b with
    |false=>exact ih (fun x hx=>h x (List.mem_cons_of_mem _ hx)) (I.k k1) ⟨h1,hf.2⟩ (fun b s' k2 e=>hq b s' (k1.tr k2) e) (he.back k1)
    |true=>exact hq _ _ k1 h1) he)
end
end Mine
namespace Mine
open PySem
section
variable {prog:Program} {w:World} {mg mb:Str→Option Value} {base:Heap} {n:Nat} {hd:Bool} {l:List Env} {sc:Scope} {σ:aA}
theorem xV{M:Model}{A:Around}{vs:List Value}{m:Sem Value}{Q:Value→Shared→Prop}{E:Value→Shared→Prop}{s:Shared}(h:wpAny M A m Q E s):wpAny M A (operate vs m) Q E s :=
 fun Γ p hΓ=>by rw[Sem.wp_operate];exact h Γ p hΓ
theorem xW{M:Model}{A:Around}{vs ks:List Value}{Q:Unit→Shared→Prop}{E:Value→Shared→Prop}{s:Shared}(h:Q () s):wpAny M A (release vs ks) Q E s :=
 fun Γ p hΓ=>by rw[Sem.wp_release];exact h
theorem nD{A:Around}{s₁:Shared}{av:Addr→Prop}{op:CmpOp}{va vb:Value}{a b:PyData}{β:Type}{k:Bool→R β}{fin:R β}{Q:Value→Shared→Prop}{E:Value→Shared→Prop}(hA:Room n hd l A)(ra:Rep prog w s₁.heap av va a)(rb:Rep prog w s₁.heap av vb b)
  (hf:Fin (ofP (cmp op a b)) k fin) (hq:∀ b s',Kp s₁ s'→k b=fin→Q (.bool b) s'):wpAny (model prog w) A (compareOp op va vb) Q E s₁ :=
 Yd.fin (It hA.units80 ra rb) hf fun v s' b r e=>by rw[r.2];exact hq b s' r.1 e
theorem qX{rec:Expr→R V}(hbad:∀ e,bad e=true→rec e=.no){e:Expr}{op:CmpOp}{A:Around}{env:Env}{s:Shared}{av:Addr→Prop}{pos:Pos}{va:Value}{a:PyData}
  (h:aH prog w mg mb base n hd l sc σ e (rec e)) (hA:Room n hd l A) (I:Inv0 prog w mg mb base l env sc σ av s) (ra:Rep prog w s.heap av va a) {β:Type} {k:Bool→R β} {fin:R β} {E:Value→Shared→Prop} (hf:Fin (pU rec a op e) k fin) (he:EH prog w mg l s av fin E) :
  (∀ {Q:Value→Shared→Prop},(∀ b s',K l s s'→k b=fin→Q (.bool b) s')→wpAny (model prog w) A (compareChain pos va [op] [markedBehindIn op e (eval e env)]) Q E s) ∧
  (∀ {Q:Bool→Shared→Prop},(∀ b s',K l s s'→k b=fin→Q b s')→wpAny (model prog w) A (testChain pos va [op] [markedBehindIn op e (eval e env)]) Q E s):=by
 rw[Il (eY (hbad e) (Fin.b hf).ne)];constructor<;>intro Q hq
 ·refine wpAny_bind (wpAny_holding (h A env s av hA I (Fin.b hf) (fun vb s₁ u k1 rb h1=>wpAny_bind (wpAny_standAt (xV ?_))) he));exact nD hA (ra.k I.gnd.fav k1) (rb.rep I.gnd.avlt) ⟨h1,hf.2⟩ fun b s' kk e=>hq b s' (k1.trp kk) e
 ·refine wpAny_bind (wpAny_holding (h A env s av hA I (Fin.b hf) (fun vb s₁ u k1 rb h1=>wpAny_bind (wpAny_standAt (wpAny_bind (xV ?_)))) he));exact nD hA (ra.k I.gnd.fav k1) (rb.rep I.gnd.avlt) ⟨h1,hf.2⟩ fun b s' kk e=>wpAny_holding (wpAny_truthy_bool (hq b s' (k1.trp kk) e))
theorem xX{rec:Expr→R V}(hbad:∀ e,bad e=true→rec e=.no){es:List Expr}{ops:List CmpOp}{A:Around}{env:Env}{s:Shared}{av:Addr→Prop}{pos:Pos}{va:Value}{a:PyData}
  (h:∀ e∈es,aH prog w mg mb base n hd l sc σ e (rec e)) (hA:Room n hd l A) (I:Inv0 prog w mg mb base l env sc σ av s) (ra:Rep prog w s.heap av va a) {β:Type} {k:Bool→R β} {fin:R β} {E:Value→Shared→Prop} (hf:Fin (mB rec a ops es) k fin) (he:EH prog w mg l s av fin E) :
  (∀ {Q:Value→Shared→Prop},(∀ b s',K l s s'→k b=fin→Q (.bool b) s')→wpAny (model prog w) A (compareChain pos va ops (markedEach ops es (evalEach es env))) Q E s) ∧
  (∀ {Q:Bool→Shared→Prop},(∀ b s',K l s s'→k b=fin→Q b s')→wpAny (model prog w) A (testChain pos va ops (markedEach ops es (evalEach es env))) Q E s):=by
 cases ops with
 |nil=>exact hf.no.elim
 |cons op ops =>
  cases es with
  |nil=>exact hf.no.elim
  |cons e es =>
   have h1:=h e List.mem_cons_self;cases ops with
   |nil =>
    cases es with
    |nil=>exact qX hbad h1 hA I ra hf he
    |cons=>exact hf.no.elim
   |cons op' ops =>
    cases es with
    |nil=>exact hf.no.elim
    |cons e' es =>
     have h2:=h e' (List.mem_cons_of_mem _ List.mem_cons_self);cases ops with
     |cons=>exact hf.no.elim
     |nil =>
      cases es with
      |cons=>exact hf.no.elim
      |nil =>
       constructor<;>intro Q hq
       ·refine wpAny_bind (wpAny_holding (h1 A env s av hA I (Fin.b hf) (fun vb s₁ u k1 rb g1=>wpAny_bind (wpAny_standAt (wpAny_bind (wpAny_holding ?_)))) he));have r1:=rb.rep I.gnd.avlt;refine nD hA (ra.k I.gnd.fav k1) r1 (Fin.b ⟨g1,hf.2⟩) fun t s₂ kk g2=>wpAny_bind (xW (wpAny_bind (wpAny_holding (wpAny_truthy_bool ?_))));have k2:=k1.trp kk;cases t with
        |false=>exact wpAny_pure (hq _ _ k2 g2)
        |true=>exact(qX hbad h2 hA (I.k k2) (r1.keeps kk.heap) ⟨g2,hf.2⟩ (he.back k2)).1 fun b s' k3 g3=>hq _ _ (k2.tr k3) g3
       ·refine wpAny_bind (wpAny_holding (h1 A env s av hA I (Fin.b hf) (fun vb s₁ u k1 rb g1=>wpAny_bind (wpAny_standAt (wpAny_bind (wpAny_holding ?_)))) he));have r1:=rb.rep I.gnd.avlt;refine nD hA (ra.k I.gnd.fav k1) r1 (Fin.b ⟨g1,hf.2⟩) fun t s₂ kk g2=>wpAny_bind (xW (wpAny_bind (wpAny_holding (wpAny_truthy_bool ?_))));have k2:=k1.trp kk;cases t with
        |false=>exact wpAny_pure (hq _ _ k2 g2)
        |true=>exact(qX hbad h2 hA (I.k k2) (r1.keeps kk.heap) ⟨g2,hf.2⟩ (he.back k2)).2 fun b s' k3 g3=>hq _ _ (k2.tr k3) g3
theorem Jd{rec:Expr→R V}(hbad:∀ e,bad e=true→rec e=.no){e:Expr}{ops:List CmpOp}{es:List Expr}{pos:Pos}(hl:aH prog w mg mb base n hd l sc σ e (rec e))
  (h:∀ e∈es,aH prog w mg mb base n hd l sc σ e (rec e)):aH prog w mg mb base n hd l sc σ (.Compare e ops es pos) (rb (rec e) fun a=>aP (mB rec (dOf a) ops es)):=by
 intro A env s av hA I β k fin Q E hf hq he;refine wpAny_bind (hl A env s av hA I hf.b (fun va s₁ a k1 ra h1=>?_) he);exact(xX hbad h hA (I.k k1) (ra.rep I.gnd.avlt) (Fin.b ⟨h1,hf.2⟩) (he.back k1)).1 fun b s' k2 e=>hq _ _ (.fz (.bool b)) (k1.tr k2) (.bool b) e
theorem Je{rec:Expr→R V}(hbad:∀ e,bad e=true→rec e=.no){e:Expr}{ops:List CmpOp}{es:List Expr}{pos:Pos}(hl:aH prog w mg mb base n hd l sc σ e (rec e))
  (h:∀ e∈es,aH prog w mg mb base n hd l sc σ e (rec e)):bU prog w mg mb base n hd l sc σ (.Compare e ops es pos) (rb (rec e) fun a=>aP (mB rec (dOf a) ops es)):=by
 intro A env s av hA I β k fin Q E hf hq he;refine wpAny_bind (hl A env s av hA I (Fin.b (Fin.b hf)) (fun va s₁ a k1 ra h1=>?_) he);exact(xX hbad h hA (I.k k1) (ra.rep I.gnd.avlt) (Fin.b ⟨h1,hf.2⟩) (he.back k1)).2 fun b s' k2 e=>hq _ _ (k1.tr k2) e
noncomputable def qY(prog:Program)(w:World)(mg mb:Str→Option Value)(base:Heap)(n:Nat)(hd:Bool)(l:List Env)(sc:Scope)(σ:aA)(av:Addr→Prop)(C:Shared→Value→V→Prop)(e:Expr)(r:R V):Prop :=
 ∀ (A:Around) (env:Env) (s:Shared),Room n hd l A→Inv0 prog w mg mb base l env sc σ av s →
  ∀ {β:Type} {k:V→R β} {fin:R β} {Q:Value→Shared→Prop} {E:Value→Shared→Prop},Fin r k fin→(∀ v s' u,K l s s'→C s' v u.clear→k u=fin→Q v s')→EH prog w mg l s av fin E→wpAny (model prog w) A (eval e env) Q E s
noncomputable def fM(C:Shared→Value→V→Prop)(s:Shared):List Value→List V→Prop
 | [],[]=>True
 |v::vs,u::us=>C s v u∧fM C s vs us
 |_,_=>False
theorem fM.len{C:Shared→Value→V→Prop}{s:Shared}:∀ {vs:List Value} {us:List V},fM C s vs us→vs.length=us.length
 | [],[],_=>rfl
 |_::_,_::_,h=>congrArg Nat.succ h.2.len
 | [],_::_,h=>h.elim
 |_::_,[],h=>h.elim
theorem fM.at{C:Shared→Value→V→Prop}{s:Shared}:∀ {vs:List Value} {us:List V},fM C s vs us→∀ (i:Nat) (v:Value) (u:V),vs[i]?=some v→us[i]?=some u→C s v u
 |_::_,_::_,h,0,_,_,e1,e2=>by obtain rfl:=si e1;obtain rfl:=si e2;exact h.1
 |_::_,_::_,h,i+1,_,_,e1,e2=>h.2.at i _ _ e1 e2
 | [],[],_,i,_,_,e1,_=>by exact ns e1
 | [],_::_,h,_,_,_,_,_=>h.elim
 |_::_,[],h,_,_,_,_,_=>h.elim
theorem xY{rec:Expr→R V}(hbad:∀ e,bad e=true→rec e=.no){A:Around}{env:Env}{av:Addr→Prop}{C:Shared→Value→V→Prop}(hC:∀ s s' v u,K l s s'→C s v u→C s' v u){pos:Pos}(hA:Room n hd l A):∀ {es:List Expr} {s:Shared},(∀ e∈es,qY prog w mg mb base n hd l sc σ av C e (rec e))→Inv0 prog w mg mb base l env sc σ av s →
  ∀ {β:Type} {k:List V→R β} {fin:R β} {Q:List Value→Shared→Prop} {E:Value→Shared→Prop},Fin (evs rec es) k fin→(∀ vs s' us,K l s s'→fM C s' vs us→k us=fin→Q vs s')→EH prog w mg l s av fin E →
   wpAny (model prog w) A (spliced (backTo pos (starEach es env))) Q E s:=by
 intro v0
 induction v0 with
 |nil =>
  intro s _ _ _ _ _ _ _ hf hq _;exact wpAny_items_nil (hq _ _ [] (K.rf l s) trivial hf.ok)
 |cons e es ih =>
  intro s h I _ _ _ _ _ hf hq he;have hst:starEach (e::es) env=_:=fK (eY (hbad e) (Fin.b hf).ne);refine wpAny_items_cons (h e List.mem_cons_self A env s hA I (Fin.b hf) (fun v s₁ u k1 r h1=>?_) he) hst;refine ih (fun x hx=>h x (List.mem_cons_of_mem _ hx)) (I.k k1) (Fin.b ⟨h1,hf.2⟩) (fun vs s₂ us k2 rs h2=>?_) (he.back k1);exact hq _ _ (u.clear::us) (k1.tr k2) ⟨hC _ _ _ _ k2 r,rs⟩ h2
theorem Jf(u:V):dOf u.clear=dOf u:=by cases u<;>rfl
abbrev CD(prog:Program)(w:World)(av:Addr→Prop)(s:Shared)(v:Value)(u:V):Prop:=Rep prog w s.heap av v (dOf u)
theorem aH.item{av:Addr→Prop}{e:Expr}{r:R V}(h:aH prog w mg mb base n hd l sc σ e r):qY prog w mg mb base n hd l sc σ av (CD prog w av) e r :=
 fun A env s hA I _ _ _ _ _ hf hq he=>h A env s av hA I hf (fun v s' u k r e=>hq v s' u k (show Rep _ _ _ _ _ _ from (Jf u).symm▸r.rep I.gnd.avlt) e) he
theorem xZ{s:Shared}{av:Addr→Prop}{vs:List Value}{us:List V}(r:fM (CD prog w av) s vs us):vs.length=(b6 us).length∧∀ (i:Nat) (v:Value) (d:PyData),vs[i]?=some v→(b6 us)[i]?=some d→Rep prog w s.heap av v d:=by
 refine⟨by rw[b6,List.length_map];exact r.len,fun i v d e1 e2=>?_⟩;rw[b6,List.getElem?_map,Option.map_eq_some_iff] at e2;obtain⟨u,e,rfl⟩:=e2;exact r.at i v u e1 e
theorem iS{rec:Expr→R V}(hbad:∀ e,bad e=true→rec e=.no){A:Around}{env:Env}{s:Shared}{av:Addr→Prop}{pos:Pos}(hA:Room n hd l A){es:List Expr}(h:∀ e∈es,aH prog w mg mb base n hd l sc σ e (rec e))(I:Inv0 prog w mg mb base l env sc σ av s)
  {β:Type} {k:List V→R β} {fin:R β} {Q:List Value→Shared→Prop} {E:Value→Shared→Prop} (hf:Fin (evs rec es) k fin)
  (hq:∀ vs s' us,K l s s'→vs.length=(b6 us).length→(∀ (i:Nat) (v:Value) (d:PyData),vs[i]?=some v→(b6 us)[i]?=some d→Rep prog w s'.heap av v d)→k us=fin→Q vs s') (he:EH prog w mg l s av fin E) :
   wpAny (model prog w) A (spliced (backTo pos (starEach es env))) Q E s :=
 xY (C:=CD prog w av) hbad (fun _ _ _ _ k r=>Rep.k I.gnd.fav k r) hA (fun e m=>(h e m).item) I hf (fun vs s' us k r e=>hq vs s' us k (xZ r).1 (xZ r).2 e) he
theorem Jg{rec:Expr→R V}(hbad:∀ e,bad e=true→rec e=.no){es:List Expr}{pos:Pos}(h:∀ e∈es,aH prog w mg mb base n hd l sc σ e (rec e)) :
  aH prog w mg mb base n hd l sc σ (.List es pos) (rb (evs rec es) fun l=>if l.length≤aX then .ok (.own (.list (b6 l))) else .no):=by
 intro A env s av hA I β k fin Q E hf hq he;refine wpAny_List (iS hbad hA h I hf.b (fun vs s₁ us k1 h1 h2 e1=>?_) he);obtain⟨hz,e2⟩:=Fin.ite ⟨e1,hf.2⟩;have hz:vs.length≤sizeLine:=by rw[h1,b6,List.length_map];exact hz
 exact⟨hz,hq.step k1 (qV (Kp.rfl' _) h1 hz h2) e2.ok⟩
theorem Jh{rec:Expr→R V}(hbad:∀ e,bad e=true→rec e=.no){es:List Expr}{t:Nat}{pos:Pos}(h:∀ e∈es,aH prog w mg mb base n hd l sc σ e (rec e)) :
  aH prog w mg mb base n hd l sc σ (.Tuple es t pos) (rb (evs rec es) fun l=>if l.length≤aX then .ok (.fz (.tuple (b6 l))) else .no):=by
 intro A env s av hA I β k fin Q E hf hq he;refine wpAny_Tuple (iS hbad hA h I hf.b (fun vs s₁ us k1 h1 h2 e1=>?_) he);obtain⟨hz,e2⟩:=Fin.ite ⟨e1,hf.2⟩;have hz:vs.length≤sizeLine:=by rw[h1,b6,List.length_map];exact hz
 exact⟨hz,hq.step k1 (qW (Kp.rfl' _) (I.gnd.k k1).avlt h1 hz h2) e2.ok⟩
end
end Mine
namespace Mine
open PySem
section
variable {prog:Program} {w:World} {mg mb:Str→Option Value} {base:Heap} {n:Nat} {hd:Bool} {l:List Env} {sc:Scope} {σ:aA}
noncomputable def cF(prog:Program)(w:World)(h:Heap)(av:Addr→Prop)(v:Value)(d:PyData):Prop:=Rep prog w h av v d∨∃ a,v=.ref a∧bL prog w h av a d
theorem cF.keeps{h h':Heap}{av:Addr→Prop}{v:Value}{d:PyData}(hk:∀ b o,h.get? b=some o→h'.get? b=some o)(r:cF prog w h av v d):cF prog w h' av v d :=
 r.imp (·.keeps hk) fun hh=>by obtain⟨a,e,r⟩:=hh;exact⟨a,e,r.mono (fun b o _ e=>hk b o e) (fun _ _ _ x=>x) fun o e=>hk _ o e⟩
theorem Rep.ref_not{h:Heap}{av:Addr→Prop}{v:Value}{d:PyData}{a:Addr}(r:Rep prog w h av v d)(e:v=.ref a):¬ av a:=by
 cases r with
 |list h1=>cases e;exact h1
 |tuple h1=>cases e;exact h1
 |dict h1=>cases e;exact h1
 |odd h1=>cases e;exact h1
 |_=>cases e
theorem cF.k{s s':Shared}{av:Addr→Prop}{v:Value}{d:PyData}(fav:∀ b,frs l b→av b)(k:K l s s')(r:cF prog w s.heap av v d∧(∀ a,v=.ref a→¬ frs l a)):cF prog w s'.heap av v d∧(∀ a,v=.ref a→¬ frs l a) :=
 ⟨r.1.imp (·.k fav k) fun hh=>by obtain⟨a,e,b⟩:=hh;exact⟨a,e,b.k fav k (r.2 a e)⟩,r.2⟩
inductive TopL(prog:Program)(w:World)(h:Heap)(av:Addr→Prop)(v:Value)(ds:List PyData):Prop where
 |mk (a:Addr) (vs:List Value) (e:v=.ref a) (p:h.PlainList a (List.toArray vs)) (l:vs.length=ds.length) (z:vs.length≤sizeLine) (r:∀ (i:Nat) (v:Value) (d:PyData),vs[i]?=some v→ds[i]?=some d→Rep prog w h av v d):TopL prog w h av v ds
inductive TopT(prog:Program)(w:World)(h:Heap)(av:Addr→Prop)(v:Value)(ds:List PyData):Prop where
 |mk (a:Addr) (vs:List Value) (e:v=.ref a) (p:PlT h a (List.toArray vs)) (l:vs.length=ds.length) (z:vs.length≤sizeLine) (r:∀ (i:Nat) (v:Value) (d:PyData),vs[i]?=some v→ds[i]?=some d→Rep prog w h av v d):TopT prog w h av v ds
theorem cF.list{h:Heap}{av:Addr→Prop}{v:Value}{ds:List PyData}(r:cF prog w h av v (.list ds)):TopL prog w h av v ds:=by
 rcases r with r | ⟨a,e,vs,r1,r2,r3,r4⟩
 ·cases r with
  |list h1 h2 h3 h4 h5=>exact⟨_,_,rfl,h2,h3,h4,h5⟩
 ·exact⟨a,vs,e,r1,r2,r3,r4⟩
theorem cF.tuple{h:Heap}{av:Addr→Prop}{v:Value}{ds:List PyData}(r:cF prog w h av v (.tuple ds)):TopT prog w h av v ds:=by
 rcases r with r | ⟨a,e,r⟩
 ·cases r with
  |tuple h1 h2 h3 h4 h5=>exact⟨_,_,rfl,h2,h3,h4,h5⟩
 ·exact r.elim
inductive TopD(prog:Program)(w:World)(h:Heap)(av:Addr→Prop)(v:Value)(ds:List (PyData×PyData)):Prop where
 |mk (a:Addr) (kvs:List (Str×Value)) (e:v=.ref a) (p:h.DictOf (strKind prog w) a kvs) (z:kvs.length≤sizeLine∧∀ kv∈kvs,kv.1.length≤sizeLine) (m:(a==sysModules)=false)
  (l:ds.map (·.1)=kvs.map (fun kv=>PyData.str kv.1)) (r:∀ (i:Nat) (kv:Str×Value) (d:PyData×PyData),kvs[i]?=some kv→ds[i]?=some d→Rep prog w h av kv.2 d.2):TopD prog w h av v ds
theorem cF.dict{h:Heap}{av:Addr→Prop}{v:Value}{ds:List (PyData×PyData)}(r:cF prog w h av v (.dict ds)):TopD prog w h av v ds∨∃ k d,ds=[(.int k,d)]:=by
 rcases r with r | ⟨a,e,kvs,r1,r2,r3,r4,r5⟩
 ·rcases r.dict_or with ⟨a,kvs,e,_,r1,r2,r3,r4,r5⟩ | ⟨_,k,_,d,_,_,_,_,e⟩
  ·exact .inl ⟨a,kvs,e,r1,r2,r3,r4,r5⟩
  ·exact .inr ⟨k,d,e⟩
 ·exact .inl ⟨a,kvs,e,r1,r2,r3,r4,r5⟩
theorem cF.str{h:Heap}{av:Addr→Prop}{v:Value}{x:Str}(r:cF prog w h av v (.str x)):∃ t,v=.str x t∧x.length≤sizeLine:=by
 rcases r with r | ⟨a,e,r⟩
 ·exact r.str_inv
 ·exact r.elim
theorem Yd.frz{γ:Type}{W:WP γ}{R:γ→Shared→V→Prop}{o:Option PyData}(k:∀ d,o=some d→Yd W R (.ok (.fz d))):Yd W R (frz o):=by
 cases o with
 |none=>exact trivial
 |some d=>exact k d rfl
noncomputable def yA(s:Shared)(v:Value):Prop:=∃ T id,s.TypeIs v T∧typeLookup (.type T) "__getitem__" = pure (some (.builtin id))
noncomputable def GS(prog:Program)(w:World)(A:Around)(s:Shared)(av:Addr→Prop)(va vi:Value)(p:P V):Prop :=
 Yd (fun Q E=>yA s va∧wpAny (model prog w) A (PySem.getItem va vi) Q E s) (fun v s' u=>Kp s s'∧bB prog w s s'.heap av v u) p
theorem yB{α β:Type}{xs:List α}{ys:List β}(hl:xs.length=ys.length){i:Nat}{y:β}(e:ys[i]?=some y):∃ x,xs[i]?=some x :=
 ⟨_,List.getElem?_eq_getElem (hl▸(List.getElem?_eq_some_iff.mp e).1)⟩
theorem qZ{k:Int}{n:Nat}(h:0≤k∧k < n)(hn:n≤sizeLine):-2 ^ 63≤k∧k < 2 ^ 63:=by
 have hs:sizeLine=16777216:=sizeLine_eq;lia
theorem Ji{A:Around}{s:Shared}{av:Addr→Prop}{va vi:Value}{a i:PyData}(ra:cF prog w s.heap av va a)(ri:Rep prog w s.heap av vi i):GS prog w A s av va vi (getItem a i):=by
 cases i with
 |int k =>
  obtain⟨t,rfl⟩:=ri.int_inv;cases a with
  |list l =>
   obtain⟨ad,vs,rfl,h2,h3,h4,h5⟩:=ra.list;refine Yd.ite2 (fun _=>Yd.ite fun c=>Yd.frz fun d e=>?_) fun _=>Yd.ite fun c=>Yd.frz fun d e=>?_<;>obtain⟨v,e1⟩:=yB h3 e
   ·exact fun Q E hq=>⟨⟨"list", _,h2.isList.typeIs,list_getitem_lookup⟩,wpAny_getItem_list h2.isList c.1 (qZ (h3▸c) h4).2 (by simpa using e1) (hq _ _ ⟨Kp.rfl' s,h5 _ _ _ e1 e⟩)⟩
   ·rw[← h3] at c e1;exact fun Q E hq=>⟨⟨"list", _,h2.isList.typeIs,list_getitem_lookup⟩,wpAny_getItem_list_neg h2.isList c.1 c.2 (by have:=sizeLine_eq;lia) (by simpa using e1) (hq _ _ ⟨Kp.rfl' s,h5 _ _ _ e1 (h3▸e)⟩)⟩
  |tuple l =>
   obtain⟨ad,vs,rfl,h2,h3,h4,h5⟩:=ra.tuple;refine Yd.ite fun c=>Yd.frz fun d e=>?_;obtain⟨v,e1⟩:=yB h3 e;have hf:=qZ (h3▸c) h4;exact fun Q E hq=>⟨⟨"tuple", _,h2.isTuple.typeIs,PyProof.Rows.slot_tuple_getitem.lookup⟩,by obtain⟨n,h2⟩:=h2;exact P.getItem_tuple h2 hf.1 hf.2 (k:=k.toNat) (seqIndex_of c.1 (h3▸c).2) (by simpa using e1) (hq _ _ ⟨Kp.rfl' s,h5 _ _ _ e1 e⟩)⟩
  |str x =>
   obtain⟨t',rfl,hx⟩:=ra.str;refine Yd.ite fun c=>Yd.frz fun d e=>?_;obtain⟨ch,e1,rfl⟩:=Option.map_eq_some_iff.mp e;have hf:=qZ c hx;exact fun Q E hq=>⟨⟨"str", _,rfl,PyProof.Rows.slot_str_getitem.lookup⟩,PyProof.Rows.getItem_str (Bool.or_eq_false_iff.mpr ⟨decide_eq_false (Int.not_lt.mpr hf.1),decide_eq_false (Int.not_le.mpr hf.2)⟩) (c:=ch)
    (by rw[show seqIndex? k x.length=some k.toNat from seqIndex_of c.1 c.2];exact e1) (hq _ _ ⟨Kp.tok' s _,.str _ _ (by rw[sizeLine_eq];exact Nat.le_of_ble_eq_true rfl)⟩)⟩
  |_=>exact trivial
 |str x =>
  obtain⟨t,rfl,hx⟩:=ri.str_inv;cases a with
  |dict l =>
   refine Yd.frz fun d e=>?_;obtain⟨ad,kvs,rfl,h2,h3,h4,h5,h6⟩:=ra.dict.resolve_right fun x=>by obtain⟨_,_,rfl⟩:=x;exact ns e
   rcases nA x h5 with ⟨e1,e2⟩ | ⟨i,v,d',e1,e2,e3,e4⟩
   ·rw[e2] at e;exact ns e
   ·rw[e2] at e;obtain rfl:=si e;exact fun Q E hq=>⟨⟨"dict", _,h2.typeIs,F.slot_dict_getitem.lookup⟩,wpAny_getItem_of (eF x t) h2.mapOf e1 (hq _ _ ⟨Kp.tok' s _,h6 i _ _ e3 e4⟩)⟩
  |_=>exact trivial
 |_=>exact trivial
theorem yC{A:Around}{E:Value→Shared→Prop}{s:Shared}{env:Env}{value slice:Expr}{pos:Pos}{Q:Value→Shared→Prop}(hs:∃ f:Value→Value→List Value,∀ o i,subscripted slice false o i=operate (f o i) (PySem.getItem o i))
  (h:wpAny (model prog w) A (eval value env) (fun o s₁=>wpAny (model prog w) A (eval slice env) (fun i s₂=>yA s₂ o∧wpAny (model prog w) A (PySem.getItem o i) Q E s₂) E s₁) E s) :
  wpAny (model prog w) A (eval (.Subscript value slice pos) env) Q E s:=by
 rw[eval_Subscript];refine wpAny_bind (wpAny_mono h (fun o s₁ h₁=>wpAny_bind (wpAny_holding (wpAny_mono h₁ (fun i s₂ h₂=>wpAny_bind (wpAny_standAt ?_)) fun _ _ x=>x))) fun _ _ x=>x);obtain⟨⟨T,id,hT,hl⟩,hg⟩:=h₂;refine wpAny_bind ?_;rw[getitemInPython_of_ne hT.not_modules];refine wpAny_bind (wpAny_specialOf hT hl ?_);have fin:wpAny (model prog w) A (subscripted slice false o i) (fun r s₃=>wpAny (model prog w) A (letTemporaryGo value o r >>= fun _=>pure r) Q E s₃) E s₂:=by
  obtain⟨f,hs⟩:=hs;rw[hs];exact wpAny_operating (wpAny_mono hg (fun r s₃ h₃=>wpAny_bind (wpAny_letTemporaryGo (wpAny_pure h₃))) fun _ _ x=>x)
 first
  |exact wpAny_pure (wpAny_bind fin)
  |exact wpAny_bind (wpAny_pure (wpAny_bind fin))
  |exact wpAny_bind fin
theorem yD{o:Option (Option V)}{α:Type}{f:V→Option α}{d:α}(h:(match o with | some o=>(match o with | some v=>f v | none=>none) | none=>none)=some d):∃ v,o=some (some v)∧f v=some d:=by
 cases o with
 |none=>exact ns h
 |some o =>
  cases o with
  |none=>exact ns h
  |some v=>exact⟨v,rfl,h⟩
theorem yE{c:Prop}[Decidable c]{α:Type}{a b:α}(h:(if c then some a else none)=some b):c∧a=b:=by
 by_cases hc:c
 ·rw[if_pos hc] at h;obtain rfl:=si h;exact⟨hc,rfl⟩
 ·rw[if_neg hc] at h;exact ns h
theorem yF{x:Str}{d:PyData}(h:jR sc σ x=some d):isL sc x=true∧aA.get σ x=some (some (.own d)):=by
 obtain⟨v,e,h⟩:=yD (f:=fun v=>match v with | .own d=>if isL sc x then some d else none | _=>none) h;cases v with
 |own d'=>obtain⟨hl,rfl⟩:=yE h;exact⟨hl,e⟩
 |_=>exact ns h
theorem Jj{x:Str}{d:X}(h:wK sc σ x=some d):isL sc x=true∧aA.get σ x=some (some (.ex d)):=by
 obtain⟨v,e,h⟩:=yD (f:=fun v=>match v with | .ex d=>if isL sc x then some d else none | _=>none) h;cases v with
 |ex d'=>obtain⟨hl,rfl⟩:=yE h;exact⟨hl,e⟩
 |_=>exact ns h
theorem Jk{e:Expr}{d:PyData}(h:mE sc σ e=some d):∃ x p,e=.Name x p∧isL sc x=true∧aA.get σ x=some (some (.own d)):=by
 unfold mE at h;refine ocs (bI e) (fun hn=>?_) fun x hn=>?_
 ·try rewrite[hn]
  rw[hn] at h;exact ns h
 ·try rewrite[hn]
  rw[hn] at h;obtain⟨p,rfl⟩:=dU hn;exact⟨x,p,rfl,yF h⟩
theorem yG{e:Expr}{d:X}(h:fW sc σ e=some d):∃ x p,e=.Name x p∧isL sc x=true∧aA.get σ x=some (some (.ex d)):=by
 unfold fW at h;refine ocs (bI e) (fun hn=>?_) fun x hn=>?_
 ·try rewrite[hn]
  rw[hn] at h;exact ns h
 ·try rewrite[hn]
  rw[hn] at h;obtain⟨p,rfl⟩:=dU hn;exact⟨x,p,rfl,Jj h⟩
theorem yH{rec:Expr→R V}{o:Expr}(h:aH prog w mg mb base n hd l sc σ o (rec o)){A:Around}{env:Env}{s:Shared}{av:Addr→Prop}(hA:Room n hd l A)(I:Inv0 prog w mg mb base l env sc σ av s)
  {β:Type} {k:PyData→R β} {fin:R β} {Q:Value→Shared→Prop} {E:Value→Shared→Prop} (hf:Fin (mF rec sc σ o) k fin) (hq:∀ v s' d,K l s s'→cF prog w s'.heap av v d∧(∀ a,v=.ref a→¬ frs l a)→k d=fin→Q v s') (he:EH prog w mg l s av fin E):wpAny (model prog w) A (eval o env) Q E s:=by
 unfold mF at hf;refine ocs (mE sc σ o) (fun e=>?_) fun d e=>?_
 ·try rewrite[e]
  rw[e] at hf;exact h A env s av hA I hf.b (fun v s₁ u k1 r h1=>hq _ _ _ k1 ⟨.inl (r.rep I.gnd.avlt),fun a ha f=>(r.rep I.gnd.avlt).ref_not ha (I.gnd.fav _ f)⟩ h1) he
 ·try rewrite[e]
  rw[e] at hf;obtain⟨x,pos,rfl,hl,e⟩:=Jk e;obtain⟨u,h1,a,rfl,n1,h2⟩:=I.get _ _ hl e;exact gS I hl h1 (hq _ _ _ (K.rf l s) ⟨.inr ⟨a,rfl,h2⟩,fun a' ha=>by cases ha;exact n1⟩ hf.ok)
theorem Jl{α:Type}(l:List α)(lo hi:Option Int):(slice l lo hi).length≤l.length:=by
 unfold slice;rw[List.length_take,List.length_drop];exact Du
theorem Jm{α β:Type}{l:List α}{m:List β}(hl:l.length=m.length){lo hi:Option Int}{i:Nat}{x:α}{y:β}(e1:(slice l lo hi)[i]?=some x)(e2:(slice m lo hi)[i]?=some y) :
  ∃ j:Nat,l[j]?=some x∧m[j]?=some y:=by
 unfold slice at e1 e2;rw[← hl] at e2;rw[List.getElem?_take] at e1 e2
 split at e1
 ·rename_i h;rw[if_pos h] at e2;rw[List.getElem?_drop] at e1 e2;exact⟨_,e1,e2⟩
 ·exact ns e1
theorem Jn{α β:Type}{l:List α}{m:List β}(hl:l.length=m.length)(lo hi:Option Int):(slice l lo hi).length=(slice m lo hi).length:=by
 unfold slice;rw[List.length_take,List.length_take,List.length_drop,List.length_drop,hl]
noncomputable def q7(v:Value)(k:Option Int):Prop:=IsPart v k∧∃ p,v=partValue p∧p.map (·.1)=k
theorem yI{rec:Expr→R V}{e:Option Expr}(h:∀ x,e=some x→aH prog w mg mb base n hd l sc σ x (rec x)){A:Around}{env:Env}{s:Shared}{av:Addr→Prop}(hA:Room n hd l A)(I:Inv0 prog w mg mb base l env sc σ av s)
  {β:Type} {k:Option Int→R β} {fin:R β} {Q:Value→Shared→Prop} {E:Value→Shared→Prop} (hf:Fin (qE rec e) k fin) (hq:∀ v s' d,K l s s'→q7 v d→k d=fin→Q v s') (he:EH prog w mg l s av fin E):wpAny (model prog w) A (evalPart e env) Q E s:=by
 cases e with
 |none=>exact wpAny_evalPart_none (hq _ _ none (K.rf l s) ⟨.none,none,rfl,rfl⟩ hf.ok)
 |some x =>
  refine wpAny_evalPart_some (h x rfl A env s av hA I (Fin.b hf) (fun v s₁ u k1 r h1=>?_) he);obtain⟨i,e1,e2⟩:=Fin.p ⟨h1,hf.2⟩;cases u with
  |fz d =>
   cases d with
   |int i =>
    obtain rfl:=pi e1;obtain⟨t,rfl⟩:=(show Rep prog w s₁.heap av v (.int i) from r).int_inv;exact hq _ _ _ k1 ⟨.int i t,some (i,t),rfl,rfl⟩ e2
   |_=>exact pno e1
  |_=>exact pno e1
noncomputable def nE(s:Shared)(vl vu:Value):Shared:={ s with heap:=s.heap.push { cls:=.type "slice", data:=.fields #[vl,vu,.none] } }
theorem Jo{A:Around}{s:Shared}{av:Addr→Prop}{va vl vu:Value}{a:PyData}{kl kh:Option Int}(hav:∀ b,av b→∃ o,s.heap.get? b=some o)(rt:cF prog w (nE s vl vu).heap av va a)(rl:q7 vl kl)(rh:q7 vu kh) :
  GS prog w A (nE s vl vu) av va (.ref s.heap.objs.size) (iG a kl kh):=by
 cases a with
 |list l =>
  obtain⟨ad,vs,rfl,p2,p3,p4,p5⟩:=rt.list;refine fun Q E hq=>⟨⟨"list", _,p2.isList.typeIs,list_getitem_lookup⟩,wpAny_getItem_list_slice p2.isList (Heap.IsSliceOf.new ..) rl.1 rh.1 .none (by simp) ?_ (by simpa using p4)⟩
  have e:slicePick vs.toArray kl kh none=(slice vs kl kh).toArray:=by rw[slicePick_plain];simp[slice]
  rw[e];exact hq _ _ (qV (Kp.rfl' _) (Jn p3 kl kh) (Nat.le_trans (Jl _ _ _) p4) fun i v d e1 e2=>by obtain⟨j,e3,e4⟩:=Jm p3 e1 e2;exact p5 j v d e3 e4)
 |tuple l =>
  cases kl with
  |none=>exact trivial
  |some a =>
   cases kh with
   |some b=>exact trivial
   |none =>
    refine Yd.ite fun hc=>?_;obtain⟨ad,vs,rfl,p2,p3,p4,p5⟩:=rt.tuple;obtain⟨_,pl,rfl,mpl⟩:=rl;obtain⟨_,pu,rfl,mpu⟩:=rh;obtain⟨⟨i,t⟩,rfl,rfl⟩:=Option.map_eq_some_iff.mp mpl;obtain rfl:=Option.map_eq_none_iff.mp mpu;have hcast:((i.toNat:Nat):Int)=i:=Int.toNat_of_nonneg (Int.le_trans (by decide) hc.1);have hl:i.toNat≤vs.length:=by have:=hc.2;rw[p3];omega
    refine fun Q E hq=>⟨⟨"tuple", _,p2.isTuple.typeIs,PyProof.Rows.slot_tuple_getitem.lookup⟩,PyProof.Rows.getItem_tuple_from (a:=i.toNat) (u:=t) (items:=vs.toArray) (by obtain⟨n2,e2⟩:=p2;exact⟨_,e2,rfl,n2,rfl⟩) (by rw[hcast];exact Heap.IsSliceOf.new ..) (by have:=hc.1;omega) (by simpa using hl) ?_ (by simpa using p4)⟩
    exact hq _ _ (qW (prog:=prog) (w:=w) (s₁:=nE s (.int i t) .none) (vs:=vs.drop i.toNat) (ds:=l.drop i.toNat) (Kp.rfl' _) (fun b hb=>by obtain⟨o,e⟩:=hav b hb;exact⟨o,Heap.get?_push_of_some _ e⟩) (by simp[p3]) (Nat.le_trans (by simp) p4) fun j v d e1 e3=>by
     rw[List.getElem?_drop] at e1 e3;exact p5 _ v d e1 e3)
 |_=>exact trivial
theorem Jp{rec:Expr→R V}{o i:Expr}{pos:Pos}(ho:aH prog w mg mb base n hd l sc σ o (rec o))(hidx:aH prog w mg mb base n hd l sc σ i (rec i))
  (hs:∀ c,jS i=some c→(∀ x,c.1=some x→aH prog w mg mb base n hd l sc σ x (rec x))∧(∀ x,c.2.1=some x→aH prog w mg mb base n hd l sc σ x (rec x))) :
  aH prog w mg mb base n hd l sc σ (.Subscript o i pos) (qF rec sc σ o i):=by
 intro A env s av hA I β k fin Q E hf hq he;unfold qF at hf;refine ocs (jS i) (fun hv=>?_) fun c hv=>?_
 ·try rewrite[hv]
  rw[hv] at hf;refine bcs (bad i) (fun hb=>?_) fun hb=>?_
  ·try rewrite[hb]
   rw[hb] at hf;refine yC ⟨_,fun _ _=>Im hb⟩ (yH ho hA I (Fin.b hf) (fun va s₁ a k1 ra h1=>?_) he);have I1:=I.k k1;exact hidx A env s₁ av hA I1 (Fin.b ⟨h1,hf.2⟩) (fun vi s₂ u k2 r h2=>Yd.fin (Ji (A:=A) (cF.k I.gnd.fav k2 ra).1 (r.rep I1.gnd.avlt)) ⟨h2,hf.2⟩ fun v s' u r e=>hq.step (k1.tr k2) r e) (he.back k1)
  ·try rewrite[hb]
   rw[hb] at hf;exact hf.no.elim
 ·try rewrite[hv]
  rw[hv] at hf;obtain⟨g1,g2⟩:=hs c hv;obtain⟨p,rfl⟩:=Ik hv;obtain⟨lo,hi,st⟩:=c;cases st with
  |some x=>exact hf.no.elim
  |none =>
   refine yC ⟨_,fun _ _=>rfl⟩ (yH ho hA I (Fin.b hf) (fun va s₁ a k1 ra h1=>?_) he);have I1:=I.k k1;refine wpAny_Slice (yI g1 hA I1 (Fin.b ⟨h1,hf.2⟩) (fun vl s₂ kl k2 rl h2=>yI g2 hA (I1.k k2) (Fin.b ⟨h2,hf.2⟩) (fun vu s₃ kh k3 rh h3=>wpAny_evalPart_none ?_) (he.back (k1.tr k2))) (he.back k1));have kk:=(k1.tr k2).tr k3;have hp:Kp s₃ (nE s₃ vl vu):=Kp.push' s₃ _;exact Yd.fin (Jo (A:=A) (I.gnd.k kk).avlt ((cF.k I.gnd.fav k3 (cF.k I.gnd.fav k2 ra)).1.keeps hp.heap) rl rh) ⟨h3,hf.2⟩ fun v s' u r e=>hq.step (kk.trp hp) r e
end
end Mine
namespace Mine
open PySem
section
variable {prog:Program} {w:World} {mg mb:Str→Option Value} {base:Heap}
noncomputable def gT(prog:Program)(w:World)(A:Around)(s:Shared)(v:Value)(T:String)(b:Bool):Prop :=
 ∀ (Q:Value→Shared→Prop) (E:Value→Shared→Prop),(∀ tk,Q (.bool b) { s with toks:=tk })→wpAny (model prog w) A (call (.builtin "isinstance") [v,.type T]) Q E s
theorem Jq{A:Around}{s:Shared}{av:Addr→Prop}{v:Value}{d:PyData}(r:Rep prog w s.heap av v d) :
  gT prog w A s v "dict" (bR d)∧gT prog w A s v "int" (eB d)∧gT prog w A s v "bool" (fU d)∧gT prog w A s v "str" (pQ d)∧gT prog w A s v "list" (wD d)∧gT prog w A s v "tuple" (l0 d):=by
 cases r with
 |none=>exact⟨fun Q E hq=>IsiPair.NoneType_dict (hq _),fun Q E hq=>IsiPair.NoneType_int (hq _),fun Q E hq=>IsiPair.NoneType_bool (hq _),fun Q E hq=>IsiPair.NoneType_str (hq _),fun Q E hq=>IsiPair.NoneType_list (hq _),fun Q E hq=>IsiPair.NoneType_tuple (hq _)⟩
 |bool _=>exact⟨fun Q E hq=>IsiPair.bool_dict (hq _),fun Q E hq=>IsiPair.bool_int (hq _),fun Q E hq=>IsiPair.bool_bool (hq _),fun Q E hq=>IsiPair.bool_str (hq _),fun Q E hq=>IsiPair.bool_list (hq _),fun Q E hq=>IsiPair.bool_tuple (hq _)⟩
 |int _ _=>exact⟨fun Q E hq=>IsiPair.int_dict (hq _),fun Q E hq=>IsiPair.int_int (hq _),fun Q E hq=>IsiPair.int_bool (hq _),fun Q E hq=>IsiPair.int_str (hq _),fun Q E hq=>IsiPair.int_list (hq _),fun Q E hq=>IsiPair.int_tuple (hq _)⟩
 |str _ _ _=>exact⟨fun Q E hq=>IsiPair.str_dict (hq _),fun Q E hq=>IsiPair.str_int (hq _),fun Q E hq=>IsiPair.str_bool (hq _),fun Q E hq=>IsiPair.str_str (hq _),fun Q E hq=>IsiPair.str_list (hq _),fun Q E hq=>IsiPair.str_tuple (hq _)⟩
 |list _ h2=>obtain⟨n,e⟩:=h2;exact⟨fun Q E hq=>IsiPair.list_dict e rfl (hq _),fun Q E hq=>IsiPair.list_int e rfl (hq _),fun Q E hq=>IsiPair.list_bool e rfl (hq _),fun Q E hq=>IsiPair.list_str e rfl (hq _),fun Q E hq=>IsiPair.list_list e rfl (hq _),fun Q E hq=>IsiPair.list_tuple e rfl (hq _)⟩
 |tuple _ h2=>obtain⟨n,e⟩:=h2;exact⟨fun Q E hq=>IsiPair.tuple_dict e rfl (hq _),fun Q E hq=>IsiPair.tuple_int e rfl (hq _),fun Q E hq=>IsiPair.tuple_bool e rfl (hq _),fun Q E hq=>IsiPair.tuple_str e rfl (hq _),fun Q E hq=>IsiPair.tuple_list e rfl (hq _),fun Q E hq=>IsiPair.tuple_tuple e rfl (hq _)⟩
 |dict _ h2=>obtain⟨o,es,ep,e,c,_⟩:=h2;exact⟨fun Q E hq=>IsiPair.dict_dict e c.1 (hq _),fun Q E hq=>IsiPair.dict_int e c.1 (hq _),fun Q E hq=>IsiPair.dict_bool e c.1 (hq _),fun Q E hq=>IsiPair.dict_str e c.1 (hq _),fun Q E hq=>IsiPair.dict_list e c.1 (hq _),fun Q E hq=>IsiPair.dict_tuple e c.1 (hq _)⟩
 |odd _ h2=>obtain⟨o,es,ep,e,c,_⟩:=h2;exact⟨fun Q E hq=>IsiPair.dict_dict e c.1 (hq _),fun Q E hq=>IsiPair.dict_int e c.1 (hq _),fun Q E hq=>IsiPair.dict_bool e c.1 (hq _),fun Q E hq=>IsiPair.dict_str e c.1 (hq _),fun Q E hq=>IsiPair.dict_list e c.1 (hq _),fun Q E hq=>IsiPair.dict_tuple e c.1 (hq _)⟩
theorem Kp.mk'{s:Shared}{h':Heap}{tk:Nat}(k:∀ b o,s.heap.get? b=some o→h'.get? b=some o):Kp s { s with heap:=h',toks:=tk }:=⟨h',tk,rfl,k⟩
theorem Kp.mkh{s:Shared}{h':Heap}(k:∀ b o,s.heap.get? b=some o→h'.get? b=some o):Kp s { s with heap:=h' }:=⟨h',s.toks,rfl,k⟩
theorem q8{s s₁ s':Shared}{av:Addr→Prop}{a:Addr}{vs:List Value}{ds:List PyData}(k0:Kp s s₁)(k:Kp s₁ s')(hn:s₁.heap.get? a=none)(hp:s'.heap.PlainList a vs.toArray)(hl:vs.length=ds.length)(hz:vs.length≤sizeLine)
  (h:∀ (i:Nat) (v:Value) (d:PyData),vs[i]?=some v→ds[i]?=some d→Rep prog w s₁.heap av v d):Kp s s'∧bB prog w s s'.heap av (.ref a) (.own (.list ds)):=by
 refine⟨k0.tr k,Own.backp k0 ⟨a,rfl,hn,vs,hp,hl,hz,fun i v d e1 e2=>((h i v d e1 e2).apart hn).keeps k.heap⟩⟩
theorem yJ{s s₁ s':Shared}{av:Addr→Prop}{a:Addr}{kvs:List (Str×Value)}{ds:List (PyData×PyData)}(k0:Kp s s₁)(k:Kp s₁ s')(hn:s₁.heap.get? a=none)(hm:(a==sysModules)=false)(hp:s'.heap.DictOf (strKind prog w) a kvs)
  (hz:kvs.length≤sizeLine∧∀ kv∈kvs,kv.1.length≤sizeLine) (hl:ds.map (·.1)=kvs.map (fun kv=>PyData.str kv.1))
  (h:∀ (i:Nat) (kv:Str×Value) (d:PyData×PyData),kvs[i]?=some kv→ds[i]?=some d→Rep prog w s₁.heap av kv.2 d.2):Kp s s'∧bB prog w s s'.heap av (.ref a) (.own (.dict ds)):=by
 refine⟨k0.tr k,Own.backp k0 ⟨a,rfl,hn,kvs,hp,hz,hm,hl,fun i v d e1 e2=>((h i v d e1 e2).apart hn).keeps k.heap⟩⟩
theorem j4{l:List Env}{av:Addr→Prop}{s:Shared}(G:Gnd prog w mg mb base l av s):(s.heap.objs.size==sysModules)=false:=by
 have:sysModules < s.heap.objs.size:=PyProof.Rows.modules_low (G.glo.nolimit.keeps G.stay);exact beq_eq_false_iff_ne.mpr (Nat.ne_of_gt this)
noncomputable def leS(x y:Str):Prop:=¬ (y.cps.toList < x.cps.toList)
theorem yK{x y z:Str}(h:leS x y)(h':leS y z):leS x z:=by
 have a:x.cps.toList≤y.cps.toList:=List.not_lt.mp h;have b:y.cps.toList≤z.cps.toList:=List.not_lt.mp h';exact List.not_lt.mpr (List.le_trans a b)
theorem Jr{x y:Str}(h:leS x y)(h':leS y x):x=y:=by
 have a:x.cps.toList≤y.cps.toList:=List.not_lt.mp h;have b:y.cps.toList≤x.cps.toList:=List.not_lt.mp h';have:=List.le_antisymm a b;cases x;cases y;simp_all [Array.toList_inj]
theorem q9(a:Str):∀ l,(dI a l).Perm (a::l)
 | []=>.refl _
 |b::r=>by
  show(if b.cps.toList < a.cps.toList then b::dI a r else a::b::r).Perm _
  split
  ·exact((q9 a r).cons b).trans (.swap a b r)
  ·exact .refl _
theorem rA:∀ l,(a8 l).Perm l
 | []=>.refl _
 |a::r=>(q9 a _).trans ((rA r).cons a)
theorem yL(a:Str):∀ {l},l.Pairwise leS→(dI a l).Pairwise leS
 | [],_=>List.pairwise_singleton _ _
 |b::r,h=>by
  rw[List.pairwise_cons] at h;show(if b.cps.toList < a.cps.toList then b::dI a r else a::b::r).Pairwise leS
  split
  ·rename_i hlt;rw[List.pairwise_cons];refine⟨fun x hx=>?_,yL a h.2⟩;rcases List.mem_cons.mp ((q9 a r).mem_iff.mp hx) with rfl | hx
   ·exact List.not_lt.mpr (List.le_of_lt hlt)
   ·exact h.1 x hx
  ·rename_i hlt;rw[List.pairwise_cons];refine⟨fun x hx=>?_,by rw[List.pairwise_cons];exact h⟩;rcases List.mem_cons.mp hx with rfl | hx
   ·exact hlt
   ·exact yK hlt (h.1 x hx)
theorem yM:∀ l,(a8 l).Pairwise leS
 | []=>.nil
 |a::r=>yL a (yM r)
theorem yN:∀ (p:Str) (l:List Str),PyProof.Rows.risingS p l=true→(p::l).Pairwise leS
 |p,[],_=>List.pairwise_singleton _ _
 |p,x::r,h=>by
  unfold PyProof.Rows.risingS at h;simp only[Bool.and_eq_true,Bool.not_eq_true'] at h;have hr:=yN x r h.2;have hpx:leS p x:=by
   have:=PyProof.Rows.lt_meets x p;rw[h.1,decide_eq_false_iff_not] at this;exact this
  rw[List.pairwise_cons];refine⟨fun y hy=>?_,hr⟩;rcases List.mem_cons.mp hy with rfl | hy
  ·exact hpx
  ·exact yK hpx ((List.pairwise_cons.mp hr).1 y hy)
theorem Js{l:List Str}(h:PyProof.Rows.sortedS l=true):l.Pairwise leS:=by
 cases l with
 |nil=>exact .nil
 |cons x r=>exact yN x r h
theorem Jt{l l':List Str}(h:PyProof.Rows.sortedS l'=true)(p:l'.Perm l):l'=a8 l :=
 List.Perm.eq_of_pairwise (le:=leS) (fun _ _ _ _ a b=>Jr a b) (Js h) (yM l) (p.trans (rA l).symm)
theorem yO:∀ {ss:List Str} {ts:List Tok},ts.length=ss.length→PyProof.Rows.StrsAre (List.zipWith (fun x t=>Value.str x t) ss ts) ss
 | [],[],_=>.nil
 | [],_::_,h=>by simp at h
 |_::_,[],h=>by simp at h
 |s::ss,t::ts,h=>.cons s t (yO (by simpa using h))
theorem Ju{h:Heap}{av:Addr→Prop}:∀ {vs:List Value} {ss:List Str},PyProof.Rows.StrsAre vs ss→(∀ x∈ss,x.length≤sizeLine) →
  vs.length=(ss.map PyData.str).length∧∀ (i:Nat) (v:Value) (d:PyData),vs[i]?=some v→(ss.map PyData.str)[i]?=some d→Rep prog w h av v d
 := by
 intro vs ss r
 induction r with
 |nil=>exact fun _=>⟨rfl,fun i v d e=>nomatch e⟩
 |cons y t r ih =>
  intro hx;obtain⟨h1,h2⟩:=ih fun x hx'=>hx x (List.mem_cons_of_mem _ hx');refine⟨congrArg Nat.succ h1,fun i v d e1 e2=>?_⟩;cases i with
  |zero=>obtain rfl:=si e1;obtain rfl:=si e2;exact .str y t (hx y List.mem_cons_self)
  |succ i=>exact h2 i v d e1 e2
theorem j5{n:Nat}(h:n≤sizeLine):((n:Nat):Int) < 2 ^ 63:=by
 have:sizeLine=16777216:=sizeLine_eq;lia
abbrev YV(prog:Program)(w:World)(A:Around)(s:Shared)(av:Addr→Prop)(t:Sem Value)(p:P V):Prop :=
 Yd (fun Q E=>wpAny (model prog w) A t Q E s) (fun v s' u=>Kp s s'∧bB prog w s s'.heap av v u) p
theorem Jv{A:Around}{s:Shared}{av:Addr→Prop}{v:Value}{d:PyData}(r:Rep prog w s.heap av v d):YV prog w A s av (call (.builtin "len") [v]) (bH d):=by
 cases d with
 |list l =>
  obtain⟨a,vs,rfl,h1,h2,h3,h4,h5⟩:=r.list_inv;show YV prog w A s av _ (fz (.int l.length));rw[← h3];exact fun Q E hq=>Calls.call_len_list h2.isList (by simpa using j5 h4) (hq _ _ ⟨Kp.tok' s _,.int _ _⟩)
 |tuple l =>
  obtain⟨a,vs,rfl,h1,⟨n,e⟩,h3,h4,h5⟩:=r.tuple_inv;show YV prog w A s av _ (fz (.int l.length));rw[← h3];exact fun Q E hq=>P.len_tuple e (by simpa using j5 h4) (hq _ _ ⟨Kp.tok' s _,.int _ _⟩)
 |str x =>
  obtain⟨t,rfl,hx⟩:=r.str_inv;exact fun Q E hq=>P.len_str (Int.not_le.mpr (j5 hx)) (hq _ _ ⟨Kp.tok' s _,Rep.int _ _⟩)
 |dict m =>
  rcases r.dict_or with ⟨a,kvs,rfl,h1,h2,h3,h4,h5,h6⟩ | ⟨a,k,x,d,rfl,h1,h2,h4,rfl⟩
  case inr=>exact fun Q E hq=>call_len_dict h4 h2 (j5 (Nat.le_of_ble_eq_true rfl)) (hq _ _ ⟨Kp.tok' s _,.int _ _⟩)
  have hl:m.length=kvs.length:=by simpa using congrArg List.length h5
  show YV prog w A s av _ (fz (.int m.length));rw[hl];exact fun Q E hq=>call_len_dict h4 h2 (j5 h3.1) (hq _ _ ⟨Kp.tok' s _,.int _ _⟩)
 |_=>exact trivial
theorem yP{h:Heap}{av:Addr→Prop}:∀ {vs:List Value} {ds:List PyData} {bs:List Bool},vs.length=ds.length→(∀ (i:Nat) (v:Value) (d:PyData),vs[i]?=some v→ds[i]?=some d→Rep prog w h av v d) →
  bools? ds=some bs→vs=bs.map Value.bool
 := by
 intro vs
 induction vs with
 |nil =>
  intro ds bs hl h e;cases ds with
  |nil=>obtain rfl:=si e;rfl
  |cons=>exact nomatch hl
 |cons v vs ih =>
  intro ds bs hl h e;cases ds with
  |nil=>exact nomatch hl
  |cons d ds =>
   cases d with
   |bool b =>
    obtain⟨bs',hb,rfl⟩:=Option.map_eq_some_iff.mp (show(bools? ds).map (b::·)=some bs from e);rw[ih (ds:=ds) (Nat.succ.inj hl) (fun i v d e1 e2=>h (i+1) v d e1 e2) hb,(h 0 v _ rfl rfl).bool_inv];rfl
   |_=>exact ns e
theorem Jw(bs:List Bool):(List.range bs.length).all (fun i=>(bs[i]?).getD true)=bs.all id:=by
 rw[Bool.eq_iff_iff,List.all_eq_true,List.all_eq_true];constructor
 ·intro h b hb;obtain⟨i,hi,rfl⟩:=List.mem_iff_getElem.mp hb;have:=h i (List.mem_range.mpr hi);simpa[List.getElem?_eq_getElem hi] using this
 ·intro h i hi;have hi':=List.mem_range.mp hi;rw[List.getElem?_eq_getElem hi'];exact h _ (List.getElem_mem hi')
theorem Jx{A:Around}{s:Shared}{av:Addr→Prop}{v:Value}{d:PyData}(hh:A.handled=none)(r:Rep prog w s.heap av v d):YV prog w A s av (call (.builtin "all") [v]) (cE d):=by
 cases r with
 | @list a vs ds h1 h2 h3 h4 h5 =>
  show YV prog w A s av _ (((ofO (bools? ds)).bind fun bs=>.ok (bs.all id)).bind fun b=>.ok (.fz (.bool b)));refine ocs (bools? ds) (fun hb=>?_) fun bs hb=>?_
  ·try rewrite[hb]
   exact trivial
  ·try rewrite[hb]
   have hv:=yP h3 h5 hb;subst hv;intro Q E hq;have hli:s.heap.IsList a (bs.map Value.bool).toArray:=h2.isList;have hne:a≠s.heap.objs.size:=fun e=>by
    obtain⟨o,ho,_⟩:=hli;rw[e,bT] at ho;exact ns ho
   refine call_all_walk (wpAny_pyIter_list hli ⟨s.heap.objs.size,_,_,_,_,_,fun i=>(bs[i]?).getD true,rfl,Walks.list (by exact hh) s.heap.objs.size a hne (bs.map Value.bool).toArray,
    ⟨⟨_,cQ _ _ rfl,rfl,rfl⟩,by obtain⟨o,e,r⟩:=hli;exact⟨o,Heap.get?_push_of_some _ e,r⟩⟩,fun i v s Q E hP hQ=>?_,fun h' tk hk=>?_⟩)
   ·have hP:(bs.map Value.bool).toArray[i]?=some v:=hP;rw[List.getElem?_toArray,List.getElem?_map] at hP;refine ocs (bs[i]?) (fun hbi=>?_) fun b hbi=>?_
    ·try rewrite[hbi]
     rw[hbi] at hP;exact ns hP
    ·try rewrite[hbi]
     rw[hbi] at hP;obtain rfl:=si hP;exact wpAny_truthy_bool (by simpa[hbi] using hQ)
   ·have e:(List.range ((bs.map Value.bool).toArray.size)).all (fun i=>(bs[i]?).getD true)=bs.all id:=by simpa using Jw bs
    rw[e];refine hq _ _ ⟨⟨h',tk,rfl,fun b o e=>hk b o (fun hb=>?_) (Heap.get?_push_of_some _ e)⟩,.bool _⟩;rw[List.mem_singleton.mp hb,bT] at e;exact ns e
 |_=>exact trivial
theorem yQ{s s':Shared}{av:Addr→Prop}{a:Addr}{out:Array Value}{ss ss':List Str}(k:Kp s s')(hn:s.heap.get? a=none)(he:∃ e,s'.heap.get? a=some (PyProof.Rows.seqObj "list" out e))(hS:PyProof.Rows.StrsAre out.toList ss')(hp:ss'.Perm ss)(hso:PyProof.Rows.sortedS ss'=true)
  (h3:∀ x∈ss,x.length≤sizeLine) (hlt:ss.length < 64):Kp s s'∧bB prog w s s'.heap av (.ref a) (.own (.list ((a8 ss).map .str))):=by
 obtain rfl:=Jt hso hp;obtain⟨q1,q2⟩:=Ju (prog:=prog) (w:=w) (h:=s.heap) (av:=av) hS fun x hx=>h3 x (hp.mem_iff.mp hx);obtain⟨e,he⟩:=he;refine q8 (vs:=out.toList) (Kp.rfl' s) k hn ⟨e,by simpa using he⟩ q1 ?_ q2;simp only[q1,List.length_map,(rA ss).length_eq];exact Nat.le_trans (Nat.le_of_lt hlt) (by decide)
theorem Jy{kvs:List (Str×Value)}{acc:List Value}(hl:acc.length=kvs.length)(h:∀ (i:Nat) (v:Value),acc[i]?=some v→∃ k x,kvs[i]?=some (k,x)∧(strKind prog w).is k v=true):PyProof.Rows.StrsAre acc (kvs.map (·.1)):=by
 induction kvs generalizing acc with
 |nil=>cases acc with
  |nil=>exact .nil
  |cons=>cases hl
 |cons kv r ih =>
  cases acc with
  |nil=>cases hl
  |cons v acc =>
   obtain⟨k,x,e,hk⟩:=h 0 v rfl;obtain rfl:=si e;obtain⟨t,rfl⟩:=Value.isStrOf_shape hk;exact .cons k t (ih (Nat.succ.inj hl) fun i v e=>h (i+1) v e)
theorem Jz(kvs:List (Str×Value)):strs? (kvs.map fun kv=>PyData.str kv.1)=some (kvs.map (·.1)):=by
 induction kvs with
 |nil=>rfl
 |cons kv r ih =>
  show(strs? (r.map _)).map _=_;simp only[ih];rfl
theorem J0{A:Around}{s:Shared}{av:Addr→Prop}{v:Value}{d:PyData}(hh:A.handled=none)(r:Rep prog w s.heap av v d):YV prog w A s av (call (.builtin "sorted") [v]) (cP d):=by
 cases d with
 |list l =>
  obtain⟨a,vs,rfl,h1,h2,h3,h4,h5⟩:=r.list_inv;refine Yd.optBind fun ss hs=>Yd.ite fun hlt=>?_;obtain⟨ts,e1,rfl,e3⟩:=gA h3 h5 hs;intro Q E hq;refine PyProof.Rows.sorted_strs h2.isList (yO e1) (by simpa[e1] using hlt) fun out ss' hS hp hso=>?_;exact hq _ _ (yQ (Kp.mkh fun b o e=>PyProof.Rows.sortedAll_old e) (Heap.get?_none_of_le (Nat.le_add_right _ _)) (PyProof.Rows.sortedAll_at s.heap _ out) hS hp hso e3 hlt)
 |dict l =>
  rcases r.dict_or with ⟨a,kvs,rfl,h1,⟨o,es,ep,hd⟩,h3,h4,h5,h6⟩ | ⟨_,_,_,_,_,_,_,_,rfl⟩
  case inr=>exact trivial
  show YV prog w A s av _ (eS (l.map (·.1)));unfold eS;rw[h5,Jz];refine Yd.ite fun hlt=>?_;intro Q E hq;refine Calls.call_function_entry PyProof.Rows.kind_sorted PyProof.Rows.plain_sorted PyProof.Rows.entry_sorted (PyProof.Rows.args_sorted1 _) ?_;unfold Builtin.«sorted»;refine wpAny_bind (m:=checkCount "sorted" 1 1 _) (wpAny_pure ?_);refine wpAny_bind (W.kdu_collect (A:=A.in1) (W.kdl_dict (knd:=strKind prog w) (kvs:=kvs) (ep:=ep) h4) hh ⟨o,es,hd⟩ h3.1 fun h' tk acc hk hacc=>?_);have hl:acc.toList.length=kvs.length:=by rw[Array.length_toList];exact hacc.1
  refine wpAny_bind (wpAny_newList ?_ (by rw[hl];exact h3.1));have hS:=Jy hl fun i v e=>hacc.2 i v (by rw[← Array.getElem?_toList];exact e);have hoL:(h'.push { cls:=.type "list", data:=.seq acc.toList.toArray }).get? h'.objs.size=some (PyProof.Rows.seqObj "list" acc.toList.toArray 0):=Heap.get?_push_size _ rfl;have h64:acc.toList.length < 64:=by rw[hl];simpa using hlt
  refine wpAny_bind (wpAny_holding (wpAny_call_entry PyProof.Rows.slot_list_sort ⟨_,hoL,rfl⟩ PyProof.Rows.entry_list_sort (PyProof.Rows.list_sort_treeK PyProof.Rows.strKind_oneLt hoL hS.keysOf (fun v₁ v₂ rest e=>PyProof.Rows.keyKind_strs (by rw[← e];exact hS)) h64 fun st' hp hs=>⟨_,rfl,?_⟩) (PyProof.Rows.args_list_sort _)));obtain⟨ss',g1,g2,g3⟩:=PyProof.Rows.sorted_out_str hS hp hs;have hold:∀ b o,s.heap.get? b=some o→(PyProof.Rows.sortedHeap (h'.push { cls:=.type "list", data:=.seq acc.toList.toArray }) h'.objs.size acc.toList ((PyProof.Rows.arrOf st').map (·.2))).get? b=some o:=fun b o e=>by
   have e1:=hk b o e;have hlt:=Heap.lt_size e1;rw[PyProof.Rows.sortedHeap_old (Nat.ne_of_lt hlt) (by rw[PyProof.Rows.size_push'];exact Nat.lt_succ_of_lt hlt)];exact Heap.get?_push_of_some _ e1
  have hn:s.heap.get? h'.objs.size=none:=by
   refine ocs (s.heap.get? h'.objs.size) (fun hb=>?_) fun o hb=>?_
   ·try rewrite[hb]
    rfl
   ·try rewrite[hb]
    exact absurd (Heap.lt_size (hk _ _ hb)) (Nat.lt_irrefl _)
  have hz:∀ x∈kvs.map (·.1),x.length≤sizeLine:=fun x hx=>by
   obtain⟨kv,hkv,rfl⟩:=List.mem_map.mp hx;exact h3.2 kv hkv
  have kk:=Kp.mk' (tk:=tk) hold;have at':=PyProof.Rows.sortedHeap_at (out:=(PyProof.Rows.arrOf st').map (·.2)) hoL;generalize PyProof.Rows.sortedHeap (h'.push { cls:=.type "list", data:=.seq acc.toList.toArray }) h'.objs.size acc.toList ((PyProof.Rows.arrOf st').map (·.2))=H at kk at';exact wpAny_pure ⟨_,rfl,hq _ _ (yQ kk hn at' g1 g2 g3 hz hlt)⟩
 |_=>exact trivial
theorem J1{A:Around}{s:Shared}{av:Addr→Prop}{v:Value}{d:PyData}(hh:A.handled=none)(r:Rep prog w s.heap av v d):YV prog w A s av (call (.type "list") [v]) (dR d):=by
 cases d with
 |dict l =>
  refine Yd.ite2 (fun _=>trivial) fun ho=>?_;obtain⟨a,kvs,rfl,h1,⟨o,es,ep,hd⟩,h3,h4,h5,h6⟩:=r.dict_inv ho;intro Q E hq;refine W.kdl_call (W.kdl_dict (knd:=strKind prog w) (kvs:=kvs) (ep:=ep) h4) hh ⟨o,es,hd⟩ h3.1 fun h' tk acc c' hk he hit=>?_;have hsz:acc.toList.length=kvs.length:=by simpa using hit.1
  refine hq _ _ (q8 (vs:=acc.toList) (Kp.rfl' s) (Kp.mk' hk) (bT _) ⟨c',by simpa using he⟩ (by simp only[hsz,h5,List.length_map]) (hsz▸h3.1) fun i v d e1 e2=>?_);obtain⟨k,x,e3,e4⟩:=hit.2 i v (by simpa using e1);obtain⟨t,rfl⟩:=Value.isStrOf_shape e4;simp only[h5,List.getElem?_map,e3] at e2;obtain rfl:=si e2;exact .str k t (h3.2 _ (List.mem_of_getElem? e3))
 |list l =>
  obtain⟨a,vs,rfl,h1,⟨n,h2⟩,h3,h4,h5⟩:=r.list_inv;intro Q E hq;exact call_list_seq a (.inl rfl) h2 rfl rfl (fun h' c' hk he=>hq _ _ (q8 (Kp.rfl' s) (Kp.mkh hk) (bT _) ⟨c',he⟩ h3 h4 h5)) (by simpa using h4)
 |_=>exact trivial
theorem J2{A:Around}{s:Shared}{av:Addr→Prop}{v:Value}{d:PyData}(ha:∀ b,av b→∃ o,s.heap.get? b=some o)(r:Rep prog w s.heap av v d):YV prog w A s av (call (.type "tuple") [v]) (eT d):=by
 cases d with
 |list l =>
  obtain⟨a,vs,rfl,h1,h2,h3,h4,h5⟩:=r.list_inv;intro Q E hq;refine call_tuple_list h2.isList (fun h' hk=>?_) (by simpa using h4);exact hq _ _ (qW (s₁:={ s with heap:=h' }) (Kp.mkh hk) (fun b hb=>by obtain⟨o,e⟩:=ha b hb;exact⟨o,hk _ _ e⟩) h3 h4 fun i v d e1 e2=>(h5 i v d e1 e2).keeps hk)
 |_=>exact trivial
theorem J3{h h':Heap}{o:Obj}(hs:Heap.SameBut h.objs.size (h.push o) h'):∀ b o',h.get? b=some o'→h'.get? b=some o':=by
 intro b o' e;have hb:b≠h.objs.size:=fun hh=>by rw[hh,bT] at e;exact ns e
 rw[hs.2 b hb];exact Heap.get?_push_of_some _ e
theorem J4{A:Around}{s:Shared}{av:Addr→Prop}{v:Value}{d:PyData}(r:Rep prog w s.heap av v d):YV prog w A s av (call (.type "int") [v]) (iH d):=by
 cases d with
 |bool b =>
  obtain rfl:=r.bool_inv;exact fun Q E hq=>call_int_bool (hq _ _ ⟨Kp.tok' s _,.int _ _⟩)
 |str x =>
  obtain⟨t,rfl,hx⟩:=r.str_inv;exact Yd.ite fun hl=>Yd.optBind fun i hi Q E hq=>W.KIN.call_text hi hl (hq _ _ ⟨Kp.tok' s _,.int _ _⟩)
 |_=>exact trivial
theorem J5{A:Around}{s:Shared}{av:Addr→Prop}{v:Value}{d:PyData}(r:Rep prog w s.heap av v d):YV prog w A s av (call (.type "str") [v]) (l5 d):=by
 cases d with
 |str x =>
  obtain⟨t,rfl,hx⟩:=r.str_inv;exact fun Q E hq=>P.str_of_str (hq _ _ ⟨Kp.rfl' s,.str x t hx⟩)
 |int i =>
  obtain⟨t,rfl⟩:=r.int_inv;exact Yd.ite fun hl Q E hq=>P.str_of_int hl (hq _ _ ⟨Kp.tok' s _,.str _ _ (int_text_fits hl)⟩)
 |_=>exact trivial
theorem J6{A:Around}{s:Shared}{av:Addr→Prop}{v:Value}{d:PyData}(r:Rep prog w s.heap av v d):YV prog w A s av (call (.builtin "abs") [v]) (pR d):=by
 cases d with
 |int i =>
  obtain⟨t,rfl⟩:=r.int_inv;exact fun Q E hq=>PyProof.Rows.call_abs_int fun u tk=>hq _ _ ⟨Kp.tok' s _,.int _ _⟩
 |_=>exact trivial
end
end Mine
namespace Mine
open PySem
theorem J8:typeLookup (.type "list") "keys" = pure none:=by rw[typeLookup_type,builtinLookup_eq_fast];kernel_rfl
theorem J9:typeLookup (.type "list") "__getattr__" = pure none:=by rw[typeLookup_type,builtinLookup_eq_fast];kernel_rfl
section
variable {prog:Program} {w:World} {A:Around} {E:Value→Shared→Prop} {h:Heap} {g:Array GenState} {d:Drawn} {t:Nat} {os:OsState} {a:Addr} {xs:Array Value} {n:Nat}
theorem Ka{tk:Tok}{Q:PySem.Fin→Shared→Prop}(hx:h.get? a=some { cls:=.type "list", data:=.seq xs n })(hh:A.handled=none)
  (hq:∀ h' tk' e,Heap.NewAttrErr h h' e (.ref a) (Str.ofString "keys")→E (.ref e) ⟨h',g,d,tk',os⟩) :
  wpAny (model prog w) A (Builtin.«object.__getattribute__» ⟨[.ref a,.str "keys" tk],[]⟩) Q E ⟨h,g,d,t,os⟩:=by
 have hT:(⟨h,g,d,t,os⟩:Shared).TypeIs (.ref a) "list" := ⟨_,hx,rfl⟩
 have f4:=J8
 repeat (any_goals (first | assumption | wp_step))
 exact wpAny_raiseAttrError hh hq (attrMsg_fits (by decide +kernel) (by decide +kernel))
theorem Kb{tk:Tok}{R:Result→Shared→Prop}(hx:h.get? a=some { cls:=.type "list", data:=.seq xs n })(hh:A.handled=none)
  (hq:∀ h' tk' e,Heap.NewAttrErr h h' e (.ref a) (Str.ofString "keys")→R (.error (.ref e)) ⟨h',g,d,tk',os⟩) :
  codeAny (model prog w) A (.call (.builtin "list.__getattribute__") ⟨[.ref a,.str "keys" tk],[]⟩) R ⟨h,g,d,t,os⟩ :=
 codeAny_call_builtin F.slot_list_getattribute.plain F.entry_list_ga (F.slot_list_getattribute.check _ _ _ _ _ _ _ _ (show(⟨h,g,d,t,os⟩:Shared).TypeIs (.ref a) "list" from ⟨_,hx,rfl⟩) (F.args_list_getattribute_2 _ _) (Ka hx hh hq))
theorem Kc{Q:Option Value→Shared→Prop}(hx:h.get? a=some { cls:=.type "list", data:=.seq xs n })(hh:A.handled=none)
  (hq:∀ h' tk',(∀ b o,h.get? b=some o→h'.get? b=some o)→Q none ⟨h',g,d,tk',os⟩):wpAny (model prog w) A (getAttr? (.ref a) "keys") Q E ⟨h,g,d,t,os⟩:=by
 have hT:(⟨h,g,d,t,os⟩:Shared).TypeIs (.ref a) "list" := ⟨_,hx,rfl⟩
 have f1:=sub_AttributeError;have f2:=F.slot_list_getattribute.lookup;have f3:=F.slot_list_getattribute.bind (.ref a);have f5:=J9;unfold getAttr? getAttrBy? getAttrBy
 repeat (any_goals (first | assumption | wp_step))
 refine Kb hx hh fun h' tk' e hx=>?_;obtain⟨t',u',he⟩:=hx.there
 repeat (any_goals (first | assumption | wp_step))
 exact hq _ _ hx.keeps
end
theorem yR:entryFor table "dict.update.loop" = some Builtin.«dict.update.loop»:=entryFor_of_tree (by kernel_rfl)
theorem nF:plainId "dict.update.loop" = true:=by decide +kernel
section
variable {prog:Program} {w:World}
noncomputable def gU(h:Heap):List Value→List (Str×Value)→Prop
 | [],[]=>True
 |v::vs,kv::kvs=>(∃ a t,v=.ref a∧PlT h a #[.str kv.1 t,kv.2])∧gU h vs kvs
 |_,_=>False
theorem gU.at{h:Heap}:∀ {vs:List Value} {kvs:List (Str×Value)},gU h vs kvs→∀ {i:Nat} {v:Value},vs[i]?=some v→∃ kv a t,kvs[i]?=some kv∧v=.ref a∧PlT h a #[.str kv.1 t,kv.2]
 |_::_,_::_,p,0,_,e=>by obtain rfl:=si e;obtain⟨a,t,h1,h2⟩:=p.1;exact⟨_,a,t,rfl,h1,h2⟩
 |_::_,_::_,p,i+1,_,e=>p.2.at (i:=i) e
 | [],[],_,i,_,e=>by exact ns e
 | [],_::_,p,_,_,_=>p.elim
 |_::_,[],p,_,_,_=>p.elim
theorem gU.len{h:Heap}:∀ {vs:List Value} {kvs:List (Str×Value)},gU h vs kvs→vs.length=kvs.length
 | [],[],_=>rfl
 |_::_,_::_,p=>congrArg Nat.succ p.2.len
 | [],_::_,p=>p.elim
 |_::_,[],p=>p.elim
theorem Ke{A:Around}{R:Result→Shared→Prop}(hh:A.handled=none){I l D:Addr}(hlI:l≠I)(hDI:D≠I)(hDl:D≠l){vs:List Value}{kvs:List (Str×Value)}(hn:kvs.length≤sizeLine){h₀:Heap}(hp:gU h₀ vs kvs)(hD0:h₀.get? D=none)(hI0:h₀.get? I=none) :
  ∀ (k i:Nat) (s:Shared),kvs.length - i=k→i≤kvs.length→s.heap.IsListIter I l i∧s.heap.IsList l vs.toArray→(∀ b o,h₀.get? b=some o→s.heap.get? b=some o)→s.heap.DictOf (strKind prog w) D (merged [] (kvs.take i)) →
   (∀ h' tk,(∀ b o,h₀.get? b=some o→h'.get? b=some o)→h'.DictOf (strKind prog w) D (merged [] kvs)→R (.ok (.ret .none)) { s with heap:=h',toks:=tk }) →
   codeAny (model prog w) A (.builtin "dict.update.loop" ⟨[.ref D,.ref I,rawInt i,.none],[]⟩) R s:=by
 have W:=Walks.list (prog:=prog) (w:=w) (A:=A.in1) hh I l hlI vs.toArray;have hlen:=hp.len;have new:∀ b o,h₀.get? b=some o→b≠D∧b≠I:=fun b o e=>⟨fun x=>by (rw[x,hD0] at e;exact ns e),fun x=>by (rw[x,hI0] at e;exact ns e)⟩
 intro k
 induction k with
 |zero =>
  intro i s hk hi hst hkeep hd hR;have hin:i=kvs.length:=by exact vE hk hi
  subst hin;refine codeAny_builtin yR ?_;rw[Around.under_plainId nF _];show wpAny _ A.in1 (pyNext (.ref I) >>= _) _ _ s;refine wpAny_bind (W.done s _ _ (by rw[List.size_toArray,hlen];exact hst) fun h' tk hk'=>?_);rw[List.take_length] at hd;refine wpAny_bind (wpAny_pure (wpAny_pure (hR h' tk (fun b o e=>hk' b o (fun hb=>(new b o e).2 (List.mem_singleton.mp hb)) (hkeep b o e)) ?_)));obtain⟨o,es,ep,e,r⟩:=hd;exact⟨o,es,ep,hk' _ _ (fun hb=>hDI (List.mem_singleton.mp hb)) e,r⟩
 |succ k ih =>
  intro i s hk hi hst hkeep hd hR;have hlt:i < kvs.length:=by exact vF hk
  refine codeAny_builtin yR ?_;rw[Around.under_plainId nF _];show wpAny _ A.in1 (pyNext (.ref I) >>= _) _ _ s;refine wpAny_bind (W.item i s _ _ (by rw[List.size_toArray,hlen];exact hlt) hst fun v h' tk hP hst' hm=>?_);obtain⟨kv,a,t,e1,rfl,n,e2⟩:=hp.at (by simpa using hP);have hm':∀ b o,h₀.get? b=some o→h'.get? b=some o:=fun b o e=>hm b o (fun hb=>(new b o e).2 (List.mem_singleton.mp hb)) (hkeep b o e);have hd':h'.DictOf (strKind prog w) D (merged [] (kvs.take i)):=by
   obtain⟨o,es,ep,e,r⟩:=hd;exact⟨o,es,ep,hm _ _ (fun hb=>hDI (List.mem_singleton.mp hb)) e,r⟩
  have ha:=hm' _ _ e2;refine wpAny_bind (wpAny_holding (wpAny_bind (wpAny_tryCatch ?_)));unfold Builtin.Dict.pairItems;refine wpAny_bind (wpAny_typeOf (T := "tuple") ⟨_,ha,rfl⟩ ?_);rw[if_pos (by decide)];refine wpAny_bind (wpAny_seqItems ha rfl (wpAny_pure ?_));show wpAny _ _ (holding [Value.str kv.1 t,kv.2] (dictSet D (.str kv.1 t) kv.2)) _ _ _;have hz:(merged ([]:List (Str×Value)) (kvs.take i)).length≤sizeLine:=Nat.le_trans (merged_length_le _ _) (by simp;exact Dv hn);refine wpAny_holding (wpAny_dictSet_pairs (knd:=strKind prog w) (eF kv.1 t) hd' (fun h'' hd'' hs=>?_) hz);rw[← merged_take_succ [] kvs i kv e1] at hd'';have ks:∀ b o,b≠D→h'.get? b=some o→h''.get? b=some o:=fun b o hb e=>by rw[hs.2 b hb];exact e
  refine wpAny_pure ⟨plainId_quiet nF _,?_⟩;refine ih (i+1) _ (by exact vG hk) hlt ?_ (fun b o e=>ks b o (new b o e).1 (hm' b o e)) hd'' hR;exact W.frame _ h' _ hst' fun b hb o e=>ks b o (fun x=>by
   subst x;rcases List.mem_cons.mp hb with hb | hb
   ·exact hDI hb
   ·exact hDl (List.mem_singleton.mp hb)) e
end
section
variable {prog:Program} {w:World}
noncomputable def KV(prog:Program)(w:World)(h:Heap)(av:Addr→Prop):List (Str×Value)→List (PyData×PyData)→Prop
 | [],[]=>True
 |kv::r,d::t=>d.1=.str kv.1∧Rep prog w h av kv.2 d.2∧KV prog w h av r t
 |_,_=>False
theorem KV.out{h:Heap}{av:Addr→Prop}:∀ {kvs:List (Str×Value)} {ds:List (PyData×PyData)},KV prog w h av kvs ds →
  ds.map (·.1)=kvs.map (fun kv=>PyData.str kv.1)∧∀ (i:Nat) (kv:Str×Value) (d:PyData×PyData),kvs[i]?=some kv→ds[i]?=some d→Rep prog w h av kv.2 d.2
 | [],[],_=>⟨rfl,fun i kv d e=>by simp at e⟩
 |kv::r,d::t,x=>by
  obtain⟨x1,x2,x3⟩:=x;obtain⟨y1,y2⟩:=KV.out x3;refine⟨by simp[x1,y1],fun i kv' d' e1 e2=>?_⟩;cases i with
  |zero=>simp at e1 e2;subst e1;subst e2;exact x2
  |succ i=>exact y2 i kv' d' (by simpa using e1) (by simpa using e2)
 | [],_::_,x=>x.elim
 |_::_,[],x=>x.elim
theorem KV.of{h:Heap}{av:Addr→Prop}:∀ {kvs:List (Str×Value)} {ds:List (PyData×PyData)},ds.map (·.1)=kvs.map (fun kv=>PyData.str kv.1) →
  (∀ (i:Nat) (kv:Str×Value) (d:PyData×PyData),kvs[i]?=some kv→ds[i]?=some d→Rep prog w h av kv.2 d.2)→KV prog w h av kvs ds
 | [],[],_,_=>trivial
 |kv::r,d::t,e,x=>by
  simp at e;exact⟨e.1,x 0 kv d rfl rfl,KV.of (by simpa using e.2) fun i kv d e1 e2=>x (i+1) kv d (by simpa using e1) (by simpa using e2)⟩
 | [],_::_,e,_=>by simp at e
 |_::_,[],e,_=>by simp at e
theorem KV.mono{h h':Heap}{av av':Addr→Prop}(hk:∀ b o,¬ av b→h.get? b=some o→h'.get? b=some o)(ha:∀ b o,h.get? b=some o→av' b→av b):∀ {kvs:List (Str×Value)} {ds:List (PyData×PyData)},
  KV prog w h av kvs ds→KV prog w h' av' kvs ds
 | [],[],_=>trivial
 |_::_,_::_,x=>⟨x.1,x.2.1.mono hk ha,x.2.2.mono hk ha⟩
 | [],_::_,x=>x.elim
 |_::_,[],x=>x.elim
theorem Kf{y:Str}{v0:Value}{r:List (Str×Value)}{k:Str}{v:Value}(hn:(((y,v0)::r).map (·.1)).Nodup):stored ((y,v0)::r) k v=if k=y then (y,v)::r else (y,v0)::stored r k v:=by
 unfold stored
 by_cases h:k=y
 ·subst h;simp only[List.any_cons,decide_true,Bool.true_or,if_true,List.map_cons];congr 1;have hn':k∉r.map (·.1):=(List.nodup_cons.mp (show(k::r.map (·.1)).Nodup from hn)).1;have:∀ kv∈r,(if kv.1=k then (kv.1,v) else kv)=kv:=fun kv hkv=>by
   rw[if_neg];intro e;exact hn' (e▸List.mem_map_of_mem hkv)
  exact(List.map_congr_left this).trans (List.map_id' r)
 ·rw[if_neg h];have hne:¬ y=k:=fun e=>h e.symm;simp only[List.any_cons,hne,decide_false,Bool.false_or,List.map_cons,if_false,List.cons_append]
  split<;>rfl
theorem Kg{kvs:List (Str×Value)}{k:Str}{v:Value}(hn:(kvs.map (·.1)).Nodup):((stored kvs k v).map (·.1)).Nodup:=by
 unfold stored
 split
 ·have:(kvs.map (fun kv=>if kv.1=k then (kv.1,v) else kv)).map (·.1)=kvs.map (·.1):=by
   rw[List.map_map];refine List.map_congr_left fun kv _=>?_;show(if kv.1=k then (kv.1,v) else kv).1=kv.1
   split<;>rfl
  rw[this];exact hn
 ·rename_i h;rw[List.map_append,List.nodup_append];refine⟨hn,by simp,fun a ha b hb hab=>?_⟩;simp at hb;subst hb;subst hab;obtain⟨kv,hkv,rfl⟩:=List.mem_map.mp ha;exact h (List.any_eq_true.mpr ⟨kv,hkv,by simp⟩)
theorem yS{kvs:List (Str×Value)}{k:Str}{v:Value}(hx:∀ kv∈kvs,kv.1.length≤sizeLine)(hk:k.length≤sizeLine):∀ kv∈stored kvs k v,kv.1.length≤sizeLine:=by
 intro kv h;unfold stored at h
 split at h
 ·obtain⟨kv',h',rfl⟩:=List.mem_map.mp h
  split
  ·exact hx kv' h'
  ·exact hx kv' h'
 ·rcases List.mem_append.mp h with h | h
  ·exact hx kv h
  ·simp at h;subst h;exact hk
theorem KV.set{h:Heap}{av:Addr→Prop}{k:Str}{v:Value}{d:PyData}(hv:Rep prog w h av v d):∀ {kvs:List (Str×Value)} {ds:List (PyData×PyData)},(kvs.map (·.1)).Nodup→KV prog w h av kvs ds→KV prog w h av (stored kvs k v) (dJ ds k d)
 | [],[],_,_=>⟨rfl,hv,trivial⟩
 | (y,v0)::r,(dk,d0)::t,hn,x=>by
  obtain⟨x1,x2,x3⟩:=x;have x1:dk=.str y:=x1;subst x1;rw[Kf hn];show KV prog w h av _ (if k=y then (.str y,d)::t else (.str y,d0)::dJ t k d)
  split
  ·exact⟨rfl,hv,x3⟩
  ·exact⟨rfl,x2,KV.set hv (List.nodup_cons.mp (show(y::r.map (·.1)).Nodup from hn)).2 x3⟩
 | [],_::_,_,x=>x.elim
 |_::_,[],_,x=>x.elim
noncomputable def PS(prog:Program)(w:World)(h:Heap)(av:Addr→Prop):List (Str×Value)→List (Str×PyData)→Prop
 | [],[]=>True
 |kv::r,p::t=>kv.1=p.1∧kv.1.length≤sizeLine∧Rep prog w h av kv.2 p.2∧PS prog w h av r t
 |_,_=>False
theorem KV.sets{h:Heap}{av:Addr→Prop}:∀ {kvs:List (Str×Value)} {ps:List (Str×PyData)} {acc:List (Str×Value)} {dacc:List (PyData×PyData)},PS prog w h av kvs ps→(acc.map (·.1)).Nodup→KV prog w h av acc dacc→(∀ kv∈acc,kv.1.length≤sizeLine) →
  KV prog w h av (merged acc kvs) (cS ps dacc)∧∀ kv∈merged acc kvs,kv.1.length≤sizeLine
 | [],[],_,_,_,_,x,hz=>⟨x,hz⟩
 | (k,v)::r,(k',d)::t,acc,dacc,y,hn,x,hz=>by
  obtain⟨y1,y2,y3,y4⟩:=y;obtain rfl:k=k':=y1;exact(KV.sets (kvs:=r) (ps:=t) y4 (Kg hn) (KV.set y3 hn x) (yS hz y2):KV prog w h av (merged (stored acc k v) r) (cS t (dJ dacc k d))∧_)
 | [],_::_,_,_,x,_,_,_=>x.elim
 |_::_,[],_,_,x,_,_,_=>x.elim
theorem PS.length{h:Heap}{av:Addr→Prop}:∀ {kvs:List (Str×Value)} {ps:List (Str×PyData)},PS prog w h av kvs ps→kvs.length=ps.length
 | [],[],_=>rfl
 |_::r,_::t,x=>congrArg (·+1) (PS.length (kvs:=r) (ps:=t) x.2.2.2)
 | [],_::_,x=>x.elim
 |_::_,[],x=>x.elim
theorem yT{s s₁ s':Shared}{av:Addr→Prop}{a:Addr}{kvs:List (Str×Value)}{ps:List (Str×PyData)}(k0:Kp s s₁)(k:Kp s₁ s')(hn:s₁.heap.get? a=none)(hm:(a==sysModules)=false)(hp:s'.heap.DictOf (strKind prog w) a (merged [] kvs))
  (hl:ps.length≤sizeLine) (x:PS prog w s₁.heap av kvs ps):Kp s s'∧bB prog w s s'.heap av (.ref a) (.own (.dict (cS ps []))):=by
 obtain⟨y1,y2⟩:=KV.sets x (acc:=[]) List.nodup_nil (show KV prog w s₁.heap av [] [] from trivial) (fun x hx=>cL hx);obtain⟨z1,z2⟩:=y1.out;exact yJ k0 k hn hm hp ⟨Nat.le_trans (merged_length_le [] kvs) (by rw[x.length];simpa using hl),y2⟩ z1 z2
end
section
variable {prog:Program} {w:World}
theorem yU(r:List Str)(x:Str):(b4 (x::r)).length=if r.contains x then (b4 r).length else (b4 r).length+1:=by
 show(if r.contains x then b4 r else x::b4 r).length=_
 split<;>rfl
theorem rB:∀ l:List Str,(b4 l).length≤l.length
 | []=>Nat.le_refl _
 |a::r=>by
  rw[yU];have:=rB r
  split
  ·exact Nat.le_succ_of_le this
  ·exact Nat.succ_le_succ this
noncomputable def met(ss:List Str)(i:Nat):List Str:=(ss.take i).reverse
theorem yV{ss:List Str}{i:Nat}{x:Str}(h:ss[i]?=some x):met ss (i+1)=x::met ss i:=by
 unfold met;rw[List.take_add_one,h];simp
theorem yW(ss:List Str)(i:Nat):(met ss i).length≤ss.length:=by
 unfold met;simp;exact Dw
theorem Kh{A:Around}{R:Result→Shared→Prop}{I:Addr}{fp wr:List Addr}{ss:List Str}{P:Nat→Value→Prop}{St:Nat→Heap→Prop}(W:Walks prog w A.in1 I fp wr ss.length P St)(S:Addr)(hSf:S∉fp)
  (hval:∀ i v,P i v→∃ x t,ss[i]?=some x∧v=.str x t) (hb:ss.length+1 < scanBound) :
  ∀ (k i:Nat) (s:Shared),ss.length - i=k→i≤ss.length→St i s.heap→s.heap.SetOf (strKind prog w) S (fun k'=>(met ss i).contains k') (b4 (met ss i)).length →
   (∀ h' tk,(∀ b o,b∉S::wr→s.heap.get? b=some o→h'.get? b=some o)→h'.SetOf (strKind prog w) S (fun k'=>(met ss ss.length).contains k') (b4 (met ss ss.length)).length→R (.ok (.ret .none)) { s with heap:=h',toks:=tk }) →
   codeAny (model prog w) A (.builtin "set.update.loop" ⟨[.ref S,.ref I],[]⟩) R s:=by
 have hSw:S∉wr:=fun h=>hSf (W.sub _ h);intro k
 induction k with
 |zero =>
  intro i s hk hi hst hS hR;have hin:i=ss.length:=by exact vE hk hi
  subst hin;refine codeAny_builtin PyProof.Rows.F.entry_set_update_loop ?_;rw[Around.under_plainId PyProof.Rows.F.plain_set_update_loop _];show wpAny _ A.in1 (pyNext (.ref I) >>= _) _ _ s;refine wpAny_bind (W.done s _ _ hst fun h' tk hm=>?_);refine wpAny_pure (hR h' tk (fun b o hb e=>hm b o (fun h=>hb (List.mem_cons_of_mem _ h)) e) ?_);obtain⟨o,es,ep,t,ho,rest⟩:=hS;exact⟨o,es,ep,t,hm S _ hSw ho,rest⟩
 |succ k ih =>
  intro i s hk hi hst hS hR;have hlt:i < ss.length:=by exact vF hk
  refine codeAny_builtin PyProof.Rows.F.entry_set_update_loop ?_;rw[Around.under_plainId PyProof.Rows.F.plain_set_update_loop _];show wpAny _ A.in1 (pyNext (.ref I) >>= _) _ _ s;refine wpAny_bind (W.item i s _ _ hlt hst fun v h' tk hP hst' hm=>?_);obtain⟨x,t,hx,rfl⟩:=hval i v hP;have hS':h'.SetOf (strKind prog w) S (fun k'=>(met ss i).contains k') (b4 (met ss i)).length:=by
   obtain⟨o,es,ep,tb,ho,rest⟩:=hS;exact⟨o,es,ep,tb,hm S _ hSw ho,rest⟩
  show wpAny _ A.in1 (holding [Value.str x t] (setAdd S (.str x t)) >>= _) _ _ _;refine wpAny_bind (wpAny_holding ?_);unfold setAdd;refine wpAny_holding ?_;refine wpAny_bind ((strKind prog w).pyHash (k:=x) (eF x t) ?_);have hroom:(b4 (met ss i)).length+1 < scanBound:=by have:=rB (met ss i);have:=yW ss i;lia
  refine wpAny_setAddHashed_of (knd:=strKind prog w) (s:={ s with heap:=h',toks:=tk+1 }) (eF x t) rfl hS' hroom fun h'' hsb hS2=>?_;have hSi:h''.SetOf (strKind prog w) S (fun k'=>(met ss (i+1)).contains k') (b4 (met ss (i+1))).length :=
   PyProof.Rows.SetOf_congr hS2 (fun k'=>by rw[yV hx,List.contains_cons,Bool.or_comm];congr 1) (by rw[yV hx,yU])
  refine wpAny_pure ⟨plainId_quiet PyProof.Rows.F.plain_set_update_loop _,ih (i+1) _ (by exact vG hk) hlt (W.frame _ h' _ hst' fun b hb o e=>?_) hSi fun h3 tk3 hk3 hS3=>hR h3 tk3 (fun b o hb e=>hk3 b o hb ?_) hS3⟩
  ·rw[hsb.2 b (fun h:b=S=>hSf (by rw[← h];exact hb))];exact e
  ·rw[hsb.2 b (fun h:b=S=>hb (by rw[h];exact List.mem_cons_self))];exact hm b o (fun h=>hb (List.mem_cons_of_mem _ h)) e
set_option maxHeartbeats 3200000 in
theorem yX{A:Around}{E:Value→Shared→Prop}{s:Shared}{l:Addr}{T:String}{items:Array Value}{nl:Nat}{ss:List Str}{Q:Value→Shared→Prop}{oI:Obj}{St:Addr→Nat→Heap→Prop}(hh:A.handled=none)(hol:s.heap.get? l=some { cls:=.type T,data:=.seq items nl })
  (hsls:isSubtype (.type T) (.type "set")=pure false) (hslf:isSubtype (.type T) (.type "frozenset")=pure false) (hne:(Value.type T==Value.type "dict")=false) (hsz:items.size=ss.length)
  (hit:∀ (A':Around) (s':Shared) (Q:Value→Shared→Prop) (E:Value→Shared→Prop),s'.heap.get? l=some { cls:=.type T,data:=.seq items nl }→Q (.ref s'.heap.objs.size) { s' with heap:=s'.heap.push oI }→wpAny (model prog w) A' (pyIter (.ref l)) Q E s')
  (hW:∀ (A':Around) (I:Addr),A'.handled=none→l≠I→Walks prog w A' I [I,l] [I] items.size (fun i v=>items[i]?=some v) (St I))
  (hst:∀ (h:Heap),h.get? l=some { cls:=.type T,data:=.seq items nl }→St h.objs.size 0 (h.push oI))
  (hval:∀ (i:Nat) (v:Value),items[i]?=some v→∃ x t,ss[i]?=some x∧v=.str x t) (hb:ss.length+1 < scanBound)
  (h:∀ (h':Heap) (tk:Nat),h'.SetOf (strKind prog w) s.heap.objs.size (fun k'=>(met ss ss.length).contains k') (b4 (met ss ss.length)).length →
   (∀ b o,s.heap.get? b=some o→h'.get? b=some o)→Q (.ref s.heap.objs.size) { s with heap:=h',toks:=tk }) :
  wpAny (model prog w) A (call (.type "set") [.ref l]) Q E s:=by
 obtain⟨c,tl,hmro⟩:=F.called_set.mro;have hmade:=F.called_set.made;have hsub:=F.called_set.sub;refine wpAny_call (codeAny_of_tree ?_);show wpAny _ _ (callAny (.type "set") _) _ _ _;refine wpAny_pure ⟨Code.quiet_builtin _ (by decide +kernel),codeAny_builtin F.entry_type_call ?_⟩;rw[Around.under_plain (weight_type_call_type "set" [.ref l] []) rfl];have h1:=F.called_set.notType;have h2:=F.called_set.canCreate;have hct:=F.typeCall_set_1 (.ref l)
 repeat (any_goals (first | assumption | wp_step))
 refine codeAny_mono (code_set_new_1 (.ref l) (E:=E) (Q₁:=fun obj s₁=>∃ led:Bool,obj=.ref s.heap.objs.size∧s₁={ s with heap:=s.heap.push { cls:=.type "set", dict:=none,data:=.set #[] 0 (.fresh 0 0 led) } }) fun led=>⟨led,rfl,rfl⟩) fun r s₁ hr=>?_;cases r with
 |error e=>exact hr
 |ok fl =>
  cases fl with
  |ret obj =>
   obtain⟨led,rfl,rfl⟩:=hr;have hS:(s.heap.push { cls:=.type "set", dict:=none,data:=.set #[] 0 (.fresh 0 0 led) }).get? s.heap.objs.size=some { cls:=.type "set", dict:=none,data:=.set #[] 0 (.fresh 0 0 led) }:=Heap.get?_push_size _ rfl;have hT:Shared.TypeIs { s with heap:=s.heap.push { cls:=.type "set", dict:=none,data:=.set #[] 0 (.fresh 0 0 led) } } (.ref s.heap.objs.size) "set" := ⟨_,hS,rfl⟩
   have hli:=F.called_set.init.lookup;have hbi:=F.called_set.init.bind (.ref s.heap.objs.size)
   repeat (any_goals (first | assumption | wp_step))
   refine codeAny_mono (codeAny_call_builtin (R:=wants (fun r s₂=>r=.none∧∃ h' tk,s₂={ s with heap:=h',toks:=tk } ∧
     h'.SetOf (strKind prog w) s.heap.objs.size (fun k'=>(met ss ss.length).contains k') (b4 (met ss ss.length)).length ∧
     (∀ b o,s.heap.get? b=some o→h'.get? b=some o)) E) F.called_set.init.plain F.entry_set_init (check_set_init_1 hT ?_)) fun r₂ s₂ hr₂=>?_
   ·have hol':(s.heap.push { cls:=.type "set", dict:=none,data:=.set #[] 0 (.fresh 0 0 led) }).get? l=some { cls:=.type T,data:=.seq items nl }:=Heap.get?_push_of_some _ hol;unfold Builtin.«set.__init__» noKeywords Builtin.Frozenset.updateFrom;generalize hPI:pyIter=PI
    wp_walk
    subst hPI;refine hit _ _ _ _ hol' ?_;refine wpAny_bind (wpAny_runValue ?_);have hlS:l < s.heap.objs.size:=Heap.lt_size hol;have hneI:l≠(s.heap.push { cls:=.type "set", dict:=none,data:=.set #[] 0 (.fresh 0 0 led) }).objs.size:=by
     rw[Heap.size_push];exact Nat.ne_of_lt (Nat.lt_succ_of_lt hlS)
    have hSf:s.heap.objs.size∉[(s.heap.push { cls:=.type "set", dict:=none,data:=.set #[] 0 (.fresh 0 0 led) }).objs.size,l]:=by
     rw[Heap.size_push];simp only[List.mem_cons,List.mem_singleton,List.not_mem_nil,or_false,not_or];exact⟨Nat.ne_of_lt (Nat.lt_succ_self _),Nat.ne_of_gt hlS⟩
    refine Kh (hsz▸hW _ _ (by simp[hh]) hneI) s.heap.objs.size hSf hval hb ss.length 0 _ rfl (Nat.zero_le _) (hst _ hol') ?hS0 fun h' tk' hk hS'=>?hR
    case hS0 =>
     exact PyProof.Rows.SetOf_congr ((PyProof.Rows.setObjOf_fresh (knd:=strKind prog w) led).setOf (Heap.get?_push_of_some _ hS) (by unfold scanBound;exact Dx)) (fun _=>rfl) rfl
    case hR =>
     show wpAny _ _ _ _ _ _;refine wpAny_pure ?_;show wpAny _ _ (ret Value.none) _ _ _;refine wpAny_pure ⟨rfl,h',tk',rfl,hS',fun b o e=>?_⟩;have hb:=Heap.lt_size e;refine hk b o ?_ (Heap.get?_push_of_some _ (Heap.get?_push_of_some _ e));rw[Heap.size_push];intro hm;rcases List.mem_cons.mp hm with hm | hm
     ·exact absurd hb (by rw[hm];exact Nat.lt_irrefl _)
     ·exact absurd hb (by rw[List.mem_singleton.mp hm];exact Nat.not_lt.mpr (Nat.le_succ _))
   ·cases r₂ with
    |error e=>exact hr₂
    |ok fl₂ =>
     cases fl₂ with
     |ret r =>
      obtain⟨rfl,h',tk,rfl,hS',hk'⟩:=hr₂
      repeat (any_goals (first | assumption | wp_step))
      exact h _ _ hS' hk'
     |_=>exact hr₂.elim
  |_=>exact hr.elim
end
section
variable {prog:Program} {w:World} {mg mb:Str→Option Value} {base:Heap}
theorem Ki{d:PyData}{p:PyData×PyData}(e:two d=some p):d=.tuple [p.1,p.2]:=by
 cases d with
 |tuple ds =>
  rcases ds with _ | ⟨a,_ | ⟨b,_ | ⟨c,r⟩⟩⟩
  ·exact ns e
  ·exact ns e
  ·obtain rfl:=si e;rfl
  ·exact ns e
 |_=>exact ns e
theorem Kj{α:Type}{l:List α}(h:l.length=2):∃ x y,l=[x,y]:=by
 rcases l with _ | ⟨a,_ | ⟨b,_ | ⟨c,r⟩⟩⟩
 ·cases h
 ·cases h
 ·exact⟨a,b,rfl⟩
 ·cases h
theorem Rep.two{h:Heap}{av:Addr→Prop}{v:Value}{d:PyData}{p:PyData×PyData}(r:Rep prog w h av v d)(e:two d=some p):∃ a x y,v=.ref a∧PlT h a #[x,y]∧Rep prog w h av x p.1∧Rep prog w h av y p.2:=by
 rw[Ki e] at r;obtain⟨a,vs,rfl,h1,h2,h3,h4,h5⟩:=r.tuple_inv;obtain⟨x,y,rfl⟩:=Kj h3;exact⟨a,x,y,rfl,h2,h5 0 _ _ rfl rfl,h5 1 _ _ rfl rfl⟩
theorem Kk{h:Heap}{av:Addr→Prop}:∀ {vs:List Value} {ds:List PyData} {ps:List (PyData×PyData)} {qs:List (Str×PyData)},vs.length=ds.length→(∀ (i:Nat) (v:Value) (d:PyData),vs[i]?=some v→ds[i]?=some d→Rep prog w h av v d) →
  twos? ds=some ps→keys? ps=some qs→∃ kvs,gU h vs kvs∧PS prog w h av kvs qs:=by
 intro vs
 induction vs with
 |nil =>
  intro ds ps qs hl hr e1 e2;cases ds with
  |nil=>obtain rfl:=si e1;obtain rfl:=si e2;exact⟨[],trivial,trivial⟩
  |cons=>exact nomatch hl
 |cons v vs ih =>
  intro ds ps qs hl hr e1 e2;cases ds with
  |nil=>exact nomatch hl
  |cons d ds =>
   replace e1:((two d).bind fun p=>(twos? ds).map (p::·))=some ps:=e1;refine ocs (two d) (fun hp=>?_) fun p hp=>?_
   ·rw[hp] at e1;exact ns e1
   ·rw[hp] at e1;obtain⟨ps',e1',rfl⟩:=Option.map_eq_some_iff.mp (show(twos? ds).map (p::·)=some ps from e1);obtain⟨a,x,y,rfl,g1,g2,g3⟩:=(hr 0 v d rfl rfl).two hp;obtain⟨p1,p2⟩:=p;cases p1 with
    |str k =>
     obtain⟨qs',e2',rfl⟩:=Option.map_eq_some_iff.mp (show(keys? ps').map ((k,p2)::·)=some qs from e2);obtain⟨t,hx,hk⟩:=(show Rep prog w h av x (.str k) from g2).str_inv;subst hx;obtain⟨kvs,z1,z2⟩:=ih (ds:=ds) (Nat.succ.inj hl) (fun i v d e1 e2=>hr (i+1) v d e1 e2) e1' e2';exact⟨(k,y)::kvs,⟨⟨a,t,rfl,g1⟩,z1⟩,rfl,hk,g3,z2⟩
    |_=>exact ns e2
theorem yY{ss:List Str}{ts:List Tok}(e1:ts.length=ss.length){i:Nat}{v:Value}(e:(List.zipWith (fun x t=>Value.str x t) ss ts)[i]?=some v):∃ x t,ss[i]?=some x∧v=.str x t:=by
 rw[List.getElem?_zipWith] at e;cases hs:ss[i]? with
 |none=>rw[hs] at e;exact ns e
 |some x =>
  cases ht:ts[i]? with
  |none=>rw[hs,ht] at e;exact ns e
  |some t=>rw[hs,ht] at e;obtain rfl:=si e;exact⟨x,t,rfl,rfl⟩
theorem Kl{l:List Env}{A:Around}{s:Shared}{av:Addr→Prop}{v:Value}{d:PyData}(hh:A.handled=none)(G:Gnd prog w mg mb base l av s)(r:Rep prog w s.heap av v d):YV prog w A s av (call (.type "dict") [v]) (bE d):=by
 cases d with
 |dict m =>
  refine Yd.ite2 (fun _=>trivial) fun ho=>?_;obtain⟨a,kvs,rfl,h1,h2,h3,h4,h5,h6⟩:=r.dict_inv ho;intro Q E hq;exact kt_call_dict (knd:=strKind prog w) h4 h2 h3.1 fun h' hd hs=>hq _ _ (yJ (Kp.rfl' s) (Kp.mkh (J3 hs)) (bT _) (j4 G) hd h3 h5 h6)
 |list m =>
  obtain⟨a,vs,rfl,h1,⟨nn,h2⟩,h3,h4,h5⟩:=r.list_inv;refine Yd.optBind fun ps hps=>Yd.optBind fun qs hqs=>Yd.ite fun hlt=>?_;obtain⟨kvs,g1,g2⟩:=Kk h3 h5 hps hqs;have hz:kvs.length≤sizeLine:=by rw[g2.length];exact Nat.le_trans (Nat.le_of_lt hlt) (by decide)
  intro Q E hq;refine callType_codes (Q₁:=fun obj s₁=>obj=.ref s.heap.objs.size∧s₁={ s with heap:=s.heap.push { cls:=.type "dict", data:=.dict #[] } }) F.kt_called_dict (F.kt_typeCall_dict_1 _) F.entry_dict_init (kt_code_dict_new _ ⟨rfl,rfl⟩) ?_
  rintro obj s₁ ⟨rfl,rfl⟩
  have hnew:(s.heap.push { cls:=.type "dict", data:=.dict #[] }).DictOf (strKind prog w) s.heap.objs.size []:=Heap.DictOf.new s.heap;have h2':(s.heap.push { cls:=.type "dict", data:=.dict #[] }).get? a=some _:=Heap.get?_push_of_some _ h2;refine⟨hnew.typeIs,F.args_dict_init_2 _ _,?_⟩;unfold Builtin.«dict.__init__»;refine wpAny_bind ?_;unfold Builtin.Dict.selfAndRest;refine wpAny_bind (wpAny_notOrdered_dict hnew.typeIs ?_);show wpAny _ _ (pure (s.heap.objs.size,[Value.ref a])) _ _ _;refine wpAny_pure ?_;show wpAny _ _ (Builtin.Dict.updateFrom "dict.__init__" s.heap.objs.size (.ref a) [] .none) _ _ _;unfold Builtin.Dict.updateFrom;refine wpAny_bind (wpAny_typeOf (T := "list") ⟨_,h2',rfl⟩ ?_);rw[if_pos (by decide)];refine wpAny_bind (Kc h2' hh fun h' tk hk=>?_);rw[if_pos (show(none:Option Value).isNone=true from rfl)];refine wpAny_bind (wpAny_rule ?_);have hD:=hnew.keep hk;have h2'':=hk _ _ h2';refine wpAny_bind (wpAny_pyIter_list ⟨_,h2'',rfl,nn,rfl⟩ (wpAny_pure ⟨plainId_quiet nF _,?_⟩));have lt1:s.heap.objs.size < h'.objs.size:=(by obtain⟨o,_,_,e,_⟩:=hD;exact Heap.lt_size e)
  have lt2:a < s.heap.objs.size:=Heap.lt_size h2;have old:∀ b o,s.heap.get? b=some o→(h'.push { cls:=.type "list_iterator", data:=.fields #[Value.ref a,rawInt 0] }).get? b=some o:=fun b o e=>Heap.get?_push_of_some _ (hk _ _ (Heap.get?_push_of_some _ e));refine Ke (A:=A.in1) (I:=h'.objs.size) (l:=a) (D:=s.heap.objs.size) (vs:=vs) (kvs:=kvs) hh (Nat.ne_of_lt (Nat.lt_trans lt2 lt1)) (Nat.ne_of_lt lt1) (Nat.ne_of_gt lt2) hz g1 (bT _) (Heap.get?_none_of_le (Nat.le_of_lt lt1)) kvs.length 0 _ rfl (Nat.zero_le _)
   ⟨⟨_,cQ _ _ rfl,rfl,rfl⟩,⟨_,Heap.get?_push_of_some _ h2'',rfl,nn,rfl⟩⟩ old (hD.push _) fun h'' tk' hk'' hd''=>⟨rfl,hq _ _ ?_⟩
  exact yT (Kp.rfl' s) (Kp.mk' hk'') (bT _) (j4 G) hd'' (by rw[← g2.length];exact hz) g2
 |_=>exact trivial
theorem Km{A:Around}{s:Shared}{av:Addr→Prop}{v:Value}{d:PyData}(hh:A.handled=none)(hav:∀ b,av b→∃ o,s.heap.get? b=some o)(r:Rep prog w s.heap av v d) :
  Yd (fun Q E=>wpAny (model prog w) A (call (.builtin "dict.items") [v]) (fun x s₁=>wpAny (model prog w) A (call (.type "list") [x]) Q E s₁) E s) (fun v s' u=>Kp s s'∧bB prog w s s'.heap av v u) (eD d):=by
 cases d with
 |dict m =>
  refine Yd.ite2 (fun _=>trivial) fun ho=>?_;obtain⟨a,kvs,rfl,h1,h2,h3,h4,h5,h6⟩:=r.dict_inv ho;intro Q E hq;refine call_meetsIn F.slot_dict_items h2.typeIs F.entry_dict_items (F.args_dict_items_1 _) (meets_dict_items (strKind prog w) a h4) ⟨⟨kvs,h2⟩,?_⟩;obtain⟨o,es,ep,hd⟩:=h2;have hp:∀ b o,s.heap.get? b=some o→(s.heap.push { cls:=.type "dict_items", data:=.fields #[.ref a] }).get? b=some o:=fun b o e=>Heap.get?_push_of_some _ e;have fr:∀ {x:Addr},s.heap.objs.size < x→s.heap.get? x=none:=fun hx=>Heap.get?_none_of_le (Nat.le_of_lt hx);have hlen:m.length=kvs.length:=by simpa using congrArg List.length h5
  refine W.kdx_call (knd:=strKind prog w) (kvs:=kvs) (ep:=ep) hh ⟨_,cQ _ _ rfl,rfl,rfl⟩ ⟨o,es,hp _ _ hd.1,hd.2⟩ h3.1 fun h' tk acc c as hk hl' hlas hG hacc=>?_;have hk':∀ b o,s.heap.get? b=some o→h'.get? b=some o:=fun b o e=>hk _ _ (hp _ _ e);have hlt:s.heap.objs.size < (s.heap.push { cls:=.type "dict_items", data:=.fields #[.ref a] }).objs.size:=by rw[Heap.size_push];exact Nat.lt_succ_self _
  have hn:s.heap.get? (s.heap.push { cls:=.type "dict_items", data:=.fields #[.ref a] }).objs.size=none:=fr hlt;refine hq _ _ ⟨Kp.mk' hk',⟨_,rfl,hn,acc.toList,⟨c,by simpa using hl'⟩,by rw[hacc,List.length_map,List.length_map,hlas,hlen],by rw[hacc,List.length_map,hlas];exact h3.1,fun i v d e1 e2=>?_⟩⟩;rw[hacc,List.getElem?_map] at e1;obtain⟨ta,e1',rfl⟩:=Option.map_eq_some_iff.mp e1;rw[List.getElem?_map] at e2;obtain⟨p,e2',rfl⟩:=Option.map_eq_some_iff.mp e2;clear e1 e2;obtain⟨key,k,x,e3,e4,e5⟩:=hG.pairs i ta e1';obtain⟨t,rfl⟩:=Value.isStrOf_shape e4;have hp1:p.1=.str k:=by
   have:=congrArg (fun l=>l[i]?) h5;simp only[List.getElem?_map,e2',e3,Option.map_some] at this;exact Option.some.inj this
  have hgt:(s.heap.push { cls:=.type "dict_items", data:=.fields #[.ref a] }).objs.size < ta:=hG.above ta (List.mem_of_getElem? e1');have hta:s.heap.get? ta=none:=fr (Nat.lt_trans hlt hgt);have rx:Rep prog w h' (fun b=>av b∨b=(s.heap.push { cls:=.type "dict_items", data:=.fields #[.ref a] }).objs.size) x p.2:=((h6 i _ _ e3 e2').apart hn).keeps hk';refine .tuple (fun hx=>?_) ⟨0,by simpa using e5⟩ rfl (by rw[sizeLine_eq];exact Nat.le_of_ble_eq_true rfl) fun j v d f1 f2=>?_
  ·rcases hx with hx | hx
   ·obtain⟨o,e⟩:=hav _ hx;rw[hta] at e;exact ns e
   ·exact absurd hgt (by rw[hx];exact Nat.lt_irrefl _)
  ·match j,f1,f2 with
   |0,f1,f2=>obtain rfl:=si f1;obtain rfl:=si f2;rw[hp1];exact .str k t (h3.2 _ (List.mem_of_getElem? e3))
   |1,f1,f2=>obtain rfl:=si f1;obtain rfl:=si f2;exact rx
 |_=>exact trivial
theorem Kn:isSubtype (.type "tuple") (.type "set")=pure false:=by rw[isSubtype_type];kernel_rfl
theorem Ko:isSubtype (.type "tuple") (.type "frozenset")=pure false:=by rw[isSubtype_type];kernel_rfl
theorem Kq{A:Around}{s:Shared}{av:Addr→Prop}{v:Value}{d:PyData}(hh:A.handled=none)(r:Rep prog w s.heap av v d) :
  Yd (fun Q E=>wpAny (model prog w) A (call (.type "set") [v]) (fun x s₁=>wpAny (model prog w) A (call (.builtin "len") [x]) Q E s₁) E s) (fun v s' u=>Kp s s'∧bB prog w s s'.heap av v u) (dS d):=by
 have key:∀ {ss:List Str} {Q:Value→Shared→Prop} {E:Value→Shared→Prop} (_:ss.length < 64),(∀ v s',Kp s s'∧bB prog w s s'.heap av v (.fz (.int (b4 ss.reverse).length))→Q v s')→∀ (h':Heap) (tk:Nat),h'.SetOf (strKind prog w) s.heap.objs.size (fun k'=>(met ss ss.length).contains k') (b4 (met ss ss.length)).length →
   (∀ b o,s.heap.get? b=some o→h'.get? b=some o)→wpAny (model prog w) A (call (.builtin "len") [.ref s.heap.objs.size]) Q E { s with heap:=h',toks:=tk }:=by
  intro ss Q E hlt hq h' tk hS hk;obtain⟨o,es,ep,t,ho,hex,hd,hel,hmem,hb,hf,hn⟩:=hS;have hz:(es.size:Int) < 2 ^ 63:=by
   have:=rB (met ss ss.length);have:=yW ss ss.length;lia
  refine call_len_set ho hex hd hf hz (hq _ _ ⟨Kp.mk' hk,?_⟩);rw[hn];unfold met;rw[List.take_length];exact .int _ _
 cases d with
 |list m =>
  obtain⟨a,vs,rfl,h1,⟨nn,h2⟩,h3,h4,h5⟩:=r.list_inv;refine Yd.optBind fun ss hs=>Yd.ite fun hlt=>?_;obtain⟨ts,e1,rfl,e3⟩:=gA h3 h5 hs;intro Q E hq;refine yX (T := "list") (ss:=ss) hh h2 F.sub_list_set F.sub_list_frozenset rfl (by simp[e1]) (fun A' s' Q E e hq=>wpAny_pyIter_list ⟨_,e,rfl,_,rfl⟩ hq) (fun A' I hA' hne=>Walks.list hA' I a hne _) (fun h e=>⟨⟨_,cQ _ _ rfl,rfl,rfl⟩,⟨_,Heap.get?_push_of_some _ e,rfl,_,rfl⟩⟩) (fun i v e=>?_) (by unfold scanBound;exact vH hlt) (key hlt hq);exact yY e1 (by simpa using e)
 |tuple m =>
  obtain⟨a,vs,rfl,h1,⟨nn,h2⟩,h3,h4,h5⟩:=r.tuple_inv;refine Yd.optBind fun ss hs=>Yd.ite fun hlt=>?_;obtain⟨ts,e1,rfl,e3⟩:=gA h3 h5 hs;intro Q E hq;refine yX (T := "tuple") (ss:=ss) hh h2 Kn Ko rfl (by simp[e1]) (fun A' s' Q E e hq=>wpAny_pyIter_tuple ⟨_,e,rfl,_,rfl⟩ hq) (fun A' I hA' hne=>Walks.tuple hA' I a hne _) (fun h e=>⟨⟨_,cQ _ _ rfl,rfl,rfl⟩,⟨_,Heap.get?_push_of_some _ e,rfl,_,rfl⟩⟩) (fun i v e=>?_) (by unfold scanBound;exact vH hlt) (key hlt hq);exact yY e1 (by simpa using e)
 |_=>exact trivial
end
end Mine
namespace Mine
open PySem
section
variable {prog:Program} {w:World} {mg mb:Str→Option Value} {base:Heap} {n:Nat} {hd:Bool} {l:List Env} {sc:Scope} {σ:aA}
noncomputable def CA(prog:Program)(w:World)(mg:Str→Option Value)(l:List Env)(av:Addr→Prop)(s:Shared)(v:Value)(u:V):Prop:=b7 prog w mg l s.heap av v u∧∀ d,u≠.own d
structure KSound(prog:Program)(w:World)(mg mb:Str→Option Value)(base:Heap)(n:Nat)(C:Ctx):Prop where
 const:C.const=gR prog.main.body
 init:C.init=fun c=>(bF c prog.main.body).map (·.2)
 sub:C.sub=eW prog.main.body
 has:∀ f,C.has f=true→∃ a b sc,dL f prog.main.body=some (a,b,sc)
 call:∀ f us ad,mg f=some (.ref ad)→C.has f=true→∀ (A:Around) (l:List Env) (s:Shared) (av:Addr→Prop) (vs:List Value),Room n C.hd l A→Gnd prog w mg mb base l av s→fM (CA prog w mg l av) s vs us →
  ∀ {β:Type} {k:V→R β} {fin:R β} {Q:Value→Shared→Prop} {E:Value→Shared→Prop},Fin (C.call f us) k fin→QH prog w l s av k fin Q→EH prog w mg l s av fin E→wpAny (model prog w) A (call (.ref ad) vs) Q E s
theorem rC{M:Model}{A:Around}{f:Value}{env:Env}{es:List Expr}{pos:Pos}{Q:Args→Shared→Prop}{E:Value→Shared→Prop}{s:Shared}(hs:es.any bad=false)
  (h:wpAny M A (spliced (backTo pos (starEach es env))) (fun vs s'=>Q ⟨vs,[]⟩ s') E s):wpAny M A (evalArgs f true (backTo pos (starEach es env)) []) Q E s:=by
 cases es with
 |nil =>
  have e0:backTo pos (starEach [] env)=[]:=rfl;rw[e0] at h ⊢;unfold evalArgs;refine wpAny_bind (wpAny_bind (wpAny_mono h (fun vs s' h'=>?_) fun _ _ x=>x));refine wpAny_pure (wpAny_holding ?_);exact wpAny_bind (wpAny_pure (wpAny_pure h'))
 |cons e r =>
  rw[fK (Bool.or_eq_false_iff.mp hs).1] at h ⊢;exact Calls.evalArgs_plain h
theorem rD{env:Env}{pos:Pos}:∀ {es:List Expr},es.any bad=false→(backTo pos (starEach es env)).any (·.1)=false:=by
 intro v0
 induction v0 with
 |nil =>
  intro _;exact rfl
 |cons e es ih =>
  intro h;obtain⟨h1,h2⟩:=Bool.or_eq_false_iff.mp h;rw[fK h1];show(false||(backTo pos (starEach es env)).any (·.1))=false;rw[ih h2];rfl
theorem Kr{rec:Expr→R V}(hbad:∀ e,bad e=true→rec e=.no)(e:Expr)(h:bad e=true):iN rec sc σ e=.no:=by
 have h0:=h;unfold iN fW bI;unfold bad at h;generalize hv:vw e=v at h;cases v with
 |name x=>exact bft h
 |_=>exact hbad e h0
theorem Ks{av:Addr→Prop}{rec:Expr→R V}{e:Expr}(h:aH prog w mg mb base n hd l sc σ e (rec e)):qY prog w mg mb base n hd l sc σ av (CA prog w mg l av) e (iN rec sc σ e):=by
 intro A env s hA I β k fin Q E hf hq he;unfold iN at hf;refine ocs (fW sc σ e) (fun hx=>?_) fun x hx=>?_
 ·try rewrite[hx]
  rw[hx] at hf;exact h A env s av hA I hf (fun v s' u k r e=>hq v s' u k ⟨r.clear I.gnd.avlt,fun d hh=>by cases u<;>cases hh⟩ e) he
 ·try rewrite[hx]
  rw[hx] at hf;obtain⟨y,p,rfl,hl,e⟩:=yG hx;obtain⟨u,h1,h2⟩:=I.get _ _ hl e;exact gS I hl h1 (hq _ _ (.ex x) (K.rf l s) ⟨h2,fun d hh=>by cases hh⟩ hf.ok)
theorem Kt{C:Ctx}(hK:KSound prog w mg mb base n C){rec:Expr→R V}(hbad:∀ e,bad e=true→rec e=.no){f:Str}{as:List Expr}{p pos:Pos}(hg:isG sc f=true)(hns:as.any bad=false)(hh:C.has f=true)
  (h:∀ e∈as,aH prog w mg mb base n C.hd l sc σ e (rec e)):aH prog w mg mb base n C.hd l sc σ (.Call (.Name f p) as [] pos) (rb (evs (iN rec sc σ) as) fun vs=>C.call f vs):=by
 intro A env s av hA I β k fin Q E hf hq he;obtain⟨a,b,sc',hd⟩:=hK.has f hh;obtain⟨ad,o,pm,cd,doc,h1,h2,h3,h4⟩:=I.gnd.glo.fn f a b sc' hd;refine wpAny_Call_NameR (j0 I hg h1 (Calls.callWith_function (o:=o) (fd:=Calls.docDef f a b sc' pm cd doc) (rC hns (xY (C:=CA prog w mg l av) (Kr hbad) (fun _ _ _ _ k r=>⟨r.1.k I.gnd.fav k,r.2⟩) hA (fun e m=>Ks (h e m)) I hf.b (fun vs s₁ us k1 r e1=>?_) he))));exact⟨⟨(I.gnd.k k1).stay _ _ h2,h3⟩,hK.call f us ad h1 hh A l s₁ av vs hA (I.gnd.k k1) r ⟨e1,hf.2⟩ (hq.back k1) (he.back k1)⟩
theorem gV{M:Model}{A:Around}{fv:Value}(hf:(∃ id,fv=.builtin id)∨∃ T,fv=.type T){pos:Pos}{t:Sem Value}{Q:Value→Shared→Prop}{E:Value→Shared→Prop}{s:Shared}
  (h:wpAny M A t (fun v s₁=>wpAny M A (call fv [v]) Q E s₁) E s):wpAny M A (callWith pos fv [] [(false,t)] []) Q E s:=by
 rcases hf with ⟨id,rfl⟩ | ⟨T,rfl⟩
 ·exact PySem.callWith_builtin1 h
 ·exact PySem.callWith_type1 h
theorem Ku{f:Str}{fv:Value}(hv:iQ f=some fv){A:Around}{s:Shared}{av:Addr→Prop}{v:Value}{d:PyData}(hh:pZ f=true→A.handled=none)(hg:A.guards=some [])(hu:A.units+70 < cLine)(G:Gnd prog w mg mb base l av s)
  (r:Rep prog w s.heap av v d):YV prog w A s av (call fv [v]) (pS f d) :=
 Yd.ite2 (fun e=>by subst e;obtain rfl:=si hv;exact Jv r) fun _ =>
 Yd.ite2 (fun e=>by subst e;obtain rfl:=si hv;exact Jx (hh rfl) r) fun _ =>
 Yd.ite2 (fun e=>by subst e;obtain rfl:=si hv;exact J0 (hh rfl) r) fun _ =>
 Yd.ite2 (fun e=>by subst e;obtain rfl:=si hv;exact J1 (hh rfl) r) fun _ =>
 Yd.ite2 (fun e=>by subst e;obtain rfl:=si hv;exact J2 G.avlt r) fun _ =>
 Yd.ite2 (fun e=>by subst e;obtain rfl:=si hv;exact Kl (hh rfl) G r) fun _ =>
 Yd.ite2 (fun e=>by subst e;obtain rfl:=si hv;exact J4 r) fun _ =>
 Yd.ite2 (fun e=>by subst e;obtain rfl:=si hv;exact J5 r) fun _ =>
 Yd.ite2 (fun e=>by subst e;obtain rfl:=si hv;exact J6 r) fun _=>trivial
theorem Kv{f:Str}(h:iI f=true):∃ fv,iQ f=some fv∧((∃ id,fv=.builtin id)∨∃ T,fv=.type T):=by
 unfold iI at h;simp only[Bool.or_eq_true,beq_iff_eq] at h;rcases h with (((((((h | h) | h) | h) | h) | h) | h) | h) | h<;>subst h
 all_goals first
  |exact⟨.builtin _,rfl,.inl ⟨_,rfl⟩⟩
  |exact⟨.type _,rfl,.inr ⟨_,rfl⟩⟩
theorem Kw{rec:Expr→R V}(hbad:∀ e,bad e=true→rec e=.no){f:Str}{a:Expr}{p pos:Pos}(hg:isG sc f=true)(hb:iI f=true)(h:aH prog w mg mb base n hd l sc σ a (rec a)) :
  aH prog w mg mb base n hd l sc σ (.Call (.Name f p) [a] [] pos) (fX rec hd f a):=by
 intro A env s av hA I β k fin Q E hf hq he;obtain⟨fv,hv,hfv⟩:=Kv hb;unfold fX at hf;refine bcs (hd&&pZ f) (fun hn=>?_) fun hn=>?_
 ·try rewrite[hn]
  rw[hn] at hf;have hf:Fin (rb (rec a) fun v=>ofP (pS f (dOf v))) k fin:=hf;refine PySem.Call_name1 (fK (eY (hbad a) hf.b.ne)) (dW I hg hv (gV hfv (h A env s av hA I hf.b (fun v s₁ u k1 r h1=>?_) he)));exact Yd.fin (Ku hv (fun hne=>hA.handled (by rw[hne,Bool.and_true] at hn;exact hn)) hA.guards (ax0 hA.units) (I.gnd.k k1) (r.rep I.gnd.avlt)) ⟨h1,hf.2⟩ fun v s' u r e=>hq.step k1 r e
 ·try rewrite[hn]
  rw[hn] at hf;exact hf.no.elim
theorem iT{M:Model}{A:Around}{id:String}{env:Env}{as:List Expr}{pos:Pos}{first:List Value}{Q:Value→Shared→Prop}{E:Value→Shared→Prop}{s:Shared}(hs:as.any bad=false)
  (h:wpAny M A (spliced (backTo pos (starEach as env))) (fun vs s₁=>wpAny M A (call (.builtin id) (first++vs)) Q E s₁) E s):wpAny M A (callWith pos (.builtin id) first (backTo pos (starEach as env)) []) Q E s :=
 Calls.callWith_builtin (rD hs) (rC hs h)
theorem rE{u:V}{d:PyData}(h:gQ u=.ok d):u=.fz d:=by
 cases u with
 |fz=>obtain rfl:=pi h;rfl
 |_=>exact pno h
noncomputable def RL(prog:Program)(w:World)(h:Heap)(av:Addr→Prop)(vs:List Value)(ds:List PyData):Prop :=
 vs.length=ds.length∧∀ (i:Nat) (v:Value) (d:PyData),vs[i]?=some v→ds[i]?=some d→Rep prog w h av v d
theorem RL.cons{h:Heap}{av:Addr→Prop}{vs:List Value}{d:PyData}{ds:List PyData}(r:RL prog w h av vs (d::ds)):∃ v vs',vs=v::vs'∧Rep prog w h av v d∧RL prog w h av vs' ds:=by
 cases vs with
 |nil=>cases r.1
 |cons v vs=>exact⟨v,vs,rfl,r.2 0 v d rfl rfl,Nat.succ.inj r.1,fun i v d e1 e2=>r.2 (i+1) v d e1 e2⟩
theorem RL.nil{h:Heap}{av:Addr→Prop}{vs:List Value}(r:RL prog w h av vs []):vs=[]:=List.length_eq_zero_iff.mp r.1
theorem Kx{A:Around}{s:Shared}{av:Addr→Prop}{vs:List Value}{us:List V}(hh:A.handled=none)(r:RL prog w s.heap av vs (b6 us)):YV prog w A s av (call (.builtin "min") vs) (mI us):=by
 cases us with
 |nil=>exact trivial
 |cons a us =>
  cases us with
  |nil=>exact trivial
  |cons b us =>
   cases us with
   |cons=>exact trivial
   |nil =>
    obtain⟨v1,vs,rfl,r1,r⟩:=r.cons;obtain⟨v2,vs,rfl,r2,r⟩:=r.cons;obtain rfl:=r.nil;refine Yd.pureBind fun x hx=>Yd.pureBind fun y hy=>?_;cases rE hx;cases rE hy;cases x with
    |int x =>
     cases y with
     |int y =>
      obtain⟨t,rfl⟩:=(show Rep prog w s.heap av v1 (.int x) from r1).int_inv;obtain⟨u,rfl⟩:=(show Rep prog w s.heap av v2 (.int y) from r2).int_inv;refine fun Q E hq=>min_two_ints hh fun h' tk hk=>hq _ _ ⟨Kp.mk' hk,?_⟩;show Rep prog w _ av _ (.int (if y < x then y else x))
      split<;>exact .int _ _
     |_=>exact trivial
    |_=>exact trivial
theorem Ky{rec:Expr→R V}(hbad:∀ e,bad e=true→rec e=.no){as:List Expr}{p pos:Pos}(hg:isG sc "min" = true)(hns:as.any bad=false)(hh:hd=false)
  (h:∀ e∈as,aH prog w mg mb base n hd l sc σ e (rec e)):aH prog w mg mb base n hd l sc σ (.Call (.Name "min" p) as [] pos) (rb (evs rec as) fun vs=>ofP (mI vs)):=by
 intro A env s av hA I β k fin Q E hf hq he;refine wpAny_Call_NameR (dW I hg rfl (iT hns (iS hbad hA h I hf.b (fun vs s₁ us k1 r1 r2 e1=>?_) he)));exact Yd.fin (Kx (hA.handled hh) ⟨r1,r2⟩) ⟨e1,hf.2⟩ fun v s' u r e=>hq.step k1 r e
theorem Kz{rec:Expr→R V}{a:Expr}{t:Str}{p p' pos:Pos}(hbad:∀ e,bad e=true→rec e=.no)(hg:isG sc "isinstance" = true)
  (ht:isG sc t=true) (h:aH prog w mg mb base n hd l sc σ a (rec a)):aH prog w mg mb base n hd l sc σ (.Call (.Name "isinstance" p) [a,.Name t p'] [] pos) (rb (rec a) fun v=>ofP (mJ t (dOf v))):=by
 intro A env s av hA I β k fin Q E hf hq he;have hb:=eY (hbad a) hf.b.ne;refine wpAny_Call_NameR (dW I hg rfl (iT (by show(bad a||false)=false;rw[hb];rfl) ?_));refine wpAny_items_cons (h A env s av hA I hf.b (fun v s₁ u k1 r h1=>wpAny_items_cons ?_ rfl) he) (fK hb);obtain⟨h1',h2,h3,h4,h5,h6⟩:=Jq (prog:=prog) (w:=w) (A:=A) (r.rep I.gnd.avlt);have fin:∀ {T:String} {b},iQ t=some (.type T)→gT prog w A s₁ v T b→Yd (fun Q E=>wpAny (model prog w) A (eval (.Name t p') env) (fun c s₂=>wpAny (model prog w) A (call (.builtin "isinstance") [v,c]) Q E s₂) E s₁) (fun v s' u=>Kp s₁ s'∧bB prog w s₁ s'.heap av v u) (fz (.bool b)) :=
  fun hT hc Q E hq=>dW (I.k k1) ht hT (hc _ _ fun tk=>hq _ _ ⟨Kp.tok' s₁ tk,.bool _⟩)
 have key:Yd (fun Q E=>wpAny (model prog w) A (eval (.Name t p') env) (fun c s₂=>wpAny (model prog w) A (call (.builtin "isinstance") [v,c]) Q E s₂) E s₁) (fun v s' u=>Kp s₁ s'∧bB prog w s₁ s'.heap av v u) (mJ t (dOf u)) :=
  Yd.ite2 (fun e=>fin (e▸rfl) h1') fun _=>Yd.ite2 (fun e=>fin (e▸rfl) h2) fun _=>Yd.ite2 (fun e=>fin (e▸rfl) h3) fun _=>Yd.ite2 (fun e=>fin (e▸rfl) h4) fun _=>Yd.ite2 (fun e=>fin (e▸rfl) h5) fun _=>Yd.ite2 (fun e=>fin (e▸rfl) h6) fun _=>trivial
 exact wpAny_mono (key.fin (Q:=Q) ⟨h1,hf.2⟩ fun v s' u r e=>hq.step k1 r e) (fun c s₂ h₂=>wpAny_items_nil h₂) fun _ _ x=>x
theorem K0{rec:Expr→R V}{as:List Expr}{p p' pos pos':Pos}(hbad:∀ e,bad e=true→rec e=.no)(hg:isG sc "len" = true)(hh:hd=false)(h:∀ e∈as,aH prog w mg mb base n hd l sc σ e (rec e)) :
  aH prog w mg mb base n hd l sc σ (.Call (.Name "len" p) [.Call (.Name "set" p') as [] pos'] [] pos) (wL rec sc as):=by
 intro A env s av hA I β k fin Q E hf hq he;cases as with
 |nil=>exact hf.no.elim
 |cons x r =>
  cases r with
  |cons=>exact hf.no.elim
  |nil =>
   obtain⟨hc,hf⟩:=Fin.ite hf;refine PySem.Call_name1 rfl (dW I hg rfl (gV (.inl ⟨_,rfl⟩) (PySem.Call_name1 (fK (eY (hbad x) hf.b.ne)) (dW I hc rfl (gV (.inr ⟨_,rfl⟩) (h x List.mem_cons_self A env s av hA I hf.b (fun v s₁ u k1 r h1=>?_) he))))));exact Yd.fin (Kq (hA.handled hh) (r.rep I.gnd.avlt)) ⟨h1,hf.2⟩ fun v s' u r e=>hq.step k1 r e
end
end Mine
namespace Mine
open PySem PyProof.Rows
section
variable {prog:Program} {w:World}
theorem yZ{m:Str}{A:Around}{s:Shared}{av:Addr→Prop}{o:Value}{vs:List Value}{l ds:List PyData}(hm:m = "count" ∨ m = "index")(ro:Rep prog w s.heap av o (.list l))(r:RL prog w s.heap av vs ds) :
  YV prog w A s av (call (.builtin (if m = "count" then "list.count" else "list.index")) (o::vs)) (wH m l ds):=by
 cases ds with
 |nil=>exact trivial
 |cons d ds =>
  obtain⟨v,vs,rfl,rd,r⟩:=r.cons;cases ds with
  |cons=>exact trivial
  |nil =>
   obtain rfl:=List.length_eq_zero_iff.mp r.1;cases d with
   |bool k =>
    obtain rfl:=rd.bool_inv;show YV prog w A s av _ ((ofO (bools? l)).bind fun bs=>if m = "count" then fz (.int (bs.countP (·==k))) else (ofO (bs.findIdx? (·==k))).bind fun j=>if j < aX then fz (.int j) else .no);refine ocs (bools? l) (fun hb=>?_) fun bs hb=>?_
    ·rw[hb];exact trivial
    ·rw[hb];obtain⟨a,vs,rfl,h1,⟨n,e⟩,h3,h4,h5⟩:=ro.list_inv;obtain rfl:=yP h3 h5 hb;have he:∀ y,y∈(bs.map Value.bool).toArray→SeqAt.EqAt A.in1 s y (.bool k) (isBoolOf k y):=fun y hy=>by
      obtain⟨b,_,rfl⟩:=List.mem_map.mp (List.mem_toArray.mp hy);exact SeqAt.EqAt.bool_bool b k
     have hc:(isBoolOf k∘Value.bool)=(·==k):=rfl;show YV prog w A s av _ (if m = "count" then fz (.int (bs.countP (·==k))) else (ofO (bs.findIdx? (·==k))).bind fun j=>if j < aX then fz (.int j) else .no)
     by_cases hcm:m = "count"
     ·rw[if_pos hcm,if_pos hcm];intro Q E hq;refine call_meets PySem.F.slot_list_count ⟨_,e,rfl⟩ PySem.F.entry_list_count (PySem.F.args_list_count_2 _ _) (SeqAt.list_countAt a (bs.map Value.bool).toArray n none #[] (.bool k) (isBoolOf k)) ⟨e,he,?_⟩;rw[show(bs.map Value.bool).toArray.toList=bs.map Value.bool from rfl,List.countP_map,hc];exact hq _ _ ⟨Kp.tok' s _,.int _ _⟩
     ·rw[if_neg hcm,if_neg hcm];refine ocs (bs.findIdx? (·==k)) (fun hj=>?_) fun j hj=>?_
      ·rw[hj];exact trivial
      ·rw[hj];refine Yd.ite fun hz Q E hq=>?_;obtain⟨j1,j2,j3⟩:=List.findIdx?_eq_some_iff_getElem.mp hj;refine call_meets PySem.F.slot_list_index ⟨_,e,rfl⟩ PySem.F.entry_list_index (PySem.F.args_list_index_2 _ _) (SeqAt.list_indexAt a (bs.map Value.bool).toArray n none #[] (.bool k) (isBoolOf k) j (by simpa using j1) (Int.lt_trans (Int.ofNat_lt.mpr hz) (by decide)) ?_ fun i hi hlt=>?_) ⟨e,he,?_⟩
       ·simp only[List.getElem_toArray,List.getElem_map];exact j2
       ·simp only[List.getElem_toArray,List.getElem_map];exact Bool.eq_false_iff.mpr (j3 i hlt)
       ·exact hq _ _ ⟨Kp.tok' s _,.int _ _⟩
   |_=>exact trivial
end
end Mine
namespace Mine
open PySem
section
variable {prog:Program} {w:World} {mg mb:Str→Option Value} {base:Heap} {n:Nat} {hd:Bool} {l:List Env} {sc:Scope} {σ:aA}
theorem Rep.getD{h:Heap}{av:Addr→Prop}{ds:List (PyData×PyData)}{kvs:List (Str×Value)}{x:Str}{dv:Value}{dd:PyData}(h5:ds.map (·.1)=kvs.map (fun kv=>PyData.str kv.1))
  (h6:∀ (i:Nat) (kv:Str×Value) (d:PyData×PyData),kvs[i]?=some kv→ds[i]?=some d→Rep prog w h av kv.2 d.2) (hd:Rep prog w h av dv dd):Rep prog w h av ((valueAt kvs x).getD dv) ((cC ds x).getD dd):=by
 rcases nA x h5 with ⟨e1,e2⟩ | ⟨i,v,d,e1,e2,e3,e4⟩
 ·rw[e1,e2];exact hd
 ·rw[e1,e2];exact h6 i _ _ e3 e4
theorem K2{A:Around}{s:Shared}{av:Addr→Prop}{o:Value}{l:List (PyData×PyData)}{vs:List Value}{k:PyData}{ds:List PyData}(ro:Rep prog w s.heap av o (.dict l))(r:RL prog w s.heap av vs (k::ds)) :
  YV prog w A s av (call (.builtin "dict.get") (o::vs)) (wE l ds k):=by
 obtain⟨v,vs,rfl,rk,r1⟩:=r.cons;clear r;cases k with
 |str k =>
  obtain⟨t,rfl,hk⟩:=rk.str_inv;refine Yd.ite2 (fun _=>trivial) fun ho=>?_;obtain⟨a,kvs,rfl,_,h2,h3,h4,h5,h6⟩:=ro.dict_inv ho;cases ds with
  |nil =>
   obtain rfl:=r1.nil;exact fun Q E hq=>call_meetsIn F.slot_dict_get h2.typeIs F.entry_dict_get (F.args_dict_get_2 _ _) (meets_dict_get (strKind prog w) a (eF k t) h4) ⟨_,h2.mapOf,hq _ _ ⟨Kp.tok' s _,Rep.getD h5 h6 .none⟩⟩
  |cons d ds =>
   obtain⟨u,vs,rfl,ru,r2⟩:=r1.cons;cases ds with
   |cons=>exact trivial
   |nil =>
    obtain rfl:=r2.nil;exact fun Q E hq=>call_meetsIn F.slot_dict_get h2.typeIs F.entry_dict_get (F.args_dict_get_3 _ _ _) (meets_dict_get_default (strKind prog w) a (eF k t) h4 u) ⟨_,h2.mapOf,hq _ _ ⟨Kp.tok' s _,Rep.getD h5 h6 ru⟩⟩
 |_=>exact trivial
theorem y0{ss:List Str}{ts:List Tok}(e:ts.length=ss.length):strValues (ss.zip ts)=List.zipWith (fun x t=>Value.str x t) ss ts∧(ss.zip ts).map (·.1)=ss :=
 ⟨by unfold strValues;rw[List.zip,List.map_zipWith],List.map_fst_zip (Nat.le_of_eq e.symm)⟩
theorem K4{A:Around}{s:Shared}{x:Str}{tt:Tok}{Q:Value→Shared→Prop}{E:Value→Shared→Prop}{D:Addr}{l:List (Str×Tok)}{texts:List Str}(hl:∃ o n,s.heap.get? D=some o∧o.cls=.type "tuple" ∧ o.data=.seq (strValues l).toArray n)(ht:l.map (·.1)=texts)(hok:JoinOk x texts=true)
  (hq:∀ t' k,Q (.str (Txt.join x texts) t') { s with toks:=k }):wpAny (model prog w) A (call (.builtin "str.join") [.str x tt,.ref D]) Q E s:=by
 subst ht;unfold JoinOk at hok;rw[Bool.not_eq_true'] at hok;exact call_meets F.slot_str_join (typeIs_str _ _ _) F.entry_str_join (F.args_str_join_2 _ _) (meets_str_join_tuple x tt D l hok) ⟨hl,post_join l ⟨joinFit_length hok,hq⟩⟩
theorem K5{A:Around}{s:Shared}{av:Addr→Prop}{o:Value}{x:Str}{vs:List Value}{k:PyData}{ds:List PyData}(ro:Rep prog w s.heap av o (.str x))(r:RL prog w s.heap av vs (k::ds)) :
  YV prog w A s av (call (.builtin "str.join") (o::vs)) (wG x ds k):=by
 obtain⟨t,rfl,hx⟩:=ro.str_inv;obtain⟨v,vs,rfl,rk,r1⟩:=r.cons;clear r;cases ds with
 |cons=>exact trivial
 |nil =>
  obtain rfl:=r1.nil;cases k with
  |list l =>
   obtain⟨a,vl,rfl,h1,h2,h3,h4,h5⟩:=rk.list_inv;refine Yd.optBind fun ss hs=>Yd.ite fun hok=>?_;obtain⟨ts,e1,rfl,e3⟩:=gA h3 h5 hs;obtain⟨z1,z2⟩:=y0 e1;exact fun Q E hq=>SC.join (l:=ss.zip ts) (by rw[z1];exact h2.isList) z2 hok fun t' k=>hq _ _ ⟨Kp.tok' s _,.str _ _ (joinOk_length hok)⟩
  |tuple l =>
   obtain⟨a,vl,rfl,h1,⟨nn,h2⟩,h3,h4,h5⟩:=rk.tuple_inv;refine Yd.optBind fun ss hs=>Yd.ite fun hok=>?_;obtain⟨ts,e1,rfl,e3⟩:=gA h3 h5 hs;obtain⟨z1,z2⟩:=y0 e1;exact fun Q E hq=>K4 (l:=ss.zip ts) (by rw[z1];exact⟨_,nn,h2,rfl,rfl⟩) z2 hok fun t' k=>hq _ _ ⟨Kp.tok' s _,.str _ _ (joinOk_length hok)⟩
  |_=>exact trivial
theorem y5{Kd:Type}[DecidableEq Kd]{knd:KeyKind prog w Kd}{s:Shared}{a:Addr}{kvs:List (Kd×Value)}(h2:s.heap.DictOf knd a kvs):∀ b,Value.ref a=.ref b→∃ ob,s.heap.get? b=some ob∧ob.dict=none:=by
 intro b hb;cases hb;obtain⟨ob,es,ep,e,c,_⟩:=h2;exact⟨ob,e,c.2.1⟩
theorem K6{m:Str}{od:PyData}(hm:mOk m od=true){s:Shared}{av:Addr→Prop}{o:Value}(ro:Rep prog w s.heap av o od):∃ T id,PlainAttrs T∧Slot T m id∧typeOf (.builtin id)=pure (.type "method_descriptor") ∧
  s.TypeIs o T∧(∀ a,o=.ref a→∃ ob,s.heap.get? a=some ob∧ob.dict=none) ∧
  ∀ (A:Around) (s':Shared) (vs:List Value) (ds:List PyData),Rep prog w s'.heap av o od→RL prog w s'.heap av vs ds→YV prog w A s' av (call (.builtin id) (o::vs)) (l8 m od ds):=by
 cases od with
 |list l =>
  obtain⟨a,vs,rfl,h1,⟨n,e⟩,_⟩:=ro.list_inv;have hm':m = "count" ∨ m = "index" := (Bool.or_eq_true _ _▸hm).imp of_decide_eq_true of_decide_eq_true
  by_cases hc:m = "count"
  ·subst hc;exact⟨"list", "list.count", F.plainAttrs_list,F.slot_list_count,by kernel_rfl,⟨_,e,rfl⟩,fun b hb=>by cases hb;exact⟨_,e,rfl⟩,fun A s' vs ds ro r=>yZ hm' ro r⟩
  ·obtain rfl:=hm'.resolve_left hc;exact⟨"list", "list.index", F.plainAttrs_list,F.slot_list_index,by kernel_rfl,⟨_,e,rfl⟩,fun b hb=>by cases hb;exact⟨_,e,rfl⟩,fun A s' vs ds ro r=>yZ hm' ro r⟩
 |dict l =>
  obtain rfl:=of_decide_eq_true hm;have hz:∀ A s' vs ds,Rep prog w s'.heap av o (.dict l)→RL prog w s'.heap av vs ds→YV prog w A s' av (call (.builtin "dict.get") (o::vs)) (l8 "get" (.dict l) ds):=fun A s' vs ds ro r=>by
   cases ds with
   |nil=>exact trivial
   |cons k ds=>exact K2 ro r
  rcases ro.dict_or with ⟨a,kvs,rfl,_,h2,_⟩ | ⟨a,_,_,_,rfl,_,h2,_⟩<;>exact⟨"dict", "dict.get", F.plainAttrs_dict,F.slot_dict_get,by kernel_rfl,h2.typeIs,y5 h2,hz⟩
 |str x =>
  obtain rfl:=of_decide_eq_true hm;obtain⟨t,rfl,_⟩:=ro.str_inv;refine⟨"str", "str.join", F.plainAttrs_str,F.slot_str_join,by kernel_rfl,rfl,fun a ha=>by (cases ha),fun A s' vs ds ro r=>?_⟩;cases ds with
  |nil=>exact trivial
  |cons k ds=>exact K5 ro r
 |_=>exact bft hm
theorem y6{o:Expr}(h:mK o=true)(name:Str)(env:Env):attributeBase o name env (eval o env)=eval o env:=by
 cases o with
 |Call f as kws q =>
  cases f with
  |Name=>exact bft h
  |_=>rfl
 |_=>rfl
theorem rF{as:List Expr}(hs:as.any bad=false)(hl:as.length≤3)(pos:Pos)(env:Env):((backTo pos (starEach as env)).all (fun x=>!x.1)&&(backToKw pos (keywordEach [] env)).all (fun x=>x.1.isSome)
   && decide (as.length+([]:List Keyword).length+(if ([]:List Keyword).isEmpty then 0 else 1) < 30))=true:=by
 have h1:=rD (env:=env) (pos:=pos) hs;have h2:(backTo pos (starEach as env)).all (fun x=>!x.1)=true:=by
  rw[List.all_eq_true];intro x hx;have:=List.any_eq_false.mp h1 x hx;simpa using this
 rw[h2];have:(backToKw pos (keywordEach [] env)).all (fun x=>x.1.isSome)=true:=rfl;rw[this];simp;exact Dy hl
theorem K7{rec:Expr→R V}(hbad:∀ e,bad e=true→rec e=.no){o:Expr}{m:Str}{as:List Expr}{ap cp:Pos}(ho:aH prog w mg mb base n hd l sc σ o (rec o))
  (h:∀ e∈as,aH prog w mg mb base n hd l sc σ e (rec e)):aH prog w mg mb base n hd l sc σ (.Call (.Attribute o m ap) as [] cp) (jT rec o m ap as cp):=by
 intro A env s av hA I β k fin Q E hf hq he;unfold jT at hf
 by_cases hc:m = "items" ∨ mK o=false∨(ap.endLine==cp.line)=false∨as.any bad=true∨3 < as.length
 ·rw[if_pos hc] at hf;exact hf.no.elim
 rw[if_neg hc] at hf;simp only[not_or,Bool.not_eq_true,Bool.not_eq_false,Nat.not_lt] at hc;obtain⟨_,c2,c3,c4,c5⟩:=hc;refine wpAny_Call_method_lateS (y6 c2 m env) (rF c4 c5 cp env) c3 (ho A env s av hA I hf.b (fun ov s₁ u k1 r h1=>?_) he);obtain⟨hm,hf1⟩:=Fin.ite ⟨h1,hf.2⟩;have ro:=r.rep I.gnd.avlt;obtain⟨T,id,t1,t2,t3,q1,q2,t5⟩:=K6 (prog:=prog) (w:=w) hm ro;refine⟨T,id,t1,t2,t3,q1,q2,iT c4 (iS hbad hA h (I.k k1) hf1.b (fun vs s₂ us k2 r1 r2 e2=>?_) (he.back k1))⟩;exact Yd.fin (t5 A s₂ vs _ (ro.k I.gnd.fav k2) ⟨r1,r2⟩) ⟨e2,hf.2⟩ fun v s' u r e=>hq.step (k1.tr k2) r e
theorem K8{rec:Expr→R V}{o:Expr}{as:List Expr}{p pos ap cp:Pos}(hg:isG sc "list" = true)(hh:hd=false)(h:aH prog w mg mb base n hd l sc σ o (rec o)) :
  aH prog w mg mb base n hd l sc σ (.Call (.Name "list" p) [.Call (.Attribute o "items" ap) as [] cp] [] pos) (wM rec o ap cp as):=by
 intro A env s av hA I β k fin Q E hf hq he;cases as with
 |cons=>exact hf.no.elim
 |nil =>
  obtain⟨hc,hf⟩:=Fin.ite hf;refine PySem.Call_name1 rfl (dW I hg rfl (gV (.inr ⟨_,rfl⟩) (wpAny_Call_method_lateS (y6 hc.1 "items" env) (rF rfl (Nat.zero_le _) cp env) hc.2 (h A env s av hA I hf.b (fun ov s₁ u k1 r h1=>?_) he))));have ro:=r.rep I.gnd.avlt;generalize dOf u=d at ro h1;cases d with
  |dict l =>
   obtain⟨a,kvs,rfl,_,h2,_⟩:=ro.dict_inv fun ho=>(Fin.no (k:=fun u=>k u) (fin:=fin) ⟨by rw[← h1,show eD (.dict l)=.no from if_pos ho];rfl,hf.2⟩).elim;exact⟨"dict", "dict.items", F.plainAttrs_dict,F.slot_dict_items,by kernel_rfl,h2.typeIs,y5 h2,iT rfl (wpAny_items_nil (Yd.fin (Km (hA.handled hh) (I.gnd.k k1).avlt ro) ⟨h1,hf.2⟩ fun v s' u r e=>hq.step k1 r e))⟩
  |_=>exact(Fin.no ⟨h1,hf.2⟩).elim
theorem K9{rec:Expr→R V}(hbad:∀ e,bad e=true→rec e=.no){f:Str}{a:Expr}{p pos:Pos}(hg:isG sc f=true)(hb:iI f=true)(h:aH prog w mg mb base n hd l sc σ a (rec a))
  (hsub:∀ g as kws q,a=.Call g as kws q→(∀ x∈as,aH prog w mg mb base n hd l sc σ x (rec x))∧∀ o m ap,g=.Attribute o m ap→aH prog w mg mb base n hd l sc σ o (rec o)) :
  aH prog w mg mb base n hd l sc σ (.Call (.Name f p) [a] [] pos) (qA rec hd sc f a):=by
 have B:=Kw (p:=p) (pos:=pos) hbad hg hb h;unfold qA;cases hv:gP a with
 |some c =>
  obtain⟨g,as,kws,cp⟩:=c;have ea:a=.Call g as kws cp:=qR hv;obtain⟨s1,s2⟩:=hsub g as kws cp ea;show aH prog w mg mb base n hd l sc σ _ (wP rec hd sc f a as kws cp (vw g));cases hw:vw g with
  |name g' =>
   obtain⟨gp,eg⟩:=cX hw;intro A env s av hA I β k fin Q E hf hq he;replace hf:Fin (if g' = "set" then wN rec hd sc f as kws else fX rec hd f a) k fin:=hf
   by_cases e:g' = "set"
   ·rw[if_pos e] at hf;obtain⟨c,hf1⟩:=Fin.ite hf;clear hf;cases kws with
    |cons=>exact hf1.no.elim
    |nil =>
     obtain⟨rfl,c2⟩:=c;subst e eg ea;exact K0 hbad hg c2 s1 A env s av hA I hf1 hq he
   ·rw[if_neg e] at hf;exact B A env s av hA I hf hq he
  |attr o m ap =>
   have eg:g=_:=cX hw;intro A env s av hA I β k fin Q E hf hq he;replace hf:Fin (if m = "items" then wO rec hd f o ap cp as kws else fX rec hd f a) k fin:=hf
   by_cases e:m = "items"
   ·rw[if_pos e] at hf;obtain⟨c,hf1⟩:=Fin.ite hf;clear hf;cases kws with
    |cons=>exact hf1.no.elim
    |nil =>
     obtain⟨rfl,c2⟩:=c;subst e eg ea;exact K8 hg c2 (s2 o _ ap rfl) A env s av hA I hf1 hq he
   ·rw[if_neg e] at hf;exact B A env s av hA I hf hq he
  |_=>exact B
 |none=>exact B
theorem P.bindI{α β:Type}{p:P α}{f:α→P β}{b:β}(h:p.bind f=.ok b):∃ a,p=.ok a∧f a=.ok b:=by
 cases p with
 |no=>exact pno h
 |ok a=>exact⟨a,rfl,h⟩
theorem La{C:Ctx}(hK:KSound prog w mg mb base n C){a:Expr}{x:X}{t:Str}{p p' pos:Pos}(hg:isG sc "isinstance" = true)(ht:isG sc t=true)(hx:fW sc σ a=some x) :
  aH prog w mg mb base n hd l sc σ (.Call (.Name "isinstance" p) [a,.Name t p'] [] pos) (ofP (isX C x.cls t)):=by
 intro A env s av hA I β k fin Q E hf hq he;obtain⟨u,e0,e2⟩:=hf.p;obtain⟨y,py,rfl,hl,hs⟩:=yG hx;obtain⟨b,h1,e1⟩:=P.bindI e0;have h1:eW prog.main.body x.cls t=some b:=by rw[← hK.sub];cases hsb:C.sub x.cls t with
  |none=>rw[hsb] at h1;exact pno h1
  |some b'=>rw[hsb] at h1;obtain rfl:=pi h1;rfl
 unfold eW at h1
 by_cases hc:(((bF t prog.main.body).isSome||t == "ValueError")&&(bF x.cls prog.main.body).isSome)=true
 case neg=>rw[if_neg hc] at h1;exact ns h1
 rw[if_pos hc] at h1;obtain⟨hc1,hc2⟩:=Bool.and_eq_true_iff.mp hc;obtain⟨pc,hpc⟩:=Option.isSome_iff_exists.mp hc2;obtain⟨v,hva,e,rfl,na,ob,vs,Ca,g1,g2,g3,g4⟩:=I.get y (.ex x) hl hs;obtain⟨C',bm,c1,c2,c3⟩:=I.gnd.glo.cls x.cls pc hpc;rw[g4] at c1;obtain rfl:=Value.ref.inj (si c1);refine wpAny_Call_NameR (dW I hg rfl (iT rfl ?_));refine wpAny_items_cons (gS I hl hva (wpAny_items_cons ?_ rfl)) rfl
 by_cases hv:t = "ValueError"
 ·rw[if_pos hv] at e1
  by_cases hb:b=true
  case neg=>rw[if_neg hb] at e1;exact pno e1
  rw[if_pos hb] at e1;obtain rfl:=pi e1;subst hv;refine dW I ht rfl (wpAny_items_nil (c2.isv A s e ob E Q I.gnd.stay g1 g3 fun tk=>?_));exact hq _ _ (.fz (.bool true)) (K.of ⟨s.heap,tk,rfl,fun _ _ e=>e⟩) (.bool _) e2
 ·rw[if_neg hv] at e1;obtain rfl:=pi e1;have hc1:(bF t prog.main.body).isSome=true:=by
   rcases Bool.or_eq_true _ _▸hc1 with h | h
   ·exact h
   ·exact absurd (eq_of_beq h) hv
  obtain⟨pd,hpd⟩:=Option.isSome_iff_exists.mp hc1;obtain⟨D,bm',d1,d2,d3⟩:=I.gnd.glo.cls t pd hpd;refine j0 I ht d1 (wpAny_items_nil (c2.isi A s e ob D bm' b E Q I.gnd.stay g1 g3 d2.obj ((c3 t pd D hpd d1).trans (si h1)) fun tk=>?_));exact hq _ _ (.fz (.bool b)) (K.of ⟨s.heap,tk,rfl,fun _ _ e=>e⟩) (.bool _) e2
theorem Lb{C:Ctx}(hK:KSound prog w mg mb base n C){rec:Expr→R V}(hbad:∀ e,bad e=true→rec e=.no){as:List Expr}{p pos:Pos}(hg:isG sc "isinstance" = true)(h:∀ e∈as,aH prog w mg mb base n hd l sc σ e (rec e)) :
  aH prog w mg mb base n hd l sc σ (.Call (.Name "isinstance" p) as [] pos) (wR rec C sc σ as):=by
 intro A env s av hA I β k fin Q E hf hq he;cases as with
 |nil=>exact hf.no.elim
 |cons a r =>
  cases r with
  |nil=>exact hf.no.elim
  |cons b r =>
   replace hf:Fin (wQ rec C sc σ a r (bI b)) k fin:=hf;refine ocs (bI b) (fun hn=>?_) fun t hn=>?_
   ·try rewrite[hn]
    rw[hn] at hf;exact hf.no.elim
   ·try rewrite[hn]
    rw[hn] at hf;cases r with
    |cons=>exact hf.no.elim
    |nil =>
     obtain⟨ht,hf1⟩:=Fin.ite hf;obtain⟨q,rfl⟩:=dU hn;refine ocs (fW sc σ a) (fun hx=>?_) fun x hx=>?_
     ·rw[hx] at hf1;exact Kz hbad hg ht (h a List.mem_cons_self) A env s av hA I hf1 hq he
     ·rw[hx] at hf1;exact La hK hg ht hx A env s av hA I hf1 hq he
theorem Lc{C:Ctx}(hK:KSound prog w mg mb base n C){rec:Expr→R V}(hbad:∀ e,bad e=true→rec e=.no){f:Str}{as:List Expr}{p pos:Pos}
  (h:∀ e∈as,aH prog w mg mb base n C.hd l sc σ e (rec e))
  (hsub:∀ a∈as,∀ g bs kws q,a=.Call g bs kws q→(∀ x∈bs,aH prog w mg mb base n C.hd l sc σ x (rec x))∧∀ o m ap,g=.Attribute o m ap→aH prog w mg mb base n C.hd l sc σ o (rec o)):aH prog w mg mb base n C.hd l sc σ (.Call (.Name f p) as [] pos) (mM rec C sc σ f as):=by
 intro A env s av hA I β k fin Q E hf0 hq he;obtain⟨hg,hf⟩:=Fin.ite hf0;clear hf0
 by_cases e:f = "isinstance"
 ·rw[if_pos e] at hf;subst e;exact Lb hK hbad hg h A env s av hA I hf hq he
 rw[if_neg e] at hf
 by_cases e:f = "min"
 ·rw[if_pos e] at hf
  by_cases c:as.any bad=true∨C.hd=true
  ·rw[if_pos c] at hf;exact hf.no.elim
  ·rw[if_neg c] at hf;simp only[not_or,Bool.not_eq_true] at c;subst e;exact Ky hbad hg c.1 c.2 h A env s av hA I hf hq he
 rw[if_neg e] at hf
 by_cases hb:iI f=true
 ·rw[if_pos hb] at hf;cases as with
  |nil=>exact hf.no.elim
  |cons a r =>
   cases r with
   |cons=>exact hf.no.elim
   |nil=>exact K9 hbad hg hb (h a List.mem_cons_self) (hsub a List.mem_cons_self) A env s av hA I hf hq he
 rw[if_neg hb] at hf
 by_cases c:as.any bad=true∨C.has f=false
 ·rw[if_pos c] at hf;exact hf.no.elim
 ·rw[if_neg c] at hf;simp only[not_or,Bool.not_eq_true,Bool.not_eq_false] at c;exact Kt hK hbad hg c.1 c.2 h A env s av hA I hf hq he
end
end Mine
namespace Mine
open PySem
section
variable {prog:Program} {w:World} {mg mb:Str→Option Value} {base:Heap} {n:Nat} {hd:Bool} {l:List Env} {sc:Scope} {σ:aA}
noncomputable def PR(prog:Program)(w:World)(h:Heap)(av:Addr→Prop):List (Value×Value)→List (PyData×PyData)→Prop
 | [],[]=>True
 |kv::r,d::t=>Rep prog w h av kv.1 d.1∧Rep prog w h av kv.2 d.2∧PR prog w h av r t
 |_,_=>False
noncomputable def nG(env:Env)(pos:Pos):List (Option Expr)→List Expr→List (Sem Value×Sem Value)
 |some k::ks,e::es=>(eval k env,(do let x ← eval e env;standAt pos;pure x))::nG env pos ks es
 |_,_=>[]
theorem y7(env:Env)(pos:Pos):∀ {ks:List (Option Expr)} {es:List Expr},ks.all Option.isSome=true→ks.length=es.length →
  (evalEachOpt ks env).zip ((evalEach es env).map fun v=>do let x ← v;standAt pos;pure x)=(nG env pos ks es).map (fun p=>(some p.1,p.2))∧(nG env pos ks es).length=es.length
 | [],[],_,_=>⟨rfl,rfl⟩
 | [],_::_,_,h=>by cases h
 |_::_,[],_,h=>by cases h
 |none::ks,e::es,h,_=>by exact bft h
 |some k::ks,e::es,h,h'=>by
  obtain⟨i1,i2⟩:=y7 env pos (ks:=ks) (es:=es) h (Nat.succ.inj h');exact⟨congrArg ((some (eval k env),_)::·) i1,congrArg Nat.succ i2⟩
theorem y8{rec:Expr→R V}{env:Env}{pos:Pos}{A:Around}{av:Addr→Prop}(hA:Room n hd l A):∀ {ks:List (Option Expr)} {es:List Expr} {s:Shared},(∀ k,some k∈ks→aH prog w mg mb base n hd l sc σ k (rec k)) →
  (∀ e∈es,aH prog w mg mb base n hd l sc σ e (rec e))→Inv0 prog w mg mb base l env sc σ av s →
  ∀ {β:Type} {k:List (PyData×PyData)→R β} {fin:R β} {Q:List (Value×Value)→Shared→Prop} {E:Value→Shared→Prop},Fin (iJ rec ks es) k fin→(∀ vs s' ds,K l s s'→PR prog w s'.heap av vs ds→ds.length=es.length→k ds=fin→Q vs s')→EH prog w mg l s av fin E →
   wpAny (model prog w) A (evalPairs (nG env pos ks es)) Q E s
 := by
 intro ks
 induction ks with
 |nil =>
  intro es s _ _ _ β k fin Q E hf hq _;cases es with
  |nil=>exact evalPairs_nil (hq _ _ [] (K.rf l s) trivial rfl hf.ok)
  |cons=>exact hf.no.elim
 |cons ko ks ih =>
  intro es s hk he I β k fin Q E hf hq hE;cases ko with
  |none =>
   cases es with
   |nil=>exact hf.no.elim
   |cons=>exact hf.no.elim
  |some kx =>
   cases es with
   |nil=>exact hf.no.elim
   |cons e es =>
    refine evalPairs_cons (hk kx List.mem_cons_self A env s av hA I (Fin.b hf) (fun kv s₁ u k1 r h1=>?_) hE);have I1:=I.k k1;refine wpAny_bind (he e List.mem_cons_self A env s₁ av hA I1 (Fin.b ⟨h1,hf.2⟩) (fun vv s₂ u2 k2 r2 h2=>wpAny_bind (wpAny_standAt (wpAny_pure ?_))) (hE.back k1));refine ih (fun x hx=>hk x (List.mem_cons_of_mem _ hx)) (fun x hx=>he x (List.mem_cons_of_mem _ hx)) (I1.k k2) (Fin.b ⟨h2,hf.2⟩) (fun vs s₃ ds k3 r3 hl h3=>?_) (hE.back (k1.tr k2));exact hq _ _ ((dOf u,dOf u2)::ds) ((k1.tr k2).tr k3) ⟨((r.rep I.gnd.avlt).k I.gnd.fav k2).k I.gnd.fav k3,(r2.rep I1.gnd.avlt).k I.gnd.fav k3,r3⟩ (congrArg Nat.succ hl) h3
theorem b7.mono{h h':Heap}{av av':Addr→Prop}(hk:∀ b o,h.get? b=some o→h'.get? b=some o)(ha:∀ b o,h.get? b=some o→av' b→av b){v:Value}{u:V}(r:b7 prog w mg l h av v u):b7 prog w mg l h' av' v u:=by
 cases u with
 |fz d=>exact(show Rep prog w h av v d from r).mono (fun b o _ e=>hk b o e) ha
 |own d=>obtain⟨a,e,f,r⟩:=r;exact⟨a,e,f,r.mono (fun b o _ e=>hk b o e) ha fun o e=>hk _ o e⟩
 |ex x=>obtain⟨e,h,r⟩:=r;exact⟨e,h,r.mono (fun b o _ e=>hk b o e) ha⟩
theorem bA.keeps{env:Env}{h h':Heap}{x:Str}{u:Value}(v:bA env h x u)(hk:∀ b o,h.get? b=some o→h'.get? b=some o):bA env h' x u:=by
 rcases v with ⟨k,m,hn,e⟩ | ⟨k,c,e,hc⟩
 ·exact .inl ⟨k,m,hn.keeps hk,e⟩
 ·exact .inr ⟨k,c,e,hc.keeps hk⟩
theorem Gnd.apart{av:Addr→Prop}{s:Shared}(G:Gnd prog w mg mb base l av s)(o:Obj)(ho:o.isFreed=false):Gnd prog w mg mb base l (fun b=>av b∨b=s.heap.objs.size) { s with heap:=s.heap.push o } where
 glo:=G.glo
 stay:=fun b o e=>Heap.get?_push_of_some _ (G.stay b o e)
 ff:=(G.k (K.of (Kp.push' s o))).ff
 fav:=fun b f=>.inl (G.fav b f)
 avlt:=fun b hb=>hb.elim (fun hb=>by obtain⟨o,e⟩:=G.avlt b hb;exact⟨o,Heap.get?_push_of_some _ e⟩) fun hb=>⟨o,hb▸cQ _ _ ho⟩
 avS:=.inl G.avS
theorem Inv0.apart{env:Env}{av:Addr→Prop}{s:Shared}(I:Inv0 prog w mg mb base l env sc σ av s)(o:Obj)(ho:o.isFreed=false) :
  Inv0 prog w mg mb base l env sc σ (fun b=>av b∨b=s.heap.objs.size) { s with heap:=s.heap.push o } :=
 { I with
  gnd:=I.gnd.apart o ho
  get:=fun x v hl e=>let ⟨u,h1,h2⟩:=I.get x v hl e
   ⟨u,h1.keeps fun b o e=>Heap.get?_push_of_some _ e,h2.mono (fun b o e=>Heap.get?_push_of_some _ e) fun b o e hb=>hb.elim id fun hb=>by (rw[hb,bT] at e;exact ns e)⟩ }
theorem ExAt.less{h:Heap}{av av':Addr→Prop}(ha:∀ b,av' b→av b){e:Addr}{x:X}(r:ExAt prog w mg h av e x):ExAt prog w mg h av' e x:=r.mono (fun _ _ _ e=>e) fun b _ _ x=>ha b x
theorem EH.apart{β:Type}{s:Shared}{av:Addr→Prop}{fin:R β}{E:Value→Shared→Prop}(h:EH prog w mg l s av fin E)(o:Obj):EH prog w mg l { s with heap:=s.heap.push o } (fun b=>av b∨b=s.heap.objs.size) fin E :=
 fun x v s'' e f=>h x v s'' e (by obtain⟨k',e,h1,h2,h3,h4⟩:=f;exact Fly.back (K.of (Kp.push' s o)) ⟨k',e,h1,h2,h3.less fun _ x=>.inl x,h4⟩)
theorem Ld{h:Heap}{av:Addr→Prop}:∀ {vs:List (Value×Value)} {ds:List (PyData×PyData)} {ps:List (Str×PyData)},PR prog w h av vs ds→keys? ds=some ps→(∃ kvs,Carries (strKind prog w) vs kvs∧PS prog w h av kvs ps)∧ps.length=ds.length
 := by
 intro vs
 induction vs with
 |nil =>
  intro ds ps x e;cases ds with
  |nil=>obtain rfl:=si e;exact⟨⟨[],trivial,trivial⟩,rfl⟩
  |cons=>exact x.elim
 |cons p vs ih =>
  obtain⟨key,v⟩:=p;intro ds ps x e;cases ds with
  |nil=>exact x.elim
  |cons q ds =>
   obtain⟨dk,d⟩:=q;obtain⟨x1,x2,x3⟩:=x;cases dk with
   |str k =>
    obtain⟨t,e1,hk⟩:=x1.str_inv;obtain rfl:key=.str k t:=e1;obtain⟨ps',e',rfl⟩:=Option.map_eq_some_iff.mp (show(keys? ds).map ((k,d)::·)=some ps from e);obtain⟨⟨kvs,y1,y2⟩,y3⟩:=ih x3 e';exact⟨⟨(k,v)::kvs,⟨eF k t,rfl,y1⟩,rfl,hk,x2,y2⟩,congrArg Nat.succ y3⟩
   |_=>exact ns e
theorem K.but{s s₁:Shared}{o:Obj}{h':Heap}{tk:Nat}(k:K l { s with heap:=s.heap.push o } s₁)(hs:Heap.SameBut s.heap.objs.size s₁.heap h'):K l s { s₁ with heap:=h',toks:=tk }:=by
 obtain⟨hh,tt,rfl,kk,uu⟩:=k;have ne:∀ b o',s.heap.get? b=some o'→b≠s.heap.objs.size:=fun b o' e x=>by rw[x,bT] at e;exact ns e
 refine⟨h',tk,rfl,fun b o' f e=>?_,fun b o' e=>?_⟩
 ·rw[hs.2 b (ne b o' e)];exact kk b o' f (Heap.get?_push_of_some _ e)
 ·rw[hs.2 b (ne b o' e)];exact uu b o' (Heap.get?_push_of_some _ e)
theorem y9{h h':Heap}{D:Addr}{av:Addr→Prop}(hs:Heap.SameBut D h h'):∀ b o,¬ (av b∨b=D)→h.get? b=some o→h'.get? b=some o:=fun b o hb e=>by
 rw[hs.2 b (fun x=>hb (.inr x))];exact e
theorem Le{l:List (PyData×PyData)}{v:V}(h:jN l=.ok v):∃ q:Int×PyData,l=[(.int q.1,q.2)]∧v=.fz (.dict l):=by
 cases l with
 |nil=>exact pno h
 |cons p r =>
  cases r with
  |cons=>exact pno h
  |nil =>
   obtain⟨k,d⟩:=p;cases k with
   |int i=>obtain rfl:=pi h;exact⟨(i,d),rfl,rfl⟩
   |_=>exact pno h
theorem PR.odd{h:Heap}{av:Addr→Prop}{vs:List (Value×Value)}{i:Int}{d:PyData}(r:PR prog w h av vs [(.int i,d)]):∃ x t,vs=[(.int i t,x)]∧Rep prog w h av x d:=by
 cases vs with
 |nil=>exact r.elim
 |cons p vs =>
  obtain⟨key,x⟩:=p;obtain⟨x1,x2,x3⟩:=r;obtain⟨t,e⟩:=Rep.int_inv x1;obtain rfl:key=.int i t:=e;cases vs with
  |nil=>exact⟨x,t,rfl,x2⟩
  |cons=>exact x3.elim
theorem Lf{rec:Expr→R V}{ks:List (Option Expr)}{es:List Expr}{pos:Pos}(hk:∀ k,some k∈ks→aH prog w mg mb base n hd l sc σ k (rec k))(he:∀ e∈es,aH prog w mg mb base n hd l sc σ e (rec e)) :
  aH prog w mg mb base n hd l sc σ (.Dict ks es pos) (if ks.all Option.isSome=true∧ks.length=es.length∧es.length≤15 then rb (iJ rec ks es) fun l=>ofP (if pV ks=true then jN l else iK l) else .no):=by
 intro A env s av hA I β k fin Q E hf hq hE;obtain⟨⟨c1,c2,c3⟩,hf⟩:=Fin.ite hf;obtain⟨g1,g2⟩:=y7 env pos c1 c2;cases es with
 |nil =>
  obtain rfl:ks=[]:=List.length_eq_zero_iff.mp c2;exact wpAny_Dict_empty (hq.step (u:=.own (.dict [])) (K.rf l s) (yT (kvs:=[]) (ps:=[]) (Kp.rfl' s) (Kp.push' s _) (bT _) (j4 I.gnd) (Heap.DictOf.new s.heap) (Nat.zero_le _) trivial) hf.1)
 |cons e es =>
  by_cases ho:pV ks=true
  ·replace hf:Fin (rb (iJ rec ks (e::es)) fun l=>ofP (jN l)) k fin:=by simp only[if_pos ho] at hf;exact hf
   refine wpAny_Dict_pairs (knd:=intKind prog w) g1 (fun h=>by rw[h] at g2;cases g2) (g2.symm▸c3) (y8 hA hk he (I.apart _ rfl) hf.b (fun vs s₁ ds k1 r hl h1=>?_) (hE.apart _));obtain⟨v,e1,e2⟩:=Fin.p ⟨h1,hf.2⟩;obtain⟨⟨i,d⟩,rfl,rfl⟩:=Le e1;obtain⟨x,t,rfl,rd⟩:=r.odd;have hd0:s₁.heap.DictOf (intKind prog w) s.heap.objs.size []:=by
    obtain⟨o,es,ep,e,r⟩:=Heap.DictOf.new (knd:=intKind prog w) s.heap;exact⟨o,es,ep,k1.at (fun f=>by obtain⟨o,e⟩:=I.gnd.avlt _ (I.gnd.fav _ f);rw[bT] at e;exact ns e) e,r⟩
   refine⟨[(i,x)],⟨intKind_is prog w i t,rfl,trivial⟩,hd0,fun h' hd hs=>hq _ _ _ (K.but k1 hs) ?_ e2⟩;exact Rep.odd (fun x=>by obtain⟨o,e⟩:=I.gnd.avlt _ x;rw[bT] at e;exact ns e) hd (j4 I.gnd) (rd.mono (fun b o hb e=>y9 (av:=av) hs b o hb e) fun b _ _ x=>.inl x)
  replace hf:Fin (rb (iJ rec ks (e::es)) fun l=>ofP (iK l)) k fin:=by simp only[if_neg ho] at hf;exact hf
  refine wpAny_Dict_pairs (knd:=strKind prog w) g1 (fun h=>by rw[h] at g2;cases g2) (g2.symm▸c3) (y8 hA hk he (I.apart _ rfl) hf.b (fun vs s₁ ds k1 r hl h1=>?_) (hE.apart _));obtain⟨v,e1,e2⟩:=Fin.p ⟨h1,hf.2⟩;unfold iK at e1;refine ocs (keys? ds) (fun hds=>?_) fun ps hds=>?_
  ·try rewrite[hds]
   rw[hds] at e1;exact pno e1
  ·try rewrite[hds]
   rw[hds] at e1;obtain rfl:=pi e1;obtain⟨⟨kvs,q1,q2⟩,q3⟩:=Ld r hds;have hd0:s₁.heap.DictOf (strKind prog w) s.heap.objs.size []:=by
    obtain⟨o,es,ep,e,r⟩:=Heap.DictOf.new (knd:=strKind prog w) s.heap;exact⟨o,es,ep,k1.at (fun f=>by obtain⟨o,e⟩:=I.gnd.avlt _ (I.gnd.fav _ f);rw[bT] at e;exact ns e) e,r⟩
   refine⟨kvs,q1,hd0,fun h' hd hs=>hq _ _ (.own (.dict (cS ps []))) (K.but k1 hs) ?_ e2⟩;obtain⟨y1,y2⟩:=KV.sets q2 (acc:=[]) List.nodup_nil (show KV prog w s₁.heap _ [] [] from trivial) nofun;have hkv:=(y1.mono (h':=h') (av':=fun b=>av b∨b=s.heap.objs.size) (y9 hs) fun _ _ _ x=>x).out;refine⟨s.heap.objs.size,rfl,bT _,merged [] kvs,hd,⟨Nat.le_trans (merged_length_le [] kvs) ?_,y2⟩,j4 I.gnd,hkv.1,hkv.2⟩;rw[q2.length,q3,hl];exact Nat.le_trans (by simpa using c3) (by decide:15≤sizeLine)
end
end Mine
namespace Mine
open PySem
section
variable {prog:Program} {w:World} {mg mb:Str→Option Value} {base:Heap} {n:Nat} {hd:Bool} {l:List Env} {sc:Scope} {σ:aA}
structure Src(prog:Program)(w:World)(A:Around)(h0:Heap)(av0:Addr→Prop)(target:Expr)(it:Value)(wr:Addr→Prop)(St:Nat→Heap→Prop)(ds:List PyData):Prop where
 live:∀ i h,St i h→∀ b,wr b→∃ o,h.get? b=some o
 frame:∀ i h h',St i h→(∀ b o,wr b→h.get? b=some o→h'.get? b=some o)→(∀ b o,h0.get? b=some o→¬ av0 b→h'.get? b=some o)→St i h'
 item:∀ i d (s:Shared) (E:Value→Shared→Prop) (Q:Value→Shared→Prop),ds[i]?=some d→St i s.heap →
  (∀ v h' tk,(∀ b o,¬ wr b→s.heap.get? b=some o→h'.get? b=some o)→St (i+1) h' →
   (∀ avn:Addr→Prop,(∀ b,avn b→∃ o,s.heap.get? b=some o)→(∀ b o,h0.get? b=some o→avn b→av0 b)→Rep prog w h' avn v d)→Q v { s with heap:=h',toks:=tk }) →
  wpAny (model prog w) A (pyNext it) (fun r s₁=>match r with | none=>False | some v=>wpAny (model prog w) A (letOwnedTupleGo target it v) (fun _ s₂=>Q v s₂) E s₁) E s
 done:∀ (s:Shared) (E:Value→Shared→Prop) (Q:Shared→Prop),St ds.length s.heap→(∀ h' tk,(∀ b o,¬ wr b→s.heap.get? b=some o→h'.get? b=some o)→Q { s with heap:=h',toks:=tk }) →
  wpAny (model prog w) A (pyNext it) (fun r s₁=>match r with | none=>Q s₁ | some _=>False) E s
 self:∀ i (s:Shared) (Q:Value→Shared→Prop) (E:Value→Shared→Prop),St i s.heap→Q it s→wpAny (model prog w) A (pyIter it) Q E s
noncomputable def rG(n:String):Bool:=["enumerate", "zip", "dict_itemiterator", "dict_reverseitemiterator", "odict_iterator", "itertools.zip_longest", "itertools.pairwise"].contains n
theorem Lg{M:Model}{A:Around}{E:Value→Shared→Prop}{s:Shared}{target:Expr}{I:Addr}{v:Value}{o:Obj}{n:String}{Q:Unit→Shared→Prop}(hI:s.heap.get? I=some o)(hc:o.cls=.type n)(hn:rG n=false)(h:Q () s) :
  wpAny M A (letOwnedTupleGo target (.ref I) v) Q E s:=by
 have key:wpAny M A (match (Value.ref I,v) with
  | (.ref r,.ref a)=>(do
   let o ← load r
   match o.cls,o.data with
   | .type n,.fields vs=>if ["enumerate", "zip", "dict_itemiterator", "dict_reverseitemiterator", "odict_iterator", "itertools.zip_longest", "itertools.pairwise"].contains n&&vs[0]?==some (rawInt a) then do
     rule "for.unpacks-the-owned-tuple"; updateField r 0 .none else pure ()
   |_,_=>pure ():Sem Unit)
  |_=>pure ()) Q E s:=by
  cases v with
  |ref a =>
   refine wpAny_bind (wpAny_load hI ?_);rw[hc];cases o.data<;>first | exact wpAny_pure h | skip;have:["enumerate", "zip", "dict_itemiterator", "dict_reverseitemiterator", "odict_iterator", "itertools.zip_longest", "itertools.pairwise"].contains n=false:=hn;simp only[this,Bool.false_and,Bool.false_eq_true,if_false];exact wpAny_pure h
  |_=>exact wpAny_pure h
 cases target with
 |Tuple=>exact key
 |List=>exact key
 |_=>exact wpAny_pure h
theorem rH{α:Type}{ds:List α}{i:Nat}{d:α}(h:ds[i]?=some d):i < ds.length:=(List.getElem?_eq_some_iff.mp h).1
theorem Src.ofWalks{A:Around}{h0:Heap}{av0:Addr→Prop}{target:Expr}{I:Addr}{fp:List Addr}{ds:List PyData}{n:Nat}{P:Nat→Value→Prop}{St0:Nat→Heap→Prop}(W:Walks prog w A I fp [I] n P St0)(hn:n=ds.length)
  (hfp:∀ b∈fp,b=I∨((∃ o,h0.get? b=some o)∧¬ av0 b)) (hcls:∀ i h,St0 i h→∃ o T,h.get? I=some o∧o.cls=.type T∧rG T=false)
  (hI0:h0.get? I=none) (hP:∀ i v d,P i v→ds[i]?=some d→Rep prog w h0 av0 v d) :
  Src prog w A h0 av0 target (.ref I) (fun b=>b=I) (fun i h=>St0 i h∧∀ b o,h0.get? b=some o→¬ av0 b→h.get? b=some o) ds where
 live:=fun i h st b hb=>by obtain⟨o,T,e,_⟩:=hcls i h st.1;exact⟨o,(show b=I from hb)▸e⟩
 frame:=fun i h h' st hk hk0=>⟨W.frame i h h' st.1 fun b hb o e=>by
  rcases hfp b hb with rfl | ⟨⟨o',e'⟩,hav⟩
  ·exact hk b o rfl e
  ·have:=st.2 b o' e' hav;rw[e] at this;obtain rfl:=si this;exact hk0 b o e' hav,hk0⟩
 item:=fun i d s E Q hd st hQ=>by
  refine W.item i s _ E (hn▸rH hd) st.1 fun v h' tk hPv st' hk=>?_;obtain⟨o,T,e1,e2,e3⟩:=hcls _ _ st';have hk':∀ b o,¬ (b=I)→s.heap.get? b=some o→h'.get? b=some o:=fun b o hb e=>hk b o (fun h=>hb (List.mem_singleton.mp h)) e;have hkk:∀ b o,h0.get? b=some o→¬ av0 b→h'.get? b=some o:=fun b o e hav=>hk' b o (fun x=>by rw[x,hI0] at e;exact ns e) (st.2 b o e hav);refine Lg (s:={ s with heap:=h',toks:=tk }) e1 e2 e3 (hQ v h' tk hk' ⟨st',hkk⟩ fun avn hlive hsub=>?_);exact(hP i v d hPv hd).mono (fun b o hb e=>hkk b o e hb) hsub
 done:=fun s E Q st hQ=>W.done s _ E (show St0 n s.heap from hn▸st.1) fun h' tk hk=>hQ h' tk fun b o hb e=>hk b o (fun h=>hb (List.mem_singleton.mp h)) e
 self:=fun i s Q E st hQ=>W.self i s Q E st.1 hQ
inductive IterAt(prog:Program)(w:World)(A:Around)(l:List Env)(target:Expr)(s:Shared)(av:Addr→Prop)(it:Value)(s':Shared)(ds:List PyData):Prop where
 |mk (s₁ wr St) (a:K l s s₁) (b:Src prog w A s₁.heap av target it wr St ds) (c:St 0 s'.heap) (d:∀ b,wr b→s₁.heap.get? b=none∧∃ o,s'.heap.get? b=some o) (e:Kp s₁ s') (f:ds.length≤sizeLine):IterAt prog w A l target s av it s' ds
theorem j6{h:Heap}{a:Addr}{o:Obj}(e:h.get? a=some o):a≠h.objs.size:=fun x=>by rw[x,bT] at e;exact ns e
theorem gB{A:Around}{target:Expr}{s₀ s:Shared}{av:Addr→Prop}{ds:List PyData}{o:Obj}(k0:K l s₀ s)(ho:o.isFreed=false){fp:List Addr}{n:Nat}{P:Nat→Value→Prop}{St0:Nat→Heap→Prop}
  (W:Walks prog w A s.heap.objs.size fp [s.heap.objs.size] n P St0) (hn:n=ds.length) (hz:ds.length≤sizeLine)
  (hfp:∀ b∈fp,b=s.heap.objs.size∨((∃ o,s.heap.get? b=some o)∧¬ av b)) (hcls:∀ i h,St0 i h→∃ o T,h.get? s.heap.objs.size=some o∧o.cls=.type T∧rG T=false)
  (hP:∀ i v d,P i v→ds[i]?=some d→Rep prog w s.heap av v d) (hst:St0 0 (s.heap.push o)) :
  IterAt prog w A l target s₀ av (.ref s.heap.objs.size) { s with heap:=s.heap.push o } ds :=
 ⟨s,_,_,k0,Src.ofWalks W hn hfp hcls (bT _) hP,⟨hst,fun b o' e _=>Heap.get?_push_of_some _ e⟩,fun b hb=>(show b=s.heap.objs.size from hb)▸⟨bT _,o,cQ _ _ ho⟩,Kp.push' s o,hz⟩
theorem fp2{s:Shared}{av:Addr→Prop}{a:Addr}{o:Obj}(e:s.heap.get? a=some o)(h1:¬ av a):∀ b∈[s.heap.objs.size,a],b=s.heap.objs.size∨((∃ o,s.heap.get? b=some o)∧¬ av b):=fun b hb=>by
 rcases List.mem_cons.mp hb with hb | hb
 ·exact .inl hb
 ·exact .inr (List.mem_singleton.mp hb▸⟨⟨_,e⟩,h1⟩)
theorem Lh{A:Around}{target:Expr}{s₀ s:Shared}{av:Addr→Prop}{v:Value}{d:PyData}{ds:List PyData}(k0:K l s₀ s)(hh:A.handled=none)(r:Rep prog w s.heap av v d)(hi:items d=.ok ds)
  {Q:Value→Shared→Prop} {E:Value→Shared→Prop} (hq:∀ it s',IterAt prog w A l target s₀ av it s' ds→Q it s'):wpAny (model prog w) A (pyIter v) Q E s:=by
 cases d with
 |list dl =>
  obtain rfl:=pi hi;obtain⟨a,vs,rfl,h1,⟨n,e⟩,h3,h4,h5⟩:=r.list_inv;exact wpAny_pyIter_list ⟨_,e,rfl,_,rfl⟩ (hq _ _ (gB k0 rfl (Walks.list hh s.heap.objs.size a (j6 e) vs.toArray) (by simpa using h3) (h3▸h4) (fp2 e h1) (fun i h st=>by obtain⟨⟨o,e,c,_⟩,_⟩:=st;exact⟨o,_,e,c,by decide⟩)
   (fun i v d hP hd=>h5 i v d (by simpa using hP) hd) ⟨⟨_,cQ _ _ rfl,rfl,rfl⟩,⟨_,Heap.get?_push_of_some _ e,rfl,_,rfl⟩⟩))
 |tuple dl =>
  obtain rfl:=pi hi;obtain⟨a,vs,rfl,h1,⟨n,e⟩,h3,h4,h5⟩:=r.tuple_inv;exact wpAny_pyIter_tuple ⟨_,e,rfl,_,rfl⟩ (hq _ _ (gB k0 rfl (Walks.tuple hh s.heap.objs.size a (j6 e) vs.toArray) (by simpa using h3) (h3▸h4) (fp2 e h1) (fun i h st=>by obtain⟨⟨o,e,c,_⟩,_⟩:=st;exact⟨o,_,e,c,by decide⟩)
   (fun i v d hP hd=>h5 i v d (by simpa using hP) hd) ⟨⟨_,cQ _ _ rfl,rfl,rfl⟩,⟨_,Heap.get?_push_of_some _ e,rfl,_,rfl⟩⟩))
 |dict dl =>
  obtain rfl:=pi hi;rcases r.dict_or with ⟨a,kvs,rfl,h1,⟨o,es,ep,e,hd⟩,h3,h4,h5,h6⟩ | ⟨a,k,x,d,rfl,h1,⟨o,es,ep,e,hd⟩,h4,rfl⟩
  case inr =>
   refine wpAny_pyIter_dict (knd:=intKind prog w) (kvs:=[(k,x)]) (ep:=ep) h4 ⟨o,es,e,hd⟩ (hq _ _ (gB k0 rfl (Walks.dictKeys (knd:=intKind prog w) hh s.heap.objs.size a (j6 e) [(k,x)] ep) rfl (Nat.le_of_ble_eq_true rfl) (fp2 e h1) (fun i h st=>by obtain⟨⟨o,e,c,_⟩,_⟩:=st;exact⟨o,_,e,c,by decide⟩)
    (fun i v d' hP hd'=>?_) ⟨⟨_,cQ _ _ rfl,rfl,rfl⟩,⟨o,es,Heap.get?_push_of_some _ e,hd⟩⟩))
   obtain⟨k',x',e3,e4⟩:=hP;cases i with
   |succ i=>exact ns e3
   |zero =>
    obtain⟨rfl,rfl⟩:=Prod.mk.inj (si e3);obtain⟨t,rfl⟩:=Value.isInt_shape e4;obtain rfl:=si hd';exact .int _ t
  have hl:dl.length=kvs.length:=by simpa using congrArg List.length h5
  refine wpAny_pyIter_dict (knd:=strKind prog w) (kvs:=kvs) (ep:=ep) h4 ⟨o,es,e,hd⟩ (hq _ _ (gB k0 rfl (Walks.dictKeys (knd:=strKind prog w) hh s.heap.objs.size a (j6 e) kvs ep) (by simp[hl]) (by simpa[hl] using h3.1) (fp2 e h1) (fun i h st=>by obtain⟨⟨o,e,c,_⟩,_⟩:=st;exact⟨o,_,e,c,by decide⟩)
   (fun i v d hP hd=>?_) ⟨⟨_,cQ _ _ rfl,rfl,rfl⟩,⟨o,es,Heap.get?_push_of_some _ e,hd⟩⟩))
  obtain⟨k,x,e3,e4⟩:=hP;obtain⟨t,rfl⟩:=Value.isStrOf_shape e4;rw[h5,List.getElem?_map,e3] at hd;obtain rfl:=si hd;exact .str k t (h3.2 _ (List.mem_of_getElem? e3))
 |str x =>
  obtain rfl:=pi hi;obtain⟨t,rfl,hx⟩:=r.str_inv;refine wpAny_pyIter_strU (hq _ _ ?_);have hP:∀ (i:Nat) (v:Value) (d:PyData),SignAt x i v→(x.cps.toList.map bO)[i]?=some d→Rep prog w s.heap av v d:=fun i v d hP hd=>by
   obtain⟨c,u,e1,rfl⟩:=hP;rw[List.getElem?_map,Array.getElem?_toList,e1] at hd;obtain rfl:=si hd;exact .str _ u (by rw[sizeLine_eq];exact Nat.le_of_ble_eq_true rfl)
  have hfp:∀ b∈[s.heap.objs.size],b=s.heap.objs.size∨((∃ o,s.heap.get? b=some o)∧¬ av b):=fun b hb=>.inl (List.mem_singleton.mp hb);have hz:(x.cps.toList.map bO).length≤sizeLine:=by simpa using (show x.cps.size≤sizeLine from hx)
  by_cases ha:x.cps.all (· < 128)=true
  ·rw[show strIterType x = "str_ascii_iterator" from if_pos ha];exact gB k0 rfl (Walks.strAscii hh s.heap.objs.size x t) (by simp) hz hfp (fun i h st=>by obtain⟨o,e,c,_⟩:=st;exact⟨o,_,e,c,by decide⟩) hP ⟨_,cQ _ _ rfl,rfl,rfl⟩
  ·rw[show strIterType x = "str_iterator" from if_neg ha];exact gB k0 rfl (Walks.strWide hh s.heap.objs.size x t) (by simp) hz hfp (fun i h st=>by obtain⟨o,e,c,_⟩:=st;exact⟨o,_,e,c,by decide⟩) hP ⟨_,cQ _ _ rfl,rfl,rfl⟩
 |_=>exact pno hi
end
end Mine
namespace Mine
open PySem
section
variable {prog:Program} {w:World} {mg mb:Str→Option Value} {base:Heap} {n:Nat} {hd:Bool} {l:List Env} {sc:Scope} {σ:aA}
theorem zA:∀ (n:Nat) (a:Int) (i:Nat) (d:PyData),(cW a n)[i]?=some d→d=.int (a+i)
 |0,a,i,d,h=>by exact ns h
 |n+1,a,0,d,h=>by obtain rfl:=si h;rw[show a+((0:Nat):Int)=a from Int.add_zero a]
 |n+1,a,i+1,d,h=>by
  rw[zA n (a+1) i d h];congr 1;push_cast;exact vI
theorem zB:∀ (n:Nat) (a:Int),(cW a n).length=n:=by
 intro v0
 induction v0 with
 |zero =>
  intro _;exact rfl
 |succ n ih =>
  intro a;exact congrArg Nat.succ (ih (a+1))
theorem Lj{A:Around}{target:Expr}{s₀ s:Shared}{av:Addr→Prop}{r:Addr}{b:Int}{t u v:Tok}(k0:K l s₀ s)(hh:A.handled=none)(hr:IsRange s.heap r 0 b 1 t u v)(h4:b≤4096)
  {Q:Value→Shared→Prop} {E:Value→Shared→Prop} (hq:∀ it s',IterAt prog w A l target s₀ av it s' (cW 0 b.toNat)→Q it s') (hb:-10000≤b):wpAny (model prog w) A (pyIter (.ref r)) Q E s:=by
 have hsz:Builtin.Range.rangeSize 0 b 1=(b.toNat:Int):=by
  rw[rangeSize_one]
  split<;>lia
 have hsm:Builtin.Range.small 0 b 1=true:=by
  unfold Builtin.Range.small;rw[hsz];have f:∀ i:Int,-10000≤i→i≤10000→Builtin.Range.rangeFitsLong i=true:=fun i q1 q2=>by
   unfold Builtin.Range.rangeFitsLong;simp only[Bool.and_eq_true,decide_eq_true_eq];lia
  rw[f 0 (by lia) (by lia),f b hb (by lia),f 1 (by lia) (by lia),f _ (by lia) (by lia)];have:((1:Int) > 0):=by lia
  simp only[this,if_true,Bool.and_self,Bool.true_and];rw[f (b+(1 - 1)) (by exact Dz hb) (by exact D0 h4)];simp
 refine wpAny_pyIter_range hr hsm (hq _ _ (gB k0 rfl (Walks.range hh s.heap.objs.size 0 1 b.toNat) (by rw[zB]) (by rw[zB,sizeLine_eq];exact D1 h4) (fun x hx=>.inl (List.mem_singleton.mp hx)) (fun i h st=>⟨_,_,st,rfl,by decide⟩) (fun i v d hP hd=>?_) ?_))
 ·obtain⟨t,rfl⟩:=hP;rw[zA _ _ _ _ hd,Int.mul_one];exact .int _ _
 ·show(s.heap.push _).get? _=_;rw[cQ _ _ rfl,hsz];simp
noncomputable def iU(prog:Program)(w:World)(mg mb:Str→Option Value)(base:Heap)(n:Nat)(hd:Bool)(l:List Env)(sc:Scope)(σ:aA)(target e:Expr)(r:R (List PyData)):Prop :=
 ∀ (A:Around) (env:Env) (s:Shared) (av:Addr→Prop),Room n hd l A→Inv0 prog w mg mb base l env sc σ av s →
  ∀ {β:Type} {k:List PyData→R β} {fin:R β} {Q:Value→Shared→Prop} {E:Value→Shared→Prop},Fin r k fin→(∀ it s' ds,IterAt prog w A l target s av it s' ds→k ds=fin→Q it s')→EH prog w mg l s av fin E →
   wpAny (model prog w) A (eval e env) (fun x s₁=>wpAny (model prog w) A (pyIter x) Q E s₁) E s
theorem Lk{rec:Expr→R V}{target e:Expr}(hh:hd=false)(h:aH prog w mg mb base n hd l sc σ e (rec e)):iU prog w mg mb base n hd l sc σ target e (iL rec e):=by
 intro A env s av hA I β k fin Q E hf hq he;refine h A env s av hA I (Fin.b hf) (fun v s₁ u k1 r h1=>?_) he;obtain⟨ds,e1,e2⟩:=Fin.p ⟨h1,hf.2⟩;exact Lh k1 (hA.handled hh) (r.rep I.gnd.avlt) e1 fun it s' x=>hq _ _ _ x e2
theorem Ll{rec:Expr→R V}{target a:Expr}{p q:Pos}(hbad:∀ e,bad e=true→rec e=.no)(hh:hd=false)(hg:isG sc "range" = true)(h:aH prog w mg mb base n hd l sc σ a (rec a)) :
  iU prog w mg mb base n hd l sc σ target (.Call (.Name "range" p) [a] [] q) (pW rec a):=by
 intro A env s av hA I β k fin Q E hf hq he;refine PySem.Call_name1 (fK (eY (hbad a) (Fin.b hf).ne)) (dW I hg rfl (gV (.inr ⟨_,rfl⟩) (h A env s av hA I (Fin.b hf) (fun v s₁ u k1 r h1=>?_) he)));obtain⟨ds,e1,e2⟩:=Fin.p ⟨h1,hf.2⟩;refine pcs (gQ u) (fun hu=>?_) fun d hu=>?_
 ·try rewrite[hu]
  rw[hu] at e1;exact pno e1
 ·try rewrite[hu]
  rw[hu] at e1;cases rE hu;cases d with
  |int i =>
   obtain⟨t,rfl⟩:=(show Rep prog w s₁.heap av v (.int i) from r).int_inv;have e1:(if -4096≤i∧i≤4096 then P.ok (cW 0 i.toNat) else .no)=.ok ds:=e1
   by_cases hc:-4096≤i∧i≤4096
   ·rw[if_pos hc] at e1;obtain rfl:=pi e1;refine call_range_1 ?_;exact Lj (k1.trp (Kp.mk' fun b o e=>Heap.get?_push_of_some _ e)) (hA.handled hh) (cQ _ _ rfl) hc.2 (fun it s' x=>hq _ _ _ x e2) (by exact D2 hc)
   ·rw[if_neg hc] at e1;exact pno e1
  |_=>exact pno e1
theorem zC:∀ (l:List PyData) (a:Int) (i:Nat) (d:PyData),(dK a l)[i]?=some d→∃ x,l[i]?=some x∧d=.tuple [.int (a+i),x]
 | [],a,i,d,h=>by exact ns h
 |x::l,a,0,d,h=>by obtain rfl:=si h;exact⟨x,rfl,by rw[show a+((0:Nat):Int)=a from Int.add_zero a]⟩
 |x::l,a,i+1,d,h=>by
  obtain⟨y,h1,h2⟩:=zC l (a+1) i d h;refine⟨y,h1,?_⟩;rw[h2,show a+1+(i:Int)=a+((i+1:Nat):Int) by push_cast;exact vI]
theorem rI:∀ (l:List PyData) (a:Int),(dK a l).length=l.length:=by
 intro v0
 induction v0 with
 |nil =>
  intro _;exact rfl
 |cons x l ih =>
  intro a;exact congrArg Nat.succ (ih (a+1))
theorem Lm{A:Around}{elts:List Expr}{kk:Nat}{pos:Pos}{s₀ s:Shared}{h':Heap}{av:Addr→Prop}{ad:Addr}{vs:List Value}{m:List PyData}{nn:Nat}{old:Value}(k0:K l s₀ s)(hh:A.handled=none)(e:s.heap.get? ad=some { cls:=.type "list", data:=.seq vs.toArray nn })(h1:¬ av ad)
  (h3:vs.length=m.length) (h4:vs.length≤sizeLine) (h5:∀ (i:Nat) (v:Value) (d:PyData),vs[i]?=some v→m[i]?=some d→Rep prog w s.heap av v d)
  (he:IsEnum h' (s.heap.objs.size+1) s.heap.objs.size 0 old) (hit:h'.IsListIter s.heap.objs.size ad 0) (hk:∀ b o,s.heap.get? b=some o→h'.get? b=some o) :
  IterAt prog w A l (.Tuple elts kk pos) s₀ av (.ref (s.heap.objs.size+1)) { s with heap:=h' } (dK 0 m):=by
 have halt:=Heap.lt_size e;have hei:s.heap.objs.size+1≠s.heap.objs.size:=Nat.ne_of_gt (Nat.lt_succ_self _);have hle:ad≠s.heap.objs.size+1:=Nat.ne_of_lt (Nat.lt_succ_of_lt halt);have hli:ad≠s.heap.objs.size:=Nat.ne_of_lt halt;have hn:∀ b,(b=s.heap.objs.size+1∨b=s.heap.objs.size)→s.heap.get? b=none:=fun b hb=>hb.elim (fun x=>x▸Heap.get?_none_of_le (Nat.le_succ _)) fun x=>x▸bT _;refine⟨s,fun b=>b=s.heap.objs.size+1∨b=s.heap.objs.size,fun i h=>(∃ old,IsEnum h (s.heap.objs.size+1) s.heap.objs.size i old)∧h.IsListIter s.heap.objs.size ad i∧∀ b o,s.heap.get? b=some o→¬ av b→h.get? b=some o,k0,
  ⟨fun i h st b hb=>?_,fun i h g st hk' hk0=>?_,fun i d s₁ E Q hd st hQ=>?_,fun s₁ E Q st hQ=>?_,fun i s₁ Q E st hQ=>?_⟩,⟨⟨old,he⟩,hit,fun b o e _=>hk b o e⟩,fun b hb=>⟨hn b hb,?_⟩,Kp.mkh hk,by rw[rI,← h3];exact h4⟩
 ·obtain⟨⟨old,he⟩,⟨o,hit,_⟩,_⟩:=st;rcases hb with rfl | rfl
  ·exact⟨_,he⟩
  ·exact⟨o,hit⟩
 ·obtain⟨⟨old,he⟩,hit,hl⟩:=st;exact⟨⟨old,hk' _ _ (.inl rfl) he⟩,hit.at fun o x=>hk' _ o (.inr rfl) x,hk0⟩
 ·obtain⟨⟨old,he⟩,hit,hl⟩:=st;have hil:i < vs.length:=by have:=rH hd;rw[rI] at this;rw[h3];exact this
  have hL:s₁.heap.IsList ad vs.toArray:=⟨_,hl ad _ e h1,rfl,_,rfl⟩
  have hx:vs.toArray[i]?=some vs[i]:=by simp[hil]
  refine wpAny_pyNext_enum_item he hit hL hx hei fun h2 ho hit' hT hsz hk2=>?_;refine wpAny_letOwnedTupleGo_enum ho fun h3' he' hs'=>?_;have helt:s.heap.objs.size+1 < s₁.heap.objs.size:=Heap.lt_size he;have kept:∀ b o,¬ (b=s.heap.objs.size+1∨b=s.heap.objs.size)→s₁.heap.get? b=some o→h3'.get? b=some o:=fun b o hb e=>(hs'.2 b fun x=>hb (.inl x)).trans (hk2 b o (fun x=>hb (.inl x)) (fun x=>hb (.inr x)) e);have keep0:∀ b o,s.heap.get? b=some o→¬ av b→h3'.get? b=some o:=fun b o e hav=>kept b o (fun hb=>by rw[hn b hb] at e;exact ns e) (hl b o e hav);refine hQ (.ref s₁.heap.objs.size) h3' _ kept ⟨⟨_,by simpa using he'⟩,hit'.at fun o y=>(hs'.2 _ hei.symm).trans y,keep0⟩ fun avn hlive hsub=>?_;obtain⟨y,hy,rfl⟩:=zC _ _ _ _ hd;refine Rep.tuple (vs:=[.int i s₁.toks,vs[i]]) (fun hx=>?_) ⟨_,(hs'.2 _ (Nat.ne_of_gt helt)).trans hT⟩ rfl (by rw[sizeLine_eq];exact Nat.le_of_ble_eq_true rfl) fun j v e e2 e3=>?_
  ·obtain⟨o,e⟩:=hlive _ hx;rw[bT] at e;exact ns e
  ·match j,e2,e3 with
   |0,e2,e3=>obtain rfl:=si e2;obtain rfl:=si e3;rw[Int.zero_add];exact .int _ _
   |1,e2,e3=>obtain rfl:=si e2;obtain rfl:=si e3;exact(h5 i _ _ (List.getElem?_eq_getElem hil) hy).mono (fun b o hb e=>keep0 b o e hb) hsub
 ·obtain⟨⟨old,he⟩,hit,hl⟩:=st;have hL:s₁.heap.IsList ad vs.toArray:=⟨_,hl ad _ e h1,rfl,_,rfl⟩
  rw[rI,← h3] at he hit;exact wpAny_pyNext_enum_end hh he hit hL (Array.getElem?_eq_none (by simp)) fun h'' hx=>hQ h'' s₁.toks fun b o hb y=>hx b o (fun e'=>hb (.inr e')) y
 ·obtain⟨⟨old,he⟩,_,_⟩:=st;exact wpAny_pyIter_enum he hQ
 ·rcases hb with rfl | rfl
  ·exact⟨_,he⟩
  ·obtain⟨o,eo,_⟩:=hit;exact⟨o,eo⟩
theorem Ln{rec:Expr→R V}{target a:Expr}{p q:Pos}(hbad:∀ e,bad e=true→rec e=.no)(hh:hd=false)(hg:isG sc "enumerate" = true)(ht:jJ target=true)(h:aH prog w mg mb base n hd l sc σ a (rec a)) :
  iU prog w mg mb base n hd l sc σ target (.Call (.Name "enumerate" p) [a] [] q) (pY rec a):=by
 intro A env s av hA I β k fin Q E hf hq he;refine PySem.Call_name1 (fK (eY (hbad a) (Fin.b hf).ne)) (dW I hg rfl (gV (.inr ⟨_,rfl⟩) (h A env s av hA I (Fin.b hf) (fun v s₁ u k1 r h1=>?_) he)));obtain⟨ds,e1,e2⟩:=Fin.p ⟨h1,hf.2⟩;have rd:=r.rep I.gnd.avlt;generalize dOf u=d at rd e1;cases d with
 |list m =>
  obtain rfl:=pi e1;obtain⟨ad,vs,rfl,h1,⟨nn,e⟩,h3,h4,h5⟩:=rd.list_inv;refine call_enumerate_list ⟨_,e,rfl,_,rfl⟩ fun h' he' hit hsz hk=>?_;unfold jJ at ht;generalize hv:vw target=tv at ht;cases tv with
  |tup elts =>
   obtain⟨kk,pos,rfl⟩:=cX hv;exact wpAny_pyIter_enum he' (hq _ _ _ (Lm k1 (hA.handled hh) e h1 h3 h4 h5 he' hit hk) e2)
  |_=>exact bft ht
 |_=>exact pno e1
theorem Lo{rec:Expr→R V}{target a:Expr}{p q:Pos}(hbad:∀ e,bad e=true→rec e=.no)(hh:hd=false)(hg:isG sc "reversed" = true)(h:aH prog w mg mb base n hd l sc σ a (rec a)) :
  iU prog w mg mb base n hd l sc σ target (.Call (.Name "reversed" p) [a] [] q) (pX rec a):=by
 intro A env s av hA I β k fin Q E hf hq he;refine PySem.Call_name1 (fK (eY (hbad a) (Fin.b hf).ne)) (dW I hg rfl (gV (.inr ⟨_,rfl⟩) (h A env s av hA I (Fin.b hf) (fun v s₁ u k1 r h1=>?_) he)));obtain⟨ds,e1,e2⟩:=Fin.p ⟨h1,hf.2⟩;have rd:=r.rep I.gnd.avlt;generalize dOf u=d at rd e1;cases d with
 |list m =>
  obtain rfl:=pi e1;obtain⟨ad,vs,rfl,h1,⟨nn,e⟩,h3,h4,h5⟩:=rd.list_inv;have hlt:=Heap.lt_size e;have W:=Walks.listRev (prog:=prog) (w:=w) (hA.handled hh) s₁.heap.objs.size ad (Nat.ne_of_lt hlt) vs.toArray;have hst:0≤vs.toArray.size∧(s₁.heap.push (revObj ad ((vs.toArray.size:Int) - 1))).IsRevIter s₁.heap.objs.size ad ((vs.toArray.size:Int) - 1 - ((0:Nat):Int))∧(s₁.heap.push (revObj ad ((vs.toArray.size:Int) - 1))).IsList ad vs.toArray :=
   ⟨Nat.zero_le _,⟨_,cQ _ _ rfl,rfl,by simp[revObj]⟩,⟨_,Heap.get?_push_of_some _ e,rfl,nn,rfl⟩⟩
  refine call_reversed_list ⟨_,e,rfl,nn,rfl⟩ (wpAny_pyIter_revIter hst.2.1 (hq _ _ _ (gB (o:=revObj ad ((vs.toArray.size:Int) - 1)) k1 rfl W (by simp[h3]) (by rw[List.length_reverse,← h3];exact h4) (fp2 e h1) (fun i h st=>let ⟨_,⟨o,ho,hc,_⟩,_⟩:=st;⟨o,_,ho,hc,by decide⟩) (fun i v d hP hd'=>?_) hst) e2));have hi:i < m.length:=by simpa using rH hd'
  rw[List.getElem?_reverse hi] at hd';exact h5 (m.length - 1 - i) v d (by simpa[h3] using hP) hd'
 |_=>exact pno e1
theorem zD{rec:Expr→R V}(hbad:∀ e,bad e=true→rec e=.no){target e:Expr}(h:aH prog w mg mb base n hd l sc σ e (rec e))
  (hsub:∀ f as kws q,e=.Call f as kws q→∀ a∈as,aH prog w mg mb base n hd l sc σ a (rec a)):iU prog w mg mb base n hd l sc σ target e (fH rec hd sc target e):=by
 unfold fH;cases hd with
 |true=>exact fun A env s av hA I _ _ _ _ _ hf _ _=>hf.no.elim
 |false =>
  rw[if_neg Bool.false_ne_true];have P:=Lk (target:=target) rfl h;refine ocs (iM e) (fun hc=>?_) fun c hc=>?_
  ·try rewrite[hc]
   exact P
  ·try rewrite[hc]
   obtain⟨x,as⟩:=c;obtain⟨p,q,rfl⟩:=xI hc;show iU prog w mg mb base n false l sc σ target _ (if x = "range" ∨ x = "enumerate" ∨ x = "reversed" ∨ x = "zip" then _ else iL rec _)
   by_cases hx:x = "range" ∨ x = "enumerate" ∨ x = "reversed" ∨ x = "zip"
   ·rw[if_pos hx];intro A env s av hA I β k fin Q E hf hq he;obtain⟨hg,hf1⟩:=Fin.ite hf;clear hf;cases as with
    |nil=>exact hf1.no.elim
    |cons a r =>
     cases r with
     |cons=>exact hf1.no.elim
     |nil =>
      have ha:=hsub _ _ _ _ rfl a List.mem_cons_self;replace hf1:Fin (if x = "range" then pW rec a else if x = "enumerate" ∧ jJ target=true then pY rec a else if x = "reversed" then pX rec a else .no) k fin:=hf1
      by_cases h1:x = "range"
      ·rw[if_pos h1] at hf1;subst h1;exact Ll hbad rfl hg ha A env s av hA I hf1 hq he
      rw[if_neg h1] at hf1
      by_cases h2:x = "enumerate" ∧ jJ target=true
      ·rw[if_pos h2] at hf1;obtain⟨rfl,h2⟩:=h2;exact Ln hbad rfl hg h2 ha A env s av hA I hf1 hq he
      rw[if_neg h2] at hf1
      by_cases h3:x = "reversed"
      ·rw[if_pos h3] at hf1;subst h3;exact Lo hbad rfl hg ha A env s av hA I hf1 hq he
      ·rw[if_neg h3] at hf1;exact hf1.no.elim
   ·rw[if_neg hx];exact P
end
end Mine
namespace Mine
open PySem
section
variable {prog:Program} {w:World} {mg mb:Str→Option Value} {base:Heap} {n:Nat} {hd:Bool} {l:List Env}
theorem Lp{env:Env}:∀ (names:List (Str×NameKind)) (acc:List (Str×Addr)),(∀ p∈names,p.2=.free→∃ c,env.cells.lookup p.1=some c)→(∀ q∈acc,env.cells.lookup q.1=some q.2) →
  ∃ cl,(forIn names acc (fun (x:Str×NameKind) (cs:List (Str×Addr))=>if (x.2==NameKind.free)=true then (do let c ← cellOf env x.1;pure (ForInStep.yield ((x.1,c)::cs))) else pure (ForInStep.yield cs)):Sem (List (Str×Addr)))=pure cl ∧
   (∀ q∈cl,env.cells.lookup q.1=some q.2)∧(∀ q∈acc,q∈cl)∧∀ p∈names,p.2=.free→∃ c,(p.1,c)∈cl:=by
 intro v0
 induction v0 with
 |nil =>
  intro acc _ ha;exact⟨acc,by simp,ha,fun _ h=>h,fun _ h=>by simp at h⟩
 |cons pp r ih =>
  obtain⟨x,k⟩:=pp;intro acc hn ha;rw[List.forIn_cons]
  by_cases hk:k=.free
  ·subst hk;obtain⟨c,hc⟩:=hn (x,.free) (by simp) rfl;obtain⟨cl,h1,h2,h3,h4⟩:=ih ((x,c)::acc) (fun p hp=>hn p (List.mem_cons_of_mem _ hp)) (fun q hq=>by
    rcases List.mem_cons.mp hq with rfl | hq
    ·exact hc
    ·exact ha q hq)
   refine⟨cl,?_,h2,fun q hq=>h3 q (List.mem_cons_of_mem _ hq),fun p hp hpk=>?_⟩
   ·have e:cellOf env x=pure c:=by unfold cellOf;rw[hc]
    simp only[e];exact h1
   ·rcases List.mem_cons.mp hp with rfl | hp
    ·exact⟨c,h3 _ (by simp)⟩
    ·exact h4 p hp hpk
  ·obtain⟨cl,h1,h2,h3,h4⟩:=ih acc (fun p hp=>hn p (List.mem_cons_of_mem _ hp)) ha;refine⟨cl,?_,h2,h3,fun p hp hpk=>?_⟩
   ·have e:(k==NameKind.free)=false:=beq_eq_false_iff_ne.mpr hk;simp only[e];exact h1
   ·rcases List.mem_cons.mp hp with rfl | hp
    ·exact absurd hpk hk
    ·exact h4 p hp hpk
theorem zE{α:Type}:∀ {l:List (Str×α)} {x:Str} {c:α},(x,c)∈l→∃ c',l.lookup x=some c'∧(x,c')∈l
 | (y,d)::r,x,c,h=>by
  by_cases hxy:x=y
  ·subst hxy;exact⟨d,by simp[List.lookup],by simp⟩
  ·rcases List.mem_cons.mp h with h | h
   ·exact absurd (congrArg Prod.fst h) hxy
   ·obtain⟨c',h1,h2⟩:=zE h;have:(x==y)=false:=beq_eq_false_iff_ne.mpr hxy;exact⟨c',by simp only[List.lookup,this];exact h1,List.mem_cons_of_mem _ h2⟩
theorem eZ{α:Type}:∀ {l:List (Str×α)} {x:Str} {c:α},l.lookup x=some c→(x,c)∈l
 | (y,d)::r,x,c,h=>by
  by_cases hxy:x=y
  ·subst hxy;simp[List.lookup] at h;simp[h]
  ·have:(x==y)=false:=beq_eq_false_iff_ne.mpr hxy;simp only[List.lookup,this] at h;exact List.mem_cons_of_mem _ (eZ h)
theorem Lq{env:Env}{scope:Scope}(h:∀ p∈scope.names,p.2=.free→∃ c,env.cells.lookup p.1=some c):∃ cl,closureFor scope env=pure cl∧∀ x c,(x,NameKind.free)∈scope.names→env.cells.lookup x=some c→cl.lookup x=some c:=by
 obtain⟨cl,h1,h2,_,h4⟩:=Lp (env:=env) scope.names [] h (by simp);refine⟨cl,?_,fun x c hx hc=>?_⟩
 ·unfold closureFor;show(forIn scope.names [] _:Sem _) >>= _=_;have:(forIn scope.names [] (fun (x:Str×NameKind) (cs:List (Str×Addr))=>if (x.2==NameKind.free)=true then (do let c ← cellOf env x.1;pure (ForInStep.yield ((x.1,c)::cs))) else pure (ForInStep.yield cs)):Sem (List (Str×Addr)))=pure cl:=h1;rw[show(forIn scope.names [] (fun (x:Str×NameKind) (cs:List (Str×Addr))=>_):Sem (List (Str×Addr)))=pure cl from this];rfl
 ·obtain⟨c',hc'⟩:=h4 (x,.free) hx rfl;obtain⟨c'',e1,e2⟩:=zE hc';have:=h2 _ e2;rw[hc] at this;rw[e1];exact this.symm▸rfl
noncomputable def CpE(prog:Program)(w:World)(A:Around)(acc:Value)(G:Shared→Prop)(X:Value→Shared→Prop):Value→Shared→Prop:=fun x s=>wpAny (model prog w) A (call (.builtin "list.append") [acc,x]) (fun _ s=>G s) X s
noncomputable def CpT(prog:Program)(w:World)(A:Around)(elt:Expr)(env:Env)(acc:Value)(G:Shared→Prop)(X:Value→Shared→Prop):Bool→Shared→Prop:=fun ok s=>if ok=true then wpAny (model prog w) A (eval elt env) (CpE prog w A acc G X) X s else G s
noncomputable def CpA(prog:Program)(w:World)(A:Around)(ifs:List Expr)(elt:Expr)(env:Env)(acc:Value)(G:Shared→Prop)(X:Value→Shared→Prop):Unit→Shared→Prop:=fun _ s =>
 wpAny (model prog w) A (forIn ifs true fun c r=>if r=true then do let ok ← isTrue c env (eval c env);pure (ForInStep.yield ok) else pure (ForInStep.yield r)) (CpT prog w A elt env acc G X) X s
noncomputable def CpN(prog:Program)(w:World)(A:Around)(R:Result→Shared→Prop)(target:Expr)(it:Value)(ifs:List Expr)(elt:Expr)(env:Env)(acc:Value)(G:Shared→Prop)(X:Value→Shared→Prop):Option Value→Shared→Prop:=fun r s=>match r with
 |none=>R (.ok .next) s
 |some v=>wpAny (model prog w) A (letOwnedTupleGo target it v) (fun _ s=>wpAny (model prog w) A (assign target env v) (CpA prog w A ifs elt env acc G X) X s) X s
theorem Lr{A:Around}{R:Result→Shared→Prop}{s:Shared}{elt target iter:Expr}{ifs:List Expr}{scope:Scope}{pos:Pos}{it acc:Value}{env:Env}(I:Nat→Shared→Prop)
  (turn:∀ n s,I n s→wpAny (model prog w) A (pyNext it) (CpN prog w A R target it ifs elt env acc (fun s=>∃ m,m < n∧I m s) (notedBy (model prog w) A env fun e s'=>R (.error e) s')) (notedBy (model prog w) A env fun e s'=>R (.error e) s') s)
  (n:Nat) (h:I n s) :
  codeAny (model prog w) A (.compLoop (.ListComp elt [⟨target,iter,ifs,0⟩] scope pos) 0 it acc env) R s:=by
 refine codeAny_loop rfl I (fun n s hI=>?_) n h;show wpAny _ A ((compTurn (.ListComp elt [⟨target,iter,ifs,0⟩] scope pos) 0 it acc env).onRaise (fun x=>do noteFrame x env;theTreesLotGoes x)) _ _ s;refine wpAny_noted ?_;rw[compTurn_list];refine wpAny_bind (wpAny_standAt (wpAny_bind (wpAny_mono (turn n s hI) (fun r s₁ h₁=>?_) fun _ _ h'=>h')));cases r with
 |none=>exact wpAny_pure h₁
 |some v =>
  refine wpAny_bind (wpAny_mono h₁ (fun _ s₁ h₁=>?_) fun _ _ h'=>h');refine wpAny_bind (wpAny_mono h₁ (fun _ s₂ h₂=>wpAny_bind (wpAny_mono h₂ (fun ok s₃ h₃=>?_) fun _ _ h'=>h')) fun _ _ h'=>h');cases ok with
  |false=>exact wpAny_pure ⟨rfl,h₃⟩
  |true =>
   replace h₃:wpAny (model prog w) A (eval elt env) (CpE prog w A acc _ _) _ s₃:=h₃;exact wpAny_bind (wpAny_bind (wpAny_mono h₃ (fun x s₄ h₄=>wpAny_bind (wpAny_mono h₄ (fun _ s₅ h₅=>wpAny_pure (wpAny_pure ⟨rfl,h₅⟩)) fun _ _ h'=>h')) fun _ _ h'=>h'))
noncomputable def gW(env:Env)(x:Str)(k:NameKind):NameKind:=if (k==NameKind.free&&env.scope.kind==ScopeKind.function&&env.kindOf x==some NameKind.cell)=true then NameKind.cell else k
theorem Ls(f:Str→NameKind→NameKind)(x:Str):∀ (names:List (Str×NameKind)),(names.map fun p=>(p.1,f p.1 p.2)).lookup x=(names.lookup x).map (f x):=by
 intro v0
 induction v0 with
 |nil =>
  exact rfl
 |cons pp r ih =>
  obtain⟨y,k⟩:=pp
  by_cases hxy:x=y
  ·subst hxy;simp[List.lookup]
  ·have h2:(x==y)=false:=beq_eq_false_iff_ne.mpr hxy;simp only[List.map_cons,List.lookup,h2];exact ih
theorem Lu(env:Env)(sc':Scope):(relabel sc' env).names=sc'.names.map fun p=>(p.1,gW env p.1 p.2):=by
 unfold relabel;show List.map _ sc'.names=_;refine List.map_congr_left fun p _=>?_;obtain⟨n,k⟩:=p;show(if _ then (n,NameKind.cell) else (n,k))=(n,gW env n k);unfold gW
 split<;>rfl
theorem j7{sc':Scope}{cl:List (Str×Addr)}{C:Addr}{env:Env}(x:Str):(compEnvC sc' cl C env).kindOf x=(sc'.names.lookup x).map (gW env x):=by
 show(relabel sc' env).names.lookup x=_;rw[Lu];exact Ls (gW env) x sc'.names
structure CompOk(sc sc':Scope)(t:Tg):Prop where
 kind:sc'.kind=.function
 loc:∀ p∈sc'.names,p.2=.local→(p.1 = ".0" ∨ p.1∈t.ns)∧sc'.names.lookup p.1=some .local
 cell:∀ p∈sc'.names,p.2≠.cell
 free:∀ p∈sc'.names,p.2=.free→mG (sc.names.lookup p.1)=true
 tgt:∀ x∈t.ns,x ≠ ".0" ∧ sc'.names.lookup x=some .local
 dbg:sc'.names.lookup (Str.ofString "__debug__")=none
 cld:sc'.names.lookup (Str.ofString "__classdict__")=none
theorem Lv{sc sc':Scope}{t:Tg}(h:mH sc sc' t=true):CompOk sc sc' t:=by
 unfold mH at h;simp only[Bool.and_eq_true] at h;obtain⟨⟨⟨⟨h1,h2⟩,h3⟩,h5⟩,h6⟩:=h;have h2':=List.all_eq_true.mp h2;have h3':=List.all_eq_true.mp h3;refine⟨eq_of_beq h1,fun p hp hk=>?_,fun p hp hk=>?_,fun p hp hk=>?_,fun x hx=>?_,Option.isNone_iff_eq_none.mp h5,Option.isNone_iff_eq_none.mp h6⟩
 ·have:=h2' p hp;rw[hk] at this;simp only[Bool.and_eq_true,Bool.or_eq_true,beq_iff_eq,List.contains_iff_mem] at this;exact this
 ·have:=h2' p hp;rw[hk] at this;exact bft this
 ·have:=h2' p hp;rw[hk] at this;exact this
 ·have:=h3' x hx;simp only[Bool.and_eq_true,bne_iff_ne,ne_eq,beq_iff_eq] at this;exact this
theorem aA.get_cons_ne{x y:Str}{v:Option V}{σ:aA}(h:x≠y):aA.get ((y,v)::σ) x=aA.get σ x:=by
 show(if x=y then some v else aA.get σ x)=_;rw[if_neg h]
theorem aA.get_cons_eq{x:Str}{v:Option V}{σ:aA}:aA.get ((x,v)::σ) x=some v:=by
 show(if x=x then some v else aA.get σ x)=_;rw[if_pos rfl]
theorem Lw{t:Tg}{d:PyData}{σ σ':aA}(hb:jP t d σ=some σ'):aA.get σ' ".0" = some none∧∀ x:Str,x ≠ ".0" → x∉t.ns→aA.get σ' x=aA.get σ x:=by
 cases t with
 |one z =>
  obtain rfl:=si hb;exact⟨aA.get_cons_eq,fun y h0 hy=>(aA.get_cons_ne h0).trans (aA.get_cons_ne fun e=>hy (List.mem_singleton.mpr e))⟩
inductive TgI(target:Expr):Tg→Prop where
 |one (x:Str) (p:Pos) (e:target=.Name x p):TgI target (.one x)
theorem Lx{target:Expr}{t:Tg}(h:jO target=some t):TgI target t:=by
 unfold jO at h;generalize hv:vw target=tv at h;cases tv with
 |name x =>
  obtain rfl:=si h;obtain⟨p,rfl⟩:=cX hv;exact .one x p rfl
 |_=>exact ns h
theorem Inv0.comp{env:Env}{sc sc':Scope}{σ σ':aA}{av avn:Addr→Prop}{s s':Shared}{t:Tg}{d:PyData}{cl:List (Str×Addr)}{C:Addr}{m:Str→Option Value}(I:Inv0 prog w mg mb base l env sc σ av s)(hok:CompOk sc sc' t)(hb:jP t d σ=some σ')
  (hcl:∀ x c,(x,NameKind.free)∈sc'.names→env.cells.lookup x=some c→cl.lookup x=some c) (k:K l s s') (hav:∀ b o,s.heap.get? b=some o→avn b→av b) (hva:∀ b,av b→avn b)
  (hlive:∀ b,avn b→∃ o,s'.heap.get? b=some o) (hns:s'.heap.Ns C m) (hm:∀ x v,x∈t.ns→aA.get σ' x=some (some v)→∃ u,m x=some u∧b7 prog w mg l s'.heap avn u v) :
  Inv0 prog w mg mb base l (compEnvC sc' cl C env) sc' σ' avn s' where
 gnd:={ I.gnd.k k with fav:=fun b f=>hva b (I.gnd.fav b f),avlt:=hlive,avS:=hva _ I.gnd.avS }
 kind:=hok.kind
 eg:=I.eg
 eb:=I.eb
 dbg:=hok.dbg
 cld:=hok.cld
 glob:=fun x hx=>by
  unfold isG at hx;rw[j7,eq_of_beq hx];rfl
 kinds:=fun x hx=>by
  refine ocs (sc'.names.lookup x) (fun hl=>?_) fun k hl=>?_
  ·try rewrite[hl]
   rw[hl] at hx;exact bft hx
  ·try rewrite[hl]
   rw[hl] at hx;have hmem:=eZ hl;cases k with
   |free =>
    obtain⟨h1,c,h2⟩:=I.kinds x (hok.free _ hmem rfl);rw[j7,hl];refine⟨?_,c,hcl x c hmem h2⟩;simp only[Option.map_some];unfold gW
    split<;>rfl
   |cell=>exact absurd rfl (hok.cell _ hmem)
   |_=>exact bft hx
 get:=fun x v hl hg=>by
  obtain⟨b1,b2⟩:=Lw hb;have hx0:x ≠ ".0" := fun e=>by rw[e,b1] at hg;cases hg
  unfold isL at hl;cases hk':sc'.names.lookup x with
  |none=>rw[hk'] at hl;exact bft hl
  |some kk =>
   rw[hk'] at hl;have hmem:=eZ hk';cases kk with
   | «local» =>
    obtain⟨u,h1,h2⟩:=hm x v ((hok.loc _ hmem rfl).1.resolve_left hx0) hg;exact⟨u,.inl ⟨by rw[j7,hk'];rfl,m,hns,h1⟩,h2⟩
   |cell=>exact absurd rfl (hok.cell _ hmem)
   |free =>
    have hcf:=hok.free _ hmem rfl;have hnt:x∉t.ns:=fun ht=>by have:=(hok.tgt x ht).2;rw[hk'] at this;cases this
    rw[b2 x hx0 hnt] at hg;have hsl:isL sc x=true:=by
     unfold isL;refine ocs (sc.names.lookup x) (fun h=>?_) fun k h=>?_
     ·try rewrite[h]
      rw[h] at hcf;exact bft hcf
     ·try rewrite[h]
      cases k<;>first | rfl | (rw[h] at hcf;cases hcf)
    obtain⟨u,h1,h2⟩:=I.get x v hsl hg;obtain⟨k1,c,k2⟩:=I.kinds x hcf;refine⟨u,?_,?_⟩
    ·rcases h1.k k with ⟨e,_⟩ | ⟨_,c',e1,e2⟩
     ·rw[e] at k1;exact bft k1
     ·refine .inr ⟨?_,c',hcl x c' hmem e1,e2⟩;rw[j7,hk'];simp only[Option.map_some];unfold gW
      split
      ·exact .inl rfl
      ·exact .inr rfl
    ·exact(b7.mono (fun _ _ e=>e) hav h2).k (av:=avn) (fun b f=>hva b (I.gnd.fav b f)) k
   |_=>exact bft hl
theorem Ly{A:Around}{E:Value→Shared→Prop}{s:Shared}{env:Env}{target:Expr}{t:Tg}{d:PyData}{σ σ':aA}{avn:Addr→Prop}{v:Value}{m:Str→Option Value}{Q:Unit→Shared→Prop}(hh:A.handled=none)(ht:TgI target t)
  (hb:jP t d σ=some σ') (hv:Rep prog w s.heap avn v d) (hC:avn env.locals) (hn:s.heap.Ns env.locals m) (hl:∀ x∈t.ns,x ≠ ".0" ∧ env.kindOf x=some .local) (hf:env.scope.kind=.function)
  (h:∀ h' tk m',h'.Ns env.locals m'→(∀ b o,b≠env.locals→s.heap.get? b=some o→h'.get? b=some o)→(∀ x v,x∈t.ns→aA.get σ' x=some (some v)→∃ u,m' x=some u∧b7 prog w mg l h' avn u v)→Q () { s with heap:=h',toks:=tk }) :
  wpAny (model prog w) A (assign target env v) Q E s:=by
 have hp:(env.scope.kind==.class||(env.scope.kind==.module&&env.locals != env.globals))=false:=by rw[hf];rfl
 have mono:∀ {h1 h2:Heap} {v:Value} {d:PyData},Heap.SameBut env.locals h1 h2→Rep prog w h1 avn v d→Rep prog w h2 avn v d:=fun hs r =>
  r.mono (fun b o hb e=>by rw[hs.2 b (fun x=>hb (x▸hC))];exact e) fun _ _ _ x=>x
 cases ht with
 |one x p et =>
  subst et;obtain⟨q1,q2⟩:=hl x List.mem_cons_self;obtain rfl:=si hb;refine wpAny_assign_Name (wpAny_storeName_local q2 hn (fun h' hn' hs'=>?_) hp);refine h h' _ _ hn' (fun b o hb e=>by rw[hs'.2 b hb];exact e) fun y u hy hg=>?_;obtain rfl:=List.mem_singleton.mp hy;rw[bnd,aA.get_cons_ne q1,aA.get_cons_eq] at hg;cases hg;exact⟨v,by simp,mono hs' hv⟩
end
end Mine
namespace Mine
open PySem
section
variable {prog:Program} {w:World} {mg mb:Str→Option Value} {base:Heap} {n:Nat} {hd:Bool} {l:List Env}
theorem Fin.nx{α β:Type}{r:R α}{k:α→R β}{fin:R β}(h:Fin (nx r) k fin):∃ a,r=.ok a∧k a=fin:=by
 cases r with
 |ok a=>exact⟨a,rfl,h.1⟩
 |_=>exact(Fin.no h).elim
theorem EH.ok{β:Type}{s:Shared}{av:Addr→Prop}{b:β}{E:Value→Shared→Prop}:EH prog w mg l s av (.ok b) E:=fun _ _ _ e=>nomatch e
noncomputable def nH(prog:Program)(w:World)(mg mb:Str→Option Value)(base:Heap)(n:Nat)(hd:Bool)(l:List Env)(sc:Scope)(σ:aA)(ifs:List Expr)(r:R Bool):Prop :=
 ∀ (A:Around) (env:Env) (s:Shared) (av:Addr→Prop),Room n hd l A→Inv0 prog w mg mb base l env sc σ av s→∀ {b:Bool} {Q:Bool→Shared→Prop} {E:Value→Shared→Prop},r=.ok b→(∀ s',K l s s'→Q b s') →
  wpAny (model prog w) A (forIn ifs true fun c r=>if r=true then do let ok ← isTrue c env (eval c env);pure (ForInStep.yield ok) else pure (ForInStep.yield r)) Q E s
theorem aH.val{sc:Scope}{σ:aA}{e:Expr}{r:R V}(h:aH prog w mg mb base n hd l sc σ e r){A:Around}{env:Env}{s:Shared}{av:Addr→Prop}(hA:Room n hd l A)(I:Inv0 prog w mg mb base l env sc σ av s){u:V}{Q:Value→Shared→Prop}{E:Value→Shared→Prop}(hr:r=.ok u)
  (hq:∀ v s',K l s s'→bB prog w s s'.heap av v u→Q v s'):wpAny (model prog w) A (eval e env) Q E s :=
 h A env s av hA I (k:=.ok) (fin:=.ok u) ⟨by rw[hr];rfl,nofun⟩ (fun v s' u' k r e=>by cases e;exact hq v s' k r) EH.ok
theorem Lz{sc:Scope}{σ:aA}:nH prog w mg mb base n hd l sc σ [] (.ok true):=fun A env s av _ _ _ _ _ hr hq=>by cases hr;exact wpAny_tests_nil (hq _ (K.rf l s))
theorem L0{sc:Scope}{σ:aA}{c:Expr}{r:R V}(h:bU prog w mg mb base n hd l sc σ c r):nH prog w mg mb base n hd l sc σ [c] (tst r):=fun A env s av hA I b _ _ hr hq =>
 wpAny_tests_one (h A env s av hA I (k:=.ok) (fin:=.ok b) ⟨by rw[hr];rfl,nofun⟩ (fun b' s' k e=>by cases e;exact hq s' k) EH.ok)
structure Cst(prog:Program)(w:World)(l:List Env)(s₁:Shared)(avn:Addr→Prop)(D C:Addr)(xs:List PyData)(st:Shared):Prop where
 k:K l s₁ st
 ns:∃ m,st.heap.Ns C m
 lst:∃ ys:List Value,st.heap.PlainList D ys.toArray∧ys.length=xs.length∧∀ (j:Nat) (v:Value) (d:PyData),ys[j]?=some v→xs[j]?=some d→Rep prog w st.heap avn v d
theorem K.on{s s':Shared}{h':Heap}{tk:Nat}{c:Addr}(k:K l s s')(hc:s.heap.get? c=none)(hk:∀ b o,b≠c→s'.heap.get? b=some o→h'.get? b=some o):K l s { s' with heap:=h',toks:=tk }:=by
 obtain⟨h,t,rfl,k1,k2⟩:=k;have ne:∀ b o,s.heap.get? b=some o→b≠c:=fun b o e x=>by rw[x,hc] at e;exact ns e
 exact⟨h',tk,rfl,fun b o n e=>hk b o (ne b o e) (k1 b o n e),fun b o e=>by obtain⟨sl,e'⟩:=k2 b o e;exact⟨sl,hk b _ (ne b o e) e'⟩⟩
theorem K.onw{s s':Shared}{h':Heap}{tk:Nat}{c:Addr→Prop}(k:K l s s')(hc:∀ b,c b→s.heap.get? b=none)(hk:∀ b o,¬ c b→s'.heap.get? b=some o→h'.get? b=some o):K l s { s' with heap:=h',toks:=tk }:=by
 obtain⟨h,t,rfl,k1,k2⟩:=k;have ne:∀ b o,s.heap.get? b=some o→¬ c b:=fun b o e x=>by rw[hc b x] at e;exact ns e
 exact⟨h',tk,rfl,fun b o n e=>hk b o (ne b o e) (k1 b o n e),fun b o e=>by obtain⟨sl,e'⟩:=k2 b o e;exact⟨sl,hk b _ (ne b o e) e'⟩⟩
theorem zF{h:Heap}{av:Addr→Prop}{ys:List Value}{xs:List PyData}{v:Value}{x:PyData}(hl:ys.length=xs.length)(hr:∀ (j:Nat) (v:Value) (d:PyData),ys[j]?=some v→xs[j]?=some d→Rep prog w h av v d)(hx:Rep prog w h av v x) :
  ∀ (j:Nat) (v':Value) (d:PyData),(ys++[v])[j]?=some v'→(xs++[x])[j]?=some d→Rep prog w h av v' d :=
 xQ hl (bs:=[x]) rfl hr fun j v' d e1 e2=>by
  cases j with
  |zero=>obtain rfl:=si e1;obtain rfl:=si e2;exact hx
  |succ j=>exact ns e1
theorem zG{α:Type}(t:Tg)(d:PyData)(σ:aA)(k:aA→R α):jQ t d σ k=match jP t d σ with | some σ'=>k σ' | none=>.no:=by
 cases t with
 |one x=>rfl
inductive CTurn(prog:Program)(w:World)(l:List Env)(s₁:Shared)(av':Addr→Prop)(D C:Addr)(n:Nat)(St:Nat→Heap→Prop)(P:Nat→List PyData→Prop)(m:Nat)(st:Shared):Prop where
 |mk (i:Nat) (xs:List PyData) (hi:i+m=n) (hx:xs.length≤i) (F:Cst prog w l s₁ av' D C xs st) (hs:St i st.heap) (hp:P i xs):CTurn prog w l s₁ av' D C n St P m st
theorem L3{A:Around}{env:Env}{sc sc':Scope}{σ:aA}{av:Addr→Prop}{s₁:Shared}{z:Tg}{target:Expr}{elt iter:Expr}{ifs:List Expr}{pos:Pos}{cl:List (Str×Addr)}{it:Value}{wr:Addr→Prop}{St:Nat→Heap→Prop}{ds:List PyData}{D C:Addr}
  {test:aA→R Bool} {eltF:aA→R V} (hA:Room n hd l A) (hh:A.handled=none) (htg:TgI target z) (I:Inv0 prog w mg mb base l env sc σ av s₁) (hok:CompOk sc sc' z) (hcl:∀ x c,(x,NameKind.free)∈sc'.names→env.cells.lookup x=some c→cl.lookup x=some c)
  (hT:∀ σ',nH prog w mg mb base n hd l sc' σ' ifs (test σ')) (hE:∀ σ',aH prog w mg mb base n hd l sc' σ' elt (eltF σ'))
  (S:Src prog w A s₁.heap av target it wr St ds) (hwr:∀ b,wr b→s₁.heap.get? b=none)
  (hD:s₁.heap.get? D=none) (hC:s₁.heap.get? C=none) (hDC:D≠C) (hlen:ds.length≤sizeLine) (hDwr:¬ wr D) (hCwr:¬ wr C)
  {R:Result→Shared→Prop} {β:Type} {k:List PyData→Mine.R β} {fin:Mine.R β} (hne:fin≠.no) (hR:∀ xs st',xs.length≤sizeLine→Cst prog w l s₁ (fun b=>av b∨wr b∨b=D∨b=C) D C xs st'→k xs=fin→R (.ok .next) st')
  {st:Shared} (h:Cst prog w l s₁ (fun b=>av b∨wr b∨b=D∨b=C) D C [] st) (hst:St 0 st.heap) (hf:rb (fV test eltF z σ ds) k=fin) :
  codeAny (model prog w) A (.compLoop (.ListComp elt [⟨target,iter,ifs,0⟩] sc' pos) 0 it (.ref D) (compEnvC sc' cl C env)) R st:=by
 have nf:∀ b,(wr b∨b=D∨b=C)→¬ frs l b:=fun b hb f=>by
  obtain⟨o,e⟩:=I.gnd.avlt _ (I.gnd.fav _ f);rcases hb with hb | rfl | rfl
  ·rw[hwr b hb] at e;exact ns e
  ·rw[hD] at e;exact ns e
  ·rw[hC] at e;exact ns e
 have new:∀ b o,s₁.heap.get? b=some o→(av b∨wr b∨b=D∨b=C)→av b:=fun b o e hb=>by
  rcases hb with hb | hb | rfl | rfl
  ·exact hb
  ·rw[hwr b hb] at e;exact ns e
  ·rw[hD] at e;exact ns e
  ·rw[hC] at e;exact ns e
 have fvn:∀ b,frs l b→(av b∨wr b∨b=D∨b=C):=fun b f=>.inl (I.gnd.fav b f);obtain⟨P,hP⟩:∃ P:Nat→List PyData→Prop,∀ i xs,P i xs↔rb (fV test eltF z σ (ds.drop i)) (fun ys=>k (xs++ys))=fin:=⟨_,fun _ _=>Iff.rfl⟩
 refine Lr (I:=CTurn prog w l s₁ (fun b=>av b∨wr b∨b=D∨b=C) D C ds.length St P) ?_ ds.length ⟨0,[],Nat.zero_add _,Nat.le_refl _,h,hst,(hP _ _).mpr hf⟩;clear h hst hf st
 rintro m st ⟨i,xs,hi,hx,F,hst,hp⟩
 replace hp:=(hP _ _).mp hp;obtain⟨kk,⟨mm,hns⟩,ys,hpl,hyl,hys⟩:=F;have live:∀ (st':Shared),K l s₁ st'→(∃ m,st'.heap.Ns C m)→st'.heap.PlainList D ys.toArray→(∀ b,wr b→∃ o,st'.heap.get? b=some o)→∀ b,(av b∨wr b∨b=D∨b=C)→∃ o,st'.heap.get? b=some o:=fun st' kk hn hp hw b hb=>by
  rcases hb with hb | hb | rfl | rfl
  ·obtain⟨o,e⟩:=I.gnd.avlt b hb;obtain⟨sl,e'⟩:=kk.up e;exact⟨_,e'⟩
  ·exact hw b hb
  ·obtain⟨nn,e⟩:=hp;exact⟨_,e⟩
  ·obtain⟨_,o,_,_,e,_⟩:=hn;exact⟨o,e⟩
 by_cases hend:i=ds.length
 ·subst hend;rw[List.drop_length] at hp;have hp:k (xs++[])=fin:=hp;rw[List.append_nil] at hp;refine wpAny_mono (S.done st _ (fun s'=>R (.ok .next) s') hst fun h' tk hk=>hR xs _ (Nat.le_trans hx hlen) ⟨kk.onw hwr hk,⟨mm,hns.at' fun o e=>hk C o hCwr e⟩,ys,hpl.at fun o e=>hk D o hDwr e,hyl,fun j v d e1 e2 =>
   (hys j v d e1 e2).mono (fun b o hb e=>hk b o (fun hw=>hb (.inr (.inl hw))) e) fun _ _ _ x=>x⟩ hp) (fun r s₁ h₁=>?_) fun _ _ x=>x
  cases r with
  |none=>exact h₁
  |some v=>exact h₁.elim
 ·have hlt:i < ds.length:=by exact vJ hi hend
  rw[List.drop_eq_getElem_cons hlt] at hp;replace hp:Fin (rb (nx (jQ z ds[i] σ test)) fun b=>if b then rb (nx (jQ z ds[i] σ eltF)) fun v=>rb (fV test eltF z σ (ds.drop (i+1))) fun xs=>.ok (dOf v::xs) else fV test eltF z σ (ds.drop (i+1))) (fun ys=>k (xs++ys)) fin:=⟨hp,hne⟩
  obtain⟨b,ht,hp⟩:=hp.b.nx;rw[zG] at ht;simp only[zG] at hp;refine ocs (jP z ds[i] σ) (fun hbt=>by rw[hbt] at ht;cases ht) fun σ' hbt=>?_;rw[hbt] at ht hp;refine wpAny_mono (S.item i ds[i] st _ ?QQ (List.getElem?_eq_getElem hlt) hst ?body) ?link fun _ _ x=>x
  case link =>
   intro r s₁ h₁;cases r with
   |none=>exact h₁.elim
   |some v=>exact h₁
  intro v h1 tk1 hk1 st1 hrep;have rv:=hrep (fun b=>av b∨wr b∨b=D∨b=C) (live st kk ⟨mm,hns⟩ hpl (S.live i _ hst)) new;refine Ly (l:=l) (mg:=mg) hh htg hbt rv (.inr (.inr (.inr rfl))) (hns.at' fun o e=>hk1 C o hCwr e) (fun x hx=>⟨(hok.tgt x hx).1,by rw[j7,(hok.tgt x hx).2];rfl⟩) hok.kind fun h2 tk2 m2 hn2 hk2 hm2=>?_;have k2:K l s₁ { st with heap:=h2,toks:=tk2 }:=K.on (s':={ st with heap:=h1,toks:=tk1 }) (c:=C) (kk.onw (tk:=tk1) hwr hk1) hC hk2;have st2:St (i+1) h2:=S.frame _ _ _ st1 (fun b o hb e=>hk2 b o (fun x=>hCwr ((show b=C from x)▸hb)) e) fun b o e hav=>k2.at (fun f=>hav (I.gnd.fav b f)) e;have pl2:h2.PlainList D ys.toArray:=hpl.at fun o e=>hk2 D o (fun x=>hDC x) (hk1 D o hDwr e);have ys2:∀ (j:Nat) (v:Value) (d:PyData),ys[j]?=some v→xs[j]?=some d→Rep prog w h2 (fun b=>av b∨wr b∨b=D∨b=C) v d:=fun j v d e1 e2 =>
   (hys j v d e1 e2).mono (fun b o hb e=>hk2 b o (fun x=>hb (.inr (.inr (.inr x)))) (hk1 b o (fun hw=>hb (.inr (.inl hw))) e)) fun _ _ _ x=>x
  have I2:Inv0 prog w mg mb base l (compEnvC sc' cl C env) sc' σ' (fun b=>av b∨wr b∨b=D∨b=C) { st with heap:=h2,toks:=tk2 } :=
   I.comp hok hbt hcl k2 new (fun _ x=>.inl x) (live { st with heap:=h2,toks:=tk2 } k2 ⟨m2,hn2⟩ pl2 (S.live _ _ st2)) hn2 hm2
  refine hT σ' A _ _ _ hA I2 ht fun s₃ k3=>?_;have kk3:=k2.tr k3;have st3:St (i+1) s₃.heap:=S.frame _ _ _ st2 (fun b o hb e=>k3.at (nf b (.inl hb)) e) fun b o e hav=>kk3.at (fun f=>hav (I.gnd.fav b f)) e;have pl3:s₃.heap.PlainList D ys.toArray:=pl2.at fun o e=>k3.at (nf D (.inr (.inl rfl))) e;have ns3:s₃.heap.Ns C m2:=hn2.at' fun o e=>k3.at (nf C (.inr (.inr rfl))) e;have ys3:=fun j v d e1 e2=>Rep.k fvn k3 (ys2 j v d e1 e2);cases b with
  |false=>exact(show ∃ m',m' < m∧CTurn prog w l s₁ _ D C ds.length St P m' s₃ from ⟨m - 1,by exact pM hi hend,i+1,xs,by exact pN hi hend,by exact D3 hx,⟨kk3,⟨m2,ns3⟩,ys,pl3,hyl,ys3⟩,st3,(hP _ _).mpr hp⟩)
  |true =>
   replace hp:Fin (rb (nx (eltF σ')) fun v=>rb (fV test eltF z σ (ds.drop (i+1))) fun xs=>.ok (dOf v::xs)) (fun ys=>k (xs++ys)) fin:=⟨hp,hne⟩
   obtain⟨u,hu,hp⟩:=hp.b.nx;have I3:=I2.k k3;refine(hE σ').val hA I3 hu fun xv s₄ k4 r4=>?_;have rx:=r4.rep I3.gnd.avlt;have kk4:=kk3.tr k4;have pl4:s₄.heap.PlainList D ys.toArray:=pl3.at fun o e=>k4.at (nf D (.inr (.inl rfl))) e;refine wpAny_list_append_plain pl4 (fun h5 pl5 hs5=>?_) (by simp;exact D4 hlen hi hx hyl);have k45:∀ b o,b≠D→s₄.heap.get? b=some o→h5.get? b=some o:=fun b o hb e=>by rw[hs5.2 b hb];exact e
   have kk5:K l s₁ { s₄ with heap:=h5 }:=kk4.on (tk:=s₄.toks) hD k45;have hp:rb (fV test eltF z σ (ds.drop (i+1))) (fun ys=>k ((xs++[dOf u])++ys))=fin:=by
    rw[← hp,qS];congr 1;funext ys;show k _=k _;rw[List.append_assoc];rfl
   refine⟨m - 1,by exact pM hi hend,i+1,xs++[dOf u],by exact pN hi hend,by simp;exact D5 hx,⟨kk5,⟨m2,?_⟩,ys++[xv],by simpa using pl5,by simp[hyl],zF hyl (fun j v d e1 e2=>?_) ?_⟩,?_,(hP _ _).mpr hp⟩
   ·exact ns3.at' fun o e=>k45 C o (fun x=>hDC x.symm) (k4.at (nf C (.inr (.inr rfl))) e)
   ·exact(Rep.k fvn k4 (ys3 j v d e1 e2)).mono (fun b o hb e=>k45 b o (fun x=>hb (.inr (.inr (.inl x)))) e) fun _ _ _ x=>x
   ·exact rx.mono (fun b o hb e=>k45 b o (fun x=>hb (.inr (.inr (.inl x)))) e) fun _ _ _ x=>x
   ·exact S.frame _ _ _ st3 (fun b o hb e=>k45 b o (fun x=>hDwr (x▸hb)) (k4.at (nf b (.inl hb)) e)) fun b o e hav=>kk5.at (fun f=>hav (I.gnd.fav b f)) e
end
end Mine
namespace Mine
open PySem
section
variable {prog:Program} {w:World} {mg mb:Str→Option Value} {base:Heap} {n:Nat} {hd:Bool} {l:List Env}
theorem L4{av:Addr→Prop}{s s₁:Shared}{wr:Addr→Prop}{D C:Addr}{xs:List PyData}{st:Shared}{h':Heap}(k0:K l s s₁)(hD:s₁.heap.get? D=none)(hC:s₁.heap.get? C=none)(hDC:D≠C)
  (F:Cst prog w l s₁ (fun b=>av b∨wr b∨b=D∨b=C) D C xs st) (hl:xs.length≤sizeLine) (hs:Heap.SameBut C st.heap h'):K l s { st with heap:=h' }∧bB prog w s h' av (.ref D) (.own (.list xs)):=by
 obtain⟨kk,_,ys,hpl,hyl,hys⟩:=F;have hk:∀ b o,b≠C→st.heap.get? b=some o→h'.get? b=some o:=fun b o hb e=>by rw[hs.2 b hb];exact e
 refine⟨k0.tr (kk.on (tk:=st.toks) hC hk),D,rfl,k0.non hD,ys,hpl.at fun o e=>hk D o hDC e,hyl,by rw[hyl];exact hl,fun j v d e1 e2=>?_⟩;refine(hys j v d e1 e2).mono (fun b o hb e=>hk b o (fun x=>hb (.inr (.inr (.inr x)))) e) fun b o _ hb=>?_;rcases hb with hb | hb
 ·exact .inl hb
 ·exact .inr (.inr (.inl hb))
theorem zH{rec:Expr→R V}{sc:Scope}{target e:Expr}(hbad:∀ e,bad e=true→rec e=.no)(h:bad e=true):fH rec hd sc target e=.no:=by
 have h0:iL rec e=.no:=by unfold iL;rw[hbad e h];rfl
 unfold fH
 split
 ·rfl
 ·unfold bad at h;unfold iM gP;generalize vw e=v at h;cases v<;>first | exact h0 | cases h
theorem zI{rec:Scope→aA→Expr→R V}{sc sc':Scope}{σ:aA}{elt:Expr}{g:Comprehension}{pos cpos:Pos}(hbad:∀ e,bad e=true→rec sc σ e=.no)
  (hit:aH prog w mg mb base n hd l sc σ g.iter (rec sc σ g.iter)) (hsub:∀ f as kws q,g.iter=.Call f as kws q→∀ a∈as,aH prog w mg mb base n hd l sc σ a (rec sc σ a))
  (hT:∀ c∈g.ifs,∀ σ',bU prog w mg mb base n hd l sc' σ' c (rec sc' σ' c)) (hE:∀ σ',aH prog w mg mb base n hd l sc' σ' elt (rec sc' σ' elt))
  {A:Around} {env:Env} {s:Shared} {av:Addr→Prop} (hA:Room n hd l A) (I:Inv0 prog w mg mb base l env sc σ av s) {β:Type} {k:V→R β} {fin:R β} {Q:Value→Shared→Prop} {E:Value→Shared→Prop} {use:Option (Value→Sem Unit)}
  (hf:Fin (iO rec hd sc σ elt g sc') k fin) (he:EH prog w mg l s av fin E)
  (hq:∀ (s₁:Shared) (wr:Addr→Prop) (D C:Addr) (xs:List PyData) (st':Shared),K l s s₁→s₁.heap.get? D=none→s₁.heap.get? C=none→D≠C→xs.length≤sizeLine→Cst prog w l s₁ (fun b=>av b∨wr b∨b=D∨b=C) D C xs st'→k (.own (.list xs))=fin→compPost (model prog w) A E use Q (.ref D) C (.ok .next) st') :
  wpAny (model prog w) A (comprehension (.ListComp elt [g] sc' pos) sc' env cpos (newList []) (firstAsync [g]) (firstIter [g] env) use) Q E s:=by
 obtain⟨target,iter,ifs,as⟩:=g;unfold iO at hf;replace hf:Fin (match jO target with
  |none=>.no
  |some x=>if (mH sc sc' x&&as==0)=true then match qB rec sc' ifs with
   |none=>.no
   |some t=>rb (rb (fH (rec sc σ) hd sc target iter) fun l=>fV t (fun σ'=>rec sc' σ' elt) x σ l) fun r=>ofP (own (.list r))
  else .no) k fin:=hf
 cases hn:jO target with
 |none=>rw[hn] at hf;exact hf.no.elim
 |some z =>
  rw[hn] at hf;obtain⟨hc,hf1⟩:=Fin.ite hf;clear hf;have htg:=Lx hn;simp only[Bool.and_eq_true,beq_iff_eq] at hc;obtain⟨c1,rfl⟩:=hc;have hok:=Lv c1;refine ocs (qB rec sc' ifs) (fun htt=>?_) fun t htt=>?_
  ·try rewrite[htt]
   rw[htt] at hf1;exact hf1.no.elim
  ·try rewrite[htt]
   rw[htt] at hf1;have hT':∀ σ',nH prog w mg mb base n hd l sc' σ' ifs (t σ'):=fun σ'=>by
    cases ifs with
    |nil=>obtain rfl:=si htt;exact Lz
    |cons c r =>
     cases r with
     |nil=>obtain rfl:=si htt;exact L0 (hT c List.mem_cons_self _)
     |cons=>cases htt
   have hb:bad iter=false:=eY (fun e=>zH hbad e) hf1.b.b.ne;obtain⟨cl,hclos,hcl⟩:=Lq (env:=env) (scope:=sc') fun p hp hk=>(I.kinds p.1 (hok.free p hp hk)).2;have hs:∀ x,foldedSetIterable iter env x=pure x:=xH hb;refine wpAny_comprehension_free (g:=⟨target,iter,ifs,0⟩) (gs:=[]) rfl hs hclos hok.kind (fun p hp hk=>(hok.loc p hp hk).2) ?_;have hhd:hd=false:=by
    cases hd with
    |false=>rfl
    |true=>exact hf1.b.b.no.elim
   refine zD (target:=target) hbad hit hsub A env s av hA I hf1.b.b (fun it s₂ ds x h1=>?_) he;obtain⟨s₁,wr,St,k0,S,hst,hwr,k2,hlen⟩:=x;refine wpAny_newObj_type (wpAny_newFunctionEnv hok.cell (by intro y hy;simp at hy) (fun h₁ hns₁ hsb₁=>?_) hok.kind);dsimp only at hns₁ hsb₁ ⊢;generalize hH2:s₂.heap.push { cls:=.type "list", dict:=none,data:=.seq ([]:List Value).toArray }=H2 at hns₁ hsb₁ ⊢;have hC:H2.objs.size=s₂.heap.objs.size+1:=by rw[← hH2,Heap.size_push]
   have hDC:s₂.heap.objs.size≠H2.objs.size:=by rw[hC];exact Nat.ne_of_lt (Nat.lt_succ_self _)
   have below:∀ b,b < s₂.heap.objs.size→b≠H2.objs.size:=fun b hb=>by rw[hC];exact Nat.ne_of_lt (Nat.lt_succ_of_lt hb)
   have old:∀ b o,s₂.heap.get? b=some o→h₁.get? b=some o:=fun b o e=>hsb₁.extBut b o (below b (Heap.lt_size e)) (Heap.get?_push_of_some _ (hH2▸Heap.get?_push_of_some _ e));have hacc:h₁.PlainList s₂.heap.objs.size #[]:=⟨_,hsb₁.extBut _ _ hDC (Heap.get?_push_of_some _ (hH2▸Heap.get?_push_size _ rfl))⟩
   have hD2:s₂.heap.get? s₂.heap.objs.size=none:=bT _;have hC2:s₂.heap.get? H2.objs.size=none:=Heap.get?_none_of_le (by rw[hC];exact Nat.le_succ _);have kk2:K l s₁ s₂:=K.of k2;have hst₁:St 0 h₁:=S.frame _ _ _ hst (fun b o _ e=>old b o e) fun b o e _=>old b o (k2.heap b o e);have loop:∀ s₃:Shared,s₃={ s₂ with heap:=h₁,toks:=s₂.toks+([]:List (Str×Value)).length } →
     codeAny (model prog w) A (.compLoop (.ListComp elt [⟨target,iter,ifs,0⟩] sc' pos) 0 it (.ref s₂.heap.objs.size) (compEnvC sc' cl H2.objs.size env)) (compPost (model prog w) A E use Q (.ref s₂.heap.objs.size) H2.objs.size) s₃:=by
    rintro s₃ rfl
    refine L3 (s₁:=s₁) (wr:=wr) hA (hA.handled hhd) htg (I.k k0) hok hcl hT' (fun σ'=>hE σ') S (fun b hb=>(hwr b hb).1) (kk2.non hD2) (kk2.non hC2) hDC hlen (fun hw=>?_) (fun hw=>?_) hf1.2 (fun xs st' hz F e=>?_) ⟨kk2.trp (Kp.mk' old),⟨_,hns₁⟩,[],hacc,rfl,nofun⟩ hst₁ h1
    ·obtain⟨o,e⟩:=(hwr _ hw).2;rw[hD2] at e;exact ns e
    ·obtain⟨o,e⟩:=(hwr _ hw).2;rw[hC2] at e;exact ns e
    ·exact hq s₁ wr _ _ xs st' k0 (kk2.non hD2) (kk2.non hC2) hDC hz F e
   exact codeAny_compStart_list (loop _ rfl) (S.self 0 _ _ _ hst₁ (loop _ rfl))
theorem L5{rec:Scope→aA→Expr→R V}{sc sc':Scope}{σ:aA}{elt:Expr}{g:Comprehension}{pos:Pos}(hbad:∀ e,bad e=true→rec sc σ e=.no)
  (hit:aH prog w mg mb base n hd l sc σ g.iter (rec sc σ g.iter)) (hsub:∀ f as kws q,g.iter=.Call f as kws q→∀ a∈as,aH prog w mg mb base n hd l sc σ a (rec sc σ a))
  (hT:∀ c∈g.ifs,∀ σ',bU prog w mg mb base n hd l sc' σ' c (rec sc' σ' c)) (hE:∀ σ',aH prog w mg mb base n hd l sc' σ' elt (rec sc' σ' elt)) :
  aH prog w mg mb base n hd l sc σ (.ListComp elt [g] sc' pos) (iO rec hd sc σ elt g sc'):=by
 intro A env s av hA I β k fin Q E hf hq he;rw[eval_ListComp];refine zI hbad hit hsub hT hE hA I hf he fun s₁ wr D C xs st' k0 hD hC hDC hz F e=>?_;obtain⟨m,hn⟩:=F.ns;exact⟨m,hn,fun h' hs=>by obtain⟨a,b⟩:=L4 k0 hD hC hDC F hz hs;exact hq _ _ (.own (.list xs)) a b e⟩
end
end Mine
namespace Mine
open PySem
section
variable {prog:Program} {w:World} {mg mb:Str→Option Value} {base:Heap} {n:Nat} {l:List Env}
theorem zJ{rec:Scope→aA→Expr→R V}{C:Ctx}{sc:Scope}{σ:aA}{e:Expr}(h:bad e=true):fY rec C sc σ e=.no:=by
 cases e<;>first | rfl | cases h
theorem Zv{o:Option (Option V)}{x:X}(h:Hx o=some x):o=some (some (.ex x)):=by
 cases o with
 |none=>exact ns h
 |some v =>
  cases v with
  |none=>exact ns h
  |some v =>
   cases v with
   |ex y=>obtain rfl:=si h;rfl
   |_=>exact ns h
theorem Zw{fs:List (Str×PyData)}{p:Str}{d:PyData}(h:qG fs p=some d):(p,d)∈fs:=by
 induction fs with
 |nil=>exact ns h
 |cons q r ih =>
  obtain⟨y,e⟩:=q;replace h:(if p=y then some e else qG r p)=some d:=h
  by_cases hy:p=y
  ·rw[if_pos hy] at h;obtain rfl:=si h;rw[hy];exact List.mem_cons_self
  ·rw[if_neg hy] at h;exact List.mem_cons_of_mem _ (ih h)
theorem Rep.handed{h:Heap}{av:Addr→Prop}{v:Value}{d:PyData}(r:Rep prog w h av v d):handedOut v=pure v:=by cases r<;>rfl
theorem Zx{α:Type}{o:Option α}{x:α}(h:ofO o=.ok x):o=some x:=by
 cases o with
 |none=>exact pno h
 |some y=>obtain rfl:=pi h;rfl
theorem L6{C:Ctx}(hK:KSound prog w mg mb base n C){rec:Scope→aA→Expr→R V}(hbad:∀ sc σ e,bad e=true→rec sc σ e=.no)
  (ih:∀ sc σ e,aH prog w mg mb base n C.hd l sc σ e (rec sc σ e)∧bU prog w mg mb base n C.hd l sc σ e (rec sc σ e)) (sc:Scope) (σ:aA) (e:Expr) :
  aH prog w mg mb base n C.hd l sc σ e (fY rec C sc σ e)∧bU prog w mg mb base n C.hd l sc σ e (fY rec C sc σ e):=by
 have hE:∀ e,aH prog w mg mb base n C.hd l sc σ e (rec sc σ e):=fun e=>(ih sc σ e).1;have hT:∀ e,bU prog w mg mb base n C.hd l sc σ e (rec sc σ e):=fun e=>(ih sc σ e).2;have tv:∀ {e p},aH prog w mg mb base n C.hd l sc σ e p→(∀ env whole,PySem.isTrue e env whole=(do let v ← whole;standAt e.pos;holding [v] (truthy v)))→aH prog w mg mb base n C.hd l sc σ e p∧bU prog w mg mb base n C.hd l sc σ e p:=fun h he=>⟨h,xU h he⟩
 have tn:∀ {e},aH prog w mg mb base n C.hd l sc σ e .no∧bU prog w mg mb base n C.hd l sc σ e .no:=⟨fun _ _ _ _ _ _ _ _ _ _ _ hf=>hf.no.elim,fun _ _ _ _ _ _ _ _ _ _ _ hf=>(Fin.b hf).no.elim⟩
 cases e with
 |Constant c k p=>exact tv Iq fun _ _=>rfl
 |Name x p=>exact tv (Ip hK.const) fun _ _=>rfl
 |BoolOp op vs p =>
  cases op with
  |And=>exact⟨fun A env s av hA I _ _ _ _ _ hf hq he=>I9 hA (fun e _=>hE e) I hf hq he,fun A env s av hA I _ _ _ _ _ hf hq he=>Jb hA (fun e _=>hT e) I hf hq he⟩
  |Or=>exact⟨fun A env s av hA I _ _ _ _ _ hf hq he=>Ja hA (fun e _=>hE e) I hf hq he,fun A env s av hA I _ _ _ _ _ hf hq he=>Jc hA (fun e _=>hT e) I hf hq he⟩
 |BinOp l op r p=>exact tv (I5 (hE l) (hE r)) fun _ _=>rfl
 |UnaryOp op x p =>
  refine⟨xT (hE x),?_⟩;cases op with
  |Not=>exact I7 (hT x)
  |_=>exact xU (xT (hE x)) fun _ _=>rfl
 |IfExp t b o p=>exact⟨I6 (hT t) (hE b) (hE o),I8 (hT t) (hT b) (hT o)⟩
 |Dict ks vs p=>exact tv (Lf (fun k _=>hE k) fun e _=>hE e) fun _ _=>rfl
 |List es p=>exact tv (Jg (hbad sc σ) fun e _=>hE e) fun _ _=>rfl
 |Tuple es k p=>exact tv (Jh (hbad sc σ) fun e _=>hE e) fun _ _=>rfl
 |ListComp elt gens sc' p =>
  cases gens with
  |nil=>exact tn
  |cons g gs =>
   cases gs with
   |nil=>exact tv (L5 (hbad sc σ) (hE _) (fun _ _ _ _ _ a _=>hE a) (fun c _ σ'=>(ih sc' σ' c).2) fun σ'=>(ih sc' σ' elt).1) fun _ _=>rfl
   |cons=>exact tn
 |Compare l ops es p=>exact⟨Jd (hbad sc σ) (hE l) fun e _=>hE e,Je (hbad sc σ) (hE l) fun e _=>hE e⟩
 |Subscript o i p=>exact tv (Jp (hE o) (hE i) fun c _=>⟨fun x _=>hE x,fun x _=>hE x⟩) fun _ _=>rfl
 |Call f as kws p =>
  cases kws with
  |cons=>exact tn
  |nil =>
   show aH prog w mg mb base n C.hd l sc σ _ (match vw f with | .attr o m ap=>jT (rec sc σ) o m ap as p | .name f=>mM (rec sc σ) C sc σ f as | _=>.no)∧bU prog w mg mb base n C.hd l sc σ _ (match vw f with | .attr o m ap=>jT (rec sc σ) o m ap as p | .name f=>mM (rec sc σ) C sc σ f as | _=>.no);cases hv:vw f with
   |attr o m ap =>
    have ef:f=_:=cX hv;subst ef;exact tv (K7 (hbad sc σ) (hE o) fun e _=>hE e) fun _ _=>rfl
   |name x =>
    obtain⟨q,rfl⟩:=cX hv;exact tv (Lc hK (hbad sc σ) (fun e _=>hE e) fun _ _ _ _ _ _ _=>⟨fun x _=>hE x,fun o _ _ _=>hE o⟩) fun _ _=>rfl
   |_=>exact tn
 |_=>exact tn
theorem j8{C:Ctx}(hK:KSound prog w mg mb base n C):∀ (k:Nat) (sc:Scope) (σ:aA) (e:Expr),aH prog w mg mb base n C.hd l sc σ e (evE C k sc σ e)∧bU prog w mg mb base n C.hd l sc σ e (evE C k sc σ e):=by
 intro v0
 induction v0 with
 |zero =>
  intro _ _ _;exact⟨fun _ _ _ _ _ _ _ _ _ _ _ hf=>hf.no.elim,fun _ _ _ _ _ _ _ _ _ _ _ hf=>(Fin.b hf).no.elim⟩
 |succ k ih =>
  intro sc σ e;exact L6 hK (rec:=evE C k) (fun sc σ e hb=>by cases k with | zero=>rfl | succ k=>exact zJ hb) (fun sc σ e=>ih sc σ e) sc σ e
end
end Mine
namespace Mine
open PySem
section
variable {prog:Program} {w:World} {mg mb:Str→Option Value} {base:Heap} {l₀:List Env} {env:Env} {sc:Scope} {av₀:Addr→Prop} {s₀:Shared}
theorem IsCell.uniq{h:Heap}{c:Addr}{v v':Option Value}(x:h.IsCell c v)(y:h.IsCell c v'):v=v':=by
 obtain⟨o,e,d⟩:=x;obtain⟨o',e',d'⟩:=y;rw[e] at e';cases e';rw[d] at d';cases d';rfl
theorem bA.uniq{h:Heap}{x:Str}{u u':Value}(a:bA env h x u)(b:bA env h x u'):u=u':=by
 rcases a with ⟨k,m,hn,e⟩ | ⟨k,c,e,hc⟩
 ·rcases b with ⟨k',m',hn',e'⟩ | ⟨k',c',e',hc'⟩
  ·rw[hn.eq_nsMap] at e;rw[hn'.eq_nsMap] at e';rw[e] at e';exact Option.some.inj e'
  ·rw[k] at k';rcases k' with k' | k'<;>cases k'
 ·rcases b with ⟨k',m',hn',e'⟩ | ⟨k',c',e',hc'⟩
  ·rw[k'] at k;rcases k with k | k<;>cases k
  ·rw[e] at e';cases e';exact Option.some.inj (IsCell.uniq hc hc')
noncomputable def Mn(env:Env)(b:Addr):Prop:=b=env.locals∨∃ y,env.cells.lookup y=some b
noncomputable def b8(env:Env)(σ:aA)(h:Heap)(x:Str)(a:Addr):Prop:=(∃ d,aA.get σ x=some (some (.own d)))∧bA env h x (.ref a)
structure Act(prog:Program)(w:World)(mg mb:Str→Option Value)(base:Heap)(l₀:List Env)(env:Env)(sc:Scope)(av₀:Addr→Prop)(s₀:Shared)(σ:aA)(av:Addr→Prop)(s:Shared):Prop where
 inv:Inv0 prog w mg mb base (env::l₀) env sc σ av s
 stay0:∀ b o,base.get? b=some o→s₀.heap.get? b=some o
 frm:env.frame=some env.locals
 fr0:∀ b,frs l₀ b→av₀ b∧∃ o,s₀.heap.get? b=some o
 k0:K l₀ s₀ s
 bas:∀ b,av₀ b→av b
 ns:∃ m,s.heap.Ns env.locals m
 cells:∀ x c,env.cells.lookup x=some c→c≠env.locals∧∃ v,s.heap.IsCell c v
 fresh:∀ b,Mn env b→av b∧s₀.heap.get? b=none∧¬ av₀ b
 capart:∀ x y c,env.cells.lookup x=some c→env.cells.lookup y=some c→x=y
 names:∀ x v,aA.get σ x=some v→isL sc x=true∧(env.kindOf x=some .local∨(env.kindOf x=some .cell∧∃ c,env.cells.lookup x=some c))
 ownA:∀ x a,b8 env σ s.heap x a→av a∧s₀.heap.get? a=none∧¬ av₀ a∧¬ Mn env a
 ownI:∀ x y a,b8 env σ s.heap x a→b8 env σ s.heap y a→x=y
 loc:∀ x,sc.names.lookup x=some .local→env.kindOf x=some .local
theorem j9{b:Addr}(hf:env.frame=some env.locals):frs (env::l₀) b↔b=env.locals∨frs l₀ b:=by
 unfold frs;rw[List.filterMap_cons,hf,List.mem_cons]
theorem Act.liveMn{σ:aA}{av:Addr→Prop}{s:Shared}(X:Act prog w mg mb base l₀ env sc av₀ s₀ σ av s){b:Addr}(h:Mn env b):∃ o,s.heap.get? b=some o:=by
 rcases h with rfl | ⟨y,h⟩
 ·obtain⟨m,o,es,ep,e,_⟩:=X.ns;exact⟨o,e⟩
 ·obtain⟨_,v,o,e,_⟩:=X.cells y b h;exact⟨o,e⟩
theorem Act.newNot{σ:aA}{av:Addr→Prop}{s:Shared}(X:Act prog w mg mb base l₀ env sc av₀ s₀ σ av s){b:Addr}(h:s.heap.get? b=none):¬ Mn env b∧¬ av b∧¬ av₀ b∧s₀.heap.get? b=none∧¬ frs (env::l₀) b :=
 have hav:¬ av b:=fun x=>by obtain⟨o,e⟩:=X.inv.gnd.avlt b x;rw[h] at e;cases e
 ⟨fun x=>(by obtain⟨o,e⟩:=X.liveMn x;rw[h] at e;cases e),hav,fun x=>hav (X.bas b x),X.k0.non h,fun x=>hav (X.inv.gnd.fav b x)⟩
theorem b7.mono'{l:List Env}{h h':Heap}{av av':Addr→Prop}(hk:∀ b o,¬ av b→h.get? b=some o→h'.get? b=some o)(ha:∀ b o,h.get? b=some o→av' b→av b){u:Value}{v:V}
  (hs:∀ d a,v=.own d→u=.ref a→∀ o,h.get? a=some o→h'.get? a=some o) (r:b7 prog w mg l h av u v):b7 prog w mg l h' av' u v:=by
 cases v with
 |fz d=>exact Rep.mono hk ha r
 |own d=>obtain⟨a,e,n,r⟩:=r;exact⟨a,e,n,r.mono hk ha (hs d a rfl e)⟩
 |ex x=>obtain⟨e,h,r⟩:=r;exact⟨e,h,r.mono hk ha⟩
theorem FunFrames.to{h h' base:Heap}:∀ {l:List Env},h.FunFrames base l→(∀ b o,frs l b→h.get? b=some o→(∀ vs,o.data≠.fields vs)→∃ o',h'.get? b=some o'∧∀ vs,o'.data≠.fields vs)→h'.FunFrames base l
 := by
 intro l
 induction l with
 |nil=>exact fun _ _=>trivial
 |cons env r ih =>
  intro f k;obtain⟨hk,⟨L,o,hf,hn,ho,hd⟩,hr⟩:=f;obtain⟨o',ho',hd'⟩:=k L o (by unfold frs;rw[List.filterMap_cons,hf];exact List.mem_cons_self) ho hd;exact⟨hk,⟨L,o',hf,hn,ho',hd'⟩,ih hr fun b o f=>k b o (by unfold frs;rw[List.filterMap_cons,hf];exact List.mem_cons_of_mem _ f)⟩
theorem bA.kept{h h':Heap}{x:Str}{u:Value}(v:bA env h x u)(hk:∀ b o,Mn env b→h.get? b=some o→h'.get? b=some o):bA env h' x u:=by
 rcases v with ⟨k,m,hn,e⟩ | ⟨k,c,e,o,e1,e2⟩
 ·exact .inl ⟨k,m,hn.at' fun o e=>hk _ o (.inl rfl) e,e⟩
 ·exact .inr ⟨k,c,e,o,hk c o (.inr ⟨x,e⟩) e1,e2⟩
theorem Act.varBack{σ:aA}{av:Addr→Prop}{s:Shared}{h':Heap}(X:Act prog w mg mb base l₀ env sc av₀ s₀ σ av s){x:Str}{v:V}{u:Value}(hg:aA.get σ x=some (some v))(hk:∀ u,bA env s.heap x u→bA env h' x u)(hv:bA env h' x u):bA env s.heap x u:=by
 obtain⟨u',h1,_⟩:=X.inv.get x v (X.names x _ hg).1 hg;have:=bA.uniq (hk _ h1) hv;exact this▸h1
theorem Act.ownBack{σ:aA}{av:Addr→Prop}{s:Shared}{h':Heap}(X:Act prog w mg mb base l₀ env sc av₀ s₀ σ av s){x:Str}{a:Addr}(hk:∀ u,bA env s.heap x u→bA env h' x u)(h:b8 env σ h' x a):b8 env σ s.heap x a :=
 let ⟨⟨d,hg⟩,hv⟩:=h;⟨⟨d,hg⟩,X.varBack hg hk hv⟩
theorem K.drop{s s':Shared}(hf:env.frame=some env.locals)(h0:s₀.heap.get? env.locals=none)(x:K l₀ s₀ s)(y:K (env::l₀) s s'):K l₀ s₀ s':=by
 obtain⟨h,t,rfl,k,u⟩:=x;obtain⟨h',t',rfl,k',u'⟩:=y;refine⟨h',t',rfl,fun b o n e=>k' b o (fun f=>?_) (k b o n e),fun b o e=>by obtain⟨_,e1⟩:=u b o e;exact by obtain⟨sl,e2⟩:=u' b _ e1;exact⟨sl,e2⟩⟩;rcases(j9 hf).mp f with f | f
 ·simp only[f,h0] at e;exact ns e
 ·exact n f
theorem Act.k{σ:aA}{av:Addr→Prop}{s s':Shared}(X:Act prog w mg mb base l₀ env sc av₀ s₀ σ av s)(k:K (env::l₀) s s'):Act prog w mg mb base l₀ env sc av₀ s₀ σ av s' :=
 { X with
  inv:=X.inv.k k
  k0:=X.k0.drop X.frm (X.fresh _ (.inl rfl)).2.1 k
  ns:=by obtain⟨m,hn⟩:=X.ns;exact⟨m,k.upTo.ns hn⟩
  cells:=fun x c e=>by obtain⟨h1,v,o,h2,h3⟩:=X.cells x c e;exact by obtain⟨_,e'⟩:=k.up h2;exact⟨h1,v,_,e',h3⟩
  ownA:=fun x a h=>X.ownA x a (X.ownBack (fun u h=>h.k k) h)
  ownI:=fun x y a h1 h2=>X.ownI x y a (X.ownBack (fun u h=>h.k k) h1) (X.ownBack (fun u h=>h.k k) h2) }
theorem Gnd.grow{l:List Env}{av S:Addr→Prop}{s:Shared}(G:Gnd prog w mg mb base l av s)(hl:∀ a,S a→∃ o,s.heap.get? a=some o):Gnd prog w mg mb base l (fun b=>av b∨S b) s :=
 { G with fav:=fun b h=>.inl (G.fav b h),avlt:=fun b h=>h.elim (G.avlt b) (hl b),avS:=.inl G.avS }
theorem Act.growS{σ:aA}{av:Addr→Prop}{s s':Shared}{S:Addr→Prop}(X:Act prog w mg mb base l₀ env sc av₀ s₀ σ av s)(k:K (env::l₀) s s')(hn:∀ a,S a→s.heap.get? a=none)(hl:∀ a,S a→∃ o,s'.heap.get? a=some o) :
  Act prog w mg mb base l₀ env sc av₀ s₀ σ (fun b=>av b∨S b) s':=by
 have Y:=X.k k;refine { Y with inv:={ Y.inv with gnd:=Y.inv.gnd.grow hl,get:=fun x v hl' hg=>?_ },bas:=fun b hb=>.inl (X.bas b hb),fresh:=fun b h=>by obtain⟨h1,h2⟩:=X.fresh b h;exact⟨.inl h1,h2⟩,ownA:=fun x a h=>by obtain⟨h1,h2⟩:=Y.ownA x a h;exact⟨.inl h1,h2⟩ };obtain⟨u,h1,h2⟩:=X.inv.get x v hl' hg;refine⟨u,h1.k k,?_⟩;have h3:b7 prog w mg (env::l₀) s.heap (fun b=>av b∨S b) u v:=h2.mono' (fun _ _ _ e=>e) (fun b o e hb=>hb.elim id fun hb=>by rw[hn b hb] at e;cases e) fun _ _ _ _ _ e=>e;exact h3.k (fun b h=>.inl (X.inv.gnd.fav b h)) k
theorem aA.get_clear(xs:List Str)(x:Str):∀ σ:aA,aA.get (aA.clear σ xs) x=(aA.get σ x).map fun v=>if xs.contains x then v.map V.clear else v
 | []=>rfl
 | (y,v)::r=>by
  show(if x=y then some (if xs.contains y then v.map V.clear else v) else aA.get (aA.clear r xs) x)=(if x=y then some v else aA.get r x).map _
  by_cases h:x=y
  ·subst h;rw[if_pos rfl,if_pos rfl];rfl
  ·rw[if_neg h,if_neg h];exact aA.get_clear xs x r
theorem zK{xs:List Str}{x:Str}{σ:aA}{v:V}(h:aA.get (aA.clear σ xs) x=some (some v)):∃ v0,aA.get σ x=some (some v0)∧(v=v0∧(xs.contains x=true→∀ d,v0≠.own d)∨xs.contains x=true∧∃ d,v0=.own d∧v=.fz d):=by
 rw[aA.get_clear] at h;refine ocs (aA.get σ x) (fun hg=>?_) fun o hg=>?_
 ·try rewrite[hg]
  rw[hg] at h;exact ns h
 ·try rewrite[hg]
  rw[hg] at h;have h:=Option.some.inj h;cases o with
  |none=>revert h;cases xs.contains x<;>exact fun h=>by exact ns h
  |some v0 =>
   refine⟨v0,rfl,?_⟩
   revert h
   cases xs.contains x with
   |false=>exact fun h=>.inl ⟨(Option.some.inj h).symm,fun h=>by exact bft h⟩
   |true =>
    intro h;have h:v0.clear=v:=Option.some.inj h;cases v0 with
    |own d=>exact .inr ⟨rfl,d,rfl,h.symm⟩
    |_=>exact .inl ⟨h.symm,fun _ _ h=>by cases h⟩
theorem Act.clear{σ:aA}{av:Addr→Prop}{s:Shared}(X:Act prog w mg mb base l₀ env sc av₀ s₀ σ av s)(xs:List Str):∃ av1,Act prog w mg mb base l₀ env sc av₀ s₀ (aA.clear σ xs) av1 s∧∀ b,av1 b→av b:=by
 let Z:Addr→Prop:=fun b=>∃ x,xs.contains x=true∧b8 env σ s.heap x b
 have back:∀ x a,b8 env (aA.clear σ xs) s.heap x a→xs.contains x=false∧b8 env σ s.heap x a:=fun x a ⟨⟨d,h⟩,hv⟩=>by
  obtain⟨v0,hg,⟨e,hc⟩ | ⟨_,d',_,e⟩⟩:=zK h
  ·exact⟨Bool.not_eq_true _▸fun h=>hc h d e.symm,⟨d,e▸hg⟩,hv⟩
  ·cases e
 have nZ:∀ b,(s₀.heap.get? b≠none∨av₀ b∨Mn env b)→¬ Z b:=by
  rintro b hb ⟨x,_,h⟩
  obtain⟨_,h2,h3,h4⟩:=X.ownA x b h;rcases hb with hb | hb | hb
  ·exact hb h2
  ·exact h3 hb
  ·exact h4 hb
 have hmods:s₀.heap.get? sysModules≠none:=fun e=>by
  obtain⟨mm,o,es,ep,h,_⟩:=X.inv.gnd.glo.mods;rw[X.stay0 _ _ h] at e;exact sn e
 refine⟨fun b=>av b∧¬ Z b,{ X with inv:=?_,bas:=fun b hb=>⟨X.bas b hb,nZ b (.inr (.inl hb))⟩,fresh:=fun b h=>by obtain⟨h1,h2⟩:=X.fresh b h;exact⟨⟨h1,nZ b (.inr (.inr h))⟩,h2⟩,names:=fun x v h=>?_,ownA:=fun x a h=>?_,ownI:=fun x y a h1 h2=>X.ownI x y a (back x a h1).2 (back y a h2).2 },fun b h=>h.1⟩
 ·refine { X.inv with gnd:={ X.inv.gnd with fav:=fun b h=>?_,avlt:=fun b hb=>X.inv.gnd.avlt b hb.1,avS:=⟨X.inv.gnd.avS,nZ _ (.inl hmods)⟩ },get:=fun x v hl hg=>?_ }
  ·refine⟨X.inv.gnd.fav b h,nZ b ?_⟩;rcases(j9 X.frm).mp h with h | h
   ·exact .inr (.inr (.inl h))
   ·exact .inr (.inl (X.fr0 b h).1)
  ·obtain⟨v0,hg0,⟨rfl,hc⟩ | ⟨hc,d,rfl,rfl⟩⟩:=zK hg
   ·obtain⟨u,h1,h2⟩:=X.inv.get x v hl hg0;exact⟨u,h1,h2.mono' (fun _ _ n e=>e) (fun _ _ _ h=>h.1) fun _ _ _ _ _ e=>e⟩
   ·obtain⟨u,h1,a,rfl,_,r⟩:=X.inv.get x _ hl hg0;exact⟨_,h1,bL.rep (fun h=>h.2 ⟨x,hc,⟨d,hg0⟩,h1⟩) (r.mono (fun _ _ _ e=>e) (fun _ _ _ h=>h.1) fun _ e=>e)⟩
 ·rw[aA.get_clear] at h;obtain⟨v0,hg,_⟩:=Option.map_eq_some_iff.mp h;exact X.names x v0 hg
 ·obtain⟨hc,h⟩:=back x a h;obtain⟨h1,h2⟩:=X.ownA x a h;exact⟨⟨h1,fun hh=>by obtain⟨y,hcy,hy⟩:=hh;exact by rw[X.ownI x y a h hy,hcy] at hc;exact btf hc⟩,h2⟩
theorem Act.weaken{av₁:Addr→Prop}{σ:aA}{av:Addr→Prop}{s:Shared}(X:Act prog w mg mb base l₀ env sc av₁ s₀ σ av s)(h:∀ b,av₀ b→av₁ b)(hf:∀ b,frs l₀ b→av₀ b):Act prog w mg mb base l₀ env sc av₀ s₀ σ av s :=
 { X with fr0:=fun b hb=>⟨hf b hb,(X.fr0 b hb).2⟩,bas:=fun b hb=>X.bas b (h b hb),fresh:=fun b hb=>by obtain⟨h1,h2,h3⟩:=X.fresh b hb;exact⟨h1,h2,fun x=>h3 (h b x)⟩,ownA:=fun x a hb=>by obtain⟨h1,h2,h3,h4⟩:=X.ownA x a hb;exact⟨h1,h2,fun x=>h3 (h a x),h4⟩ }
theorem Act.pin{σ:aA}{av S:Addr→Prop}{s s':Shared}(X:Act prog w mg mb base l₀ env sc av₀ s₀ σ av s)(k:K (env::l₀) s s')(hn:∀ a,S a→s.heap.get? a=none)(hl:∀ a,S a→∃ o,s'.heap.get? a=some o) :
  Act prog w mg mb base l₀ env sc (fun b=>av₀ b∨S b) s₀ σ (fun b=>av b∨S b) s':=by
 have Y:=X.growS k hn hl;refine { Y with fr0:=fun b h=>by obtain⟨h1,h2⟩:=X.fr0 b h;exact⟨.inl h1,h2⟩,bas:=fun b hb=>hb.imp (X.bas b) id,fresh:=fun b h=>by obtain⟨h1,h2,h3⟩:=Y.fresh b h;exact⟨h1,h2,fun x=>x.elim h3 fun x=>(X.newNot (hn b x)).1 h⟩,ownA:=fun x a h=>?_ };obtain⟨h1,h2,h3,h4⟩:=X.ownA x a (X.ownBack (fun u h=>h.k k) h);exact⟨.inl h1,h2,fun x=>x.elim h3 fun x=>(X.newNot (hn a x)).2.1 h1,h4⟩
theorem Act.gndS{σ:aA}{av av' S:Addr→Prop}{s:Shared}{h':Heap}{tk:Nat}(X:Act prog w mg mb base l₀ env sc av₀ s₀ σ av s)(h0:∀ b,S b→s₀.heap.get? b=none)(hs:∀ b o,¬ S b→s.heap.get? b=some o→h'.get? b=some o)
  (hL:∃ m,h'.Ns env.locals m)
  (h1:∀ b,av' b→av b) (h2:∀ b,av b→¬ S b→av' b) (h3:∀ b,av' b→S b→∃ o,h'.get? b=some o) (h4:∀ b,frs (env::l₀) b→av' b):Gnd prog w mg mb base (env::l₀) av' { s with heap:=h',toks:=tk }∧K l₀ s₀ { s with heap:=h',toks:=tk }:=by
 have hbase:∀ b o,base.get? b=some o→¬ S b:=fun b o e h=>by have:=X.stay0 b o e;rw[h0 b h] at this;cases this
 refine⟨{ X.inv.gnd with stay:=fun b o e=>hs b o (hbase b o e) (X.inv.gnd.stay b o e),ff:=?_,fav:=h4,avlt:=fun b hb=>?_,avS:=h2 _ X.inv.gnd.avS ?_ },?_⟩
 ·refine FunFrames.to X.inv.gnd.ff fun b o f e hd=>?_;rcases(j9 X.frm).mp f with f | f
  ·obtain⟨m,o',es,ep,e',d',_⟩:=hL;exact⟨o',f▸e',fun vs q=>by rw[d'] at q;cases q⟩
  ·exact⟨o,hs b o (fun x=>by obtain⟨_,o',e'⟩:=X.fr0 b f;rw[h0 b x] at e';cases e') e,hd⟩
 ·by_cases hb':S b
  ·exact h3 b hb hb'
  ·obtain⟨o,e⟩:=X.inv.gnd.avlt b (h1 b hb);exact⟨o,hs b o hb' e⟩
 ·obtain⟨mm,o,es,ep,e,_⟩:=X.inv.gnd.glo.mods;exact hbase _ _ e
 ·obtain⟨h,t,rfl,k,u⟩:=X.k0;exact⟨h',tk,rfl,fun b o n e=>hs b o (fun x=>by rw[h0 b x] at e;cases e) (k b o n e),fun b o e=>by obtain⟨sl,e1⟩:=u b o e;exact⟨sl,hs b _ (fun x=>by rw[h0 b x] at e;cases e) e1⟩⟩
end
end Mine
namespace Mine
open PySem
section
variable {prog:Program} {w:World} {mg mb:Str→Option Value} {base:Heap} {l₀:List Env} {env:Env} {sc:Scope} {av₀:Addr→Prop} {s₀:Shared}
theorem Act.upd{σ σ':aA}{av av' S:Addr→Prop}{s:Shared}{h':Heap}{tk:Nat}(X:Act prog w mg mb base l₀ env sc av₀ s₀ σ av s)(h0:∀ b,S b→s₀.heap.get? b=none)(hs:∀ b o,¬ S b→s.heap.get? b=some o→h'.get? b=some o)
  (hL:∃ m,h'.Ns env.locals m) (hC:∀ x c,env.cells.lookup x=some c→∃ v,h'.IsCell c v) (h1:∀ b,av' b→av b) (h2:∀ b,av b→¬ S b→av' b) (h3:∀ b,av' b→S b→∃ o,h'.get? b=some o) (h4:∀ b,av₀ b→av' b) (hM:∀ b,Mn env b→av' b)
  (hN:∀ x v,aA.get σ' x=some v→∃ v0,aA.get σ x=some v0) (hG:∀ x v,isL sc x=true→aA.get σ' x=some (some v)→∃ u,bA env h' x u∧b7 prog w mg (env::l₀) h' av' u v)
  (hA:∀ x a,b8 env σ' h' x a→av' a∧s₀.heap.get? a=none∧¬ av₀ a∧¬ Mn env a) (hI:∀ x y a,b8 env σ' h' x a→b8 env σ' h' y a→x=y):Act prog w mg mb base l₀ env sc av₀ s₀ σ' av' { s with heap:=h',toks:=tk }:=by
 have g:=X.gndS (tk:=tk) h0 hs hL h1 h2 h3 fun b f=>((j9 X.frm).mp f).elim (fun f=>hM b (.inl f)) fun f=>h4 b (X.fr0 b f).1;exact { X with inv:={ X.inv with gnd:=g.1,get:=hG },k0:=g.2,bas:=h4,ns:=hL,cells:=fun x c e=>⟨(X.cells x c e).1,hC x c e⟩,fresh:=fun b h=>⟨hM b h,(X.fresh b h).2⟩,names:=fun x v h=>by obtain⟨v0,e⟩:=hN x v h;exact X.names x v0 e,ownA:=hA,ownI:=hI }
theorem Act.wildS{σ:aA}{av av' S:Addr→Prop}{s:Shared}{h':Heap}{tk:Nat}(X:Act prog w mg mb base l₀ env sc av₀ s₀ σ av s)(hS:∀ b,S b→av b)(h0:∀ b,S b→s₀.heap.get? b=none)(hM:∀ b,Mn env b→¬ S b)
  (ho:∀ x a,b8 env σ s.heap x a→¬ S a) (hs:∀ b o,¬ S b→s.heap.get? b=some o→h'.get? b=some o)
  (h1:∀ b,av' b→av b) (h2:∀ b,av b→¬ S b→av' b) (h3:∀ b,av' b→S b→∃ o,h'.get? b=some o) (h4:∀ b,av₀ b→av' b):Act prog w mg mb base l₀ env sc av₀ s₀ σ av' { s with heap:=h',toks:=tk }:=by
 have hvar:∀ y u,bA env s.heap y u→bA env h' y u:=fun y u h=>h.kept fun b o m e=>hs b o (hM b m) e;refine X.upd h0 hs (by obtain⟨m,hn⟩:=X.ns;exact⟨m,hn.at' fun o e=>hs _ o (hM _ (.inl rfl)) e⟩) (fun y c e=>by obtain⟨_,v,o,e1,e2⟩:=X.cells y c e;exact⟨v,o,hs c o (hM c (.inr ⟨y,e⟩)) e1,e2⟩) h1 h2 h3 h4 (fun b h=>h2 b (X.fresh b h).1 (hM b h)) (fun x v h=>⟨v,h⟩) (fun x v hl hg=>?_)
  (fun x a h=>?_) fun x y a hx hy=>X.ownI x y a (X.ownBack (hvar x) hx) (X.ownBack (hvar y) hy)
 ·obtain⟨u,g1,g2⟩:=X.inv.get x v hl hg;refine⟨u,hvar _ _ g1,g2.mono' (fun b o n e=>hs b o (fun h=>n (hS b h)) e) (fun b _ _ h=>h1 b h) fun d a e1 e2 o e=>hs a o (ho x a ⟨⟨d,e1▸hg⟩,e2▸g1⟩) e⟩
 ·have h:=X.ownBack (hvar x) h;obtain⟨q1,q2⟩:=X.ownA x a h;exact⟨h2 a q1 (ho x a h),q2⟩
theorem aA.get_set(x:Str)(u:V)(y:Str):∀ σ:aA,aA.get (aA.set σ x u) y=if y=x then (aA.get σ x).map (fun _=>some u) else aA.get σ y
 | []=>by
  show none=if y=x then none else none
  split<;>rfl
 | (z,v)::r=>by
  have ih:=aA.get_set x u y r
  by_cases hxz:x=z
  ·subst hxz;have e:aA.set ((x,v)::r) x u=(x,some u)::r:=if_pos rfl;rw[e]
   by_cases hy:y=x
   ·subst hy;rw[aA.get_cons_eq,if_pos rfl,aA.get_cons_eq];rfl
   ·rw[aA.get_cons_ne hy,if_neg hy,aA.get_cons_ne hy]
  ·have e:aA.set ((z,v)::r) x u=(z,v)::aA.set r x u:=if_neg hxz;rw[e,aA.get_cons_ne hxz]
   by_cases hy:y=z
   ·subst hy;rw[aA.get_cons_eq,if_neg (fun h=>hxz h.symm),aA.get_cons_eq]
   ·rw[aA.get_cons_ne hy,ih,aA.get_cons_ne hy]
theorem iV{σ:aA}{x y:Str}{u:V}{o:Option V}(hy:y≠x)(h:aA.get (aA.set σ x u) y=some o):aA.get σ y=some o:=by
 rw[aA.get_set,if_neg hy] at h;exact h
theorem rJ{σ:aA}{x:Str}{u w:V}(h:aA.get (aA.set σ x u) x=some (some w)):w=u:=by
 rw[aA.get_set,if_pos rfl] at h;refine ocs (aA.get σ x) (fun hg=>?_) fun o hg=>?_
 ·try rewrite[hg]
  rw[hg] at h;exact ns h
 ·try rewrite[hg]
  rw[hg] at h;cases h;rfl
theorem zL{σ:aA}{x y:Str}{u:V}{o:Option V}(h:aA.get (aA.set σ x u) y=some o):∃ v0,aA.get σ y=some v0:=by
 by_cases hy:y=x
 ·subst hy;rw[aA.get_set,if_pos rfl] at h;refine ocs (aA.get σ y) (fun hg=>?_) fun o hg=>?_
  ·try rewrite[hg]
   rw[hg] at h;exact ns h
  ·try rewrite[hg]
   exact⟨o,rfl⟩
 ·exact⟨o,iV hy h⟩
theorem Act.put1{σ:aA}{av:Addr→Prop}{s:Shared}{x:Str}{u:Value}{v:V}{p:Addr}{h':Heap}{tk:Nat}(X:Act prog w mg mb base l₀ env sc av₀ s₀ σ av s)(hv:b7 prog w mg (env::l₀) s.heap av u v)
  (ho:∀ d a,v=.own d→u=.ref a→av a∧s₀.heap.get? a=none∧¬ av₀ a∧¬ Mn env a∧∀ y,y≠x→¬ b8 env σ s.heap y a) (hp:Mn env p) (hs:Heap.SameBut p s.heap h') (hns:∃ m,h'.Ns env.locals m) (hcells:∀ y c,env.cells.lookup y=some c→∃ v,h'.IsCell c v)
  (hvx:bA env h' x u) (hvy:∀ y w',y≠x→bA env s.heap y w'→bA env h' y w'):Act prog w mg mb base l₀ env sc av₀ s₀ (aA.set σ x v) av { s with heap:=h',toks:=tk }:=by
 have kept:∀ b o,¬ b=p→s.heap.get? b=some o→h'.get? b=some o:=fun b o hb e=>by rw[hs.2 b hb];exact e
 obtain⟨p1,p2,p3⟩:=X.fresh p hp;have back:∀ y a,b8 env (aA.set σ x v) h' y a→(y=x∧(∃ d,v=.own d)∧u=.ref a)∨(y≠x∧b8 env σ s.heap y a):=fun y a ⟨⟨d,hg⟩,hv'⟩=>by
  by_cases hy:y=x
  ·subst hy;exact .inl ⟨rfl,⟨d,(rJ hg).symm⟩,bA.uniq hvx hv'⟩
  ·have hg:=iV hy hg;exact .inr ⟨hy,⟨d,hg⟩,X.varBack hg (fun u=>hvy y u hy) hv'⟩
 refine X.upd (S:=fun b=>b=p) (fun b h=>h▸p2) kept hns hcells (fun _ h=>h) (fun _ h _=>h) (fun b _ h=>?_) X.bas (fun b h=>(X.fresh b h).1) (fun _ _ h=>zL h) (fun y w' hl h=>?_) (fun y a h=>?_) fun y z a h1 h2=>?_
 ·subst h;rcases hp with rfl | ⟨y,h⟩
  ·obtain⟨m,o,es,ep,e,_⟩:=hns;exact⟨o,e⟩
  ·obtain⟨v,o,e,_⟩:=hcells y b h;exact⟨o,e⟩
 ·have hk:∀ b o,¬ av b→s.heap.get? b=some o→h'.get? b=some o:=fun b o n e=>kept b o (fun h=>n (h▸p1)) e
  by_cases hy:y=x
  ·subst hy;cases rJ h;exact⟨u,hvx,hv.mono' hk (fun _ _ _ h=>h) fun d a e1 e2 o e=>kept a o (fun h=>(ho d a e1 e2).2.2.2.1 (h▸hp)) e⟩
  ·have h:=iV hy h;obtain⟨u',h1,h2⟩:=X.inv.get y w' hl h;exact⟨u',hvy y u' hy h1,h2.mono' hk (fun _ _ _ h=>h) fun d a e1 e2 o e=>kept a o (fun h'=>(X.ownA y a ⟨⟨d,e1▸h⟩,e2▸h1⟩).2.2.2 (h'▸hp)) e⟩
 ·rcases back y a h with ⟨_,⟨d,e1⟩,e2⟩ | ⟨_,h⟩
  ·obtain⟨q1,q2,q3,q4,_⟩:=ho d a e1 e2;exact⟨q1,q2,q3,q4⟩
  ·exact X.ownA y a h
 ·rcases back y a h1 with ⟨ey,⟨d,e1⟩,e2⟩ | ⟨ny,h1⟩
  ·rcases back z a h2 with ⟨ez,_⟩ | ⟨nz,h2⟩
   ·rw[ey,ez]
   ·exact absurd h2 ((ho d a e1 e2).2.2.2.2 z nz)
  ·rcases back z a h2 with ⟨ez,⟨d,e1⟩,e2⟩ | ⟨nz,h2⟩
   ·exact absurd h1 ((ho d a e1 e2).2.2.2.2 y ny)
   ·exact X.ownI y z a h1 h2
theorem Act.put{A:Around}{E:Value→Shared→Prop}{σ:aA}{av:Addr→Prop}{s:Shared}{x:Str}{v0:Option V}{u:Value}{v:V}{Q:Unit→Shared→Prop}(X:Act prog w mg mb base l₀ env sc av₀ s₀ σ av s)(hx:aA.get σ x=some v0)(hv:b7 prog w mg (env::l₀) s.heap av u v)
  (ho:∀ d a,v=.own d→u=.ref a→av a∧s₀.heap.get? a=none∧¬ av₀ a∧¬ Mn env a∧∀ y,y≠x→¬ b8 env σ s.heap y a)
  (hq:∀ s',Act prog w mg mb base l₀ env sc av₀ s₀ (aA.set σ x v) av s'→(∀ b o,¬ Mn env b→s.heap.get? b=some o→s'.heap.get? b=some o)→bA env s'.heap x u→(∀ y w',y≠x→bA env s.heap y w'→bA env s'.heap y w')→Q () s'):wpAny (model prog w) A (storeName env x u) Q E s:=by
 obtain⟨hlx,hkx⟩:=X.names x v0 hx;have hp:(env.scope.kind==.class||(env.scope.kind==.module&&env.locals != env.globals))=false:=by rw[X.inv.kind];rfl
 have fin:∀ (p:Addr) (h':Heap) (tk:Nat),Mn env p→Heap.SameBut p s.heap h'→(∃ m,h'.Ns env.locals m)→(∀ y c,env.cells.lookup y=some c→∃ v,h'.IsCell c v) →
   bA env h' x u→(∀ y w',y≠x→bA env s.heap y w'→bA env h' y w')→Q () { s with heap:=h',toks:=tk }:=fun p h' tk m hs hns hc hvx hvy =>
  hq _ (X.put1 hv ho m hs hns hc hvx hvy) (fun b o n e=>by rw[hs.2 b fun h=>n (h▸m)];exact e) hvx hvy
 obtain⟨m,hn⟩:=X.ns;rcases hkx with hk | ⟨hk,c,hc⟩
 ·refine wpAny_storeName_local hk hn (fun h' hn' hs'=>?_) hp;refine fin env.locals h' _ (.inl rfl) hs' ⟨_,hn'⟩ (fun y c e=>?_) (.inl ⟨hk,_,hn',by simp⟩) fun y w' hy hv'=>?_
  ·obtain⟨q3,v,o,e1,e2⟩:=X.cells y c e;exact⟨v,o,by rw[hs'.2 c q3];exact e1,e2⟩
  ·rcases hv' with ⟨k',m',hn2,e⟩ | ⟨k',c',e,o,e1,e2⟩
   ·have:m'=m:=hn2.eq_nsMap.trans hn.eq_nsMap.symm;subst this;exact .inl ⟨k',_,hn',by simp[hy,e]⟩
   ·exact .inr ⟨k',c',e,o,by rw[hs'.2 c' (X.cells y c' e).1];exact e1,e2⟩
 ·obtain⟨q3,v1,q4⟩:=X.cells x c hc;refine wpAny_storeName_cell X.inv.kind hk hc q4 fun h' hc' hs'=>?_;have hn':h'.Ns env.locals m:=hn.at' fun o e=>by rw[hs'.2 _ (fun h=>q3 h.symm)];exact e
  refine fin c h' _ (.inr ⟨x,hc⟩) hs' ⟨m,hn'⟩ (fun y c' e=>?_) (.inr ⟨.inl hk,c,hc,hc'⟩) fun y w' hy hv'=>?_
  ·by_cases hcc:c'=c
   ·subst hcc;exact⟨_,hc'⟩
   ·obtain⟨_,v,o,e1,e2⟩:=X.cells y c' e;exact⟨v,o,by rw[hs'.2 c' hcc];exact e1,e2⟩
  ·rcases hv' with ⟨k',m',hn2,e⟩ | ⟨k',c',e,o,e1,e2⟩
   ·have:m'=m:=hn2.eq_nsMap.trans hn.eq_nsMap.symm;subst this;exact .inl ⟨k',_,hn',e⟩
   ·have hcc:c'≠c:=fun h=>hy (X.capart y x c (h▸e) hc);exact .inr ⟨k',c',e,o,by rw[hs'.2 c' hcc];exact e1,e2⟩
theorem bL.live{h:Heap}{av:Addr→Prop}{a:Addr}{d:PyData}(r:bL prog w h av a d):∃ o,h.get? a=some o:=by
 cases d with
 |list ds=>obtain⟨vs,⟨n,e⟩,_⟩:=r;exact⟨_,e⟩
 |dict ds=>obtain⟨kvs,⟨o,es,ep,e,_⟩,_⟩:=r;exact⟨_,e⟩
 |_=>exact r.elim
theorem Act.mut{σ:aA}{av:Addr→Prop}{s:Shared}{x:Str}{d d':PyData}{a:Addr}{h':Heap}{tk:Nat}(X:Act prog w mg mb base l₀ env sc av₀ s₀ σ av s)(hx:aA.get σ x=some (some (.own d)))(hv:bA env s.heap x (.ref a))
  (hs:Heap.SameBut a s.heap h') (hb:bL prog w h' av a d'):Act prog w mg mb base l₀ env sc av₀ s₀ (aA.set σ x (.own d')) av { s with heap:=h',toks:=tk }:=by
 have hox:b8 env σ s.heap x a:=⟨⟨d,hx⟩,hv⟩
 obtain⟨q1,q2,q3,q4⟩:=X.ownA x a hox;have kept:∀ b o,¬ b=a→s.heap.get? b=some o→h'.get? b=some o:=fun b o hb e=>by rw[hs.2 b hb];exact e
 have nM:∀ b,Mn env b→¬ b=a:=fun b m h=>q4 (h▸m);have hvar:∀ y u,bA env s.heap y u→bA env h' y u:=fun y u h=>h.kept fun b o m e=>kept b o (nM b m) e;have back:∀ y b,b8 env (aA.set σ x (.own d')) h' y b→b8 env σ s.heap y b:=fun y b ⟨⟨e,hg⟩,h⟩=>by
  by_cases hy:y=x
  ·subst hy;exact X.ownBack (hvar y) ⟨⟨d,hx⟩,h⟩
  ·exact X.ownBack (hvar y) ⟨⟨e,iV hy hg⟩,h⟩
 refine X.upd (S:=fun b=>b=a) (fun b h=>h▸q2) kept (by obtain⟨m,hn⟩:=X.ns;exact⟨m,hn.at' fun o e=>kept _ o (nM _ (.inl rfl)) e⟩) (fun y c e=>by obtain⟨_,v,o,e1,e2⟩:=X.cells y c e;exact⟨v,o,kept c o (nM c (.inr ⟨y,e⟩)) e1,e2⟩) (fun _ h=>h) (fun _ h _=>h) (fun b _ h=>h▸hb.live) X.bas
  (fun b h=>(X.fresh b h).1) (fun _ _ h=>zL h) (fun y w' hl h=>?_) (fun y b h=>X.ownA y b (back y b h)) fun y z b h1 h2=>X.ownI y z b (back y b h1) (back z b h2)
 by_cases hy:y=x
 ·subst hy;cases rJ h;obtain⟨u,h1,a',e,f,_⟩:=X.inv.get y _ hl hx;cases e;cases bA.uniq h1 hv;exact⟨.ref a,hvar _ _ hv,a,rfl,f,hb⟩
 ·have h:=iV hy h;obtain⟨u',h1,h2⟩:=X.inv.get y w' hl h;exact⟨u',hvar _ _ h1,h2.mono' (fun b o n e=>kept b o (fun h=>n (h▸q1)) e) (fun _ _ _ h=>h) fun e b e1 e2 o eo=>kept b o (fun hba=>hy (X.ownI y x a ⟨⟨e,e1▸h⟩,hba▸e2▸h1⟩ hox)) eo⟩
end
end Mine
namespace Mine
open PySem
section
variable {prog:Program} {w:World} {mg mb:Str→Option Value} {base:Heap} {n:Nat} {hd:Bool} {l₀:List Env} {env:Env} {sc:Scope} {av₀:Addr→Prop} {s₀:Shared} {σ:aA} {av:Addr→Prop} {s:Shared}
structure Fr(l:List Env)(av₀:Addr→Prop)(s:Shared)(av:Addr→Prop)(s':Shared)(av':Addr→Prop):Prop where
 keep:∀ b o,s.heap.get? b=some o→¬ av b→s'.heap.get? b=some o
 grow:∀ b o,s.heap.get? b=some o→av' b→av b
 pins:∀ b o,av₀ b→¬ frs l b→s.heap.get? b=some o→s'.heap.get? b=some o
theorem Fr.tr{l:List Env}{s s' s'':Shared}{av av' av'':Addr→Prop}(x:Fr l av₀ s av s' av')(y:Fr l av₀ s' av' s'' av''):Fr l av₀ s av s'' av'' where
 keep:=fun b o e hb=>y.keep b o (x.keep b o e hb) fun h=>hb (x.grow b o e h)
 grow:=fun b o e h=>Classical.byContradiction fun hb=>hb (x.grow b o e (y.grow b o (x.keep b o e hb) h))
 pins:=fun b o hb n e=>y.pins b o hb n (x.pins b o hb n e)
theorem Fr.rf(l:List Env)(s:Shared)(av:Addr→Prop):Fr l av₀ s av s av:=⟨fun _ _ e _=>e,fun _ _ _ h=>h,fun _ _ _ _ e=>e⟩
theorem Fr.sub{l:List Env}{s:Shared}{av av1:Addr→Prop}(h:∀ b,av1 b→av b):Fr l av₀ s av s av1:=⟨fun _ _ e _=>e,fun b _ _ x=>h b x,fun _ _ _ _ e=>e⟩
theorem Fr.weaken{l:List Env}{av₁:Addr→Prop}{s s':Shared}{av av':Addr→Prop}(h:∀ b,av₀ b→av₁ b)(x:Fr l av₁ s av s' av'):Fr l av₀ s av s' av':=⟨x.keep,x.grow,fun b o hb n e=>x.pins b o (h b hb) n e⟩
theorem Fr.ofK{l:List Env}{s s':Shared}{av:Addr→Prop}(fav:∀ b,frs l b→av b)(k:K l s s'):Fr l av₀ s av s' av:=⟨fun b o e n=>k.at (fun f=>n (fav b f)) e,fun _ _ _ h=>h,fun b o _ n e=>k.at n e⟩
theorem Act.frk(X:Act prog w mg mb base l₀ env sc av₀ s₀ σ av s){s':Shared}(k:K (env::l₀) s s'):Fr (env::l₀) av₀ s av s' av:=Fr.ofK X.inv.gnd.fav k
theorem Act.frPut(X:Act prog w mg mb base l₀ env sc av₀ s₀ σ av s){s':Shared}(f:∀ b o,¬ Mn env b→s.heap.get? b=some o→s'.heap.get? b=some o):Fr (env::l₀) av₀ s av s' av :=
 ⟨fun b o e n=>f b o (fun m=>n (X.fresh b m).1) e,fun _ _ _ h=>h,fun b o hb _ e=>f b o (fun m=>(X.fresh b m).2.2 hb) e⟩
theorem Act.frMut(X:Act prog w mg mb base l₀ env sc av₀ s₀ σ av s){s':Shared}{x:Str}{d:PyData}{a:Addr}(hx:aA.get σ x=some (some (.own d)))(hv:bA env s.heap x (.ref a))(hs:Heap.SameBut a s.heap s'.heap):Fr (env::l₀) av₀ s av s' av :=
 have hk:∀ b o,b≠a→s.heap.get? b=some o→s'.heap.get? b=some o:=fun b o hb e=>by rw[hs.2 b hb];exact e
 have q:=X.ownA x a ⟨⟨d,hx⟩,hv⟩
 ⟨fun b o e hb=>hk b o (fun h=>hb (h▸q.1)) e,fun _ _ _ h=>h,fun b o hb _ e=>hk b o (fun h=>q.2.2.1 (h▸hb)) e⟩
noncomputable def Mk(h:Heap)(e:Addr):Prop:=∃ oe vs,h.get? e=some oe∧oe.data=.fields vs∧vs[1]?=some .none
inductive Upx(prog:Program)(w:World)(mg:Str→Option Value)(base:Heap)(l₀:List Env)(env:Env)(s₀:Shared)(av₀:Addr→Prop)(x:X)(v:Value)(s':Shared):Prop where
 |mk (k:K l₀ s₀ s') (ff:s'.heap.FunFrames base (env::l₀)) (st:∀ b o,base.get? b=some o→s'.heap.get? b=some o) (e:Addr) (a:v=.ref e) (n:s₀.heap.get? e=none) (xa:ExAt prog w mg s'.heap (fun b=>av₀ b∨frs (env::l₀) b) e x) (t:Tb s₀ s'.heap e .none∨Mk s'.heap e):Upx prog w mg base l₀ env s₀ av₀ x v s'
theorem Upx.weaken{av₁:Addr→Prop}{x:X}{v:Value}{s':Shared}(h:∀ b,av₀ b→av₁ b)(u:Upx prog w mg base l₀ env s₀ av₁ x v s'):Upx prog w mg base l₀ env s₀ av₀ x v s' :=
 by obtain⟨h1,h2,h3,e,h4,h5,h6,h7⟩:=u;exact⟨h1,h2,h3,e,h4,h5,h6.mono (fun _ _ _ e=>e) fun b _ _ x=>x.imp (h b) id,h7⟩
theorem Act.up(X:Act prog w mg mb base l₀ env sc av₀ s₀ σ av s){x:Mine.X}{v:Value}{s':Shared}(f:Fly prog w mg (env::l₀) s av x v s'):Upx prog w mg base l₀ env s₀ av₀ x v s':=by
 obtain⟨k,e,h1,h2,h3,oe,vs,T,oT,ts,g1,g2,g3,g4,g5,g6,g7,g8⟩:=f;have Y:=X.k k;exact⟨Y.k0,Y.inv.gnd.ff,Y.inv.gnd.stay,e,h1,X.k0.non h2,h3.mono (fun _ _ _ e=>e) fun b _ _ x=>x.elim (X.bas b) (X.inv.gnd.fav b),.inl ⟨oe,vs,T,oT,ts,g1,g2,g3,X.k0.non g4,g5,g6,g7,g8⟩⟩
variable (prog w mg mb base) in
noncomputable def aV(n:Nat)(hd:Bool)(l₀:List Env)(env:Env)(sc:Scope)(s₀:Shared)(σ:aA)(t:Sem Flow)(r:KN→KR→R V):Prop :=
 ∀ (av₀:Addr→Prop) (A:Around) (s:Shared) (av:Addr→Prop),Room n hd (env::l₀) A→Act prog w mg mb base l₀ env sc av₀ s₀ σ av s →
  ∀ {kn:KN} {kr:KR} {fin:R V} {Q:Flow→Shared→Prop} {E:Value→Shared→Prop},r kn kr=fin→fin≠.no→PassesOwn (model prog w) A env E →
  (∀ s' σ' av',Act prog w mg mb base l₀ env sc av₀ s₀ σ' av' s'→Fr (env::l₀) av₀ s av s' av'→kn σ'=fin→Q .next s') →
  (∀ v s' u,K l₀ s₀ s'→bB prog w s₀ s'.heap av₀ v u→kr u=fin→Q (.ret v) s') →
  (∀ x v s',fin=.exc x→Upx prog w mg base l₀ env s₀ av₀ x v s'→E v s')→wpAny (model prog w) A t Q E s
theorem aV.no{t:Sem Flow}:aV prog w mg mb base n hd l₀ env sc s₀ σ t fun _ _=>.no:=fun _ _ _ _ _ _ _ _ _ _ _ hf hne _=>absurd hf.symm hne
theorem kA{rec:Stmt→aA→KN→KR→R V}:∀ {b:List Stmt} {σ:aA},(∀ st∈b,∀ σ,aV prog w mg mb base n hd l₀ env sc s₀ σ (exec st env) (rec st σ))→aV prog w mg mb base n hd l₀ env sc s₀ σ (execs b env) (blk rec b σ)
 | [],σ,_=>fun av₀ A s av hA X _ _ _ _ _ hf hne hp hn hr he=>wpAny_execs_nil (hn s σ av X (Fr.rf _ s av) hf)
 |st::r,σ,h=>fun av₀ A s av hA X kn kr fin Q E hf hne hp hn hr he=>by
  refine wpAny_execs_cons (h st List.mem_cons_self σ av₀ A s av hA X hf hne hp (fun s' σ' av' Y fr e=>?_) (fun v s' u k r e=>hr v s' u k r e) he);exact kA (b:=r) (fun st hst=>h st (List.mem_cons_of_mem _ hst)) av₀ A s' av' hA Y e hne hp (fun s'' σ'' av'' Z fr' e'=>hn s'' σ'' av'' Z (fr.tr fr') e') hr he
theorem bB.out(X:Act prog w mg mb base l₀ env sc av₀ s₀ σ av s){h:Heap}{v:Value}{u:V}(r:bB prog w s h av v u):bB prog w s₀ h av₀ v u:=by
 have r':=r.back X.k0;cases u with
 |ex x=>exact r
 |fz d=>exact(show Rep prog w h av v d from r).mono (fun _ _ _ e=>e) fun b _ _ x=>X.bas b x
 |own d =>
  obtain⟨a,e,hn,rb⟩:=r';exact⟨a,e,hn,rb.mono (fun _ _ _ e=>e) (fun b _ _ x=>x.imp (X.bas b) id) fun _ e=>e⟩
theorem aH.st{e:Expr}{r:R V}(h:aH prog w mg mb base n hd (env::l₀) sc σ e r){A:Around}(hA:Room n hd (env::l₀) A)(X:Act prog w mg mb base l₀ env sc av₀ s₀ σ av s){k:V→R V}{fin:R V}{Q:Value→Shared→Prop}{E:Value→Shared→Prop}(hf:rb r k=fin)(hne:fin≠.no)
  (hq:∀ v s' u,K (env::l₀) s s'→bB prog w s s'.heap av v u→k u=fin→Q v s') (he:∀ x v s',fin=.exc x→Upx prog w mg base l₀ env s₀ av₀ x v s'→E v s'):wpAny (model prog w) A (eval e env) Q E s :=
 h A env s av hA X.inv ⟨hf,hne⟩ hq fun x v s' e f=>he x v s' e (X.up f)
theorem zM{e:Expr}{pos:Pos}{xs:List Str}{p:R V}(h:aH prog w mg mb base n hd (env::l₀) sc (aA.clear σ xs) e p):aV prog w mg mb base n hd l₀ env sc s₀ σ (exec (.Return (some e) pos) env) fun _ kr=>rb p kr:=by
 intro av₀ A s av hA X kn kr fin Q E hf hne hp hn hr he;obtain⟨av1,Y,_⟩:=X.clear xs;exact wpAny_Return_some (h.st hA Y hf hne (fun v s' u k r e=>hr v s' u (Y.k k).k0 (r.out Y) e) he)
theorem zN:∀ σ:aA,aA.clear σ []=σ
 | []=>rfl
 | (_,_)::r=>congrArg _ (zN r)
theorem L7{ev:EV}{F:Nat}{e:Expr}{pos:Pos}(h:∀ σ,aH prog w mg mb base n hd (env::l₀) sc σ e (ev σ e)):aV prog w mg mb base n hd l₀ env sc s₀ σ (exec (.Return (some e) pos) env) fun _ kr=>qI ev F sc σ e kr:=by
 unfold qI;refine ocs (bI e) (fun hx=>?_) fun x hx=>?_
 ·try rewrite[hx]
  exact zM (h _)
 ·try rewrite[hx]
  obtain⟨p,rfl⟩:=dU hx;show aV prog w mg mb base n hd l₀ env sc s₀ σ _ fun _ kr=>match jR sc σ x with
   |some d=>kr (.own d)
   |none=>rb (ev σ (.Name x p)) kr
  refine ocs (jR sc σ x) (fun ho=>?_) fun d ho=>?_
  ·try rewrite[ho]
   exact zM (xs:=[]) (p:=ev σ (.Name x p)) ((zN σ).symm▸h σ)
  ·try rewrite[ho]
   intro av₀ A s av hA X kn kr fin Q E hf hne hp hn hr he;obtain⟨hl,hg⟩:=yF ho;obtain⟨u,h1,a,rfl,_,h2⟩:=X.inv.get x _ hl hg;obtain⟨q1,q2,_⟩:=X.ownA x a ⟨⟨d,hg⟩,h1⟩;exact wpAny_Return_some (gS X.inv hl h1 (hr _ _ (.own d) X.k0 ⟨a,rfl,q2,h2.mono (fun _ _ _ e=>e) (fun b _ _ h=>h.elim (X.bas b) fun h=>h▸q1) fun _ e=>e⟩ hf))
theorem gX{x:Str}{u:V}{σ σ':aA}(h:dM x u σ=.ok σ'):∃ v0,aA.get σ x=some v0∧σ'=aA.set σ x u:=by
 unfold dM at h;refine ocs (aA.get σ x) (fun hg=>?_) fun v0 hg=>?_
 ·try rewrite[hg]
  rw[hg] at h;exact pno h
 ·try rewrite[hg]
  rw[hg] at h;obtain rfl:=pi h;exact⟨v0,rfl,rfl⟩
theorem eG{α:Type}{p:P α}{k:α→R V}{fin:R V}(h:rb (ofP p) k=fin)(hne:fin≠.no):∃ a,p=.ok a∧k a=fin:=Fin.p ⟨h,hne⟩
theorem Act.bindVal{A:Around}{E:Value→Shared→Prop}{s₁:Shared}{x:Str}{v0:Option V}{v:Value}{u:V}{Q:Unit→Shared→Prop}(X:Act prog w mg mb base l₀ env sc av₀ s₀ σ av s)(k:K (env::l₀) s s₁)(r:bB prog w s s₁.heap av v u)
  (hx:aA.get σ x=some v0) (hq:∀ s' av',Act prog w mg mb base l₀ env sc av₀ s₀ (aA.set σ x u) av' s'→Fr (env::l₀) av₀ s av s' av'→Q () s'):wpAny (model prog w) A (storeName env x v) Q E s₁:=by
 cases u with
 |ex x=>exact r.elim
 |fz d=>exact(X.k k).put hx (show b7 prog w mg (env::l₀) s₁.heap av v (.fz d) from r) (fun _ _ e=>by cases e) fun s' Y f _ _=>hq s' av Y ((X.frk k).tr ((X.k k).frPut f))
 |own d =>
  obtain⟨a,rfl,hn,rb⟩:=r;have Y:=X.growS (S:=fun b=>b=a) k (fun b h=>h▸hn) fun b h=>h▸rb.live;obtain⟨n1,n2,n3,n4,n5⟩:=X.newNot hn;have g:Fr (env::l₀) av₀ s av s₁ (fun b=>av b∨b=a):=⟨(X.frk k).keep,fun b o e h=>h.elim id (fun h=>by simp only[h,hn] at e;cases e),(X.frk k).pins⟩
  refine Y.put hx (show b7 prog w mg (env::l₀) s₁.heap _ (.ref a) (.own d) from ⟨a,rfl,n5,rb⟩) (fun d' a' e1 e2=>?_) fun s' Z f _ _=>hq s' _ Z (g.tr (Y.frPut f));cases e2;exact⟨.inr rfl,n4,n3,n1,fun y _ h=>n2 (X.ownA y a (X.ownBack (fun u h=>h.k k) h)).1⟩
theorem L8{e:Expr}{x:Str}{p pos:Pos}{xs:List Str}{q:R V}(hs:swapsWith e (some (.Name x p)) pos.line env=pure false)(h:aH prog w mg mb base n hd (env::l₀) sc (aA.clear σ xs) e q) :
  aV prog w mg mb base n hd l₀ env sc s₀ σ (exec (.Assign [.Name x p] e pos) env) fun kn _=>rb q fun v=>rb (ofP (dM x v (aA.clear σ xs))) kn:=by
 intro av₀ A s av hA X kn kr fin Q E hf hne hp hn hr he;obtain⟨av1,Y,hsub⟩:=X.clear xs;refine wpAny_Assign_Name (h.st hA Y hf hne (fun v s' u k r e=>?_) he) hs;obtain⟨σ',hσ,e⟩:=eG e hne;obtain⟨v0,hg,rfl⟩:=gX hσ;exact Y.bindVal k r hg fun s'' av' Z fr=>hn _ _ _ Z ((Fr.sub hsub).tr fr) e
theorem L9{t:Expr}{b o:List Stmt}{pos:Pos}{xs:List Str}{q:R V}{kb ko:KN→KR→R V}(h:bU prog w mg mb base n hd (env::l₀) sc (aA.clear σ xs) t q)
  (hb:aV prog w mg mb base n hd l₀ env sc s₀ (aA.clear σ xs) (execs b env) kb) (ho:aV prog w mg mb base n hd l₀ env sc s₀ (aA.clear σ xs) (execs o env) ko) :
  aV prog w mg mb base n hd l₀ env sc s₀ σ (exec (.If t b o pos) env) fun kn kr=>rb (tst q) fun c=>if c then kb kn kr else ko kn kr:=by
 intro av₀ A s av hA X kn kr fin Q E hf hne hp hn hr he;obtain⟨av1,Y,hsub⟩:=X.clear xs;refine wpAny_If (h A env s av1 hA Y.inv ⟨hf,hne⟩ (fun c s' k e=>?_) fun x v s' e f=>he x v s' e (Y.up f));have fr:Fr (env::l₀) av₀ s av s' av1:=(Fr.sub hsub).tr (Y.frk k);cases c with
 |true=>exact hb av₀ A s' av1 hA (Y.k k) e hne hp (fun s'' σ' av' Z f e'=>hn s'' σ' av' Z (fr.tr f) e') hr he
 |false=>exact ho av₀ A s' av1 hA (Y.k k) e hne hp (fun s'' σ' av' Z f e'=>hn s'' σ' av' Z (fr.tr f) e') hr he
theorem zO{e:Expr}{line:Nat}(hc:gO e=false):swapsWith e none line env=pure false:=by
 unfold swapsWith;cases e<;>first | rfl | cases hc
theorem Ma{e:Expr}{pos:Pos}{xs:List Str}{q:R V}(hc:gO e=false)(h:aH prog w mg mb base n hd (env::l₀) sc (aA.clear σ xs) e q) :
  aV prog w mg mb base n hd l₀ env sc s₀ σ (exec (.Expr e pos) env) fun kn _=>rb q fun _=>kn (aA.clear σ xs):=by
 intro av₀ A s av hA X kn kr fin Q E hf hne hp hn hr he;obtain⟨av1,Y,hsub⟩:=X.clear xs;exact wpAny_Expr_any (h.st hA Y hf hne (fun v s' u k r e=>hn _ _ _ (Y.k k) ((Fr.sub hsub).tr (Y.frk k)) e) he) (by unfold interactive;rw[X.inv.kind];rfl) (zO hc)
end
end Mine
namespace Mine
open PySem
section
variable {prog:Program} {w:World} {mg mb:Str→Option Value} {base:Heap} {n:Nat} {hd:Bool} {l₀:List Env} {env:Env} {sc:Scope} {av₀:Addr→Prop} {s₀:Shared} {σ:aA} {av:Addr→Prop} {s:Shared}
theorem zP{x:Str}{d:PyData}(h:jU σ x=.ok d):aA.get σ x=some (some (.own d)):=by
 unfold jU at h;refine ocs (aA.get σ x) (fun hg=>?_) fun o hg=>?_
 ·try rewrite[hg]
  rw[hg] at h;exact pno h
 ·try rewrite[hg]
  rw[hg] at h;cases o with
  |none=>exact pno h
  |some v =>
   cases v with
   |own d'=>obtain rfl:=pi h;rfl
   |_=>exact pno h
theorem Mb{y:Str}{v:Value}{r:List (Str×Value)}{k:Str}(hn:(((y,v)::r).map (·.1)).Nodup):without ((y,v)::r) k=if k=y then r else (y,v)::without r k:=by
 by_cases h:k=y
 ·subst h;rw[if_pos rfl];have hnot:k∉r.map (·.1):=(List.nodup_cons.mp (show(k::r.map (·.1)).Nodup from hn)).1;have:without ((k,v)::r) k=without r k:=by
   unfold without;simp
  rw[this,without_of_not_mem r k hnot]
 ·rw[if_neg h];unfold without;have:(decide ((y,v).1≠k))=true:=by simp;exact fun e=>h e.symm
  rw[List.filter_cons,if_pos this]
theorem KV.del{h:Heap}{av:Addr→Prop}{k:Str}:∀ {kvs:List (Str×Value)} {ds:List (PyData×PyData)},(kvs.map (·.1)).Nodup→KV prog w h av kvs ds→KV prog w h av (without kvs k) (eR ds k)
 | [],[],_,_=>trivial
 | (y,v0)::r,(dk,d0)::t,hn,x=>by
  obtain⟨x1,x2,x3⟩:=x;have x1:dk=.str y:=x1;subst x1;rw[Mb hn];show KV prog w h av _ (if k=y then t else (.str y,d0)::eR t k)
  split
  ·exact x3
  ·exact⟨rfl,x2,KV.del (List.nodup_cons.mp (show(y::r.map (·.1)).Nodup from hn)).2 x3⟩
 | [],_::_,_,x=>x.elim
 |_::_,[],_,x=>x.elim
theorem KV.ps{h:Heap}{av:Addr→Prop}:∀ {kvs:List (Str×Value)} {ds:List (PyData×PyData)} {ps:List (Str×PyData)},KV prog w h av kvs ds→(∀ kv∈kvs,kv.1.length≤sizeLine)→keys? ds=some ps→PS prog w h av kvs ps
 | [],[],_,_,_,e=>by obtain rfl:=si e;trivial
 | (y,v)::r,(dk,d)::t,ps,x,hz,e=>by
  obtain⟨x1,x2,x3⟩:=x;have x1:dk=.str y:=x1;subst x1;have e:(keys? t).map ((y,d)::·)=some ps:=e;obtain⟨ps',e1,rfl⟩:=Option.map_eq_some_iff.mp e;exact⟨rfl,hz _ List.mem_cons_self,x2,KV.ps x3 (fun kv h=>hz kv (List.mem_cons_of_mem _ h)) e1⟩
 | [],_::_,_,x,_,_=>x.elim
 |_::_,[],_,x,_,_=>x.elim
theorem rK{h:Heap}{a:Addr}{kvs:List (Str×Value)}(x:h.DictOf (strKind prog w) a kvs):(kvs.map (·.1)).Nodup:=by
 obtain⟨o,es,ep,_,_,_,_,_,hn⟩:=x;exact hn
theorem fN{h h':Heap}{a:Addr}(ha:av a)(hs:Heap.SameBut a h h')(b:Addr)(o:Obj)(hb:¬ av b)(e:h.get? b=some o):h'.get? b=some o:=by rw[hs.2 b (fun h=>hb (h▸ha))];exact e
theorem rL{h':Heap}{a:Addr}{kvs:List (Str×Value)}{ds:List (PyData×PyData)}(hd:h'.DictOf (strKind prog w) a kvs)(hz:kvs.length≤sizeLine∧∀ kv∈kvs,kv.1.length≤sizeLine)(hm:(a==sysModules)=false)(x:KV prog w h' av kvs ds):bL prog w h' av a (.dict ds) :=
 by obtain⟨g1,g2⟩:=x.out;exact⟨kvs,hd,hz,hm,g1,g2⟩
theorem Mc{A:Around}{a:Addr}{v:Value}{l:List (PyData×PyData)}{k:Str}{d:PyData}{Q:Value→Shared→Prop}{E:Value→Shared→Prop}(ha:av a)(hb:bL prog w s.heap av a (.dict l))(r:Rep prog w s.heap av v (.str k))(hg:cC l k=some d)
  (hq:∀ u h' tk,Heap.SameBut a s.heap h'→Rep prog w h' av u d→bL prog w h' av a (.dict (eR l k))→Q u { s with heap:=h',toks:=tk }):wpAny (model prog w) A (call (.builtin "dict.pop") [.ref a,v]) Q E s:=by
 obtain⟨kvs,h2,h3,h4,h5,h6⟩:=hb;obtain⟨t,rfl,hkl⟩:=r.str_inv;rcases nA k h5 with ⟨_,hno⟩ | ⟨i,u,d',hu,hd',e1,e2⟩
 ·rw[hno] at hg;exact ns hg
 ·rw[hd'] at hg;obtain rfl:=si hg;refine call_meetsIn F.slot_dict_pop h2.typeIs F.entry_dict_pop (F.args_dict_pop_2 _ _) (meets_dict_pop_there (strKind prog w) a (eF k t) [] (.inl rfl) rfl) ⟨kvs,u,h2,h3.1,hu,fun h' hdo hs=>?_⟩;refine hq u h' _ hs ((h6 i _ _ e1 e2).mono (fN ha hs) fun _ _ _ x=>x) (rL hdo ⟨Nat.le_trans (List.length_filter_le _ _) h3.1,fun kv hkv=>h3.2 kv (List.mem_filter.mp hkv).1⟩ h4 ((KV.del (k:=k) (rK h2) (KV.of h5 h6)).mono (fN ha hs) fun _ _ _ x=>x))
theorem Md{A:Around}{a:Addr}{v:Value}{l:List PyData}{d:PyData}{Q:Value→Shared→Prop}{E:Value→Shared→Prop}(ha:av a)(hb:bL prog w s.heap av a (.list l))(rv:Rep prog w s.heap av v d)(hl:l.length < aX)
  (hq:∀ h',Heap.SameBut a s.heap h'→bL prog w h' av a (.list (l++[d]))→Q .none { s with heap:=h' }):wpAny (model prog w) A (call (.builtin "list.append") [.ref a,v]) Q E s:=by
 obtain⟨xs,hp,hxl,hxz,hxr⟩:=hb;refine wpAny_list_append_plain hp (fun h' hp' hs=>hq h' hs ⟨xs++[v],by simpa using hp',by simp[hxl],?_,zF hxl (fun i u du e1 e2=>(hxr i u du e1 e2).mono (fN ha hs) fun _ _ _ x=>x) (rv.mono (fN ha hs) fun _ _ _ x=>x)⟩) (by simp;exact hxz);have:aX=sizeLine:=rfl;rw[List.length_append,hxl];exact this▸hl
theorem Me{A:Around}{a:Addr}{v:Value}{l m:List (PyData×PyData)}{ps:List (Str×PyData)}{Q:Value→Shared→Prop}{E:Value→Shared→Prop}(ha:av a)(hb:bL prog w s.heap av a (.dict l))(rv:Rep prog w s.heap av v (.dict m))(hk:keys? m=some ps)(hl:l.length+ps.length < 4096)
  (hq:∀ h',Heap.SameBut a s.heap h'→bL prog w h' av a (.dict (cS ps l))→Q .none { s with heap:=h' }):wpAny (model prog w) A (call (.builtin "dict.update") [.ref a,v]) Q E s:=by
 obtain⟨kvs,h2,h3,h4,h5,h6⟩:=hb;obtain⟨o,mvs,rfl,g1,g2,g3,g4,g5,g6⟩:=rv.dict_or.resolve_right fun x=>by obtain⟨_,_,_,_,_,_,_,_,rfl⟩:=x;exact ns hk
 have ps':=KV.ps (KV.of g5 g6) g3.2 hk;have e1:kvs.length=l.length:=by have:=congrArg List.length h5;simpa using this.symm
 have e2:mvs.length=ps.length:=ps'.length;have hsz:kvs.length+mvs.length≤sizeLine:=by
  have:sizeLine=16777216:=rfl;exact D6 hl e1 e2 this
 refine call_meetsIn F.slot_dict_update h2.typeIs F.entry_dict_update (F.args_dict_update_2 _ _) (meets_dict_update (strKind prog w) a o (fun e=>g1 (e▸ha)) g4) ⟨kvs,mvs,h2,g2,hsz,fun h' hdo _ hs=>hq h' hs ?_⟩;obtain⟨q1,q2⟩:=KV.sets ps' (rK h2) (KV.of h5 h6) h3.2;exact rL hdo ⟨Nat.le_trans (merged_length_le kvs mvs) hsz,q2⟩ h4 (q1.mono (fN ha hs) fun _ _ _ x=>x)
inductive MutThere(prog:Program)(w:World)(m:Str)(od:PyData):Prop where
 |mk (T id) (a:PlainAttrs T) (b:Slot T m id) (c:typeOf (.builtin id)=pure (.type "method_descriptor")) (d:∀ (s:Shared) (av:Addr→Prop) (a:Addr),bL prog w s.heap av a od→s.TypeIs (.ref a) T∧∃ ob,s.heap.get? a=some ob∧ob.dict=none)
  (e:∀ (A:Around) (s:Shared) (av:Addr→Prop) (a:Addr) (vs:List Value) (ds:List PyData) (od':PyData) (Q:Value→Shared→Prop) (E:Value→Shared→Prop),av a→bL prog w s.heap av a od→RL prog w s.heap av vs ds→f0 m od ds=.ok od' →
   (∀ v h' tk,Heap.SameBut a s.heap h'→bL prog w h' av a od'→Q v { s with heap:=h',toks:=tk })→wpAny (model prog w) A (call (.builtin id) (.ref a::vs)) Q E s):MutThere prog w m od
theorem zQ{l:List (PyData×PyData)}{s:Shared}{av:Addr→Prop}{a:Addr}(hb:bL prog w s.heap av a (.dict l)):s.TypeIs (.ref a) "dict" ∧ ∃ ob,s.heap.get? a=some ob∧ob.dict=none:=by
 obtain⟨kvs,h2,_⟩:=hb;refine⟨h2.typeIs,?_⟩;obtain⟨ob,es,ep,e,c,_⟩:=h2;exact⟨ob,e,c.2.1⟩
theorem rM{m:Str}{od:PyData}{ds:List PyData}{od':PyData}(h:f0 m od ds=.ok od'):∃ d,ds=[d]:=by
 cases ds with
 |nil=>exact pno h
 |cons d r =>
  cases r with
  |nil=>exact⟨d,rfl⟩
  |cons=>exact pno h
theorem Mf{m:Str}{od:PyData}(hm:mQ m od=true):MutThere prog w m od:=by
 cases od with
 |list l =>
  obtain rfl:m = "append" := of_decide_eq_true hm;refine⟨"list", "list.append", F.plainAttrs_list,F.slot_list_append,by kernel_rfl,fun s av a hb=>?_,fun A s av a vs ds od' Q E ha hb r hmu hq=>?_⟩
  ·obtain⟨vs,⟨n,e⟩,_⟩:=hb;exact⟨⟨_,e,rfl⟩,_,e,rfl⟩
  ·obtain⟨d,rfl⟩:=rM hmu;obtain⟨v,vs,rfl,rv,r⟩:=r.cons;obtain rfl:=r.nil;replace hmu:(if l.length < aX then P.ok (.list (l++[d])) else .no)=.ok od':=hmu
   by_cases hc:l.length < aX
   ·rw[if_pos hc] at hmu;obtain rfl:=pi hmu;exact Md ha hb rv hc fun h' hs hb'=>hq _ h' _ hs hb'
   ·rw[if_neg hc] at hmu;exact pno hmu
 |dict l =>
  rcases Bool.or_eq_true_iff.mp hm with hm | hm
  ·obtain rfl:m = "pop" := of_decide_eq_true hm;refine⟨"dict", "dict.pop", F.plainAttrs_dict,F.slot_dict_pop,by kernel_rfl,fun s av a hb=>zQ hb,fun A s av a vs ds od' Q E ha hb r hmu hq=>?_⟩;obtain⟨d,rfl⟩:=rM hmu;obtain⟨v,vs,rfl,rv,r⟩:=r.cons;obtain rfl:=r.nil;replace hmu:wW l d=.ok od':=hmu;cases d with
   |str k =>
    replace hmu:(if (cC l k).isSome then P.ok (.dict (eR l k)) else .no)=.ok od':=hmu;refine ocs (cC l k) (fun hg=>?_) fun d hg=>?_
    ·try rewrite[hg]
     rw[hg] at hmu;exact pno hmu
    ·try rewrite[hg]
     rw[hg] at hmu;obtain rfl:=pi hmu;exact Mc ha hb rv hg fun u h' tk hs _ hb'=>hq u h' tk hs hb'
   |_=>exact pno hmu
  ·obtain rfl:m = "update" := of_decide_eq_true hm;refine⟨"dict", "dict.update", F.plainAttrs_dict,F.slot_dict_update,by kernel_rfl,fun s av a hb=>zQ hb,fun A s av a vs ds od' Q E ha hb r hmu hq=>?_⟩;obtain⟨d,rfl⟩:=rM hmu;obtain⟨v,vs,rfl,rv,r⟩:=r.cons;obtain rfl:=r.nil;replace hmu:wX l d=.ok od':=hmu;cases d with
   |dict m =>
    replace hmu:((ofO (keys? m)).bind fun m=>if l.length+m.length < 4096 then P.ok (.dict (cS m l)) else .no)=.ok od':=hmu;refine ocs (keys? m) (fun hk=>?_) fun ps hk=>?_
    ·try rewrite[hk]
     rw[hk] at hmu;exact pno hmu
    ·try rewrite[hk]
     rw[hk] at hmu;replace hmu:(if l.length+ps.length < 4096 then P.ok (.dict (cS ps l)) else .no)=.ok od':=hmu
     by_cases hc:l.length+ps.length < 4096
     ·rw[if_pos hc] at hmu;obtain rfl:=pi hmu;exact Me ha hb rv hk hc fun h' hs hb'=>hq _ h' _ hs hb'
     ·rw[if_neg hc] at hmu;exact pno hmu
   |_=>exact pno hmu
 |_=>exact bft hm
theorem P.bind_ok{α β:Type}{p:P α}{f:α→P β}{b:β}(h:p.bind f=.ok b):∃ a,p=.ok a∧f a=.ok b:=by
 cases p with
 |no=>exact pno h
 |ok a=>exact⟨a,rfl,h⟩
theorem Mg{ev:EV}(hbad:∀ σ e,bad e=true→ev σ e=.no){x m:Str}{as:List Expr}{xp ap cp pos:Pos}{xs:List Str}(h:∀ e∈as,aH prog w mg mb base n hd (env::l₀) sc (aA.clear σ xs) e (ev (aA.clear σ xs) e)) :
  aV prog w mg mb base n hd l₀ env sc s₀ σ (exec (.Expr (.Call (.Attribute (.Name x xp) m ap) as [] cp) pos) env) fun kn _=>mS ev (aA.clear σ xs) x m ap as cp kn:=by
 intro av₀ A s av hA X kn kr fin Q E hf hne hp hn hr he;obtain⟨av1,Y,hsub⟩:=X.clear xs;replace hf:mS ev (aA.clear σ xs) x m ap as cp kn=fin:=hf;unfold mS at hf
 by_cases hc:(ap.endLine==cp.line)=false∨as.any bad=true∨3 < as.length
 ·rw[if_pos hc] at hf;exact absurd hf.symm hne
 rw[if_neg hc] at hf;simp only[not_or,Bool.not_eq_true,Bool.not_eq_false,Nat.not_lt] at hc;obtain⟨c3,c4,c5⟩:=hc;obtain⟨od,hod,hf⟩:=eG hf hne;have hg:=zP hod;obtain⟨hlx,_⟩:=Y.names x _ hg;obtain⟨u,hv,a,rfl,hfr,hb⟩:=Y.inv.get x _ hlx hg;have ha:=(Y.ownA x a ⟨⟨od,hg⟩,hv⟩).1;refine bcs (mQ m od) (fun hm=>?_) fun hm=>?_
 ·try rewrite[hm]
  rw[hm] at hf;exact absurd hf.symm hne
 ·try rewrite[hm]
  rw[hm] at hf;replace hf:rb (evs (ev (aA.clear σ xs)) as) _=fin:=hf;obtain⟨T,id,t1,t2,t3,t4,t5⟩:=Mf (prog:=prog) (w:=w) hm;obtain⟨q1,q2⟩:=t4 s av1 a hb;refine wpAny_Expr_any ?_ (by unfold interactive;rw[X.inv.kind];rfl) rfl;refine wpAny_Call_method_lateS rfl (rF c4 c5 cp env) c3 (gS Y.inv hlx hv ⟨T,id,t1,t2,t3,q1,fun a' e=>by cases e;exact q2,iT c4 (iS (hbad _) hA h Y.inv ⟨hf,hne⟩ (fun vs s₂ us k2 r1 r2 e2=>?_) fun x v s' e f=>he x v s' e (Y.up f))⟩);obtain⟨od',hmu,e2⟩:=eG e2 hne;obtain⟨σ',hσ,e3⟩:=eG e2 hne;obtain⟨v0,_,rfl⟩:=gX hσ;have Y2:=Y.k k2;refine t5 A s₂ av1 a vs _ od' _ E ha (hb.k Y.inv.gnd.fav k2 hfr) ⟨r1,r2⟩ hmu fun v h' tk hs hb'=>?_;exact hn _ _ _ (Y2.mut (tk:=tk) hg (hv.k k2) hs hb') ((Fr.sub hsub).tr ((Y.frk k2).tr (Y2.frMut (s':={ s₂ with heap:=h',toks:=tk }) hg (hv.k k2) hs))) e3
end
end Mine
namespace Mine
open PySem
section
variable {prog:Program} {w:World} {mg mb:Str→Option Value} {base:Heap} {n:Nat} {hd:Bool} {l₀:List Env} {env:Env} {sc:Scope} {av₀:Addr→Prop} {s₀:Shared} {σ:aA} {av:Addr→Prop} {s:Shared}
theorem Mh(f:Array Value→Array Value)(its:Array Value)(n:Nat):∃ n',Obj.mapSeq f { cls:=.type "list", data:=.seq its n }={ cls:=.type "list", data:=.seq (f its) n' }:=⟨_,rfl⟩
theorem Mi{A:Around}{E:Value→Shared→Prop}{s:Shared}{l:Addr}{items:Array Value}{k:Int}{t:Tok}{v:Value}{Q:Unit→Shared→Prop}(hp:s.heap.PlainList l items)
  (h0:0≤k) (hfit:k < 2 ^ 63) (hn:k < items.size)
  (hQ:∀ h',h'.PlainList l (items.setIfInBounds k.toNat v)→Heap.SameBut l s.heap h'→Q () { s with heap:=h' }) :
  wpAny (model prog w) A (PySem.setItem (.ref l) (.int k t) v) Q E s:=by
 have hl:=hp.isList;obtain⟨ne,ho⟩:=hp;unfold PySem.setItem
 try with_reducible refine wpAny_holding ?_
 first | refine wpAny_bind (wpAny_pure ?_) | skip
 refine wpAny_bind (wpAny_sequenceKey hl.typeIs (by decide) ?_);refine wpAny_bind (wpAny_callSpecial?_slot (name:=Str.ofString "__setitem__") hl.typeIs slot_list_setitem
  (wpAny_call_entry slot_list_setitem hl.typeIs entry_list_setitem ?_ (args_list_setitem _ _ _)))
 show wpAny _ _ (Builtin.List.listSubscript? (.int k t) >>= _) _ _ s;refine wpAny_bind (wpAny_listSubscript_int (fitsIndex_of h0 hfit) ?_);clear hfit;obtain⟨j,rfl⟩:=Int.eq_ofNat_of_zero_le h0;have hj:j < items.size:=by exact D7 hn
 have hx':items[j]?=some items[j]:=Array.getElem?_eq_getElem hj;show wpAny _ _ ((seqItemAt l j >>= fun r=>pure (r.map (j,·))) >>= _) _ _ s;refine wpAny_bind (wpAny_bind (wpAny_seqItemAt ho rfl (wpAny_pure ?_)));rw[hx'];show wpAny _ _ (setSeqItemAt l j v >>= _) _ _ s;obtain⟨n',hm⟩:=Mh (·.setIfInBounds j v) items ne;have hfin:(s.heap.update l (Obj.mapSeq (·.setIfInBounds j v))).PlainList l (items.setIfInBounds j v) :=
  ⟨n',by rw[Heap.get?_update_self _ ho (by rw[hm];rfl),hm]⟩
 refine wpAny_bind (wpAny_setSeqItemAt ho rfl ?_)
 first
  |exact wpAny_bind (wpAny_pure (wpAny_pure ⟨.none,rfl,wpAny_pure (hQ _ hfin (Heap.SameBut.update ..))⟩))
  |exact wpAny_pure ⟨.none,rfl,wpAny_pure (hQ _ hfin (Heap.SameBut.update ..))⟩
theorem Mj(kvs:List (Str×Value))(k:Str)(v:Value):(stored kvs k v).length≤kvs.length+1:=by
 unfold stored
 split
 ·simp
 ·simp
theorem Ml{A:Around}{a:Addr}{vi vd:Value}{o i d o':PyData}{Q:Unit→Shared→Prop}{E:Value→Shared→Prop}(ha:av a)(hb:bL prog w s.heap av a o)(ri:Rep prog w s.heap av vi i)(rd:Rep prog w s.heap av vd d)
  (hs:setItem o i d=.ok o') (hq:∀ h' tk,Heap.SameBut a s.heap h'→bL prog w h' av a o'→Q () { s with heap:=h',toks:=tk }):wpAny (model prog w) A (PySem.setItem (.ref a) vi vd) Q E s:=by
 cases o with
 |dict l =>
  replace hs:mP l d i=.ok o':=hs;cases i with
  |str k =>
   replace hs:(if l.length < aX then P.ok (.dict (dJ l k d)) else .no)=.ok o':=hs
   by_cases hc:l.length < aX
   ·rw[if_pos hc] at hs;obtain rfl:=pi hs;obtain⟨kvs,h2,h3,h4,h5,h6⟩:=hb;obtain⟨t,rfl,hkl⟩:=ri.str_inv;have hlen:kvs.length=l.length:=by
     have:=congrArg List.length h5;simpa using this.symm
    refine wpAny_setItem_pairs (eF k t) h2 (fun h' hd' hsb=>hq h' _ hsb (rL hd' ⟨?_,yS h3.2 hkl⟩ h4 (KV.set (k:=k) (rd.mono (fN ha hsb) fun _ _ _ x=>x) (rK h2) ((KV.of h5 h6).mono (fN ha hsb) fun _ _ _ x=>x)))) h3.1;have h1:=Mj kvs k vd;have h2:aX=sizeLine:=rfl;exact D8 hc hlen h1 h2
   ·rw[if_neg hc] at hs;exact pno hs
  |_=>exact pno hs
 |list l =>
  replace hs:wV l d i=.ok o':=hs;cases i with
  |int k =>
   replace hs:(if 0≤k∧k < l.length then P.ok (.list (l.set k.toNat d)) else .no)=.ok o':=hs
   by_cases hc:0≤k∧k < l.length
   ·rw[if_pos hc] at hs;obtain rfl:=pi hs;obtain⟨xs,hp,hxl,hxz,hxr⟩:=hb;obtain⟨t,rfl⟩:=ri.int_inv;have hN:sizeLine=16777216:=rfl;refine Mi hp hc.1 (by lia) (by simp;exact D9 hc hxl) fun h' hp' hsb=>hq h' _ hsb ⟨xs.set k.toNat vd,?_,by simp[hxl],by simpa using hxz,fun i u du e1 e2=>?_⟩
    ·have:(xs.set k.toNat vd).toArray=xs.toArray.setIfInBounds k.toNat vd:=by simp
     rw[this];exact hp'
    ·rw[List.getElem?_set] at e1 e2
     by_cases hj:k.toNat=i
     ·rw[if_pos hj] at e1 e2
      split at e1
      ·split at e2
       ·obtain rfl:=si e1;obtain rfl:=si e2;exact rd.mono (fN ha hsb) fun _ _ _ x=>x
       ·exact ns e2
      ·exact ns e1
     ·rw[if_neg hj] at e1 e2;exact(hxr i u du e1 e2).mono (fN ha hsb) fun _ _ _ x=>x
   ·rw[if_neg hc] at hs;exact pno hs
  |_=>exact pno hs
 |_=>exact pno hs
theorem Mm{A:Around}{x:Str}{i:Expr}{xp:Pos}{vd:Value}{d:PyData}{ri:R V}(hi:aH prog w mg mb base n hd (env::l₀) sc σ i ri)(hA:Room n hd (env::l₀) A)(X:Act prog w mg mb base l₀ env sc av₀ s₀ σ av s)(rd:Rep prog w s.heap av vd d)
  {kn:KN} {fin:R V} {Q:Flow→Shared→Prop} {E:Value→Shared→Prop} (hf:rb (ofP (jU σ x)) (fun o=>rb ri fun iv=>rb (ofP (setItem o (dOf iv) d)) fun o=>rb (ofP (dM x (.own o) σ)) kn)=fin) (hne:fin≠.no)
  (hn:∀ s' σ' av',Act prog w mg mb base l₀ env sc av₀ s₀ σ' av' s'→Fr (env::l₀) av₀ s av s' av'→kn σ'=fin→Q .next s') (he:∀ x v s',fin=.exc x→Upx prog w mg base l₀ env s₀ av₀ x v s'→E v s') :
  wpAny (model prog w) A (eval (.Name x xp) env) (fun ov s₂=>wpAny (model prog w) A (eval i env) (fun iv s₃=>wpAny (model prog w) A (PySem.setItem ov iv vd) (fun _=>Q Flow.next) E s₃) E s₂) E s:=by
 obtain⟨od,hod,hf⟩:=eG hf hne;have hg:=zP hod;obtain⟨hlx,_⟩:=X.names x _ hg;obtain⟨u',hv,a,rfl,hfr,hb⟩:=X.inv.get x _ hlx hg;have ha:=(X.ownA x a ⟨⟨od,hg⟩,hv⟩).1;refine gS X.inv hlx hv (hi.st hA X hf hne (fun iv s₂ ui k2 r2 e2=>?_) he);obtain⟨od',hso,e2⟩:=eG e2 hne;obtain⟨σ',hσ,e3⟩:=eG e2 hne;obtain⟨v0,_,rfl⟩:=gX hσ;have X2:=X.k k2;refine Ml ha (hb.k X.inv.gnd.fav k2 hfr) (r2.rep X.inv.gnd.avlt) (rd.k X.inv.gnd.fav k2) hso fun h' tk hs hb'=>?_;exact hn _ _ _ (X2.mut (tk:=tk) hg (hv.k k2) hs hb') ((X.frk k2).tr (X2.frMut (s':={ s₂ with heap:=h',toks:=tk }) hg (hv.k k2) hs)) e3
theorem Mo{α:Type}{c:Prop}[Decidable c]{r fin:R α}(h:(if c then .no else r)=fin)(hne:fin≠.no):¬ c∧r=fin:=by
 by_cases hc:c
 ·rw[if_pos hc] at h;exact absurd h.symm hne
 ·rw[if_neg hc] at h;exact⟨hc,h⟩
theorem Mp(e o i:Expr)(p:Pos)(line:Nat):swapsWith e (some (.Subscript o i p)) line env=pure false:=by
 unfold swapsWith;cases e<;>rfl
theorem Mq{ev:EV}{x:Str}{i e:Expr}{xp p pos:Pos}{xs:List Str}(h:∀ σ e,aH prog w mg mb base n hd (env::l₀) sc σ e (ev σ e)) :
  aV prog w mg mb base n hd l₀ env sc s₀ σ (exec (.Assign [.Subscript (.Name x xp) i p] e pos) env) fun kn _=>wY ev (aA.clear σ xs) x i e kn:=by
 intro av₀ A s av hA X kn kr fin Q E hf hne hp hn hr he;obtain⟨av1,Y,hsub⟩:=X.clear xs;obtain⟨_,hf⟩:=Mo hf hne;refine wpAny_Assign_Subscript ((h _ e).st hA Y hf hne (fun v s₁ u k1 r e1=>?_) he) (Mp ..);exact Mm (h _ i) hA (Y.k k1) ((r.rep Y.inv.gnd.avlt)) e1 hne (fun s' σ' av' Z f e=>hn s' σ' av' Z ((Fr.sub hsub).tr ((Y.frk k1).tr f)) e) he
theorem Zy{d:PyData}{l:List (PyData×PyData)}(h:H0 d=.ok l):d=.dict l:=by
 cases d with
 |dict l'=>obtain rfl:=pi h;rfl
 |_=>exact pno h
end
end Mine
namespace Mine
open PySem
section
variable {prog:Program} {w:World} {mg mb:Str→Option Value} {base:Heap} {n:Nat} {hd:Bool} {l₀:List Env} {env:Env} {sc:Scope} {av₀:Addr→Prop} {s₀:Shared} {σ:aA} {av:Addr→Prop} {s:Shared}
theorem Mr(e:Expr)(x:Str)(p:Pos)(line:Nat):∃ b:Bool,swapsWith e (some (.Name x p)) line env=pure b:=by
 unfold swapsWith;cases e<;>exact⟨_,rfl⟩
theorem Ms{e:Expr}{x:Str}{p:Pos}{line:Nat}(h:swapsWith e (some (.Name x p)) line env=pure true):gO e=true:=by
 have hne:(pure false:Sem Bool)≠pure true:=fun h=>by cases h
 cases e<;>first
  |rfl
  |exact absurd h hne
theorem Mt{elt:Expr}{g:Comprehension}{sc':Scope}{cpos:Pos}{x:Str}{p pos:Pos}{xs:List Str}{rec:Scope→aA→Expr→R V}
  (hs:swapsWith (.ListComp elt [g] sc' cpos) (some (.Name x p)) pos.line env=pure true) (hbad:∀ e,bad e=true→rec sc (aA.clear σ xs) e=.no)
  (hit:aH prog w mg mb base n hd (env::l₀) sc (aA.clear σ xs) g.iter (rec sc (aA.clear σ xs) g.iter)) (hsub:∀ f as kws q,g.iter=.Call f as kws q→∀ a∈as,aH prog w mg mb base n hd (env::l₀) sc (aA.clear σ xs) a (rec sc (aA.clear σ xs) a))
  (hT:∀ c∈g.ifs,∀ σ',bU prog w mg mb base n hd (env::l₀) sc' σ' c (rec sc' σ' c)) (hE:∀ σ',aH prog w mg mb base n hd (env::l₀) sc' σ' elt (rec sc' σ' elt)) :
  aV prog w mg mb base n hd l₀ env sc s₀ σ (exec (.Assign [.Name x p] (.ListComp elt [g] sc' cpos) pos) env) fun kn _=>rb (iO rec hd sc (aA.clear σ xs) elt g sc') fun v=>rb (ofP (dM x v (aA.clear σ xs))) kn:=by
 intro av₀ A s av hA X kn kr fin Q E hf hne hp hn hr he;obtain⟨av1,Y,hsb⟩:=X.clear xs;rw[exec_Assign_Name_used _ _ _ _ hs];refine wpAny_bind (wpAny_standAt (wpAny_bind ?_));rw[arm_evalThenUse_ListComp];refine wpAny_bind (wpAny_mono (zI (Q:=fun _ s'=>Q .next s') hbad hit hsub hT hE hA Y.inv ⟨hf,hne⟩ (fun x v s' e f=>he x v s' e (Y.up f)) fun s₁ wr D C zs st' k0 hD hC hDC hz F e=>?_) (fun _ s' hq=>wpAny_pure (wpAny_pure hq)) fun _ _ e=>e);obtain⟨σ',hσ,e⟩:=eG e hne;obtain⟨v0,hg,rfl⟩:=gX hσ;obtain⟨kk,⟨mC,hnsC⟩,ys,hpl,hyl,hys⟩:=F;have k:=k0.tr kk;have sD:=k0.non hD;have sC:=k0.non hC;obtain⟨d1,d2,d3,d4,d5⟩:=Y.newNot sD;obtain⟨c1,c2,c3,c4,c5⟩:=Y.newNot sC;have Z:=Y.growS (S:=fun b=>b=D∨b=C) k (fun a ha=>ha.elim (fun h=>h▸sD) fun h=>h▸sC) (fun a ha=>ha.elim (fun h=>by obtain⟨n,e⟩:=hpl;exact⟨_,h▸e⟩) fun h=>by obtain⟨o,es,ep,e,_⟩:=hnsC;exact⟨o,h▸e⟩);have notO:∀ b,¬ av1 b→∀ y,¬ b8 env (aA.clear σ xs) st'.heap y b:=fun b hb y h=>hb (Y.ownA y b (Y.ownBack (fun u h=>h.k k) h)).1;have g:Fr (env::l₀) av₀ s av1 st' (fun b=>av1 b∨b=D∨b=C):=⟨(Y.frk k).keep,fun b o e h=>h.elim id (fun h=>by
  rcases h with h | h
  ·rw[h,sD] at e;exact ns e
  ·rw[h,sC] at e;exact ns e),(Y.frk k).pins⟩
 refine wpAny_assign_Name (Z.put hg (v:=.own (.list zs)) ⟨D,rfl,d5,ys,hpl,hyl,by rw[hyl];exact hz,fun j v d e1 e2=>?_⟩ (fun d a e1 e2=>?_) fun s' Z' f hvx hvy=>?_)
 ·exact(hys j v d e1 e2).mono (fun _ _ _ e=>e) fun b o _ hb=>hb.imp id .inr
 ·cases e2;exact⟨.inr (.inl rfl),d4,d3,d1,fun y _=>notO D d2 y⟩
 ·have hown:∀ y a,b8 env (aA.set (aA.clear σ xs) x (.own (.list zs))) s'.heap y a→¬ a=C:=fun y a ⟨⟨d',hgy⟩,hv⟩ ha=>by
   subst ha
   by_cases hyx:y=x
   ·subst hyx;cases bA.uniq hvx hv;exact hDC rfl
   ·have hgy:=iV hyx hgy;exact notO a c2 y ⟨⟨d',hgy⟩,Z.varBack hgy (fun u=>hvy y u hyx) hv⟩
  refine⟨mC,hnsC.at' fun o e=>f C o c1 e,fun h' hs'=>?_⟩;have hkeep:∀ b o,¬ b=C→s'.heap.get? b=some o→h'.get? b=some o:=fun b o hb e=>by rw[hs'.2 b hb];exact e
  have W:=Z'.wildS (S:=fun b=>b=C) (av':=fun b=>(av1 b∨b=D∨b=C)∧b≠C) (h':=h') (tk:=s'.toks) (fun b hb=>.inr (.inr hb)) (fun b hb=>hb▸c4) (fun b m h=>c1 (h▸m)) hown hkeep
   (fun b hb=>hb.1) (fun b hb hb'=>⟨hb,hb'⟩) (fun b hb hb'=>absurd hb' hb.2) (fun b hb=>⟨.inl (Y.bas b hb),fun h=>c3 (h▸hb)⟩)
  have fr:Fr (env::l₀) av₀ s' (fun b=>av1 b∨b=D∨b=C) { s' with heap:=h' } (fun b=>(av1 b∨b=D∨b=C)∧b≠C):=⟨fun b o e hb=>hkeep b o (fun h=>hb (.inr (.inr h))) e,fun _ _ _ h=>h.1,fun b o hb _ e=>hkeep b o (fun h=>c3 (h▸hb)) e⟩
  exact hn _ _ _ W ((Fr.sub hsb).tr (g.tr ((Z.frPut f).tr fr))) e
theorem Mu:∀ {es:List Expr} {xs:List Str},eC es=some xs→(assignEach es env).length=xs.length∧(assignEach es env).findIdx? (·.1)=none:=by
 intro v0
 induction v0 with
 |nil =>
  intro xs h;obtain rfl:=si h;exact⟨rfl,rfl⟩
 |cons e es ih =>
  intro xs h;replace h:((bI e).bind fun x=>(eC es).map (x::·))=some xs:=h;refine ocs (bI e) (fun hx=>?_) fun x hx=>?_
  ·try rewrite[hx]
   rw[hx] at h;exact ns h
  ·try rewrite[hx]
   rw[hx] at h;obtain⟨p,rfl⟩:=dU hx;have h:(eC es).map (x::·)=some xs:=h;obtain⟨ys,h1,rfl⟩:=Option.map_eq_some_iff.mp h;obtain⟨g1,g2⟩:=ih h1;have e0:assignEach (.Name x p::es) env=(false,assign (.Name x p) env)::assignEach es env:=rfl;rw[e0];refine⟨by simp[g1],?_⟩;rw[List.findIdx?_cons];simp[g2]
theorem Act.putF{A:Around}{E:Value→Shared→Prop}{x:Str}{v0:Option V}{u:Value}{d:PyData}{Q:Unit→Shared→Prop}(X:Act prog w mg mb base l₀ env sc av₀ s₀ σ av s)(hx:aA.get σ x=some v0)(hv:Rep prog w s.heap av u d)
  (hq:∀ s',Act prog w mg mb base l₀ env sc av₀ s₀ (aA.set σ x (.fz d)) av s'→Fr (env::l₀) av₀ s av s' av→Q () s'):wpAny (model prog w) A (storeName env x u) Q E s :=
 X.put hx (show b7 prog w mg (env::l₀) s.heap av u (.fz d) from hv) (fun _ _ e=>by cases e) fun s' Y f _ _=>hq s' Y (X.frPut f)
theorem Mv{A:Around}{E:Value→Shared→Prop}{Q:Unit→Shared→Prop}:∀ {es:List Expr} {xs:List Str} {ds:List PyData} {vs:List Value} {σ σ':aA} {s:Shared},eC es=some xs→mO xs ds σ=.ok σ'→RL prog w s.heap av vs ds →
  Act prog w mg mb base l₀ env sc av₀ s₀ σ av s→(∀ s',Act prog w mg mb base l₀ env sc av₀ s₀ σ' av s'→Fr (env::l₀) av₀ s av s' av→Q () s')→wpAny (model prog w) A (assignInOrder ((assignEach es env).map (·.2)) vs) Q E s:=by
 intro v0
 induction v0 with
 |nil =>
  intro xs ds vs σ σ' s hn hs r X hq;obtain rfl:=si hn;cases ds with
  |cons=>exact pno hs
  |nil =>
   obtain rfl:=pi hs;obtain rfl:=r.nil;exact wpAny_assignInOrder_none (hq s X (Fr.rf _ s av))
 |cons e es ih =>
  intro xs ds vs σ σ' s hn hs r X hq;replace hn:((bI e).bind fun x=>(eC es).map (x::·))=some xs:=hn;refine ocs (bI e) (fun hx=>?_) fun x hx=>?_
  ·try rewrite[hx]
   rw[hx] at hn;exact ns hn
  ·try rewrite[hx]
   rw[hx] at hn;obtain⟨p,rfl⟩:=dU hx;have hn:(eC es).map (x::·)=some xs:=hn;obtain⟨ys,h1,rfl⟩:=Option.map_eq_some_iff.mp hn;cases ds with
   |nil=>exact pno hs
   |cons d ds =>
    obtain⟨v,vs,rfl,rv,r⟩:=r.cons;obtain⟨σ1,h2,h3⟩:=P.bind_ok hs;obtain⟨v0,hg,rfl⟩:=gX h2;show wpAny _ A (assignInOrder (assign (.Name x p) env::(assignEach es env).map (·.2)) (v::vs)) Q E s;refine wpAny_assignInOrder_more (wpAny_assign_Name (X.putF hg rv fun s1 Y1 f1=>?_));exact ih h1 h3 ⟨r.1,fun i v' d' e1 e2=>(r.2 i v' d' e1 e2).mono (fun b o hb e=>f1.keep b o e hb) fun _ _ _ h=>h⟩ Y1 fun s' Z fr=>hq s' Z (f1.tr fr)
theorem zR:∀ {xs:List Str} {ds:List PyData} {σ σ':aA},mO xs ds σ=.ok σ'→xs.length=ds.length
 | [],[],_,_,_=>rfl
 | [],_::_,_,_,h=>by exact pno h
 |_::_,[],_,_,h=>by exact pno h
 |x::xs,d::ds,σ,σ',h=>by
  obtain⟨σ1,_,h2⟩:=P.bind_ok h;have:=zR h2;simp[this]
theorem Mw{d:PyData}{l:List PyData}(h:wJ d=.ok l):d=.tuple l:=by
 cases d with
 |tuple l'=>obtain rfl:=pi h;rfl
 |_=>exact pno h
theorem zS{A:Around}{E:Value→Shared→Prop}{σ':aA}{target:Expr}{v:Value}{d:PyData}{Q:Unit→Shared→Prop}(hh:A.handled=none)(X:Act prog w mg mb base l₀ env sc av₀ s₀ σ av s)(r:Rep prog w s.heap av v d)(ha:aR target d σ=.ok σ')
  (hq:∀ s',Act prog w mg mb base l₀ env sc av₀ s₀ σ' av s'→Fr (env::l₀) av₀ s av s' av→Q () s'):wpAny (model prog w) A (assign target env v) Q E s:=by
 unfold aR at ha;cases hv:vw target with
 |name x =>
  rw[hv] at ha;obtain⟨p,rfl⟩:=cX hv;obtain⟨v0,hg,rfl⟩:=gX ha;exact wpAny_assign_Name (X.putF hg r hq)
 |tup es =>
  rw[hv] at ha;obtain⟨k,p,rfl⟩:=cX hv;obtain⟨ds,h1,ha1⟩:=P.bind_ok ha;clear ha;cases Mw h1;obtain⟨xs,h2,ha⟩:=P.bind_ok ha1;clear ha1;refine ocs (eC es) (fun hn=>?_) fun ys hn=>?_
  ·try rewrite[hn]
   rw[hn] at h2;exact pno h2
  ·try rewrite[hn]
   rw[hn] at h2;obtain rfl:=pi h2;obtain⟨ad,vs,rfl,g1,g2,g3,g4,g5⟩:=r.tuple_inv;obtain⟨e1,e2⟩:=Mu (env:=env) hn;refine wpAny_assign_Tuple hh g2.isTuple (by rw[e1,zR ha,← g3];simp) e2 fun h1 he=>?_;have k1:∀ b o,s.heap.get? b=some o→h1.get? b=some o:=fun b o e=>he b o (j6 e) e;have kk:K (env::l₀) s { s with heap:=h1 }:=K.of ⟨h1,s.toks,rfl,k1⟩;exact Mv hn ha ⟨g3,fun i v d q1 q2=>(g5 i v d q1 q2).keeps k1⟩ (X.k kk) fun s' Z fr=>hq s' Z ((X.frk kk).tr fr)
 |_=>rw[hv] at ha;exact pno ha
theorem Mx{e:Expr}(h:gN e=true):∃ f as kws q,e=.Call f as kws q:=by
 unfold gN at h;cases hv:vw e with
 |call f as kws q=>exact⟨f,as,kws,q,cX hv⟩
 |_=>rw[hv] at h;exact bft h
theorem iW{α:Type}{c:Prop}[Decidable c]{r fin:R α}(h:(if c then r else .no)=fin)(hne:fin≠.no):c∧r=fin:=by
 by_cases hc:c
 ·rw[if_pos hc] at h;exact⟨hc,h⟩
 ·rw[if_neg hc] at h;exact absurd h.symm hne
theorem My{ev:EV}{es:List Expr}{k:Nat}{p:Pos}{e:Expr}{pos:Pos}{xs:List Str}(h:aH prog w mg mb base n hd (env::l₀) sc (aA.clear σ xs) e (ev (aA.clear σ xs) e)) :
  aV prog w mg mb base n hd l₀ env sc s₀ σ (exec (.Assign [.Tuple es k p] e pos) env) fun kn _=>wZ ev hd (aA.clear σ xs) (.Tuple es k p) e kn:=by
 intro av₀ A s av hA X kn kr fin Q E hf hne hp hn hr he;obtain⟨av1,Y,hsub⟩:=X.clear xs;obtain⟨hc,hf⟩:=iW hf hne;obtain⟨f,as,kws,q,rfl⟩:=Mx hc.1;refine wpAny_Assign_stores (h.st hA Y hf hne (fun v s₁ u k1 r e1=>?_) he) rfl rfl;obtain⟨σ',hσ,e2⟩:=eG e1 hne;exact zS (hA.handled hc.2) (Y.k k1) (r.rep Y.inv.gnd.avlt) hσ fun s' Z fr=>hn _ _ _ Z ((Fr.sub hsub).tr ((Y.frk k1).tr fr)) e2
theorem Mz{e:Expr}{c:Str×Str×Pos×List Expr×Pos}(h:qH e=some c):∃ p,e=.Call (.Attribute (.Name c.1 p) c.2.1 c.2.2.1) c.2.2.2.1 [] c.2.2.2.2:=by
 obtain⟨c1,h1,h⟩:=ob h;obtain⟨a,h2,h⟩:=ob h;obtain⟨x,h3,h⟩:=ob h;have e1:=qR h1;have e2:=xG h2;obtain⟨p,e3⟩:=dU h3;obtain⟨f,as,kws,q⟩:=c1;obtain⟨o,m,ap⟩:=a;cases kws with
 |cons=>exact ns h
 |nil =>
  obtain rfl:=si h;exact⟨p,by rw[e1,show f=_ from e2,show o=_ from e3]⟩
theorem M0{rec:Scope→aA→Expr→R V}{C:Ctx}{F:Nat}(hbad:∀ sc σ e,bad e=true→rec sc σ e=.no)(hc:C.hd=hd)
  (ihr:∀ sc σ e,aH prog w mg mb base n hd (env::l₀) sc σ e (rec sc σ e)∧bU prog w mg mb base n hd (env::l₀) sc σ e (rec sc σ e))
  (h:∀ σ e,aH prog w mg mb base n hd (env::l₀) sc σ e (fY rec C sc σ e)) {t e:Expr} {pos:Pos}:aV prog w mg mb base n hd l₀ env sc s₀ σ (exec (.Assign [t] e pos) env) fun kn _=>qJ (fY rec C sc) F hd σ t e kn:=by
 unfold qJ;cases hv:vw t with
 |name x =>
  obtain⟨p,rfl⟩:=cX hv;obtain⟨b,hsw⟩:=Mr (env:=env) e x p pos.line;cases b with
  |false=>exact L8 hsw (h _ e)
  |true =>
   have hcomp:=Ms hsw;cases e with
   |ListComp elt gens sc' cpos =>
    cases gens with
    |nil=>exact aV.no
    |cons g gs =>
     cases gs with
     |cons=>exact aV.no
     |nil =>
      show aV prog w mg mb base n hd l₀ env sc s₀ σ _ fun kn _=>rb (iO rec C.hd sc _ elt g sc') fun v=>rb (ofP (dM x v _)) kn;rw[hc];exact Mt hsw (hbad sc _) (ihr _ _ _).1 (fun _ _ _ _ _ a _=>(ihr _ _ a).1) (fun c _ σ'=>(ihr _ _ c).2) fun σ'=>(ihr _ _ elt).1
   |SetComp=>exact aV.no
   |DictComp=>exact aV.no
   |_=>exact bft hcomp
 |sub o i =>
  obtain⟨p,rfl⟩:=cX hv;show aV prog w mg mb base n hd l₀ env sc s₀ σ _ fun kn _=>match bI o with | some x=>mR (fY rec C sc) F σ x i e kn | none=>.no
  cases hn:bI o with
  |none=>exact aV.no
  |some x =>
   obtain⟨q,rfl⟩:=dU hn;show aV prog w mg mb base n hd l₀ env sc s₀ σ _ fun kn _=>mR (fY rec C sc) F σ x i e kn;unfold mR;exact Mq h
 |tup es =>
  obtain⟨k,p,rfl⟩:=cX hv;exact My (h _ e)
 |_=>exact aV.no
theorem M1{ev:EV}(hbad:∀ σ e,bad e=true→ev σ e=.no)(h:∀ σ e,aH prog w mg mb base n hd (env::l₀) sc σ e (ev σ e)){F:Nat}{e:Expr}{pos:Pos}:aV prog w mg mb base n hd l₀ env sc s₀ σ (exec (.Expr e pos) env) fun kn _=>qK ev F σ e kn:=by
 unfold qK;cases hm:qH e with
 |some c =>
  obtain⟨x,m,ap,as,cp⟩:=c;obtain⟨xp,rfl⟩:=Mz hm;exact Mg hbad fun e _=>h _ e
 |none =>
  cases hc:gO e with
  |true=>exact aV.no
  |false=>exact Ma hc (h _ e)
end
end Mine
namespace Mine
open PySem
section
variable {prog:Program} {w:World} {mg mb:Str→Option Value} {base:Heap} {n:Nat} {hd:Bool} {l₀:List Env} {env:Env} {sc:Scope} {av₀:Addr→Prop} {s₀:Shared} {σ:aA} {av:Addr→Prop} {s:Shared}
theorem bB.weaken{av₁:Addr→Prop}{h:Heap}{v:Value}{u:V}(hw:∀ b,av₀ b→av₁ b)(r:bB prog w s₀ h av₁ v u):bB prog w s₀ h av₀ v u:=by
 cases u with
 |ex x=>exact r
 |fz d=>exact(show Rep prog w h av₁ v d from r).mono (fun _ _ _ e=>e) fun b _ _ x=>hw b x
 |own d=>obtain⟨a,e,hn,rb⟩:=r;exact⟨a,e,hn,rb.mono (fun _ _ _ e=>e) (fun b _ _ x=>x.imp (hw b) id) fun _ e=>e⟩
theorem M2{A:Around}{s₂:Shared}{t:Expr}{b:List Stmt}{it:Value}{wr:Addr→Prop}{St:Nat→Heap→Prop}{ds:List PyData}{body:aA→KN→KR→R V}
  (hA:Room n hd (env::l₀) A) (hh:A.handled=none) (Y:Act prog w mg mb base l₀ env sc av₀ s₀ σ av s) (hb:∀ σ,aV prog w mg mb base n hd l₀ env sc s₀ σ (execs b env) (body σ))
  (k:Kp s s₂) (S:Src prog w A s.heap av t it wr St ds) (hst:St 0 s₂.heap) (hwr:∀ b,wr b→s.heap.get? b=none∧∃ o,s₂.heap.get? b=some o)
  {kn:KN} {kr:KR} {fin:R V} {Q:Flow→Shared→Prop} {E:Value→Shared→Prop} (hf:aQ body t ds σ kn kr=fin) (hne:fin≠.no) (hp:PassesOwn (model prog w) A env E)
  (hn:∀ s' σ' av',Act prog w mg mb base l₀ env sc av₀ s₀ σ' av' s'→Fr (env::l₀) av₀ s av s' av'→kn σ'=fin→Q .next s') (hr:∀ v s' u,K l₀ s₀ s'→bB prog w s₀ s'.heap av₀ v u→kr u=fin→Q (.ret v) s')
  (he:∀ x v s',fin=.exc x→Upx prog w mg base l₀ env s₀ av₀ x v s'→E v s') :
  codeAny (model prog w) A (.forLoop t it b [] env) (fun r s'=>match r with | .ok f=>Q f s' | .error e=>cameBackBy (model prog w) A env E e s') s₂:=by
 have kk:K (env::l₀) s s₂:=K.of k;have Z:=Y.pin (S:=wr) kk (fun a ha=>(hwr a ha).1) (fun a ha=>(hwr a ha).2);have fr0:Fr (env::l₀) av₀ s av s₂ (fun b=>av b∨wr b):=⟨(Y.frk kk).keep,fun b o e h=>h.elim id (fun h=>by rw[(hwr b h).1] at e;exact ns e),(Y.frk kk).pins⟩
 have nw:∀ b,wr b→¬ Mn env b∧¬ av b∧¬ av₀ b∧s₀.heap.get? b=none∧¬ frs (env::l₀) b:=fun b h=>Y.newNot (hwr b h).1;have hM:∀ b,Mn env b→¬ wr b:=fun b m h=>(nw b h).1 m;have not0:∀ b,av₀ b→¬ wr b:=fun b x h=>(nw b h).2.2.1 x;have hf0:∀ b,frs l₀ b→av₀ b:=fun b h=>(Y.fr0 b h).1;refine codeAny_forLoop_any (fun k st=>∃ (i:Nat) (σi:aA) (avi:Addr→Prop),i+k=ds.length∧Act prog w mg mb base l₀ env sc (fun b=>av₀ b∨wr b) s₀ σi avi st∧Fr (env::l₀) av₀ s av st avi∧St i st.heap∧aQ body t (ds.drop i) σi kn kr=fin) ?_ ds.length
  ⟨0,σ,_,Nat.zero_add _,Z,fr0,hst,hf⟩
 rintro k' st ⟨i,σi,avi,hi,X,fr,sti,hfi⟩
 by_cases hend:i=ds.length
 ·subst hend;rw[List.drop_length] at hfi;refine wpAny_mono (S.done st _ (fun s'=>Q .next s') sti fun h' tk hk=>hn _ σi (fun b=>avi b∧¬ wr b) ?_ (fr.tr ⟨fun b o e hb=>hk b o (fun hw=>hb (X.bas b (.inr hw))) e,fun _ _ _ h=>h.1,fun b o hb _ e=>hk b o (not0 b hb) e⟩) hfi) (fun r s₁ h₁=>?_) fun _ _ x=>x
  ·exact(X.weaken (fun b hb=>.inl hb) hf0).wildS (S:=wr) (fun b hb=>X.bas b (.inr hb)) (fun b h=>(nw b h).2.2.2.1) hM (fun x a h hw=>(X.ownA x a h).2.2.1 (.inr hw)) hk (fun b hb=>hb.1) (fun b hb hw=>⟨hb,hw⟩) (fun b hb hw=>absurd hw hb.2) (fun b hb=>⟨X.bas b (.inl hb),not0 b hb⟩)
  ·cases r with
   |none=>exact wpAny_execs_nil h₁
   |some v=>exact h₁.elim
 ·have hlt:i < ds.length:=by exact vJ hi hend
  rw[List.drop_eq_getElem_cons hlt] at hfi;obtain⟨σ1,hasg,hfi⟩:=eG (show rb (ofP (aR t ds[i] σi)) (fun σ=>body σ (fun σ=>aQ body t (ds.drop (i+1)) σ kn kr) kr)=fin from hfi) hne;refine wpAny_mono (S.item i ds[i] st _ ?QQ (List.getElem?_eq_getElem hlt) sti ?body) ?link fun _ _ x=>x
  case link =>
   intro r s₁ h₁;cases r with
   |none=>exact h₁.elim
   |some v=>exact h₁
  intro v h1 tk1 hk1 st1 hrep;have X1:Act prog w mg mb base l₀ env sc (fun b=>av₀ b∨wr b) s₀ σi avi { st with heap:=h1,toks:=tk1 } :=
   X.wildS (S:=wr) (fun b hb=>X.bas b (.inr hb)) (fun b h=>(nw b h).2.2.2.1) hM (fun x a h hw=>(X.ownA x a h).2.2.1 (.inr hw)) hk1 (fun b hb=>hb) (fun b hb _=>hb) (fun b _ hw=>S.live _ _ st1 b hw) X.bas
  have rv:=hrep avi X.inv.gnd.avlt fr.grow;have fr1:Fr (env::l₀) av₀ st avi { st with heap:=h1,toks:=tk1 } avi:=⟨fun b o e hb=>hk1 b o (fun hw=>hb (X.bas b (.inr hw))) e,fun _ _ _ h=>h,fun b o hb _ e=>hk1 b o (not0 b hb) e⟩
  refine zS hh X1 rv hasg fun s2 Y2 fr2=>wpAny_passesOwn hp ?_;refine hb σ1 _ A s2 avi hA Y2 hfi hne hp (fun s3 σ3 av3 Y3 fr3 e3=>?_) (fun v s' u k r e=>hr v s' u k (r.weaken fun _ h=>.inl h) e) fun x v s' e u=>he x v s' e (u.weaken fun _ h=>.inl h);have frA:=fr1.tr ((fr2.weaken fun b hb=>.inl hb).tr (fr3.weaken fun b hb=>.inl hb));refine⟨k' - 1,by exact pM hi hend,i+1,σ3,av3,by exact pN hi hend,Y3,fr.tr frA,S.frame _ _ _ st1 (fun b o hw e=>fr3.pins b o (.inr hw) (nw b hw).2.2.2.2 (fr2.pins b o (.inr hw) (nw b hw).2.2.2.2 e)) (fr.tr frA).keep,e3⟩
theorem M3{rec:Expr→R V}{t it:Expr}{k:List PyData→R V}{fin:R V}(h:rb (fH rec hd sc t it) k=fin)(hne:fin≠.no):hd=false:=by
 cases hd with
 |false=>rfl
 |true=>exact absurd h.symm hne
theorem M4{ev:EV}(hbad:∀ σ e,bad e=true→ev σ e=.no)(h:∀ σ e,aH prog w mg mb base n hd (env::l₀) sc σ e (ev σ e)){t it:Expr}{b:List Stmt}{pos:Pos}{xs:List Str}{body:aA→KN→KR→R V}
  (hb:∀ σ,aV prog w mg mb base n hd l₀ env sc s₀ σ (execs b env) (body σ)) :
  aV prog w mg mb base n hd l₀ env sc s₀ σ (exec (.For t it b [] pos) env) fun kn kr=>rb (fH (ev (aA.clear σ xs)) hd sc t it) fun l=>aQ body t l (aA.clear σ xs) kn kr:=by
 intro av₀ A s av hA X kn kr fin Q E hf hne hp hn hr he;obtain⟨av1,Y,hsb⟩:=X.clear xs;have hh:=hA.handled (M3 hf hne);have hb':bad it=false:=eY (fun e=>zH (hbad _) e) (Fin.ne ⟨hf,hne⟩);have hs:∀ x,foldedSetIterable it env x=pure x:=xH hb';refine wpAny_For (zD (target:=t) (hbad _) (h _ it) (fun _ _ _ _ _ a _=>h _ a) A env s av1 hA Y.inv ⟨hf,hne⟩ (fun itv s₂ ds x e=>?_) fun x v s' e f=>he x v s' e (Y.up f)) hs;obtain⟨s₁,wr,St,k0,S,hst,hwr,k2,_⟩:=x;exact M2 hA hh (Y.k k0) hb k2 S hst hwr e hne hp (fun s' σ' av' Z f e=>hn s' σ' av' Z ((Fr.sub hsb).tr ((Y.frk k0).tr f)) e) hr he
end
end Mine
namespace Mine
open PySem
section
variable {M:Model} {A:Around} {E:Value→Shared→Prop} {env:Env}
variable {nm q:Str} {C N:Addr} {bs bm:List Value} {hdct:Bool} {sn:List Str} {sub:List Value} {ab:Bool} {col:Option Bool} {dd:Option Addr} {k0 k1 k2 k3 k5:Option Value} {newId:String}
theorem M5{s:Shared}{x:Sem Value}{Q:Flow→Shared→Prop}(hbase:bm.contains (.type "BaseException")=true)(hh:A.handled=none)
  (h:wpAny M A x (fun v s₁=>∃ (e:Addr) (dx:Option Addr) (t:Addr),v=.ref e∧s₁.heap.get? C=some (excClassObj nm q C N bs bm hdct sn sub ab col dd k0 k1 k2 k3 k5 newId)∧s₁.heap.get? e=some { cls:=.ref C,dict:=dx,data:=.fields #[.ref t,.none,.none,.none,.bool false,.none] }∧E (.ref e) s₁) E s) :
  wpAny M A (raiseStmt env (some x) none) Q E s:=by
 have hcB:(Value.ref C::bm).contains (.type "BaseException")=true:=by rw[List.contains_cons,hbase,Bool.or_true]
 unfold raiseStmt;refine wpAny_bind (wpAny_mono h (fun v s₁ h₁=>?_) fun _ _ x=>x);obtain⟨e,dx,t,rfl,hC,he,hE⟩:=h₁;obtain⟨hp,g,d,tk,os⟩:=s₁
 repeat (first | with_reducible refine wpAny_loadPart_at he ?_ | with_reducible refine wpAny_loadPart_at hC ?_ | (with_reducible refine wpAny_isSubtype_exc hC ?_;rw[hcB]) | wp_step)
 exact wpAny_raiseNew_none hh hE
theorem M6{s:Shared}{x:Str}{np cpos pos:Pos}{args:List Expr}{Q:Flow→Shared→Prop}(hbase:bm.contains (.type "BaseException")=true)(hh:A.handled=none)(hs:args.any bad=false)
  (h:wpAny M A (eval (.Name x np) env) (fun f s₁=>f=.ref C∧wpAny M A (spliced (backTo cpos (starEach args env))) (fun vs s₂=>s₂.heap.get? C=some (excClassObj nm q C N bs bm hdct sn sub ab col dd k0 k1 k2 k3 k5 newId) ∧
   wpAny M A (call (.ref C) vs) (fun v s₃=>∃ (e:Addr) (dx:Option Addr) (t:Addr),v=.ref e∧s₃.heap.get? C=some (excClassObj nm q C N bs bm hdct sn sub ab col dd k0 k1 k2 k3 k5 newId)∧s₃.heap.get? e=some { cls:=.ref C,dict:=dx,data:=.fields #[.ref t,.none,.none,.none,.bool false,.none] }∧E (.ref e) s₃) E s₂) E s₁) E s) :
  wpAny M A (exec (.Raise (some (.Call (.Name x np) args [] cpos)) none pos) env) Q E s:=by
 have hplain:=rD (env:=env) (pos:=cpos) hs;rw[arm_exec_Raise];refine wpAny_bind (wpAny_standAt (M5 (C:=C) (nm:=nm) (q:=q) (N:=N) (bs:=bs) (bm:=bm) (hdct:=hdct) (sn:=sn) (sub:=sub) (ab:=ab) (col:=col) (dd:=dd) (k0:=k0) (k1:=k1) (k2:=k2) (k3:=k3) (k5:=k5) (newId:=newId) hbase hh ?_));refine wpAny_bind (wpAny_mono (wpAny_Call_ofName (wpAny_mono h (fun f s₁ h₁=>?_) fun _ _ x=>x)) (fun v s₃ h₃=>wpAny_bind (wpAny_standAt (wpAny_pure h₃))) fun _ _ x=>x);obtain⟨rfl,h₁⟩:=h₁;unfold callWith;refine wpAny_bind (wpAny_holding (rC hs (wpAny_mono h₁ (fun a s₂ h₂=>wpAny_bind (wpAny_standAt ?_)) fun _ _ x=>x)));obtain⟨hC,h₂⟩:=h₂;simp only[hplain];obtain⟨hp,g,d,tk,os⟩:=s₂;refine wpAny_bind (wpAny_keeperOf_exc hC ?_);exact wpAny_bind (wpAny_mono h₂ (fun v s₃ h₃=>wpAny_bind (wpAny_holding (wpAny_point (wpAny_pure h₃)))) fun _ _ x=>x)
end
section
variable {prog:Program} {w:World} {A:Around} {E:Value→Shared→Prop} {h:Heap} {g:Array GenState} {d:Drawn} {t:Nat} {os:OsState}
variable {nm q:Str} {C N:Addr} {bs bm bmB:List Value} {hdct:Bool} {sn:List Str} {sub:List Value} {ab:Bool} {col:Option Bool} {dd:Option Addr} {k0 k1 k2 k3 k5:Option Value} {B newId initId:String}
theorem M7(F:ExcBaseFacts B newId initId bmB)(T:OwnTail h bmB bm){mN:Str→Option Value}{rest:List Value}{fI:Addr}{oI:Obj}{Q:Value→Shared→Prop}
  (hC:h.get? C=some (excClassObj nm q C N bs bm hdct sn sub ab col dd k0 k1 k2 k3 k5 newId)) (hn:h.Ns N mN) (hi:mN "__init__" = some (.ref fI)) (hfI:h.get? fI=some oI) (hfc:oI.cls=.type "function") (hrest:rest.length≤sizeLine)
  (hq:∀ h' e,Heap.MadeExcOf h h' e (.ref C) rest →
   wpAny (model prog w) (A.under (.builtin "type.__call__" ⟨.ref C::rest,[]⟩)) (call (.ref fI) (.ref e::rest)) (fun r s'=>r=.none∧Q (.ref e) s') E ⟨h',g,d,t,os⟩) :
  wpAny (model prog w) A (call (.ref C) rest) Q E ⟨h,g,d,t,os⟩:=by
 have f1:=tc_lookup;have f2:=tc_bind (.ref C);have hT:(⟨h,g,d,t,os⟩:Shared).TypeIs (.ref C) "type" := ⟨_,hC,rfl⟩
 refine wpAny_call (codeAny_of_tree ?_);show wpAny _ _ (callAny (.ref C) _) _ _ _
 repeat (any_goals (first | assumption | with_reducible refine wpAny_loadPart_at hC ?_ | wp_step))
 refine⟨rfl,?_⟩;refine codeAny_call_builtin_at (Code.quiet_builtin _ (by decide +kernel)) entry_typeCall (wpAny_check_type_call_sub hC ?_)
 repeat (first | with_reducible refine wpAny_loadPart_at hC ?_ | with_reducible refine wpAny_madeBy_exc hC ?_ | wp_step)
 refine codeAny_call_builtin_code (Code.quiet_builtin _ F.quiet) (wpAny_check_new_subT F T hC (codeAny_exc_new_subT F T hC ?_ hrest));show wpAny _ _ _ _ _ ⟨(h.push { cls:=.type "tuple", data:=.seq rest.toArray }).push { cls:=.ref C,data:=.fields #[.ref h.objs.size,.none,.none,.none,.bool false,.none] },g,d,t,os⟩;generalize hH:(h.push { cls:=.type "tuple", data:=.seq rest.toArray }).push { cls:=.ref C,data:=.fields #[.ref h.objs.size,.none,.none,.none,.bool false,.none] }=H;have up:∀ b o,h.get? b=some o→H.get? b=some o:=fun b o e=>hH▸Heap.get?_push_of_some _ (Heap.get?_push_of_some _ e);have hget:H.get? (h.objs.size+1)=some { cls:=.ref C,data:=.fields #[.ref h.objs.size,.none,.none,.none,.bool false,.none] }:=by subst hH;heap_get
 have htup:H.get? h.objs.size=some { cls:=.type "tuple", data:=.seq rest.toArray }:=by subst hH;exact Heap.get?_push_of_some _ (Heap.get?_push_at rfl rfl)
 have hC₁:=up _ _ hC;have hcC:(Value.ref C::bm).contains (.ref C)=true:=by simp
 unfold isInstance
 repeat (first | with_reducible refine wpAny_loadPart_at hget ?_ | (with_reducible refine wpAny_isSubtype_exc hC₁ ?_;rw[hcC]) | wp_step)
 show wpAny _ _ (typeLookup (.ref C) _) _ _ _;refine wpAny_typeLookup_tail hC₁ (hn.keeps up) (T.keeps up) F.mroIs F.init.lookup ?_;rw[hi];refine wpAny_holding (wpAny_bind ?_);unfold bindSpecial;refine wpAny_bind (wpAny_typeOf (T := "function") ⟨_,up _ _ hfI,hfc⟩ ?_);rw[if_pos (by decide)];refine wpAny_pure (wpAny_bind (wpAny_mono (hq H (h.objs.size+1) ⟨up,Heap.get?_none_of_le (Nat.le_succ _),h.objs.size,hget,Heap.get?_none_of_le (Nat.le_refl _),htup⟩) (fun r s' hr=>?_) fun _ _ x=>x));obtain⟨rfl,hQ⟩:=hr
 wp_walk
 exact hQ
end
end Mine
namespace Mine
open PySem Builtin Builtin.ObjectAttr
inductive TailN(h:Heap)(bmB:List Value)(ns:List Str):List Value→Prop
 |base:TailN h bmB ns bmB
 |own {A:Addr} {c0:Value} {dd:Option Addr} {cd:ClassData} {sl:Array (Option Value)} {mA:Str→Option Value} {tl:List Value} :
   h.get? A=some { cls:=c0,dict:=dd,data:=.cls cd,slots:=sl }→h.Ns cd.ns mA→(∀ n∈ns,mA n=none)→TailN h bmB ns tl→TailN h bmB ns (.ref A::tl)
theorem TailN.tail{h:Heap}{bmB tl:List Value}{ns:List Str}(hi:Str.ofString "__init__" ∈ ns)(T:TailN h bmB ns tl):OwnTail h bmB tl:=by
 induction T with
 |base=>exact .base
 |own h1 h2 h3 _ ih=>exact .own h1 h2 (h3 _ hi) ih
theorem TailN.keeps{h h':Heap}{bmB tl:List Value}{ns:List Str}(hk:∀ b o,h.get? b=some o→h'.get? b=some o)(T:TailN h bmB ns tl):TailN h' bmB ns tl:=by
 induction T with
 |base=>exact .base
 |own h1 h2 h3 _ ih=>exact .own (hk _ _ h1) (h2.keeps hk) h3 ih
theorem TailN.less{h:Heap}{bmB tl:List Value}{ns ns':List Str}(hs:∀ n∈ns',n∈ns)(T:TailN h bmB ns tl):TailN h bmB ns' tl:=by
 induction T with
 |base=>exact .base
 |own h1 h2 h3 _ ih=>exact .own h1 h2 (fun n hn=>h3 n (hs n hn)) ih
theorem TailN.refuse{h:Heap}{bmB tl:List Value}{ns:List Str}(T:TailN h bmB ns tl){self:Value}{what:Str}(hp:refuseLoop self what bmB=pure ()):refuseLoop self what tl=pure ():=by
 induction T with
 |base=>exact hp
 |own _ _ _ _ ih=>rw[refuseLoop_ref];exact ih
section
variable {M:Model} {A:Around} {E:Value→Shared→Prop} {h:Heap} {g:Array GenState} {d:Drawn} {t:Nat} {os:OsState}
variable {nm q:Str} {C N:Addr} {bs bm bmB:List Value} {hdct:Bool} {sn:List Str} {sub:List Value} {ab:Bool} {col:Option Bool} {dd:Option Addr} {k0 k1 k2 k3 k5:Option Value} {B newId:String} {mN:Str→Option Value} {ns:List Str}
theorem M8{tl:List Value}{n:Str}{y:Option Value}{Q:Option Value→Shared→Prop}(T:TailN h bmB ns tl)(hn:n∈ns)(hrest:lookupAlong bmB n=pure y)(hq:Q y ⟨h,g,d,t,os⟩):wpAny M A (lookupAlong tl n) Q E ⟨h,g,d,t,os⟩:=by
 induction T with
 |base=>rw[hrest];exact wpAny_pure hq
 |own h1 h2 h3 _ ih =>
  rw[lookupAlong_cons];refine wpAny_bind (wpAny_classOwn_cls h1 h2 ?_);rw[h3 n hn];exact ih
theorem kB{n:Str}{y:Option Value}{Q:Option Value→Shared→Prop}(hC:h.get? C=some (excClassObj nm q C N bs bm hdct sn sub ab col dd k0 k1 k2 k3 k5 newId))(hN:h.Ns N mN)(T:TailN h bmB ns bm)(hbm:mroOf (.type B)=pure bmB)(hn:n∈ns)(h0:mN n=none)
  (hB:typeLookup (.type B) n=pure y) (hq:Q y ⟨h,g,d,t,os⟩):wpAny M A (typeLookup (.ref C) n) Q E ⟨h,g,d,t,os⟩:=by
 have hrest:lookupAlong bmB n=pure y:=by rw[typeLookup_eq,hbm] at hB;exact hB
 rw[typeLookup_eq];refine wpAny_bind (wpAny_mroOf_exc hC ?_);rw[lookupAlong_cons];refine wpAny_bind (wpAny_classOwn_exc hC hN ?_);rw[h0];exact M8 T hn hrest hq
end
inductive InD(G:Addr→Prop)(h:Heap)(e:Addr)(ns:List Str)(m:Str→Option Value)(dx:Option Addr):Prop where
 |mk (d:Addr) (e1:dx=some d) (n:d≠e) (g:¬ G d) (hn:h.Ns1 d m) (w:Within m ns):InD G h e ns m dx
inductive InE(G:Addr→Prop)(h:Heap)(e C t:Addr)(ns:List Str)(m:Str→Option Value):Prop where
 |mk (dx:Option Addr) (he:h.get? e=some { cls:=.ref C,dict:=dx,data:=.fields #[.ref t,.none,.none,.none,.bool false,.none] }) (hd:(dx=none∧∀ y,m y=none)∨InD G h e ns m dx):InE G h e C t ns m
section
variable {prog:Program} {w:World} {A:Around} {E:Value→Shared→Prop} {h:Heap} {g:Array GenState} {d:Drawn} {t:Nat} {os:OsState}
variable {nm q:Str} {C N e tt:Addr} {bs bm bmB:List Value} {sn:List Str} {sub:List Value} {ab:Bool} {col:Option Bool} {dd:Option Addr} {k0 k1 k2 k3 k5:Option Value} {B newId sa owner:String} {mN:Str→Option Value} {ns vs:List Str} {name:Str} {v:Value}
theorem M9{M:Model}{o:Obj}{nameV:Value}{Q:Unit→Shared→Prop}(SF:StoreFacts B bmB sa owner)(hb:bm.contains (.type owner)=true)
  (hC:h.get? C=some (excClassObj nm q C N bs bm true sn sub ab col dd k0 k1 k2 k3 k5 newId)) (hx:h.get? e=some o) (hc:o.cls=.ref C) (hq:Q () ⟨h,g,d,t,os⟩) :
  wpAny M A (checkBuiltinCall sa ⟨[.ref e,nameV,v],[]⟩) Q E ⟨h,g,d,t,os⟩:=by
 have hcB:(Value.ref C::bm).contains (.type owner)=true:=by rw[List.contains_cons,hb,Bool.or_true]
 have ha:=SF.args (.ref e) nameV v;simp only[checkBuiltinCall,SF.kind,SF.split];refine wpAny_bind ?_;unfold isInstance
 repeat (first | (with_reducible refine wpAny_loadPart_at hx ?_;rw[hc]) | (with_reducible refine wpAny_isSubtype_exc hC ?_;rw[hcB]) | wp_step)
 cases hsig:Manifest.signature? sa with
 |none=>exact wpAny_pure hq
 |some sig =>
  simp only[argsOk,hsig] at ha;have h2:Bind.checkArgs sa sig ⟨[.ref e,nameV,v],[]⟩=pure ():=ha;show wpAny M A (Bind.checkArgs sa sig ⟨[.ref e,nameV,v],[]⟩) Q E _;rw[h2];exact wpAny_pure hq
theorem zT{dx:Addr}{m:Str→Option Value}{tk:Tok}{Q:PySem.Fin→Shared→Prop}(hn:h.Ns1 dx m)(hw:Within m vs)(hl:vs.length < 100)
  (hq:∀ h' tk',h'.Ns1 dx (fun y=>if y=name then some v else m y)→Heap.SameBut dx h h'→Q (.done (.ret .none)) ⟨h',g,d,tk',os⟩):wpAny (model prog w) A (storeInDict dx (.str name tk) name v) Q E ⟨h,g,d,t,os⟩:=by
 unfold storeInDict newKeyGuard;refine wpAny_bind (wpAny_pure (wpAny_bind (wpAny_nsSet1 hn fun h' hn' hs=>?_)));obtain⟨oD,esD,epD,hoD,hdD,hcD⟩:=hn'.count (Within.cons name v hw);refine wpAny_bind (wpAny_lookBehind hoD (by rw[hdD];exact pastItsLine_dict (Nat.le_trans hcD (by rw[List.length_cons,sizeLine_eq];exact Ea hl))) ?_)
 wp_walk
 exact hq h' _ hn' hs
theorem Na{G:Addr→Prop}{m:Str→Option Value}{Q:Unit→Shared→Prop}(SF:StoreFacts B bmB sa owner)(hb:bm.contains (.type owner)=true)(hC:h.get? C=some (excClassObj nm q C N bs bm true sn sub ab col dd k0 k1 k2 k3 k5 newId))(hN:h.Ns N mN)(T:TailN h bmB ns bm)
  (hs0:Str.ofString "__setattr__" ∈ ns) (hs1:mN "__setattr__" = none) (hn0:name∈ns) (hn1:mN name=none) (hB:typeLookup (.type B) name=pure none) (I:InE G h e C tt vs m) (hG:∀ b,G b→b≠e∧∃ o,h.get? b=some o) (hl:vs.length < 100)
  (hq:∀ h' tk,InE G h' e C tt (name::vs) (fun y=>if y=name then some v else m y)→(∀ b o,G b→h.get? b=some o→h'.get? b=some o)→Q () ⟨h',g,d,tk,os⟩):wpAny (model prog w) A (setAttr (.ref e) name v) Q E ⟨h,g,d,t,os⟩:=by
 obtain⟨dx,hx,hd⟩:=I;have f3:=SF.slot.bind (.ref e);have hpass:=T.refuse (SF.passes (.ref e));have hZ:sizeLine=16777216:=rfl;unfold setAttr callSpecial? specialOf
 repeat (any_goals (first | assumption | with_reducible refine wpAny_loadPart_at hx ?_ | with_reducible refine kB hC hN T SF.mro hs0 hs1 SF.slot.lookup ?_ | wp_step))
 refine codeAny_call_builtin SF.slot.plain SF.entry (M9 SF hb hC hx rfl ?_);unfold Builtin.«object.__setattr__»
 repeat (first | rw[refuse_eq] | (rw[refuseLoop_ref,hpass]) | with_reducible refine wpAny_loadPart_at hx ?_ | with_reducible refine wpAny_mroOf_exc hC ?_ | with_reducible refine kB hC hN T SF.mro hn0 hn1 hB ?_ | wp_step)
 rcases hd with ⟨rfl,hm0⟩ | ⟨dx,rfl,hne,hGd,hns,hw⟩
 ·have hxs:e≠h.objs.size:=Nat.ne_of_lt (Heap.lt_size hx);have hx₁:(h.push { cls:=.type "dict", data:=.dict #[] }).get? e=_:=Heap.get?_push_of_some _ hx;rw[if_neg (by simp[typeHasDict])];refine wpAny_bind (wpAny_alloc' (wpAny_bind (wpAny_update' hx₁ (wpAny_pure ?_))));generalize hH:((h.push { cls:=.type "dict", data:=.dict #[] }).update e fun o=>{ cls:=o.cls,dict:=some h.objs.size,data:=o.data,slots:=o.slots })=H;have hgd:H.get? h.objs.size=some { cls:=.type "dict", data:=.dict #[] }:=by subst hH;exact(Heap.get?_update_ne _ _ _ _ hxs.symm).trans (Heap.get?_push_at rfl rfl)
  have hge:H.get? e=some { cls:=.ref C,dict:=some h.objs.size,data:=.fields #[.ref tt,.none,.none,.none,.bool false,.none] }:=by subst hH;exact Heap.get?_update_self _ hx₁ rfl
  have hgo:∀ b o,b≠e→h.get? b=some o→H.get? b=some o:=fun b o hb e=>by subst hH;exact(Heap.get?_update_ne _ _ _ _ hb).trans (Heap.get?_push_of_some _ e)
  have hnd:H.Ns h.objs.size (fun _=>none):=⟨_,#[],_,hgd,rfl,fun e he=>absurd he (by simp),fun _=>rfl⟩
  obtain rfl:m=fun _=>none:=funext hm0;refine zT (vs:=vs) (Heap.Ns1.of_empty hnd) (fun _ h=>absurd rfl h) hl fun h' tk' hn' hs=>wpAny_pure (wpAny_pure (hq h' _ ⟨some h.objs.size,(hs.2 e hxs).trans hge,.inr ⟨_,rfl,hxs.symm,fun x=>?_,hn',Within.cons name v fun _ h=>absurd rfl h⟩⟩ fun b o hb eb=>?_))
  ·obtain⟨_,o,ho⟩:=hG _ x;rw[bT] at ho;cases ho
  ·exact(hs.2 b (Nat.ne_of_lt (Heap.lt_size eb))).trans (hgo b o (hG b hb).1 eb)
 ·refine wpAny_pure (zT hns hw hl fun h' tk' hn' hs=>wpAny_pure (wpAny_pure (hq h' _ ⟨some dx,(hs.2 e hne.symm).trans hx,.inr ⟨_,rfl,hne,hGd,hn',Within.cons name v hw⟩⟩ fun b o hb eb=>(hs.2 b fun x=>hGd (x▸hb)).trans eb)))
end
end Mine
namespace Mine
open PySem
theorem rN{α:Type}:∀ {ps:List Str} {us:List α} {x:Str} {v:α},(ps.zip us).lookup x=some v→∃ i:Nat,ps[i]?=some x∧us[i]?=some v
 | [],_,_,_,h=>by simp at h
 |_::_,[],_,_,h=>by simp at h
 |p::ps,u::us,x,v,h=>by
  rw[List.zip_cons_cons,List.lookup_cons] at h;refine bcs (x==p) (fun hb=>?_) fun hb=>?_
  ·try rewrite[hb]
   rw[hb] at h;obtain⟨i,h1,h2⟩:=rN h;exact⟨i+1,by simpa using h1,by simpa using h2⟩
  ·try rewrite[hb]
   rw[hb] at h;obtain rfl:=si h;exact⟨0,by simp[beq_iff_eq.mp hb],rfl⟩
theorem rO{α:Type}:∀ {ps:List Str} {us:List α} {x:Str} {v:α} {i:Nat},ps.Nodup→ps[i]?=some x→us[i]?=some v→(ps.zip us).lookup x=some v
 | [],_,_,_,_,_,h,_=>by simp at h
 |_::_,[],_,_,_,_,_,h=>by simp at h
 |p::ps,u::us,x,v,i,hn,h1,h2=>by
  rw[List.zip_cons_cons,List.lookup_cons];cases i with
  |zero =>
   simp at h1 h2;subst h1;subst h2;simp
  |succ i =>
   simp at h1 h2;have hne:(x==p)=false:=by
    rw[beq_eq_false_iff_ne];intro e;subst e;exact(List.nodup_cons.mp hn).1 (List.mem_of_getElem? h1)
   rw[hne];exact rO (List.nodup_cons.mp hn).2 h1 h2
theorem zU:∀ (ps:List Str) (vs:List Value) (f:Str→Option Value),ps.length=vs.length→(∀ (i:Nat) x v,ps[i]?=some x→vs[i]?=some v→f x=some v)→(ps.filterMap fun n=>(f n).map (n,·))=ps.zip vs
 | [],[],_,_,_=>rfl
 | [],_::_,_,h,_=>by simp at h
 |_::_,[],_,h,_=>by simp at h
 |p::ps,v::vs,f,hl,h=>by
  have h0:=h 0 p v rfl rfl;rw[List.filterMap_cons,h0,List.zip_cons_cons];simp only[Option.map_some];rw[zU ps vs f (by simpa using hl) fun i x v' h1 h2=>h (i+1) x v' (by simpa using h1) (by simpa using h2)]
theorem zV{α:Type}{c:Bool}{x y z:α}(h:c=false)(e:y=z):(if c=true then x else y)=z:=by rw[h];exact e
theorem zW{fd:FuncData}{as:List Arg}{kwd:List (Option Expr)}{dfl:List Expr}{vals:List Value}(hp:fd.params=⟨[],as,none,[],kwd,none,dfl⟩)(hd:fd.defaults=.none)(hl:as.length=vals.length)(hn:(as.map (·.arg)).Nodup) :
  bindArgs fd ⟨vals,[]⟩=pure ((as.map (·.arg)).zip vals):=by
 have hf:((as.map (·.arg)).filterMap fun n=>(((as.map (·.arg)).zip vals).lookup n).map (n,·))=(as.map (·.arg)).zip vals :=
  zU _ _ _ (by simpa using hl) fun i x v h1 h2=>rO hn h1 h2
 have hm:((as.map (·.arg)).filter fun n=>(((as.map (·.arg)).zip vals).lookup n).isNone)=[]:=by
  rw[List.filter_eq_nil_iff];intro x hx;obtain⟨i,hi⟩:=List.mem_iff_getElem?.mp hx;have hlt:i < vals.length:=by
   have:=(List.getElem?_eq_some_iff.mp hi).1;simp at this;exact Eb hl this
  rw[rO hn hi (List.getElem?_eq_getElem hlt)];simp
 obtain⟨nm,qn,pr,bd,sc,gl,cl,df,kd,dc,pm,an,cd,ct,bt⟩:=fd;obtain rfl:pr=_:=hp;obtain rfl:df=_:=hd;refine zV (c:=decide (vals.length > (as.map (·.arg)).length)&&true) (by simp[hl]) ?_;dsimp only [List.map_nil,List.nil_append,Option.getD_none,Array.toList_empty,List.length_nil,List.append_nil];simp only[List.drop_nil];refine zV (c:=!(List.filter (fun n=>(((as.map (·.arg)).zip vals).lookup n).isNone) (List.take ((as.map (·.arg)).length - 0) (as.map (·.arg)))).isEmpty) ?_ ?_
 ·rw[Nat.sub_zero,List.take_length];exact congrArg (fun l=>!List.isEmpty l) hm
 ·dsimp only [List.length_nil,Nat.sub_zero];simp only[List.drop_length];exact congrArg (pure (f:=Sem)) ((congrArg (List.filterMap _) (List.append_nil _)).trans hf)
theorem zX{kindOf:Str→Option NameKind}:∀ {ps:List Str} {vs:List Value} {m:Str→Option Value} {x:Str},x∉ps→bindL kindOf (ps.zip vs) m x=m x
 | [],_,_,_,_=>rfl
 |_::_,[],_,_,_=>rfl
 |p::ps,v::vs,m,x,h=>by
  show bindL kindOf (ps.zip vs) _ x=m x;simp at h;rw[zX h.2]
  split
  ·exact if_neg h.1
  ·rfl
theorem rP{kindOf:Str→Option NameKind}:∀ {ps:List Str} {vs:List Value} {m:Str→Option Value} {x:Str} {v:Value} {i:Nat},ps.Nodup→ps[i]?=some x→vs[i]?=some v→kindOf x=some .local→bindL kindOf (ps.zip vs) m x=some v
 | [],_,_,_,_,_,_,h,_,_=>by simp at h
 |_::_,[],_,_,_,_,_,_,h,_=>by simp at h
 |p::ps,u::vs,m,x,v,i,hn,h1,h2,hk=>by
  show bindL kindOf (ps.zip vs) _ x=some v;obtain⟨n1,n2⟩:=List.nodup_cons.mp hn;cases i with
  |zero =>
   simp at h1 h2;subst h1;subst h2;rw[zX n1,if_pos hk];exact if_pos rfl
  |succ i=>exact rP n2 (by simpa using h1) (by simpa using h2) hk
theorem Nb{st:Stmt}{c:Str×Str×Str}(h:mX st=some c):∃ p1 p2 p3 pos,st=.Assign [.Attribute (.Name c.1 p1) c.2.1 p2] (.Name c.2.2 p3) pos:=by
 cases st with
 |Assign ts e pos =>
  cases ts with
  |nil=>exact ns h
  |cons t r =>
   cases r with
   |cons=>exact ns h
   |nil =>
    obtain⟨a,h1,h⟩:=ob h;obtain⟨x,h2,h⟩:=ob h;obtain⟨y,h3,h⟩:=ob h;obtain rfl:=si h;obtain⟨p1,e1⟩:=dU h2;obtain⟨p3,rfl⟩:=dU h3;exact⟨p1,a.2.2,p3,pos,by rw[xG h1,e1]⟩
 |_=>exact ns h
structure InitF(fd:FuncData)(sf:Str)(ps:List Str):Prop where
 params:∃ as kwd dfl,fd.params=⟨[],as,none,[],kwd,none,dfl⟩∧as.map (·.arg)=sf::ps
 body:∃ b,fd.body=.stmts b∧b.map mX=ps.map fun p=>some (sf,p,p)
 closure:fd.closure=[]
 defaults:fd.defaults=.none
 kind:fd.scope.kind=.function
 gen:fd.scope.isGenerator=false
 cor:fd.scope.isCoroutine=false
 nodup:(sf::ps).Nodup
 loc:∀ x∈sf::ps,fd.scope.names.lookup x=some .local∧(x==("__debug__" : Str))=false
 few:ps.length < 50
section
variable {prog:Program} {w:World} {A:Around} {E:Value→Shared→Prop}
variable {nm q:Str} {C N e tt:Addr} {bs bm bmB:List Value} {sn:List Str} {sub:List Value} {ab:Bool} {col:Option Bool} {dd:Option Addr} {k0 k1 k2 k3 k5:Option Value} {B newId sa owner:String} {mN:Str→Option Value}
theorem Nc{env:Env}{m:Str→Option Value}{self:Str}{ns:List Str}{h0 h1:Heap}(SF:StoreFacts B bmB sa owner)(hb:bm.contains (.type owner)=true)(hk:env.scope.kind=.function)
  (hC:h0.get? C=some (excClassObj nm q C N bs bm true sn sub ab col dd k0 k1 k2 k3 k5 newId)) (hN:h0.Ns N mN) (T:TailN h0 bmB ns bm) (h01:∀ b o,h0.get? b=some o→h1.get? b=some o) (he:h0.get? e=none) (hL:h1.Ns env.locals m) (hLe:env.locals≠e)
  (hs0:Str.ofString "__setattr__" ∈ ns) (hs1:mN "__setattr__" = none) (hself:m self=some (.ref e)) (hsl:env.kindOf self=some .local∧(self==("__debug__" : Str))=false) :
  ∀ {ps:List Str} {b:List Stmt} {vs:List Str} {F:Str→Option Value} {s:Shared} {Q:Flow→Shared→Prop},b.map mX=(ps.map fun p=>some (self,p,p))→(∀ p∈ps,p∈ns∧mN p=none∧typeLookup (.type B) p=pure none∧env.kindOf p=some .local∧(p==("__debug__" : Str))=false∧∃ v,m p=some v) →
   vs.length+ps.length < 100→InE (fun b=>b≠e∧∃ o,h1.get? b=some o) s.heap e C tt vs F→(∀ y∈vs,F y=m y)→(∀ b o,b≠e→h1.get? b=some o→s.heap.get? b=some o) →
   (∀ s' vs' F',(∃ h tk,s'={ s with heap:=h,toks:=tk })→InE (fun b=>b≠e∧∃ o,h1.get? b=some o) s'.heap e C tt vs' F'→(∀ y,y∈ps∨y∈vs→F' y=m y)→(∀ b o,b≠e→h1.get? b=some o→s'.heap.get? b=some o)→Q .next s')→wpAny (model prog w) A (execs b env) Q E s:=by
 intro ps
 induction ps with
 |nil =>
  intro b vs F s Q hb' _ _ I hF hk' hq;cases b with
  |nil=>exact wpAny_execs_nil (hq s vs F ⟨_,_,rfl⟩ I (fun y hy=>hF y (hy.elim (fun h=>cL h) id)) hk')
  |cons=>cases hb'
 |cons p ps ih =>
  intro b vs F s Q hb' hp hl I hF hk' hq;cases b with
  |nil=>cases hb'
  |cons st r =>
   injection hb' with hb1 hb2
   obtain⟨p1,p2,p3,pos,rfl⟩:=Nb hb1;obtain⟨q1,q2,q3,q4,q5,v,q6⟩:=hp p List.mem_cons_self;have up:∀ b o,h0.get? b=some o→s.heap.get? b=some o:=fun b o eo=>hk' b o (fun x=>by rw[x,he] at eo;cases eo) (h01 b o eo);have hns:s.heap.Ns env.locals m:=hL.at' fun o eo=>hk' _ o hLe eo;refine wpAny_execs_cons (plainObj_wpAny_Assign_Attribute (wpAny_Name (wpAny_loadName_local hk q4 hns q6 (wpAny_Name (wpAny_loadName_local hk hsl.1 hns hself ?_) hsl.2)) q5) rfl);obtain⟨hh,g,dr,tk,os⟩:=s;refine Na SF hb (up _ _ hC) (hN.keeps up) (T.keeps up) hs0 hs1 q1 q2 q3 I (fun b hb=>⟨hb.1,by obtain⟨o,eo⟩:=hb.2;exact⟨o,hk' b o hb.1 eo⟩⟩) (by simp at hl;exact Ec hl) fun h' tk' I' kp=>?_;refine ih hb2 (fun p m=>hp p (List.mem_cons_of_mem _ m)) (by simp at hl ⊢;exact Ed hl) I' (fun y hy=>?_) (fun b o hb eo=>kp b o ⟨hb,o,eo⟩ (hk' b o hb eo)) fun s' vs' F' hs' I'' hF' hk''=>hq s' vs' F' ?_ I'' (fun y hy=>hF' y ?_) hk''
   ·show(if y=p then some v else F y)=m y
    by_cases e:y=p
    ·rw[if_pos e,e,q6]
    ·rw[if_neg e];exact hF y ((List.mem_cons.mp hy).resolve_left e)
   ·obtain⟨h2,t2,rfl⟩:=hs';exact⟨h2,t2,rfl⟩
   ·rcases hy with hy | hy
    ·rcases List.mem_cons.mp hy with rfl | hy
     ·exact .inr List.mem_cons_self
     ·exact .inl hy
    ·exact .inr (List.mem_cons_of_mem _ hy)
end
end Mine
namespace Mine
open PySem Builtin Builtin.ObjectAttr
section
variable {prog:Program} {w:World} {A:Around} {E:Value→Shared→Prop} {h:Heap} {g:Array GenState} {d:Drawn} {t:Nat} {os:OsState} {a dx:Addr} {o:Obj} {vs:Array Value}
 {nm q:Str} {C N:Addr} {bs bm:List Value} {hdct:Bool} {sn:List Str} {sub:List Value} {ab:Bool} {col:Option Bool} {dd:Option Addr} {k0 k1 k2 k3 k5:Option Value} {newId:String} {mN m:Str→Option Value} {ns:List Str} {name:Str} {v:Value}
theorem Nd{M:Model}{nameV:Value}{Q:Unit→Shared→Prop}(hC:h.get? C=some (excClassObj nm q C N bs bm hdct sn sub ab col dd k0 k1 k2 k3 k5 newId))(hbm:bm.contains (.type "BaseException")=true)
  (hx:h.get? a=some o) (hc:o.cls=.ref C) (hq:Q () ⟨h,g,d,t,os⟩):wpAny M A (checkBuiltinCall "BaseException.__getattribute__" ⟨[.ref a,nameV],[]⟩) Q E ⟨h,g,d,t,os⟩:=by
 have hk:builtinKind "BaseException.__getattribute__" = some .slot:=by decide +kernel
 have hsplit:splitId "BaseException.__getattribute__" = some ("BaseException", "__getattribute__"):=by decide +kernel
 have hcB:(Value.ref C::bm).contains (.type "BaseException")=true:=by rw[List.contains_cons,hbm,Bool.or_true]
 have ha:=F.args_bexc_ga (.ref a) nameV;simp only[checkBuiltinCall,hk,hsplit];refine wpAny_bind ?_;unfold isInstance
 repeat (first | (with_reducible refine wpAny_loadPart_at hx ?_;rw[hc]) | (with_reducible refine wpAny_isSubtype_exc hC ?_;rw[hcB]) | wp_step)
 exact hq
end
end Mine
namespace Mine
open PySem Builtin Builtin.ObjectAttr
section
variable {prog:Program} {w:World} {A:Around} {E:Value→Shared→Prop} {h:Heap} {g:Array GenState} {d:Drawn} {t:Nat} {os:OsState} {a:Addr} {o:Obj} {vs:Array Value}
 {nm q:Str} {C N:Addr} {bs bm:List Value} {hdct:Bool} {sn:List Str} {sub:List Value} {ab:Bool} {col:Option Bool} {dd:Option Addr} {k0 k1 k2 k3 k5:Option Value} {newId:String} {mN:Str→Option Value} {ns:List Str}
theorem Nf:typeLookup (.type "ValueError") "__class__" = pure (some (.builtin "object.__class__")):=by rw[typeLookup_type,builtinLookup_eq_fast];kernel_rfl
theorem Ng{R:Result→Shared→Prop}(hC:h.get? C=some (excClassObj nm q C N bs bm hdct sn sub ab col dd k0 k1 k2 k3 k5 newId))(hbo:bm.contains (.type "object")=true)
  (hx:h.get? a=some o) (hc:o.cls=.ref C) (hq:R (.ok (.ret (.ref C))) ⟨h,g,d,t,os⟩) :
  codeAny (model prog w) A (.call (.builtin "getset_descriptor.__get__") ⟨[.builtin "object.__class__", .ref a,.ref C],[]⟩) R ⟨h,g,d,t,os⟩:=by
 have hT5:(⟨h,g,d,t,os⟩:Shared).TypeIs (.builtin "object.__class__") "getset_descriptor" := F.typeOf_object_class;have hcB:(Value.ref C::bm).contains (.type (".".intercalate ("object.__class__".cutAt '.').dropLast))=true:=by rw[F.owner_object_class,List.contains_cons,hbo,Bool.or_true]
 refine codeAny_call_builtin F.slot_gs_get.plain F.entry_gs_get (F.slot_gs_get.check _ _ _ _ _ _ _ _ hT5 (F.args_gs_get _ _ _) ?_)
 repeat (any_goals (first | assumption | (with_reducible refine wpAny_loadPart_at hx ?_;rw[hc]) | (with_reducible refine wpAny_isSubtype_exc hC ?_;rw[hcB]) | wp_step))
 refine⟨Code.quiet_builtin _ (by decide +kernel),codeAny_builtin F.entry_object_class ?_⟩
 repeat (any_goals (first | assumption | (with_reducible refine wpAny_loadPart_at hx ?_;rw[hc]) | wp_step))
theorem Nh{tk:Tok}{Q:PySem.Fin→Shared→Prop}(hC:h.get? C=some (excClassObj nm q C N bs bm hdct sn sub ab col dd k0 k1 k2 k3 k5 newId))(hN:h.Ns N mN)(T:TailN h bmV ns bm)(hn0:Str.ofString "__class__" ∈ ns)(hn1:mN "__class__" = none)(hbo:bm.contains (.type "object")=true)
  (hx:h.get? a=some o) (hc:o.cls=.ref C) (hq:Q (.done (.ret (.ref C))) ⟨h,g,d,t,os⟩) :
  wpAny (model prog w) A (Builtin.«object.__getattribute__» ⟨[.ref a,.str "__class__" tk],[]⟩) Q E ⟨h,g,d,t,os⟩:=by
 have hT5:(⟨h,g,d,t,os⟩:Shared).TypeIs (.builtin "object.__class__") "getset_descriptor" := F.typeOf_object_class;have f5:=F.typeOf_object_class;have f6:=F.slot_gs_get.lookup;have f7:=F.slot_gs_set.lookup;unfold Builtin.«object.__getattribute__»
 repeat (any_goals (first | assumption | (with_reducible refine wpAny_loadPart_at hx ?_;rw[hc]) | with_reducible refine kB hC hN T F.excBase_ValueError.mroIs hn0 hn1 Nf ?_ | wp_step))
 refine Ng hC hbo hx hc ?_
 repeat (any_goals (first | assumption | wp_step))
theorem Ni{tk:Tok}{Q:Value→Shared→Prop}(hC:h.get? C=some (excClassObj nm q C N bs bm hdct sn sub ab col dd k0 k1 k2 k3 k5 newId))(hN:h.Ns N mN)(T:TailN h bmV ns bm)(hbm:bm.contains (.type "BaseException")=true)(hg0:Str.ofString "__getattribute__" ∈ ns)(hg1:mN "__getattribute__" = none)(hh0:Str.ofString "__getattr__" ∈ ns)(hh1:mN "__getattr__" = none)(hn0:Str.ofString "__class__" ∈ ns)(hn1:mN "__class__" = none)(hbo:bm.contains (.type "object")=true)
  (hx:h.get? a=some o) (hc:o.cls=.ref C) (hq:Q (.ref C) ⟨h,g,d,t,os⟩):wpAny (model prog w) A (getAttrBy (.ref a) (.str "__class__" tk) false) Q E ⟨h,g,d,t,os⟩:=by
 have f3:=F.attrBase_ValueError.ga.bind (.ref a);have hx2:(Value.builtin "BaseException.__getattribute__" == Value.builtin "object.__getattribute__")=false:=by decide +kernel
 have hx1:(onTheHeap (Value.ref C)&&Value.builtin "BaseException.__getattribute__" == Value.builtin "object.__getattribute__")=false:=by rw[hx2];rfl
 repeat (any_goals (first | assumption | (with_reducible refine wpAny_loadPart_at hx ?_;rw[hc]) | with_reducible refine kB hC hN T F.excBase_ValueError.mroIs hg0 hg1 F.attrBase_ValueError.ga.lookup ?_ | with_reducible refine kB hC hN T F.excBase_ValueError.mroIs hh0 hh1 F.attrBase_ValueError.noGetattr ?_ | (rw[if_neg (by rw[hx1];exact Bool.false_ne_true)]) | wp_step))
 refine codeAny_call_builtin F.attrBase_ValueError.ga.plain F.entry_bexc_ga (Nd hC hbm hx hc (Nh hC hN T hn0 hn1 hbo hx hc ?_))
 repeat (any_goals (first | assumption | wp_step))
theorem Nj{Q:Option Value→Shared→Prop}(hC:h.get? C=some (excClassObj nm q C N bs bm hdct sn sub ab col dd k0 k1 k2 k3 k5 newId))(hN:h.Ns N mN)(T:TailN h bmV ns bm)(hbm:bm.contains (.type "BaseException")=true)(hg0:Str.ofString "__getattribute__" ∈ ns)(hg1:mN "__getattribute__" = none)(hh0:Str.ofString "__getattr__" ∈ ns)(hh1:mN "__getattr__" = none)(hn0:Str.ofString "__class__" ∈ ns)(hn1:mN "__class__" = none)(hbo:bm.contains (.type "object")=true)
  (hx:h.get? a=some o) (hc:o.cls=.ref C) (hq:Q (some (.ref C)) ⟨h,g,d,t+1,os⟩):wpAny (model prog w) A (getAttr? (.ref a) "__class__") Q E ⟨h,g,d,t,os⟩:=by
 unfold getAttr? getAttrBy?
 repeat (any_goals (first | assumption | with_reducible apply Ni hC hN T hbm hg0 hg1 hh0 hh1 hn0 hn1 hbo hx hc | wp_step))
theorem Nk{D:Addr}{od:Obj}{cdD:ClassData}{dep:Int}{tk:Tok}{b:Bool}{Q:PySem.Fin→Shared→Prop}(hC:h.get? C=some (excClassObj nm q C N bs bm hdct sn sub ab col dd k0 k1 k2 k3 k5 newId))(hN:h.Ns N mN)(T:TailN h bmV ns bm)(hbm:bm.contains (.type "BaseException")=true)(hg0:Str.ofString "__getattribute__" ∈ ns)(hg1:mN "__getattribute__" = none)(hh0:Str.ofString "__getattr__" ∈ ns)(hh1:mN "__getattr__" = none)(hn0:Str.ofString "__class__" ∈ ns)(hn1:mN "__class__" = none)(hbo:bm.contains (.type "object")=true)
  (hx:h.get? a=some o) (hc:o.cls=.ref C) (hD:h.get? D=some od) (hDc:od.cls=.type "type") (hDd:od.data=.cls cdD) (hsub:(Value.ref C::bm).contains (.ref D)=b) (hq:∀ tk,Q (.done (.ret (.bool b))) ⟨h,g,d,tk,os⟩) :
  wpAny (model prog w) A (Builtin.«isinstance.nested» ⟨[.ref a,.ref D,.int dep tk],[]⟩) Q E ⟨h,g,d,t,os⟩:=by
 have hq0:=hq t;have hq1:=hq (t+1)
 by_cases he:C=D
 ·subst he;have hb:b=true:=by rw[← hsub,List.contains_cons,beq_self_eq_true,Bool.true_or]
  subst hb
  repeat (any_goals (first | assumption | (with_reducible refine wpAny_loadPart_at hx ?_;rw[hc]) | wp_step))
 ·have hne:(Value.ref C==Value.ref D)=false:=beq_false_of_ne fun e=>he (Value.ref.inj e);cases b with
  |true=>repeat (any_goals (first | assumption | (with_reducible refine wpAny_loadPart_at hx ?_;rw[hc]) | (with_reducible refine wpAny_loadPart_at hD ?_;rw[hDc]) | (with_reducible refine wpAny_loadPart_at hD ?_;rw[hDd]) | (with_reducible refine wpAny_isSubtype_exc hC ?_;rw[hsub]) | wp_step))
  |false=>repeat (any_goals (first | assumption | (with_reducible refine wpAny_loadPart_at hx ?_;rw[hc]) | (with_reducible refine wpAny_loadPart_at hD ?_;rw[hDc]) | (with_reducible refine wpAny_loadPart_at hD ?_;rw[hDd]) | (with_reducible refine wpAny_isSubtype_exc hC ?_;rw[hsub]) | with_reducible refine Nj hC hN T hbm hg0 hg1 hh0 hh1 hn0 hn1 hbo hx hc ?_ | wp_step))
theorem Nl{dep:Int}{tk:Tok}{Q:PySem.Fin→Shared→Prop}(hC:h.get? C=some (excClassObj nm q C N bs bm hdct sn sub ab col dd k0 k1 k2 k3 k5 newId))(hx:h.get? a=some o)(hc:o.cls=.ref C)(hbv:bm.contains (.type "ValueError")=true)(hq:Q (.done (.ret (.bool true))) ⟨h,g,d,t,os⟩) :
  wpAny (model prog w) A (Builtin.«isinstance.nested» ⟨[.ref a,.type "ValueError", .int dep tk],[]⟩) Q E ⟨h,g,d,t,os⟩:=by
 have hsub:(Value.ref C::bm).contains (.type "ValueError")=true:=by rw[List.contains_cons,hbv,Bool.or_true]
 have hty:typeOf (.type "ValueError")=pure (.type "type"):=by kernel_rfl
 have hne:(Value.ref C==Value.type "ValueError")=false:=rfl
 repeat (any_goals (first | assumption | (with_reducible refine wpAny_loadPart_at hx ?_;rw[hc]) | (with_reducible refine wpAny_isSubtype_exc hC ?_;rw[hsub]) | wp_step))
end
section
variable {prog:Program} {w:World} {A:Around} {E:Value→Shared→Prop} {s:Shared} {Q:Value→Shared→Prop} {a C N D:Addr} {o od:Obj} {cdD:ClassData}
 {nm q:Str} {bs bm:List Value} {hdct:Bool} {sn:List Str} {sub:List Value} {ab:Bool} {col:Option Bool} {dd:Option Addr} {k0 k1 k2 k3 k5:Option Value} {newId:String} {mN:Str→Option Value} {ns:List Str} {b:Bool}
theorem zY(hC:s.heap.get? C=some (excClassObj nm q C N bs bm hdct sn sub ab col dd k0 k1 k2 k3 k5 newId))(hN:s.heap.Ns N mN)(T:TailN s.heap bmV ns bm)(hbm:bm.contains (.type "BaseException")=true)(hg0:Str.ofString "__getattribute__" ∈ ns)(hg1:mN "__getattribute__" = none)(hh0:Str.ofString "__getattr__" ∈ ns)(hh1:mN "__getattr__" = none)(hn0:Str.ofString "__class__" ∈ ns)(hn1:mN "__class__" = none)(hbo:bm.contains (.type "object")=true)
  (hx:s.heap.get? a=some o) (hc:o.cls=.ref C) (hD:s.heap.get? D=some od) (hDc:od.cls=.type "type") (hDd:od.data=.cls cdD) (hsub:(Value.ref C::bm).contains (.ref D)=b) (hq:∀ tk,Q (.bool b) { s with toks:=tk }):wpAny (model prog w) A (call (.builtin "isinstance") [.ref a,.ref D]) Q E s:=by
 obtain⟨h,g,d,t,os⟩:=s;refine call_isinstance (S:=fun _ R s=>(∃ tk,s=⟨h,g,d,tk,os⟩)∧∀ tk,R (.ok (.ret (.bool b))) ⟨h,g,d,tk,os⟩) (fun _ _ _ _ s hs=>?_) ⟨⟨t,rfl⟩,fun tk=>hq tk⟩;obtain⟨⟨tk,rfl⟩,hs⟩:=hs;exact isinstance_outer (Nk hC hN T hbm hg0 hg1 hh0 hh1 hn0 hn1 hbo hx hc hD hDc hDd hsub fun tk=>hs tk) (by intro q;cases q)
theorem zZ(hC:s.heap.get? C=some (excClassObj nm q C N bs bm hdct sn sub ab col dd k0 k1 k2 k3 k5 newId))(hx:s.heap.get? a=some o)(hc:o.cls=.ref C)(hbv:bm.contains (.type "ValueError")=true)(hq:∀ tk,Q (.bool true) { s with toks:=tk }):wpAny (model prog w) A (call (.builtin "isinstance") [.ref a,.type "ValueError"]) Q E s:=by
 obtain⟨h,g,d,t,os⟩:=s;refine call_isinstance (S:=fun _ R s=>(∃ tk,s=⟨h,g,d,tk,os⟩)∧∀ tk,R (.ok (.ret (.bool true))) ⟨h,g,d,tk,os⟩) (fun _ _ _ _ s hs=>?_) ⟨⟨t,rfl⟩,fun tk=>hq tk⟩;obtain⟨⟨tk,rfl⟩,hs⟩:=hs;exact isinstance_outer (Nl hC hx hc hbv (hs tk)) (by intro q;cases q)
end
end Mine
namespace Mine
open PySem
section
variable {prog:Program} {w:World} {A:Around} {E:Value→Shared→Prop}
theorem Nm{C N e t:Addr}{bm bs:List Value}{nm q:Str}{sn:List Str}{sub:List Value}{ab:Bool}{col:Option Bool}{dd:Option Addr}{k0 k1 k2 k3 k5:Option Value}{newId:String}{mN:Str→Option Value}{fI:Addr}{oI:Obj}{fd:FuncData}{self:Str}{ps:List Str}{h0:Heap}{s:Shared}{vals:List Value}{Q:Value→Shared→Prop}
  (hb:bm.contains (.type "object")=true) (hC:h0.get? C=some (excClassObj nm q C N bs bm true sn sub ab col dd k0 k1 k2 k3 k5 newId)) (hN:h0.Ns N mN) (T:TailN h0 bmV (Str.ofString "__init__" :: Str.ofString "__setattr__" :: ps) bm) (hn:∀ n∈Str.ofString "__setattr__" :: ps,mN n=none)
  (ho:h0.get? fI=some oI) (hfd:oI.data=.func fd) (hcd:h0.CodeRec fd.code fd.qualname) (I:InitF fd self ps) (hB:∀ p∈ps,typeLookup (.type "ValueError") p=pure none) (hl:h0.NoLimit) (hroom:A.depth < recursionLimit) (hv:vals.length=ps.length)
  (h01:∀ b o,h0.get? b=some o→s.heap.get? b=some o) (he0:h0.get? e=none) (he:s.heap.get? e=some { cls:=.ref C,data:=.fields #[.ref t,.none,.none,.none,.bool false,.none] })
  (hq:∀ s' dx,(∃ h tk,s'={ s with heap:=h,toks:=tk })→s'.heap.get? e=some { cls:=.ref C,dict:=dx,data:=.fields #[.ref t,.none,.none,.none,.bool false,.none] }→(∀ b o,b≠e→s.heap.get? b=some o→s'.heap.get? b=some o)→Q .none s'):wpAny (model prog w) A (call (.ref fI) (.ref e::vals)) Q E s:=by
 obtain⟨as,kwd,dfl,hp,has⟩:=I.params;obtain⟨b,hbody,hst⟩:=I.body;have hlen:as.length=(Value.ref e::vals).length:=by
  have:=congrArg List.length has;simp at this;simp[hv,this]
 refine wpAny_call (codeAny_call_cells (binds:=(self::ps).zip (.ref e::vals)) hroom (h01 _ _ ho) hfd (hl.keeps h01) (hcd.keeps h01) hbody (has▸zW hp I.defaults hlen (has▸I.nodup)) I.closure (fun x hx=>.inl (I.loc x.1 (List.of_mem_zip hx).1).1) (fun s₁ hin=>?_) I.cor I.gen I.kind);have at0:∀ {i:Nat} {x:Str} {v:Value},(self::ps)[i]?=some x→(Value.ref e::vals)[i]?=some v→bindL (callEnvC fd s.heap.objs.size fI).kindOf ((self::ps).zip (.ref e::vals)) (fun _=>none) x=some v:=fun h1 h2 =>
  rP I.nodup h1 h2 (I.loc _ (List.mem_of_getElem? h1)).1
 have keep:=hin.toInCall.keep;have hLe:(callEnvC fd s.heap.objs.size fI).locals≠e:=fun x=>by
  have:=hin.toInCall.fresh;rw[x] at this;exact absurd (Heap.lt_size he) (Nat.not_lt.mpr this)
 refine Nc (tt:=t) (h1:=s₁.heap) (vs:=[]) F.store_ValueError hb I.kind hC hN T (fun b o eo=>keep b o (h01 b o eo)) he0 hin.toInCall.ns hLe (.tail _ (.head _)) (hn _ (.head _)) (at0 (i:=0) rfl rfl) (I.loc self (.head _)) hst (fun p hp=>?_) (by have:=I.few;simp;exact Ee this) ⟨none,keep _ _ he,.inl ⟨rfl,fun _=>rfl⟩⟩ (fun y hy=>cL hy) (fun b o _ eo=>eo) fun s' vs' F' hs' I' hF hk=>?_
 ·obtain⟨i,hi⟩:=List.mem_iff_getElem?.mp hp;have hlt:i < vals.length:=by rw[hv];exact(List.getElem?_eq_some_iff.mp hi).1
  exact⟨.tail _ (.tail _ hp),hn p (.tail _ hp),hB p hp,(I.loc p (.tail _ hp)).1,(I.loc p (.tail _ hp)).2,vals[i],at0 (i:=i+1) hi (List.getElem?_eq_getElem hlt)⟩
 ·obtain⟨h1,t1,rfl⟩:=hs';obtain⟨h2,t2,rfl⟩:=hin.toInCall.same;obtain⟨dx,hx,hdd⟩:=I';exact hq _ dx ⟨h1,t1,rfl⟩ hx (fun b o hb eo=>hk b o hb (keep b o eo))
inductive ClsI(h:Heap)(C:Addr)(bm:List Value)(ps:List Str):Prop where
 |mk (N nm q bs sn sub ab col dd k0 k1 k2 k3 k5 mN fI oI fd sf) (a:h.get? C=some (excClassObj nm q C N bs bm true sn sub ab col dd k0 k1 k2 k3 k5 "ValueError.__new__")) (b:h.Ns N mN) (c:mN "__init__" = some (.ref fI)) (d:∀ n∈Str.ofString "__setattr__" :: (ps++hid),mN n=none)
  (e:TailN h bmV (Str.ofString "__init__" :: Str.ofString "__setattr__" :: (ps++hid)) bm) (f:h.get? fI=some oI) (g:oI.cls=.type "function") (i:oI.data=.func fd) (j:h.CodeRec fd.code fd.qualname) (k:InitF fd sf ps) (l:∀ p∈ps,typeLookup (.type "ValueError") p=pure none):ClsI h C bm ps
inductive ClsP(h:Heap)(C:Addr)(bm:List Value):Prop where
 |mk (N nm q bs hdct sn sub ab col dd k0 k1 k2 k3 k5 mN) (a:h.get? C=some (excClassObj nm q C N bs bm hdct sn sub ab col dd k0 k1 k2 k3 k5 "ValueError.__new__")) (b:h.Ns N mN) (c:mN "__init__" = none) (d:∀ n∈hid,mN n=none) (e:TailN h bmV (Str.ofString "__init__" :: hid) bm):ClsP h C bm
theorem OwnTail.has{h:Heap}{bm:List Value}(T:OwnTail h bmV bm){X:String}(hx:bmV.contains (.type X)=true):bm.contains (.type X)=true:=T.hasType hx
theorem ClsI.ok{base:Heap}{C:Addr}{bm:List Value}{ps:List Str}(hl:base.NoLimit)(x:ClsI base C bm ps):ClsOk prog w base C bm (some ps):=by
 obtain⟨N,nm,q,bs,sn,sub,ab,col,dd,k0,k1,k2,k3,k5,mN,fI,oI,fd,sf,hC,hN,hi,hn,T,ho,hfc,hfd,hcd,I,hB⟩:=x;have T':=T.tail (.head _);have s1:∀ n∈Str.ofString "__setattr__" :: ps,n∈Str.ofString "__setattr__" :: (ps++hid):=fun n h=>(List.mem_cons.mp h).elim (fun e=>e▸.head _) fun h=>.tail _ (List.mem_append_left _ h);have T2:=T.less (ns':=Str.ofString "__init__" :: Str.ofString "__setattr__" :: ps) fun n h=>(List.mem_cons.mp h).elim (fun e=>e▸.head _) fun h=>.tail _ (s1 n h);refine⟨⟨nm,q,N,bs,true,sn,sub,ab,col,dd,k0,k1,k2,k3,k5,_,hC⟩,OwnTail.has T' (by decide +kernel),OwnTail.has T' (by decide +kernel),fun A vals s E Q hd hb ha hq=>?_,fun A s e o D bm' b E Q hb hx hc hD hs hq=>by
  obtain⟨_,_,_,_,_,_,_,_,_,_,_,_,_,_,_,_,hD⟩:=hD;exact zY (hb _ _ hC) (hN.keeps hb) (T.keeps hb) (OwnTail.has T' (by decide +kernel)) (.tail _ (.tail _ (List.mem_append_right _ (.head _)))) (hn _ (.tail _ (List.mem_append_right _ (.head _)))) (.tail _ (.tail _ (List.mem_append_right _ (.tail _ (.head _))))) (hn _ (.tail _ (List.mem_append_right _ (.tail _ (.head _))))) (.tail _ (.tail _ (List.mem_append_right _ (.tail _ (.tail _ (.head _)))))) (hn _ (.tail _ (List.mem_append_right _ (.tail _ (.tail _ (.head _)))))) (OwnTail.has T' (by decide +kernel)) hx hc (hb _ _ hD) rfl rfl hs hq,
  fun A s e o E Q hb hx hc hq=>zZ (hb _ _ hC) hx hc (OwnTail.has T' (by decide +kernel)) hq⟩
 have ha:ps.length=vals.length:=ha;have hsz:vals.length≤sizeLine:=by
  have:=I.few;have hZ:sizeLine=16777216:=rfl;exact Ef ha this hZ
 obtain⟨h,g,d,t,os⟩:=s;refine M7 F.excBase_ValueError (T'.keeps hb) (hb _ _ hC) (hN.keeps hb) hi (hb _ _ ho) hfc hsz fun h' e m=>?_;obtain⟨tt,he,_,_⟩:=m.there;have hdp:(A.under (.builtin "type.__call__" ⟨.ref C::vals,[]⟩)).depth < recursionLimit:=hd;refine Nm (h0:=h) (OwnTail.has T' (by decide +kernel)) (hb _ _ hC) (hN.keeps hb) (T2.keeps hb) (fun n h=>hn n (s1 n h)) (hb _ _ ho) hfd (hcd.keeps hb) I hB (hl.keeps hb) hdp ha.symm m.keeps m.new he fun s' dx hs' hx hk=>⟨rfl,hq _ _ ?_⟩
 obtain⟨h2,t2,rfl⟩:=hs';exact⟨⟨h2,t2,rfl,fun b o eo=>hk b o (fun x=>by simp only[x,m.new] at eo;exact ns eo) (m.keeps b o eo)⟩,e,dx,tt,rfl,m.new,hx⟩
theorem ClsP.ok{base:Heap}{C:Addr}{bm:List Value}(x:ClsP base C bm):ClsOk prog w base C bm none:=by
 obtain⟨N,nm,q,bs,hdct,sn,sub,ab,col,dd,k0,k1,k2,k3,k5,mN,hC,hN,hni,hn,TT⟩:=x;have T:=TT.tail (.head _);refine⟨⟨nm,q,N,bs,hdct,sn,sub,ab,col,dd,k0,k1,k2,k3,k5,_,hC⟩,OwnTail.has T (by decide +kernel),OwnTail.has T (by decide +kernel),fun A vals s E Q hd hb ha hq=>?_,fun A s e o D bm' b E Q hb hx hc hD hs hq=>by
  obtain⟨_,_,_,_,_,_,_,_,_,_,_,_,_,_,_,_,hD⟩:=hD;exact zY (hb _ _ hC) (hN.keeps hb) (TT.keeps hb) (OwnTail.has T (by decide +kernel)) (.tail _ (.head _)) (hn _ (.head _)) (.tail _ (.tail _ (.head _))) (hn _ (.tail _ (.head _))) (.tail _ (.tail _ (.tail _ (.head _)))) (hn _ (.tail _ (.tail _ (.head _)))) (OwnTail.has T (by decide +kernel)) hx hc (hb _ _ hD) rfl rfl hs hq,
  fun A s e o E Q hb hx hc hq=>zZ (hb _ _ hC) hx hc (OwnTail.has T (by decide +kernel)) hq⟩
 have ha:vals.length=1:=ha;obtain⟨h,g,d,t,os⟩:=s;refine wpAny_call_exc_subT F.excBase_ValueError (T.keeps hb) (hb _ _ hC) (hN.keeps hb) hni (fun h' e m=>?_) (by have hZ:sizeLine=16777216:=rfl;exact Eg ha hZ);obtain⟨tt,he,_,_⟩:=m.there;exact hq _ _ ⟨⟨h',t,rfl,m.keeps⟩,e,none,tt,rfl,m.new,he⟩
end
end Mine
namespace Mine
open PySem PyProof.Rows.TI
section
variable {prog:Program} {w:World} {mg mb:Str→Option Value} {base:Heap} {l l₀:List Env} {env:Env}
noncomputable def dO(h:Heap)(l:List Env)(e T:Addr):Heap:=gone h (e::T::l.filterMap (·.frame))
theorem nI{h:Heap}{e T:Addr}:(dO h l e T).StaysIn h:=fun _ _ x=>(gone_some x).2
theorem rQ{h:Heap}{e T:Addr}:(dO h l e T).get? e=none:=gone_none List.mem_cons_self
theorem rR{h:Heap}{e T:Addr}:(dO h l e T).get? T=none:=gone_none (List.mem_cons_of_mem _ List.mem_cons_self)
theorem nJ{h:Heap}{e T b:Addr}(f:frs l b):(dO h l e T).get? b=none:=gone_none (List.mem_cons_of_mem _ (List.mem_cons_of_mem _ f))
theorem z0{h:Heap}{e T b:Addr}{o:Obj}(h1:b≠e)(h2:b≠T)(h3:¬ frs l b)(x:h.get? b=some o):(dO h l e T).get? b=some o :=
 (gone_get fun m=>by
  rcases List.mem_cons.mp m with m | m
  ·exact h1 m
  ·rcases List.mem_cons.mp m with m | m
   ·exact h2 m
   ·exact h3 m).trans x
theorem nK{h B:Heap}:∀ {l:List Env},h.FunFrames base l→(∀ b,frs l b→B.get? b=none)→h.FunFrames B l
 := by
 intro l
 induction l with
 |nil=>exact fun _ _=>trivial
 |cons env r ih =>
  intro f k;obtain⟨hk,⟨L,o,hf,_,ho,hd⟩,hr⟩:=f;exact⟨hk,⟨L,o,hf,k L (by unfold frs;rw[List.filterMap_cons,hf];exact List.mem_cons_self),ho,hd⟩,ih hr fun b f=>k b (by unfold frs;rw[List.filterMap_cons,hf];exact List.mem_cons_of_mem _ f)⟩
theorem rS{s s':Shared}{h':Heap}{e T C:Addr}{a0 fl:Value}(k:K l s s')(ff:s'.heap.FunFrames base l)(se:s.heap.get? e=none)(sT:s.heap.get? T=none)
  (st:(dO s'.heap l e T).StaysIn h') (up:s'.heap.UpToSlots h') (tr:h'.TracedAtW (dO s'.heap l e T) e (.ref C) a0 fl) :
  K l s { s' with heap:=h' }∧Tb s h' e fl∧∃ oe vs,h'.get? e=some oe∧oe.cls=.ref C∧oe.data=.fields vs:=by
 have ne:∀ {b:Addr} {o:Obj},s.heap.get? b=some o→b≠e∧b≠T:=fun x=>⟨fun y=>(by rw[y,se] at x;exact ns x),fun y=>(by rw[y,sT] at x;exact ns x)⟩
 have at1:∀ b o,¬ frs l b→s.heap.get? b=some o→h'.get? b=some o:=fun b o n x=>st b o (z0 (ne x).1 (ne x).2 n (k.at n x));have at2:∀ b o,frs l b→s.heap.get? b=some o→∃ sl,h'.get? b=some { o with slots:=sl }∧∀ vs,o.data≠.fields vs:=fun b o f x=>by
  obtain⟨sl,x'⟩:=k.up x;obtain⟨_,o',e1,e2⟩:=ff.mem f;rw[x'] at e1;obtain rfl:=si e1;obtain⟨sl',x''⟩:=up b _ x' e2;exact⟨sl',x'',e2⟩
 obtain⟨oe,vs,T',oT,ts,g1,⟨g2,g3⟩,g4,g5,g6,g7,g8,g9,g10⟩:=tr;refine⟨?_,⟨oe,vs,T',oT,ts,g1,g4,g5,?_,g7,g8,g9,g10⟩,oe,vs,g1,g2,g4⟩
 ·obtain⟨h,t,rfl,_,_⟩:=k;refine⟨h',t,rfl,at1,fun b o x=>?_⟩
  by_cases f:frs l b
  ·obtain⟨sl,h,_⟩:=at2 b o f x;exact⟨sl,h⟩
  ·exact⟨o.slots,at1 b o f x⟩
 ·refine ocs (s.heap.get? T') (fun x=>?_) fun o x=>?_
  ·try rewrite[x]
   rfl
  ·try rewrite[x]
   by_cases f:frs l T'
   ·obtain⟨sl,y,z⟩:=at2 T' o f x;rw[g8] at y;obtain rfl:=si y;exact absurd g9 (z ts)
   ·have:=at1 T' o f x;rw[z0 (ne x).1 (ne x).2 f (k.at f x)] at g6;exact sn g6
theorem Tb.tr{s:Shared}{h B:Heap}{e C:Addr}{fl:Value}{oe:Obj}(x:Tb s h e fl)(he:h.get? e=some oe)(hc:oe.cls=.ref C)(hB:∀ T,(∃ vs,oe.data=.fields vs∧vs[1]?=some (.ref T))→B.get? T=none):∃ a0,h.TracedAtW B e (.ref C) a0 fl:=by
 obtain⟨oe',vs,T,oT,ts,g1,g2,g3,g4,g5,g6,g7,g8⟩:=x;rw[he] at g1;obtain rfl:=si g1;have hs:=(Array.getElem?_eq_some_iff.mp g3).1;exact⟨vs[0],oe,vs,T,oT,ts,he,⟨hc,Array.getElem?_eq_getElem (by omega)⟩,g2,g3,hB T ⟨vs,g2,g3⟩,g5,g6,g7,g8⟩
theorem Tb.place{s:Shared}{h:Heap}{e:Addr}{fl:Value}{oe:Obj}(x:Tb s h e fl)(he:h.get? e=some oe):∃ T,s.heap.get? T=none∧∀ T',(∃ vs,oe.data=.fields vs∧vs[1]?=some (.ref T'))→T'=T:=by
 obtain⟨oe',vs,T,oT,ts,g1,g2,g3,g4,_⟩:=x;rw[he] at g1;obtain rfl:=si g1;refine⟨T,g4,fun T' ⟨vs',h1,h2⟩=>?_⟩;rw[g2] at h1;cases h1;rw[g3] at h2;cases h2;rfl
end
end Mine
namespace Mine
open PySem PyProof.Rows.TI
section
variable {prog:Program} {w:World} {mg mb:Str→Option Value} {base:Heap} {n:Nat} {hd:Bool} {l₀:List Env} {env:Env} {sc:Scope} {av₀:Addr→Prop} {s₀:Shared} {σ:aA} {av:Addr→Prop} {s:Shared}
theorem K.wide{s s':Shared}(k:K l₀ s s'):K (env::l₀) s s':=by
 obtain⟨h,t,rfl,k,u⟩:=k;refine⟨h,t,rfl,fun b o n e=>k b o (fun f=>n ?_) e,u⟩;unfold frs at f ⊢;rw[List.filterMap_cons];cases env.frame with
 |none=>exact f
 |some L=>exact List.mem_cons_of_mem _ f
theorem Nn{A:Around}{x:X}{v:Value}{s':Shared}{Q:Unit→Shared→Prop}{E:Value→Shared→Prop}(hfr:A.frames=some (env::l₀))(hf:env.frame=some env.locals)(hL:s₀.heap.get? env.locals=none)(u:Upx prog w mg base l₀ env s₀ av₀ x v s')
  (hq:∀ s'',Fly prog w mg l₀ s₀ av₀ x v s''→Q () s''):wpAny (model prog w) A (leaving env v) Q E s':=by
 obtain⟨k,ff,st,e,rfl,se,⟨na,oe,vs,C,he,hd,hc,hm⟩,ht⟩:=u;have fin:∀ {T:Addr} {h':Heap} {a0:Value},s₀.heap.get? T=none→(dO s'.heap (env::l₀) e T).StaysIn h'→s'.heap.UpToSlots h'→h'.TracedW (dO s'.heap (env::l₀) e T) e (.ref C) a0→Q () { s' with heap:=h' }:=fun sT h1 h2 h3=>by
  obtain⟨k',t',oe',vs',e1,e2,e3⟩:=rS k.wide ff se sT h1 h2 h3.at;exact hq _ ⟨K.drop hf hL (K.rf l₀ s₀) k',e,rfl,se,⟨fun x=>na (.inl x),oe',vs',C,e1,e3,e2,hm⟩,t'⟩
 rcases ht with ht | ⟨oe',vs',e1,e2,e3⟩
 ·obtain⟨T,sT,hT⟩:=ht.place he;obtain⟨a0,tr⟩:=ht.tr (B:=dO s'.heap (env::l₀) e T) he hc fun T' h=>hT T' h▸rR;exact wpAny_leaves_onW hfr hf ⟨nI,rQ,nK ff fun b f=>nJ f,tr⟩ fun h' fl up=>fin sT fl.1 up fl.2.2.2
 ·rw[he] at e1;obtain rfl:=si e1;have hs:=(Array.getElem?_eq_some_iff.mp e3).1;exact wpAny_leaving_firstW (base:=dO s'.heap (env::l₀) e e) (a0:=vs'[0]) hfr (nK ff fun b f=>nJ f) hf he nI rQ e2 e3 (Array.getElem?_eq_getElem (by exact Eh hs)) fun h' h=>fin se h.1 h.2.2.2 (hc▸h.2.2.1)
theorem No{A:Around}{x:X}{v:Value}{s':Shared}{Q:Unit→Shared→Prop}{E:Value→Shared→Prop}(hfr:A.frames=some (env::l₀))(hf:env.frame=some env.locals)(G:Gnd prog w mg mb base (env::l₀) av s)(u:Fly prog w mg (env::l₀) s av x v s')
  (hq:∀ s'',Fly prog w mg (env::l₀) s av x v s''→Q () s''):wpAny (model prog w) A (noteFrame v env) (fun _ s₂=>wpAny (model prog w) A (setFlight v none) Q E s₂) E s':=by
 obtain⟨k,e,rfl,se,⟨na,oe,vs,C,he,hd,hc,hm⟩,ht⟩:=u;have ff:=(G.k k).ff;obtain⟨T,sT,hT⟩:=ht.place he;obtain⟨a0,tr⟩:=ht.tr (B:=dO s'.heap (env::l₀) e T) he hc fun T' h=>hT T' h▸rR;refine wpAny_looks_onW hfr hf ⟨nI,rQ,nK ff fun b f=>nJ f,tr⟩ fun h' hh up=>?_;refine wpAny_landsW (s:={ s' with heap:=h' }) hh fun h'' fl up'=>?_;obtain⟨k',t',oe',vs',e1,e2,e3⟩:=rS k ff se sT fl.1 (up.trans up') fl.2.2.2.at;exact hq _ ⟨k',e,rfl,se,⟨na,oe',vs',C,e1,e3,e2,hm⟩,t'⟩
theorem Np{A:Around}{x:X}{v:Value}{s':Shared}{Q:Unit→Shared→Prop}{E:Value→Shared→Prop}(G:Gnd prog w mg mb base (env::l₀) av s)(u:Fly prog w mg (env::l₀) s av x v s')
  (hq:∀ s'',Fly prog w mg (env::l₀) s av x v s''→Q () s''):wpAny (model prog w) A (setFlight v none) Q E s':=by
 obtain⟨k,e,rfl,se,⟨na,oe,vs,C,he,hd,hc,hm⟩,ht⟩:=u;have ff:=(G.k k).ff;obtain⟨T,sT,hT⟩:=ht.place he;obtain⟨a0,tr⟩:=ht.tr (B:=dO s'.heap (env::l₀) e T) he hc fun T' h=>hT T' h▸rR;refine wpAny_setFlight_noneW (nI (l:=env::l₀) (e:=e) (T:=T)) (nK ff fun b f=>nJ f) tr fun h' h1 h2 h3 h4=>?_;obtain⟨k',t',oe',vs',e1,e2,e3⟩:=rS k ff se sT h1 (fun b o e hn=>⟨o.slots,h4 b o e hn⟩) h3.at;exact hq _ ⟨k',e,rfl,se,⟨na,oe',vs',C,e1,e3,e2,hm⟩,t'⟩
theorem Nq{ev:EV}{C:Ctx}(hK:KSound prog w mg mb base n C)(hh:C.hd=hd)(hbad:∀ σ e,bad e=true→ev σ e=.no)(h:∀ σ e,aH prog w mg mb base n hd (env::l₀) sc σ e (ev σ e)){F:Nat}{e:Expr}{pos:Pos} :
  aV prog w mg mb base n hd l₀ env sc s₀ σ (exec (.Raise (some e) none pos) env) fun _ _=>mT ev F C sc σ e:=by
 intro av₀ A s av hA X kn kr fin Q E hf hne hp hn hr he;replace hf:mT ev F C sc σ e=fin:=hf;unfold mT at hf;refine ocs (iM e) (fun hc=>?_) fun c hc=>?_
 ·try rewrite[hc]
  rw[hc] at hf;exact absurd hf.symm hne
 ·try rewrite[hc]
  obtain⟨c,as⟩:=c;rw[hc] at hf;obtain⟨p,q,rfl⟩:=xI hc;obtain⟨⟨c1,c2,c3⟩,hf⟩:=iW hf hne;have hini:C.init c=(bF c prog.main.body).map (·.2):=by rw[hK.init]
  rw[hini] at hf;refine ocs (bF c prog.main.body) (fun hcl=>?_) fun pc hcl=>?_
  ·try rewrite[hcl]
   rw[hcl] at hf;exact absurd hf.symm hne
  ·try rewrite[hcl]
   rw[hcl] at hf;obtain⟨av1,Y,hsub⟩:=X.clear (as.flatMap (esc F));obtain⟨Ca,bm,g1,g2,_⟩:=Y.inv.gnd.glo.cls c pc hcl;obtain⟨nm,qn,N,bs,hdct,sn,sub,ab,col,dd,k0,k1,k2,k3,k5,newId,hC⟩:=g2.obj;have hf:rb (evs (ev (aA.clear σ (as.flatMap (esc F)))) as) (fun vs=>match pc.2 with | some ps=>if ps.length=vs.length then .exc ⟨c,[]⟩ else .no | none=>if vs.length=1 then .exc ⟨c,[]⟩ else .no)=fin:=by
    rw[← hf];obtain⟨b0,ini⟩:=pc;cases ini<;>rfl
   refine M6 (C:=Ca) (bm:=bm) g2.exc (hA.handled (hh▸c3)) c2 (j0 Y.inv c1 g1 ⟨rfl,iS (hbad _) hA (fun e _=>h _ e) Y.inv ⟨hf,hne⟩ (fun vs s₂ us k2' r1 r2 e2=>⟨(Y.inv.gnd.k k2').stay _ _ hC,?_⟩) fun x v s' e f=>he x v s' e (Y.up f)⟩);have hlen:vs.length=us.length:=by rw[r1];exact List.length_map _
   have:xJ pc.2 vs.length∧fin=.exc ⟨c,[]⟩:=by
    revert e2
    cases pc.2 with
    |none=>exact fun e2=>by obtain⟨a,b⟩:=iW e2 hne;exact⟨hlen.trans a,b.symm⟩
    |some ps=>exact fun e2=>by obtain⟨a,b⟩:=iW e2 hne;exact⟨a.trans hlen.symm,b.symm⟩
   obtain⟨ha,hfin⟩:=this;have Y2:=Y.k k2';refine g2.make A vs s₂ E _ (by have:=hA.depth;exact Ei this) Y2.inv.gnd.stay ha fun v s₃ m=>?_;obtain⟨k3',e,dx,t,rfl,en,et⟩:=m;have nn:∀ {b:Addr},s₂.heap.get? b=none→¬ (av₀ b∨frs (env::l₀) b):=fun h x=>x.elim (Y2.newNot h).2.2.1 (Y2.newNot h).2.2.2.2;have Y3:=Y2.k (K.of k3');exact⟨e,dx,t,rfl,Y3.inv.gnd.stay _ _ hC,et,he _ _ _ hfin ⟨Y3.k0,Y3.inv.gnd.ff,Y3.inv.gnd.stay,e,rfl,(Y2.newNot en).2.2.2.1,⟨nn en,_,_,Ca,et,rfl,rfl,g1⟩,.inr ⟨_,_,et,rfl,rfl⟩⟩⟩
end
end Mine
namespace Mine
open PySem
section
variable {M:Model} {A:Around} {E:Value→Shared→Prop}
variable {nm q nm' q':Str} {C N D N':Addr} {bs bm bs' bm':List Value} {hdct hdct':Bool} {sn sn':List Str} {sub sub':List Value} {ab ab':Bool} {col col':Option Bool} {dd dd':Option Addr} {k0 k1 k2 k3 k5 k0' k1' k2' k3' k5':Option Value} {newId newId':String}
theorem Nr{h:Heap}{g:Array GenState}{d:Drawn}{t:Nat}{os:OsState}{e:Addr}{oe:Obj}{Q:Bool→Shared→Prop}
  (hC:h.get? C=some (excClassObj nm q C N bs bm hdct sn sub ab col dd k0 k1 k2 k3 k5 newId)) (hD:h.get? D=some (excClassObj nm' q' D N' bs' bm' hdct' sn' sub' ab' col' dd' k0' k1' k2' k3' k5' newId')) (he:h.get? e=some oe) (hcls:oe.cls=.ref C) (hbase:bm'.contains (.type "BaseException")=true)
  (hcD:(Value.ref C::bm).contains (.ref D)=true) (hq:Q true ⟨h,g,d,t,os⟩):wpAny M A (excMatches (.ref e) (.ref D)) Q E ⟨h,g,d,t,os⟩:=by
 have hcB:(Value.ref D::bm').contains (.type "BaseException")=true:=by rw[List.contains_cons,hbase,Bool.or_true]
 have f:=tc_notTuple;unfold excMatches
 repeat (first | (with_reducible refine wpAny_loadPart_at he ?_;rw[hcls]) | with_reducible refine wpAny_loadPart_at hD ?_ | (with_reducible refine wpAny_isSubtype_exc hD ?_;rw[hcB]) | (with_reducible refine wpAny_isSubtype_exc hC ?_;rw[hcD]) | wp_step)
 exact hq
theorem Nt{base:Heap}{s:Shared}{C D e:Addr}{bm bm':List Value}{oe:Obj}{Q:Bool→Shared→Prop}(c2:ClsObj base C bm)(d2:ClsObj base D bm')(st:∀ a o,base.get? a=some o→s.heap.get? a=some o)
  (he:s.heap.get? e=some oe) (hcls:oe.cls=.ref C) (hbase:bm'.contains (.type "BaseException")=true) (hcD:(Value.ref C::bm).contains (.ref D)=true) (hq:Q true s):wpAny M A (excMatches (.ref e) (.ref D)) Q E s:=by
 obtain⟨_,_,_,_,_,_,_,_,_,_,_,_,_,_,_,_,hC⟩:=c2;obtain⟨_,_,_,_,_,_,_,_,_,_,_,_,_,_,_,_,hD⟩:=d2;exact Nr (st _ _ hC) (st _ _ hD) he hcls hbase hcD hq
end
section
variable {prog:Program} {w:World} {mg mb:Str→Option Value} {base:Heap} {n:Nat} {hd:Bool} {l₀:List Env} {env:Env} {sc:Scope} {av₀:Addr→Prop} {s₀:Shared} {σ:aA} {av:Addr→Prop} {s:Shared}
theorem Room.mark{l:List Env}{A:Around}(h:Room n hd l A)(e:Option Value):Room n true l (A.mark e):=⟨h.depth,h.units,nofun,h.guards,h.frames⟩
theorem Nu{b:List Stmt}{e:Expr}(h:jV b=some e):∃ pos,b=[.Return (some e) pos]:=by
 cases b with
 |nil=>exact ns h
 |cons s r =>
  cases r with
  |cons=>exact ns h
  |nil =>
   cases s with
   |Return o pos=>cases o with
    |none=>exact ns h
    |some e'=>obtain rfl:=si h;exact⟨pos,rfl⟩
   |_=>exact ns h
theorem Nv{hs:List ExceptHandler}{c:Str×Option Str×Expr}(h:mU hs=some c):∃ p pos pos2,hs=[.ExceptHandler (some (.Name c.1 p)) c.2.1 [.Return (some c.2.2) pos2] pos]:=by
 cases hs with
 |nil=>exact ns h
 |cons hh r =>
  cases r with
  |cons=>exact ns h
  |nil =>
   obtain⟨t,x,b,pos⟩:=hh;cases t with
   |none=>exact ns h
   |some t =>
    replace h:(match bI t with | some c=>(match jV b with | some e=>some (c,x,e) | none=>none) | none=>none)=some c:=h;refine ocs (bI t) (fun hn=>?_) fun y hn=>?_
    ·try rewrite[hn]
     rw[hn] at h;exact ns h
    ·try rewrite[hn]
     rw[hn] at h;replace h:(match jV b with | some e=>some (y,x,e) | none=>none)=some c:=h;refine ocs (jV b) (fun hr=>?_) fun e hr=>?_
     ·try rewrite[hr]
      rw[hr] at h;exact ns h
     ·try rewrite[hr]
      rw[hr] at h;obtain rfl:=si h;obtain⟨p,rfl⟩:=dU hn;obtain⟨pos2,rfl⟩:=Nu hr;exact⟨p,pos,pos2,rfl⟩
theorem bB.same{s:Shared}{h h':Heap}{av:Addr→Prop}{L:Addr}{v:Value}{u:V}(hL:av L)(hlt:∃ o,s.heap.get? L=some o)(hs:Heap.SameBut L h h')(r:bB prog w s h av v u):bB prog w s h' av v u:=by
 have hk:∀ b o,¬ av b→h.get? b=some o→h'.get? b=some o:=fun b o n e=>(hs.2 b fun x=>n (x▸hL)).trans e;cases u with
 |ex x=>exact r
 |fz d=>exact(show Rep prog w h av v d from r).mono hk fun _ _ _ x=>x
 |own d =>
  obtain⟨a,e,hn,rb⟩:=r;refine⟨a,e,hn,rb.mono (fun b o n e=>hk b o (fun x=>n (.inl x)) e) (fun _ _ _ x=>x) fun o e=>(hs.2 a fun x=>?_).trans e⟩;obtain⟨o,ho⟩:=hlt;simp only[x,ho] at hn;exact sn hn
theorem Nw{ev':EV}(h':∀ σ e,aH prog w mg mb base n true (env::l₀) sc σ e (ev' σ e)){F:Nat}{e':Expr}{c z:Str}{p pos2 pos3:Pos}{A:Around}{Q:Flow→Shared→Prop}{E:Value→Shared→Prop}{y:X}{v:Value}{s':Shared}{pd pc:Str×Option (List Str)}{v0:Option V}{u:V}
  (hA:Room n hd (env::l₀) A) (Y:Act prog w mg mb base l₀ env sc av₀ s₀ σ av s) (hg:isG sc c=true) (hcd:bF c prog.main.body=some pd) (hcc:bF y.cls prog.main.body=some pc) (hsb:fZ prog.main.body 4 y.cls c=true)
  (hz:sc.names.lookup z=some .local) (hg0:σ.get z=some v0) (hu:ev' (aA.clear (σ.set z (.ex y)) (esc F e')) e'=.ok u) (hr:∀ v s',K l₀ s₀ s'→bB prog w s₀ s'.heap av₀ v u→Q (.ret v) s') (fly:Fly prog w mg (env::l₀) s av y v s') :
  wpAny (model prog w) A (noteFrame v env) (fun _ s₂=>wpAny (model prog w) A (setFlight v none) (fun _ s₃=>wpAny (model prog w) A (handleBy v env [.ExceptHandler (some (.Name c p)) (some z) [.Return (some e') pos2] pos3]) Q E s₃) E s₂) E s':=by
 obtain⟨D,bmD,d1,d2,_⟩:=Y.inv.gnd.glo.cls c pd hcd;obtain⟨Ca,bmC,c1,c2,c3⟩:=Y.inv.gnd.glo.cls y.cls pc hcc;have hcon:=(c3 c pd D hcd d1).trans hsb;refine No hA.frames Y.frm Y.inv.gnd fly fun s₂ fly2=>?_;obtain⟨k2',e2,rfl,se,⟨na,oe,vs,C',o1,o2,o3,o4⟩,tb⟩:=id fly2;obtain rfl:=Value.ref.inj (si (c1.symm.trans o4));have Y2:=Y.k k2';refine wpAny_handleBy_cons (codeAny_handlers_test (j0 Y2.inv hg d1 ?_)) (by intro q;cases q);refine Nt c2.obj d2.obj (fun a o h=>Y2.inv.gnd.stay _ _ h) o1 o3 d2.exc hcon ?_;clear o1 o2 o3 hcon c1 c2 c3 d1 d2;refine codeAny_handlers_suite_as (Np Y.inv.gnd fly2 fun s₃ fly3=>?_);obtain⟨k3'',e3,ee,_,xa,_⟩:=id fly3;obtain rfl:=Value.ref.inj ee;refine(Y.k k3'').put hg0 (v:=.ex y) ⟨_,rfl,xa⟩ (fun _ _ q=>by cases q) fun s4 Z _ _ _=>wpAny_execs_cons (wpAny_Return_some ?_);obtain⟨av3,Y4,_⟩:=Z.clear (esc F e');refine(h' _ e').val (hA.mark _) Y4.inv hu fun v s' k r=>?_;have Y5:=Y4.k k;obtain⟨mL,hnL⟩:=Y5.ns;refine wpAny_nameGoes (Y5.loc z hz) hnL (by rw[Y5.inv.kind];rfl) fun h'' m' _ hs=>?_;obtain⟨f1,f2,_⟩:=Y5.fresh env.locals (.inl rfl);exact hr v _ (Y5.k0.on f2 fun b o hb eb=>(hs.2 b hb).trans eb) ((r.same f1 (Y4.liveMn (.inl rfl)) hs).out Y4)
theorem rT{α:Type}{l:List α}{a:α}(h:eX l=some a):l=[a]:=by
 cases l with
 |nil=>exact ns h
 |cons b r =>
  cases r with
  |nil=>rw[si h]
  |cons=>exact ns h
theorem Nx{e:Expr}(h:gN e=true):gO e=false:=by
 unfold gN at h;unfold gO;generalize vw e=v at h;cases v<;>first | rfl | cases h
noncomputable def TBS(prog:Program)(w:World)(mg mb:Str→Option Value)(base:Heap)(n:Nat)(hd:Bool)(l:List Env)(env:Env)(sc:Scope)(σ:aA)(b:Stmt)(r:R V):Prop :=
 ∀ (A:Around) (s:Shared) (av:Addr→Prop),Room n hd l A→Inv0 prog w mg mb base l env sc σ av s→∀ {k:V→R V} {fin:R V} {Q:Flow→Shared→Prop} {E:Value→Shared→Prop},Fin r k fin→(∀ s' u,K l s s'→k u=fin→Q .next s')→EH prog w mg l s av fin E→wpAny (model prog w) A (execs [b] env) Q E s
theorem Ny{l:List Env}{ev:Expr→R V}(h:∀ e,aH prog w mg mb base n hd l sc σ e (ev e))(ht:∀ e,bU prog w mg mb base n hd l sc σ e (ev e)):∀ (k:Nat) (b:Stmt),TBS prog w mg mb base n hd l env sc σ b (fJ ev k b):=by
 intro k
 induction k with
 |zero=>exact fun b A s av hA I k fin Q E hf=>hf.no.elim
 |succ k ih =>
  intro b A s av hA I j fin Q E hf hq he;refine wpAny_execs_cons ?_;cases b with
  |Expr e pos =>
   obtain⟨hc,hf⟩:=Fin.ite (show Fin (if gN e=true then ev e else .no) j fin from hf);refine wpAny_Expr_any (h e A env s av hA I hf (fun v s' u k r e=>wpAny_execs_nil (hq s' u k e)) he) (by unfold interactive;rw[I.kind];rfl) (zO (Nx hc))
  |If t b o pos =>
   replace hf:Fin (match eX b with | none=>.no | some b=>match eX o with | none=>.no | some o=>rb (tst (ev t)) fun c=>if c then fJ ev k b else fJ ev k o) j fin:=hf;refine ocs (eX b) (fun hb=>?_) fun b' hb=>?_
   ·rw[hb] at hf;exact hf.no.elim
   rw[hb] at hf;refine ocs (eX o) (fun ho=>?_) fun o' ho=>?_
   ·rw[ho] at hf;exact hf.no.elim
   rw[ho] at hf;cases rT hb;cases rT ho;replace hf:Fin (rb (tst (ev t)) fun c=>if c then fJ ev k b' else fJ ev k o') j fin:=hf;refine wpAny_If (ht t A env s av hA I hf.b (fun c s' k1 e1=>?_) he);cases c with
   |true=>exact ih b' A s' av hA (I.k k1) ⟨e1,hf.2⟩ (fun s'' u k2 e=>wpAny_execs_nil (hq s'' u (k1.tr k2) e)) (he.back k1)
   |false=>exact ih o' A s' av hA (I.k k1) ⟨e1,hf.2⟩ (fun s'' u k2 e=>wpAny_execs_nil (hq s'' u (k1.tr k2) e)) (he.back k1)
  |_=>exact hf.no.elim
theorem Nz{ev ev':EV}{C:Ctx}(hK:KSound prog w mg mb base n C)(h:∀ σ e,aH prog w mg mb base n hd (env::l₀) sc σ e (ev σ e))(ht:∀ σ e,bU prog w mg mb base n hd (env::l₀) sc σ e (ev σ e))(h':∀ σ e,aH prog w mg mb base n true (env::l₀) sc σ e (ev' σ e)){F:Nat}{b:Stmt}{e':Expr}{c:Str}{x:Option Str}{p pos pos2 pos3:Pos} :
  aV prog w mg mb base n hd l₀ env sc s₀ σ (exec (.Try [b] [.ExceptHandler (some (.Name c p)) x [.Return (some e') pos2] pos3] [] [] pos) env) fun kn kr=>mV ev ev' F C sc σ b c x e' kn kr:=by
 intro av₀ A s av hA X kn kr fin Q E hf hne hp hn hr he;obtain⟨hg,hf⟩:=iW (show(if isG sc c=true∧(C.init c).isSome=true then _ else R.no)=fin from hf) hne;obtain⟨hg,hin⟩:=hg;obtain⟨av1,Y,hsub⟩:=X.clear (σ.map (·.1));refine wpAny_Try_except ?_;have hB:=Ny (env:=env) (h (aA.clear σ (σ.map (·.1)))) (ht (aA.clear σ (σ.map (·.1)))) 3 b;cases hev:fJ (ev (aA.clear σ (σ.map (·.1)))) 3 b with
 |no=>rw[hev] at hf;exact absurd hf.symm hne
 |ok v0 =>
  rw[hev] at hf hB;exact hB A s av1 hA Y.inv (k:=R.ok) (fin:=.ok v0) ⟨rfl,nofun⟩ (fun s' u k _=>wpAny_execs_nil (hn _ _ _ (Y.k k) ((Fr.sub hsub).tr (Y.frk k)) hf)) fun x v s' e _=>by cases e
 |exc y =>
  rw[hev] at hf hB;refine hB A s av1 hA Y.inv (k:=R.ok) (fin:=R.exc y) ⟨rfl,nofun⟩ (fun s' u _ e=>by cases e) fun y' v s' ey fly=>?_;cases ey;dsimp only at hf;rw[show C.sub y.cls c=eW prog.main.body y.cls c by rw[hK.sub]] at hf;have hini:C.init c=(bF c prog.main.body).map (·.2):=by rw[hK.init]
  rw[hini] at hin;cases hcd:bF c prog.main.body with
  |none=>rw[hcd] at hin;exact bft hin
  |some pd =>
   refine ocs (bF y.cls prog.main.body) (fun hcc=>?_) fun pc hcc=>?_
   ·try rewrite[hcc]
    have:eW prog.main.body y.cls c=none:=by unfold eW;rw[hcc,Option.isSome_none,Bool.and_false];rfl
    rw[this] at hf;exact absurd hf.symm hne
   ·try rewrite[hcc]
    have hso:eW prog.main.body y.cls c=some (fZ prog.main.body 4 y.cls c):=by unfold eW;rw[hcc,hcd];rfl
    rw[hso] at hf;refine bcs (fZ prog.main.body 4 y.cls c) (fun hsb=>?_) fun hsb=>?_
    ·try rewrite[hsb]
     rw[hsb] at hf;exact absurd hf.symm hne
    ·try rewrite[hsb]
     rw[hsb] at hf;cases x with
     |some z =>
      obtain⟨hz,hf⟩:=iW (show(if sc.names.lookup z=some .local then rb (ofP (dM z (.ex y) (aA.clear σ (σ.map (·.1))))) fun σ=>rb (nx (ev' (aA.clear σ (esc F e')) e')) kr else R.no)=fin from hf) hne;obtain⟨σ1,hs1,hf⟩:=eG hf hne;obtain⟨v0,hg0,rfl⟩:=gX hs1;obtain⟨u,hu,hf⟩:=Fin.nx ⟨hf,hne⟩;exact Nw h' hA Y hg hcd hcc hsb hz hg0 hu (fun v s' k r=>hr v s' u k r hf) fly
     |none=>exact absurd (show R.no=fin from hf).symm hne
end
end Mine
namespace Mine
open PySem
theorem z4{kindOf:Str→Option NameKind}:∀ {ps:List Str} {vs:List Value} {m:Str→Option Value} {x:Str},x∉ps→bindC kindOf (ps.zip vs) m x=m x
 | [],_,_,_,_=>rfl
 |_::_,[],_,_,_=>rfl
 |p::ps,v::vs,m,x,h=>by
  show bindC kindOf (ps.zip vs) _ x=m x;simp at h;rw[z4 h.2]
  split
  ·rfl
  ·exact if_neg h.1
theorem z5{kindOf:Str→Option NameKind}:∀ {ps:List Str} {vs:List Value} {m:Str→Option Value} {x:Str} {v:Value} {i:Nat},ps.Nodup→ps[i]?=some x→vs[i]?=some v→kindOf x≠some .local→bindC kindOf (ps.zip vs) m x=some v
 | [],_,_,_,_,_,_,h,_,_=>by simp at h
 |_::_,[],_,_,_,_,_,_,h,_=>by simp at h
 |p::ps,u::vs,m,x,v,i,hn,h1,h2,hk=>by
  show bindC kindOf (ps.zip vs) _ x=some v;obtain⟨n1,n2⟩:=List.nodup_cons.mp hn;cases i with
  |zero =>
   simp at h1 h2;subst h1;subst h2;rw[z4 n1,if_neg hk];exact if_pos rfl
  |succ i=>exact z5 n2 (by simpa using h1) (by simpa using h2) hk
theorem N0:∀ (names:List (Str×NameKind)) (k:Nat) (acc:List (Str×Addr)) (x:Str),(acc.lookup x).isSome=true→((cellsFrom k names acc).lookup x).isSome=true:=by
 intro v0
 induction v0 with
 |nil =>
  intro _ _ _ h;exact h
 |cons pp r ih =>
  obtain⟨y,kd⟩:=pp;intro k acc x h;unfold cellsFrom
  split
  ·refine ih _ _ x ?_;simp only[List.lookup_cons]
   split
   ·rfl
   ·exact h
  ·exact ih _ _ x h
theorem nL:∀ (names:List (Str×NameKind)) (k:Nat) (acc:List (Str×Addr)) (x:Str),(x,NameKind.cell)∈names→((cellsFrom k names acc).lookup x).isSome=true
 | (y,kd)::r,k,acc,x,h=>by
  unfold cellsFrom;rcases List.mem_cons.mp h with e | h
  ·cases e;rw[if_pos (by rfl)];refine N0 r _ _ _ ?_;simp only[List.lookup_cons];simp
  ·split
   ·exact nL r _ _ x h
   ·exact nL r _ _ x h
theorem rU{ps:List Str}{us:List V}:∀ {names:List (Str×NameKind)} {x:Str} {v:Option V},aA.get (dT ps us names) x=some v→v=(ps.zip us).lookup x∧((x,NameKind.local)∈names∨(x,NameKind.cell)∈names):=by
 intro v0
 induction v0 with
 |nil =>
  intro _ _ h;exact ns h
 |cons pp r ih =>
  obtain⟨y,k⟩:=pp;intro x v h;have step:∀ {k'},(k'=NameKind.local∨k'=NameKind.cell)→aA.get ((y,(ps.zip us).lookup y)::dT ps us r) x=some v→v=(ps.zip us).lookup x∧((x,NameKind.local)∈(y,k')::r∨(x,NameKind.cell)∈(y,k')::r):=fun hk' h=>by
   by_cases hxy:x=y
   ·subst hxy;rw[aA.get_cons_eq] at h;obtain rfl:=si h;refine⟨rfl,?_⟩;rcases hk' with rfl | rfl
    ·exact .inl List.mem_cons_self
    ·exact .inr List.mem_cons_self
   ·rw[aA.get_cons_ne hxy] at h;obtain⟨h1,h2⟩:=ih h;exact⟨h1,h2.imp (List.mem_cons_of_mem _) (List.mem_cons_of_mem _)⟩
  have skip:∀ {k'},aA.get (dT ps us r) x=some v→v=(ps.zip us).lookup x∧((x,NameKind.local)∈(y,k')::r∨(x,NameKind.cell)∈(y,k')::r):=fun h=>by
   obtain⟨h1,h2⟩:=ih h;exact⟨h1,h2.imp (List.mem_cons_of_mem _) (List.mem_cons_of_mem _)⟩
  cases k with
  | «local»=>exact step (.inl rfl) h
  |cell=>exact step (.inr rfl) h
  |_=>exact skip h
theorem rV:∀ {l:List Str},iP l=true→l.Nodup:=by
 intro v0
 induction v0 with
 |nil =>
  intro _;exact List.nodup_nil
 |cons x r ih =>
  intro h;have h:(!r.contains x&&iP r)=true:=h;simp only[Bool.and_eq_true,Bool.not_eq_true',Bool.eq_false_iff] at h;exact List.nodup_cons.mpr ⟨by simpa using h.1,ih h.2⟩
theorem kC{α:Type}:∀ {l:List (Str×α)} {x:Str} {k:α},(l.map (·.1)).Nodup→(x,k)∈l→l.lookup x=some k
 | (y,d)::r,x,k,hn,h=>by
  obtain⟨n1,n2⟩:=List.nodup_cons.mp (show(y::r.map (·.1)).Nodup from hn);rcases List.mem_cons.mp h with e | h
  ·cases e;simp[List.lookup]
  ·have hne:(x==y)=false:=by
    rw[beq_eq_false_iff_ne];intro e;exact n1 (by rw[← e];exact List.mem_map.mpr ⟨(x,k),h,rfl⟩)
   rw[List.lookup_cons,hne];exact kC n2 h
structure FnOk(a:Arguments)(sc:Scope):Prop where
 params:∃ kwd dfl,a=⟨[],a.args,none,[],kwd,none,dfl⟩
 kind:sc.kind=.function
 gen:sc.isGenerator=false
 cor:sc.isCoroutine=false
 nodup:(sc.names.map (·.1)).Nodup
 anodup:(a.args.map (·.arg)).Nodup
 nofree:∀ p∈sc.names,p.2≠.free
 akind:∀ x∈a.args,sc.names.lookup x.arg=some .local∨sc.names.lookup x.arg=some .cell
 dbg:sc.names.lookup (Str.ofString "__debug__")=none
 cld:sc.names.lookup (Str.ofString "__classdict__")=none
theorem N1{a:Arguments}{sc:Scope}(h:mW a sc=true):FnOk a sc:=by
 unfold mW at h;simp only[Bool.and_eq_true] at h;obtain⟨⟨⟨⟨⟨⟨⟨⟨⟨⟨⟨⟨⟨⟨h1,h2⟩,h3⟩,h4⟩,h5⟩,h6⟩,h7⟩,h8⟩,h9⟩,h10⟩,h11⟩,h12⟩,h13⟩,h14⟩,h15⟩:=h;refine⟨?_,by simpa using h7,by simpa using h8,by simpa using h9,rV h10,rV h11,fun p hp=>by simpa using List.all_eq_true.mp h12 p hp,fun x hx=>?_,by simpa using h14,by simpa using h15⟩
 ·obtain⟨po,as,va,ko,kd,kw,df⟩:=a;simp only[List.isEmpty_iff,Option.isNone_iff_eq_none] at h1 h2 h3 h4;subst h1;subst h2;subst h3;subst h4;exact⟨kd,df,rfl⟩
 ·have:=List.all_eq_true.mp h13 x hx
  split at this
  ·rename_i e;exact .inl e
  ·rename_i e;exact .inr e
  ·exact bft this
section
variable {prog:Program} {w:World} {mg mb:Str→Option Value} {base:Heap} {l:List Env}
theorem N2{s s₁:Shared}{av:Addr→Prop}{a:Arguments}{b:List Stmt}{sc:Scope}{f:Str}{pm cd doc:Value}{ad:Addr}{vs:List Value}{us:List V}{env:Env}(hE:env=callEnvC (Calls.docDef f a b sc pm cd doc) s.heap.objs.size ad)(G:Gnd prog w mg mb base l av s)
  (hargs:fM (CA prog w mg l av) s vs us) (hok:FnOk a sc) (hin:InCallC s env.locals (bindL env.kindOf ((a.args.map (·.arg)).zip vs) fun _=>none) env.cells (bindC env.kindOf ((a.args.map (·.arg)).zip vs) fun _=>none) s₁) :
  ∃ av1,Act prog w mg mb base l env sc av s (dT (a.args.map (·.arg)) us sc.names) av1 s₁:=by
 have hkind:∀ x,env.kindOf x=sc.names.lookup x:=fun _=>by rw[hE];rfl
 have hL:env.locals=s.heap.objs.size:=by rw[hE];rfl
 have hcells:env.cells=cellsFrom (s.heap.objs.size+1) sc.names []:=by rw[hE];rfl
 have ek:env.scope.kind=.function:=by rw[hE];exact hok.kind
 have eg:env.globals=mainGlobals:=by rw[hE];rfl
 have eb:env.builtins=builtinsNs:=by rw[hE];rfl
 have hfrm:env.frame=some env.locals:=by rw[hE];rfl
 clear hE;have dead:∀ b,Mn env b→s.heap.get? b=none:=fun b h=>by
  rcases h with h | ⟨x,h⟩
  ·rw[h,hL];exact bT _
  ·exact Heap.get?_none_of_le (by
    have:=hin.above x b (eZ h);rw[hL] at this;exact Nat.le_of_lt this)
 have notav:∀ b,Mn env b→¬ av b:=fun b h x=>by obtain⟨o,e⟩:=G.avlt b x;rw[dead b h] at e;exact ns e
 have neL:∀ x c,env.cells.lookup x=some c→c≠env.locals:=fun x c e=>Nat.ne_of_gt (hin.above x c (eZ e));have notown:∀ x d,aA.get (dT (a.args.map (·.arg)) us sc.names) x≠some (some (.own d)):=fun x d h=>by
  obtain⟨h1,_⟩:=rU h;obtain⟨i,_,h3⟩:=rN h1.symm;have hlt':i < vs.length:=by
   have:=(List.getElem?_eq_some_iff.mp h3).1;rw[hargs.len];exact this
  exact(hargs.at i _ _ (List.getElem?_eq_getElem hlt') h3).2 d rfl
 have cellOfName:∀ x,sc.names.lookup x=some .cell→∃ c,env.cells.lookup x=some c:=fun x hx=>by
  have:=nL sc.names (s.heap.objs.size+1) [] x (eZ hx);rw[← hcells] at this;exact Option.isSome_iff_exists.mp this
 have keep:=hin.toInCall.keep;have k0:Kp s s₁:=by obtain⟨h,t,e⟩:=hin.toInCall.same;subst e;exact⟨h,t,rfl,keep⟩
 have back:∀ b o,s.heap.get? b=some o→(av b∨Mn env b)→av b:=fun b o e h=>h.elim id fun h=>by rw[dead b h] at e;exact ns e
 have bfr:base.get? env.locals=none:=by
  refine ocs (base.get? env.locals) (fun e=>?_) fun o e=>?_
  ·try rewrite[e]
   rfl
  ·try rewrite[e]
   have:=G.stay _ _ e;rw[dead _ (.inl rfl)] at this;exact ns this
 obtain⟨oL,esL,epL,e1,e2,e3⟩:=id hin.toInCall.ns;have noO:∀ {P:Prop} x a',b8 env (dT (a.args.map (·.arg)) us sc.names) s₁.heap x a'→P:=fun x a' ⟨⟨d,e⟩,_⟩=>absurd e (notown x d);have frb:∀ b,frs l b→av b∧∃ o,s.heap.get? b=some o:=fun b h=>⟨G.fav b h,by obtain⟨_,o,e,_⟩:=G.ff.mem h;exact⟨o,e⟩⟩
 refine⟨fun b=>av b∨Mn env b,{ inv:=?_,stay0:=G.stay,frm:=hfrm,fr0:=fun b h=>frb b h,k0:=K.of k0,bas:=fun b h=>Or.inl h,ns:=⟨_,hin.toInCall.ns⟩,cells:=fun x c e=>⟨neL x c e,_,hin.cell x c e⟩,fresh:=fun b h=>⟨.inr h,dead b h,notav b h⟩,capart:=fun x y c hx hy=>name_of_addr hin.apart (eZ hx) (eZ hy),names:=fun x v h=>?_,ownA:=fun x a h=>noO x a h,ownI:=fun x y a h=>noO x a h,loc:=fun x h=>(hkind x).trans h }⟩
 ·refine { gnd:={ G.k (K.of k0) with ff:=⟨by rw[ek];nofun,⟨env.locals,oL,hfrm,bfr,e1,fun vs q=>by rw[e2] at q;cases q⟩,(G.k (K.of k0)).ff⟩,fav:=fun b h=>((j9 hfrm).mp h).elim (fun h=>.inr (.inl h)) fun h=>.inl (G.fav b h),avlt:=fun b h=>?_,avS:=.inl G.avS },kind:=ek,eg:=eg,eb:=eb,dbg:=hok.dbg,cld:=hok.cld,glob:=fun x hx=>?_,kinds:=fun x hx=>?_,get:=fun x v hl hg=>?_ }
  ·rcases h with h | h | ⟨x,h⟩
   ·exact(G.k (K.of k0)).avlt b h
   ·exact⟨oL,h▸e1⟩
   ·obtain⟨o,e,_⟩:=hin.cell x b h;exact⟨o,e⟩
  ·unfold isG at hx;rw[hkind];exact eq_of_beq hx
  ·rw[hkind];refine⟨hx,?_⟩;refine ocs (sc.names.lookup x) (fun hk=>?_) fun k hk=>?_
   ·try rewrite[hk]
    rw[hk] at hx;exact bft hx
   ·try rewrite[hk]
    rw[hk] at hx;cases k with
    |cell=>exact cellOfName x hk
    |free=>exact absurd rfl (hok.nofree _ (eZ hk))
    |_=>exact bft hx
  ·obtain⟨h1,h2⟩:=rU hg;obtain⟨i,h3,h4⟩:=rN h1.symm;have hlt':i < vs.length:=by
    have:=(List.getElem?_eq_some_iff.mp h4).1;rw[hargs.len];exact this
   have h5:=List.getElem?_eq_getElem hlt';obtain⟨r,hno⟩:=hargs.at i _ _ h5 h4;refine⟨vs[i],?_,?_⟩
   ·rcases h2 with h2 | h2
    ·have hk:=kC hok.nodup h2;exact .inl ⟨by rw[hkind];exact hk,_,hin.toInCall.ns,rP hok.anodup h3 h5 (by rw[hkind];exact hk)⟩
    ·have hk:=kC hok.nodup h2;obtain⟨c,hc⟩:=cellOfName x hk;refine .inr ⟨.inl (by rw[hkind];exact hk),c,hc,?_⟩;have:=hin.cell x c hc
     rwa [z5 hok.anodup h3 h5 (by rw[hkind,hk];intro e;cases e)] at this
   ·cases v with
    |fz d=>exact(show Rep prog w s.heap av _ d from r).mono (fun b o _ e=>keep b o e) back
    |own d=>exact absurd rfl (hno d)
    |ex x=>obtain⟨e,h,r⟩:=r;exact⟨e,h,r.mono (fun b o _ e=>keep b o e) back⟩
 ·obtain⟨_,h2⟩:=rU h;rcases h2 with h2 | h2
  ·have hk:=kC hok.nodup h2;exact⟨by unfold isL;rw[hk],.inl (by rw[hkind];exact hk)⟩
  ·have hk:=kC hok.nodup h2;exact⟨by unfold isL;rw[hk],.inr ⟨by rw[hkind];exact hk,cellOfName x hk⟩⟩
end
end Mine
namespace Mine
open PySem
section
variable {prog:Program} {w:World} {mg mb:Str→Option Value} {base:Heap} {n:Nat} {hd:Bool} {l₀:List Env} {env:Env} {sc:Scope} {s₀:Shared}
theorem z6{C:Ctx}{k:Nat}{sc:Scope}{σ:aA}{e:Expr}(h:bad e=true):evE C k sc σ e=.no:=by
 cases k with
 |zero=>rfl
 |succ k=>exact zJ h
theorem N3{C C':Ctx}(hK:KSound prog w mg mb base n C)(hK':KSound prog w mg mb base n C')(hc':C'.hd=true){F k:Nat}{rec:Stmt→aA→KN→KR→R V}(ih:∀ σ st,aV prog w mg mb base n C.hd l₀ env sc s₀ σ (exec st env) (rec st σ))(σ:aA)(st:Stmt) :
  aV prog w mg mb base n C.hd l₀ env sc s₀ σ (exec st env) (xA (evE C (k+1) sc) (evE C' (k+1) sc) F C sc rec st σ):=by
 have h:∀ σ e,aH prog w mg mb base n C.hd (env::l₀) sc σ e (evE C (k+1) sc σ e):=fun σ e=>(j8 hK (k+1) sc σ e).1;have h':∀ σ e,aH prog w mg mb base n true (env::l₀) sc σ e (evE C' (k+1) sc σ e):=fun σ e=>hc'▸(j8 hK' (k+1) sc σ e).1;have hbad:∀ σ e,bad e=true→evE C (k+1) sc σ e=.no:=fun σ e hb=>z6 hb;cases st with
 |Return o pos =>
  cases o with
  |none=>exact fun av₀ A s av hA X _ _ _ _ _ hf hne hp hn hr he=>wpAny_Return_none (hr _ _ (.fz .none) X.k0 .none hf)
  |some e=>exact L7 fun σ=>h σ e
 |Assign ts e pos =>
  cases ts with
  |nil=>exact aV.no
  |cons t r =>
   cases r with
   |nil=>exact M0 (rec:=evE C k) (fun _ _ _ hb=>z6 hb) rfl (fun sc σ e=>j8 hK k sc σ e) h
   |cons=>exact aV.no
 |Expr e pos=>exact M1 hbad h
 |If t b o pos=>exact L9 (j8 hK (k+1) sc _ t).2 (kA fun st _ σ=>ih σ st) (kA fun st _ σ=>ih σ st)
 |For t it b o pos =>
  cases o with
  |nil=>exact M4 hbad h fun σ=>kA fun st _ σ=>ih σ st
  |cons=>exact aV.no
 |Raise o c pos =>
  cases o with
  |none=>exact aV.no
  |some e =>
   cases c with
   |none=>exact Nq hK rfl hbad h
   |some=>exact aV.no
 |Try b hs o f pos =>
  cases o with
  |cons=>exact aV.no
  |nil =>
   cases f with
   |cons=>exact aV.no
   |nil =>
    show aV prog w mg mb base n C.hd l₀ env sc s₀ σ _ fun kn kr=>match eX b with
     |some e=>(match mU hs with | some (c,x,e')=>if C.hd then .no else mV (evE C (k+1) sc) (evE C' (k+1) sc) F C sc σ e c x e' kn kr | none=>.no)
     |none=>.no
    cases hr:eX b with
    |none=>exact aV.no
    |some e =>
     cases hcl:mU hs with
     |none=>exact aV.no
     |some c =>
      obtain rfl:=rT hr;obtain⟨p,pos3,pos2,rfl⟩:=Nv hcl;obtain⟨c,x,e'⟩:=c;show aV prog w mg mb base n C.hd l₀ env sc s₀ σ _ fun kn kr=>if C.hd then .no else mV (evE C (k+1) sc) (evE C' (k+1) sc) F C sc σ e c x e' kn kr;cases hh:C.hd with
      |true=>exact aV.no
      |false=>exact Nz hK (fun σ e=>hh▸h σ e) (fun σ e=>hh▸(j8 hK (k+1) sc σ e).2) h'
 |Pass pos=>exact fun av₀ A s av hA X _ _ _ _ _ hf hne hp hn hr he=>wpAny_Pass (hn _ _ _ X (Fr.rf _ s av) hf)
 |_=>exact aV.no
theorem N4{C C':Ctx}(hK:KSound prog w mg mb base n C)(hK':KSound prog w mg mb base n C')(hc':C'.hd=true){F j:Nat}:∀ (k:Nat) (σ:aA) (st:Stmt),aV prog w mg mb base n C.hd l₀ env sc s₀ σ (exec st env) (evS (evE C (j+1) sc) (evE C' (j+1) sc) F C sc k st σ):=by
 intro v0
 induction v0 with
 |zero =>
  intro _ _;exact aV.no
 |succ k ih =>
  intro σ st;exact N3 hK hK' hc' (fun σ st=>ih σ st) σ st
theorem Room.deeper{l:List Env}{A:Around}(h:Room (n+1) hd l A)(env:Env):Room n hd (env::l) (A.deeper env) where
 depth:=by have:=h.depth;show A.depth+1+n+1 < _;exact Ej this
 units:=by have:=h.units;show A.units+3+16*n+300 < _;exact Ek this
 handled:=h.handled
 guards:=h.guards
 frames:=Around.frames_deeper h.frames
theorem rW(f:Str)(h:(dL f prog.main.body).isSome=true):∃ a b sc,dL f prog.main.body=some (a,b,sc):=by
 obtain⟨⟨a,b,sc⟩,e⟩:=Option.isSome_iff_exists.mp h;exact⟨a,b,sc,e⟩
theorem z7:∀ n hd,KSound prog w mg mb base n (eE prog.main.body (run prog.main.body n hd) hd)
 |0,hd=>⟨rfl,rfl,rfl,rW,fun f us ad hf hh A l s av vs hA G hargs β k fin Q E hfin hq he=>hfin.no.elim⟩
 |n+1,hd=>by
  refine⟨rfl,rfl,rfl,rW,fun f us ad hf hh A l s av vs hA G hargs β k fin Q E hfin hq he=>?_⟩;obtain⟨a,b,sc,e⟩:=rW f hh;have ih:=z7 n;replace hfin:Fin (match dL f prog.main.body with
   |none=>.no
   |some (a,b,sc) =>
    if a.args.length=us.length∧mW a sc=true then
     blk (evS (evE (eE prog.main.body (run prog.main.body n hd) hd) dN sc) (evE (eE prog.main.body (run prog.main.body n true) true) dN sc) dN (eE prog.main.body (run prog.main.body n hd) hd) sc dN) b (dT (a.args.map (·.arg)) us sc.names) (fun _=>.ok (.fz .none)) .ok
    else .no) k fin:=hfin
  rw[e] at hfin;obtain⟨⟨hlen,hfn⟩,hfin⟩:=Fin.ite hfin;have hok:=N1 hfn;obtain⟨ad',o,pm,cd,doc,g1,g2,g3,g4⟩:=G.glo.fn f a b sc e;rw[hf] at g1;cases g1;obtain⟨kwd,dfl,hpar⟩:=hok.params;refine wpAny_call (codeAny_call_cells (binds:=(a.args.map (·.arg)).zip vs) (by have:=hA.depth;exact El this) (G.stay _ _ g2) g3 (G.glo.nolimit.keeps G.stay) (g4.keeps G.stay) rfl (zW hpar rfl (by rw[hlen,hargs.len]) hok.anodup) rfl (fun x hx=>?_) (fun s₁ hin=>?_) hok.cor hok.gen hok.kind)
  ·obtain⟨ar,har,e⟩:=List.mem_map.mp (List.of_mem_zip hx).1;show sc.names.lookup x.1=_∨_;rw[← e];rcases hok.akind ar har with h | h
   ·exact .inl h
   ·exact .inr ⟨h,nL _ _ _ _ (eZ h)⟩
  ·obtain⟨av1,X⟩:=N2 rfl G hargs hok hin;have B:=kA (b:=b) (σ:=dT (a.args.map (·.arg)) us sc.names) (fun st _ σ=>N4 (l₀:=l) (env:=callEnvC (Calls.docDef f a b sc pm cd doc) s.heap.objs.size ad) (sc:=sc) (s₀:=s) (F:=dN) (j:=23) (ih hd) (ih true) rfl dN σ st);refine B av _ s₁ av1 (hA.deeper _) X rfl hfin.ne PassesOwn.leaving (fun s' σ' av' Z _ e1=>?_) (fun v s' u k1 r e1=>?_) fun x v s' e1 u=>?_
   ·exact hq _ _ (.fz .none) Z.k0 .none ((e1▸hfin:Fin (.ok (.fz .none)) k fin).ok)
   ·exact hq _ _ u k1 r ((e1▸hfin:Fin (.ok u) k fin).ok)
   ·refine Nn (Around.frames_deeper hA.frames) X.frm (X.fresh _ (.inl rfl)).2.1 u fun s'' fl=>he x _ _ ?_ fl;exact((e1▸hfin:Fin (.exc x) k fin).1).symm
end
end Mine
namespace Mine
open PySem
theorem z8{h:Heap}{l:List Str}:∀ {bS:List Str},m7 h l bS=true→TailN h bmV l (jW h bS):=by
 intro v0
 induction v0 with
 |nil =>
  intro _;exact .base
 |cons n r ih =>
  intro e;obtain⟨e1,e2⟩:=Bool.and_eq_true_iff.mp (show((match h.clsAt mainGlobals n with | some x=>h.isNs x.2.2.ns&&mZ h x.2.2.ns l | none=>false)&&m7 h l r)=true from e);refine ocs (h.clsAt mainGlobals n) (fun hc=>?_) fun x hc=>?_
  ·try rewrite[hc]
   simp only[hc] at e1;exact bft e1
  ·try rewrite[hc]
   obtain⟨a,o,cd⟩:=x;simp only[hc] at e1;obtain⟨h1,h2,h3⟩:=Heap.clsAt_spec hc;obtain⟨f1,f2⟩:=Bool.and_eq_true_iff.mp e1;obtain⟨oc,dd,dt,sl⟩:=o;obtain rfl:dt=.cls cd:=h3;show TailN h bmV l (qL h n::jW h r);unfold qL;simp only[h1];exact .own h2 (.of_isNs f1) (fun n hn=>Option.isNone_iff_eq_none.mp (List.all_eq_true.mp f2 n hn)) (ih e2)
theorem N5{fd:FuncData}{ps:List Str}(h:qM fd ps=true):∃ sf,InitF fd sf ps:=by
 unfold qM at h;cases ha:fd.params.args with
 |nil=>rw[ha] at h;exact bft h
 |cons a r =>
  rw[ha] at h;simp only[Bool.and_eq_true,decide_eq_true_eq,Bool.not_eq_true',List.isEmpty_iff,Option.isNone_iff_eq_none] at h;obtain⟨⟨⟨⟨⟨⟨⟨⟨⟨⟨⟨⟨⟨h1,h2⟩,h3⟩,h4⟩,h5⟩,h6⟩,h7⟩,h8⟩,h9⟩,h10⟩,h11⟩,h12⟩,h13⟩,h14⟩:=h;refine⟨a.arg,?_,?_,h7,h8,h9,h10,h11,rV h12,fun x hx=>?_,h14⟩
  ·refine⟨fd.params.args,fd.params.kw_defaults,fd.params.defaults,?_,?_⟩
   ·clear ha h5 h6;revert h1 h2 h3 h4;generalize fd.params=pr;obtain⟨po,as,va,ko,kd,kw,df⟩:=pr;intro h4 h3 h1 h2;obtain rfl:po=[]:=h1;obtain rfl:va=none:=h2;obtain rfl:ko=[]:=h3;obtain rfl:kw=none:=h4;rfl
   ·rw[ha,← h5];rfl
  ·revert h6
   cases fd.body with
   |stmts b=>exact fun h6=>⟨b,rfl,of_decide_eq_true h6⟩
   |_=>exact fun h6=>by exact bft h6
  ·have:=List.all_eq_true.mp h13 x hx;simp only[Bool.and_eq_true,decide_eq_true_eq,Bool.not_eq_true'] at this;exact this
noncomputable def kD(h:Heap)(C:Addr)(bm:List Value):Option (List Str)→Prop
 |some ps=>(∀ p∈ps,typeLookup (.type "ValueError") p=pure none)→ClsI h C bm ps
 |none=>ClsP h C bm
theorem N6{h:Heap}{bS:List Str}{ini:Option (List Str)}{c:Str}{x:Addr×Obj×ClassData}(hx:h.clsAt mainGlobals c=some x)(e:m8 h bS ini x=true):kD h x.1 (jW h bS) ini:=by
 obtain⟨C,o,cd⟩:=x;obtain⟨h1,h2,h3⟩:=Heap.clsAt_spec hx;obtain⟨oc,dd,dt,sl⟩:=o;obtain⟨nm,bs,mro,N,q,hdct,sn,sub,ab,col,hdel⟩:=cd;unfold m8 at e;simp only[Bool.and_eq_true,decide_eq_true_eq,Bool.not_eq_true'] at e;obtain⟨⟨⟨⟨⟨⟨hcls,hmro⟩,hdl⟩,hsz⟩,hmk⟩,hns⟩,hin⟩:=e;obtain⟨l⟩:=sl;obtain⟨k0,k1,k2,k3,k5,rfl⟩:=six_places (l:=l) (by simpa using hsz) (by simpa using hmk);obtain rfl:oc=.type "type" := hcls;obtain rfl:dt=_:=h3;obtain rfl:hdel=false:=hdl;subst hmro;cases ini with
 |none =>
  obtain⟨i1,i2⟩:=Bool.and_eq_true_iff.mp hin;obtain⟨i1,i3⟩:=Bool.and_eq_true_iff.mp i1;exact⟨N,nm,q,bs,hdct,sn,sub,ab,col,dd,k0,k1,k2,k3,k5,_,h2,.of_isNs hns,Option.isNone_iff_eq_none.mp i1,fun n hn=>Option.isNone_iff_eq_none.mp (List.all_eq_true.mp i3 n hn),z8 i2⟩
 |some ps =>
  unfold xB at hin;simp only[Bool.and_eq_true] at hin;obtain⟨⟨⟨i1,i2⟩,i3⟩,i4⟩:=hin;obtain rfl:hdct=true:=i1
  revert i2
  cases hi:h.nsMap N "__init__" with
  |none=>exact fun i2=>by exact bft i2
  |some v =>
   cases v with
   |ref fI =>
    intro i2;replace i2:(h.get? fI).any (qN h ps)=true:=i2;refine ocs (h.get? fI) (fun ho=>?_) fun oI ho=>?_
    ·try rewrite[ho]
     rw[ho] at i2;exact bft i2
    ·try rewrite[ho]
     rw[ho] at i2;obtain⟨j1,j2⟩:=Bool.and_eq_true_iff.mp (show qN h ps oI=true from i2)
     revert j2
     cases hd:oI.data with
     |func fd =>
      intro j2;obtain⟨j2,j3⟩:=Bool.and_eq_true_iff.mp j2;obtain⟨sf,I⟩:=N5 j3;exact fun hB=>⟨N,nm,q,bs,sn,sub,ab,col,dd,k0,k1,k2,k3,k5,_,fI,oI,fd,sf,h2,.of_isNs hns,hi,fun n hn=>Option.isNone_iff_eq_none.mp (List.all_eq_true.mp i3 n hn),z8 i4,ho,of_decide_eq_true j1,hd,.of_ok j2,I,hB⟩
     |_=>exact fun j2=>by exact bft j2
   |_=>exact fun i2=>by exact bft i2
end Mine
namespace Mine
open PySem PySem.W PyProof.Rows
theorem rX{c:Str}{p:Str×Option (List Str)}{body:List Stmt}(h:bF c body=some p):c∈jX body:=by
 induction body with
 |nil=>exact ns h
 |cons s r ih =>
  have skip:bF c r=some p→c∈jX (s::r):=fun h=>by
   obtain⟨q,hq,e⟩:=List.mem_filterMap.mp (ih h);exact List.mem_filterMap.mpr ⟨q,List.mem_cons_of_mem _ hq,e⟩
  replace h:(match sv s with | .cls n bs b=>if c=n then (match eC bs with | some [y]=>some (y,wU b) | _=>none) else bF c r | _=>bF c r)=some p:=h;cases e:sv s with
  |cls n bs b =>
   rw[e] at h
   by_cases x:c=n
   ·exact List.mem_filterMap.mpr ⟨s,List.mem_cons_self,by show(match sv s with | .cls n _ _=>some n | _=>none)=_;rw[e,x]⟩
   ·exact skip ((if_neg x).symm.trans (show(if c=n then _ else bF c r)=some p from h))
  |_=>rw[e] at h;exact skip h
noncomputable def iX(body:List Stmt)(mg:Str→Option Value)(h:Heap):Prop :=
 ∀ c p,bF c body=some p→∃ C bm,mg c=some (.ref C)∧kD h C bm p.2∧∀ d q D,bF d body=some q→mg d=some (.ref D)→(Value.ref C::bm).contains (.ref D)=fZ body 4 c d
theorem N7{α:Type}{o:Option α}{p:α→Bool}(h:o.any p=true):∃ x,o=some x∧p x=true:=by
 cases o with
 |none=>exact bft h
 |some x=>exact⟨x,rfl,h⟩
theorem N8{h:Heap}{body:List Stmt}(e:m9 h body=true):iX body (h.nsMap mainGlobals) h:=fun c p hc=>by
 have e1:=List.all_eq_true.mp e c (rX hc);rw[hc] at e1;obtain⟨x,hx,e2⟩:=N7 (show(h.clsAt mainGlobals c).any (fun x=>m8 h (mY body 4 c) p.2 x&&xC h body c x.1)=true from e1);obtain⟨e3,e4⟩:=Bool.and_eq_true_iff.mp e2;refine⟨x.1,_,(Heap.clsAt_spec hx).1,N6 hx e3,fun d q D hd hD=>?_⟩;have e5:=List.all_eq_true.mp e4 d (rX hd);rw[hD] at e5;exact of_decide_eq_true e5
theorem kD.keeps{h h':Heap}{C:Addr}{bm:List Value}(hk:∀ b o,h.get? b=some o→h'.get? b=some o):∀ {ini:Option (List Str)},kD h C bm ini→kD h' C bm ini
 |none,x=>by
  obtain⟨N,nm,q,bs,hdct,sn,sub,ab,col,dd,k0,k1,k2,k3,k5,mN,hC,hN,hni,hnh,T⟩:=x;exact⟨N,nm,q,bs,hdct,sn,sub,ab,col,dd,k0,k1,k2,k3,k5,mN,hk _ _ hC,hN.keeps hk,hni,hnh,T.keeps hk⟩
 |some ps,x=>fun hB=>by
  obtain⟨N,nm,q,bs,sn,sub,ab,col,dd,k0,k1,k2,k3,k5,mN,fI,oI,fd,sf,hC,hN,hi,hn,T,ho,hfc,hfd,hcd,I,hB⟩:=x hB;exact⟨N,nm,q,bs,sn,sub,ab,col,dd,k0,k1,k2,k3,k5,mN,fI,oI,fd,sf,hk _ _ hC,hN.keeps hk,hi,hn,T.keeps hk,hk _ _ ho,hfc,hfd,hcd.keeps hk,I,hB⟩
theorem iX.keeps{body:List Stmt}{mg:Str→Option Value}{h h':Heap}(x:iX body mg h)(hk:∀ b o,h.get? b=some o→h'.get? b=some o):iX body mg h' :=
 fun c p e=>by obtain⟨C,bm,h1,h2,h3⟩:=x c p e;exact⟨C,bm,h1,h2.keeps hk,h3⟩
noncomputable def z9(body:List Stmt):Prop:=∀ c b ps,bF c body=some (b,some ps)→∀ p∈ps,typeLookup (.type "ValueError") p=pure none
noncomputable def nN(f:Str):List DefRec→Option (Arguments×List Stmt×Scope)
 | []=>none
 |d::r=>if f=d.name then some (d.params,d.body,d.scope) else nN f r
theorem N9{f:Str}{a:Arguments}{b:List Stmt}{sc:Scope}:∀ {l:List DefRec},nN f l=some (a,b,sc)→∃ d∈l,d.name=f∧d.params=a∧d.body=b∧d.scope=sc
 := by
 intro l
 induction l with
 |nil=>intro h;exact ns h
 |cons d r ih =>
  intro h;replace h:(if f=d.name then some (d.params,d.body,d.scope) else nN f r)=some (a,b,sc):=h
  by_cases e:f=d.name
  ·rw[if_pos e] at h;cases h;exact⟨d,List.mem_cons_self,e.symm,rfl,rfl,rfl⟩
  ·rw[if_neg e] at h;obtain⟨d',h1,h2⟩:=ih h;exact⟨d',List.mem_cons_of_mem _ h1,h2⟩
noncomputable def rY:List Str:=["isinstance", "len", "all", "sorted", "abs", "min", "list", "tuple", "dict", "set", "int", "str", "bool", "range", "enumerate", "reversed", "ValueError"]
theorem Oa{l:List (Str×Value)}{x:Str}{v:Value}(h:l.lookup x=some v):(x,v)∈l:=by
 induction l with
 |nil=>exact ns h
 |cons p r ih =>
  rw[List.lookup_cons] at h
  by_cases e:x=p.1
  ·rw[e,beq_self_eq_true] at h;obtain rfl:=si h;rw[e];exact List.mem_cons_self
  ·rw[beq_false_of_ne e] at h;exact List.mem_cons_of_mem _ (ih h)
theorem Ob:∀ p∈qT,p.1∈rY∧bootBuiltins p.1=some p.2∧p.1 ≠ "__name__" := by
 unfold qT
 iterate 17 (refine List.forall_mem_cons.mpr ⟨⟨by decide,by kernel_rfl,by decide⟩,?_⟩)
 exact fun _ h=>cL h
theorem Oc{x:Str}{v:Value}(h:iQ x=some v):x∈rY∧bootBuiltins x=some v∧x ≠ "__name__" := Ob _ (Oa h)
noncomputable def Aa(body:List Stmt):List Str:=body.filterMap fun s=>(wT s).map (·.1)
theorem Od{body:List Stmt}{x:Str}{d:PyData}(h:gR body x=some d):x∈Aa body∧x ≠ "__name__" := by
 by_cases hx:x = "__name__"
 ·exact ns ((if_pos hx).symm.trans h)
 ·obtain⟨s,hs,he⟩:=List.exists_of_findSome?_eq_some ((if_neg hx).symm.trans h);obtain⟨p,e1,e2⟩:=Option.bind_eq_some_iff.mp he
  by_cases e:x=p.1
  ·exact⟨List.mem_filterMap.mpr ⟨s,hs,by rw[e1,e];rfl⟩,hx⟩
  ·exact ns ((if_neg e).symm.trans e2)
noncomputable def cE1(d e:PyData):Bool:=match d with
 | .int a=>(match e with | .int b=>a==b | _=>false)
 | .str a=>(match e with | .str b=>a==b&&decide (a.length≤aX) | _=>false)
 |_=>false
noncomputable def cEq(o q:Option PyData):Bool:=match o with
 |none=>true
 |some d=>(match q with | some e=>cE1 d e | none=>false)
theorem Oe{o:Option PyData}{d:PyData}(h:cEq (some d) o=true):o=some d∧((∃ i,d=.int i)∨∃ s,d=.str s∧s.length≤aX):=by
 cases o with
 |none=>exact bft h
 |some e =>
  replace h:cE1 d e=true:=h;cases d with
  |int a =>
   cases e with
   |int b=>obtain rfl:=eq_of_beq (show(a==b)=true from h);exact⟨rfl,.inl ⟨_,rfl⟩⟩
   |_=>exact bft h
  |str a =>
   cases e with
   |str b =>
    obtain⟨h1,h2⟩:=Bool.and_eq_true_iff.mp (show(a==b&&decide (a.length≤aX))=true from h);obtain rfl:=eq_of_beq h1;exact⟨rfl,.inr ⟨_,rfl,of_decide_eq_true h2⟩⟩
   |_=>exact bft h
  |_=>exact bft h
theorem Of{p prog:Program}{w:World}{loose:List Str}{mean:ExcName→Option Value}{mg mb:Str→Option Value}{h:Heap}(T:Top p loose mean mg mb h)(X:iX prog.main.body mg h)(hB:z9 prog.main.body)
  (hfn:∀ f,dL f prog.main.body=nN f (recsOf p)) (hc:((Aa prog.main.body).all fun x=>cEq (gR prog.main.body x) (valOf p x))=true)
  (hfree:(rY.all fun x=>!startupNames.contains x&&!loose.contains x&&!((recsOf p).map (·.name)).contains x&&!((litsOf p).map (·.1)).contains x&&!((clssOf p loose).map (·.name)).contains x)=true) (himp:importsNone p=true) :
  Glo prog w mg mb h where
 g:=T.g
 b:=T.b
 nolimit:=T.nolimit
 mods:=by
  obtain⟨mm,hm,_⟩:=(T.seer himp).mods;exact⟨mm,hm⟩
 fn:=fun f a b sc e=>by
  rw[hfn] at e;obtain⟨d,hd,h1,h2,h3,h4⟩:=N9 e;obtain⟨ad,o,pm,code,doc,g1,g2,g3,g4⟩:=T.fn d hd;subst h1;subst h2;subst h3;subst h4;exact⟨ad,o,pm,code,doc,g1,g2,g3,g4⟩
 const:=fun x d e=>by
  obtain⟨h1,h2⟩:=Od e;have:=List.all_eq_true.mp hc x h1;rw[e] at this;obtain⟨h3,h4⟩:=Oe this;obtain⟨v,h5,h6⟩:=T.const x d h3;refine⟨v,h5,fun h' av=>?_⟩;have r:=h6 h';rcases h4 with ⟨i,rfl⟩ | ⟨s,rfl,hl⟩
  ·cases r;exact .int _ _
  ·cases r;exact .str _ _ hl
 blt:=fun x v e=>by
  obtain⟨h1,h2,h3⟩:=Oc e;have:=List.all_eq_true.mp hfree x h1;simp only[Bool.and_eq_true,Bool.not_eq_true',List.contains_eq_mem,decide_eq_false_iff_not] at this;obtain⟨⟨⟨⟨q1,q2⟩,q3⟩,q4⟩,q5⟩:=this;exact⟨T.free x q1 q2 q3 q4 q5,(T.builtins x h3).trans h2⟩
 cls:=fun c p e=>by
  obtain⟨C,bm,h1,h2,h3⟩:=X c p e;refine⟨C,bm,h1,?_,h3⟩;obtain⟨b,ini⟩:=p;cases ini with
  |none=>exact ClsP.ok h2
  |some ps=>exact ClsI.ok T.nolimit (h2 (hB c b ps e))
theorem Og{P:Params}{h:Heap}:∀ {vs:List Value} {ns:List Int},WellAll P h vs (ofPys (ns.map .int))→vs.length=ns.length∧∀ (i:Nat) (v:Value) (d:PyData),vs[i]?=some v→(ns.map PyData.int)[i]?=some d→∃ k t,v=.int k t∧d=.int k
 := by
 intro vs
 induction vs with
 |nil =>
  intro ns hw;cases ns with
  |nil=>exact⟨rfl,fun i v d e=>nomatch e⟩
  |cons n ns=>exact nomatch (show WellAll P h [] (WData.int n::ofPys (ns.map .int)) from hw)
 |cons v vs ih =>
  intro ns hw;cases ns with
  |nil=>exact nomatch (show WellAll P h (v::vs) [] from hw)
  |cons n ns =>
   cases (show WellAll P h (v::vs) (WData.int n::ofPys (ns.map .int)) from hw) with
   |cons h1 h2 =>
    obtain⟨g1,g2⟩:=ih h2;refine⟨congrArg Nat.succ g1,fun i u d e1 e2=>?_⟩;cases i with
    |zero =>
     obtain rfl:=si e1;obtain rfl:=si e2;cases h1;exact⟨_,_,rfl,rfl⟩
    |succ i=>exact g2 i u d e1 e2
theorem Oh{prog:Program}{w:World}{mg mb:Str→Option Value}{s₁:Shared}{fa l:Addr}{ns:List Int}{N:Nat}{Q:Value→Shared→Prop}{E:Value→Shared→Prop}(GL:Glo prog w mg mb s₁.heap)(hmg:mg (Str.ofString "law")=some (.ref fa))
  (hw:Well w.params s₁.heap (.ref l) (ofPy (.list (ns.map .int)))) (hn:ns.length≤63) (hf:(dL (Str.ofString "law") prog.main.body).isSome=true) (hN:N≤400)
  (hrun:run prog.main.body N false (Str.ofString "law") [.fz (.list (ns.map .int))]=.ok (.fz (.bool true))) (hq:∀ s',Kp s₁ s'→Q (.bool true) s'):wpAny (model prog w) callerA (call (.ref fa) [.ref l]) Q E s₁:=by
 have hw:Well w.params s₁.heap (.ref l) (.list (ofPys (ns.map .int))):=hw;cases hw with
 | @list _ vs _ h1 h2 =>
  obtain⟨g1,g2⟩:=Og h2;obtain⟨mm,hm⟩:=GL.mods;have hne:¬ l=sysModules:=fun e=>by
   obtain⟨o,es,ep,e1,e2,_⟩:=hm;rw[← e,h1] at e1;obtain rfl:=si e1;cases e2
  have rep:Rep prog w s₁.heap (fun b=>b=sysModules) (.ref l) (.list (ns.map .int)):=by
   refine .list hne ⟨_,h1⟩ (by simp[g1]) ?_ fun i v d e1 e2=>?_
   ·have:sizeLine=16777216:=rfl;exact Em hn g1 this
   ·obtain⟨k,t,rfl,rfl⟩:=g2 i v d e1 e2;exact .int k t
  have room:Room N false [] callerA:=by
   refine⟨?_,?_,fun _=>rfl,rfl,rfl⟩
   ·have:callerA.depth+400+1 < recursionLimit:=by decide
    exact En hN this
   ·have:callerA.units+16*400+300 < cLine:=by decide
    exact Eo hN this
  have G:Gnd prog w mg mb s₁.heap [] (fun b=>b=sysModules) s₁:=⟨GL,fun _ _ e=>e,trivial,fun b f=>(nomatch f),fun b hb=>by
   obtain⟨o,es,ep,e1,_⟩:=hm;exact⟨o,hb▸e1⟩,rfl⟩
  refine(z7 (prog:=prog) (w:=w) (mg:=mg) (mb:=mb) (base:=s₁.heap) N false).call (Str.ofString "law") [.fz (.list (ns.map .int))] fa hmg hf callerA [] s₁ (fun b=>b=sysModules) [.ref l] room G ⟨⟨rep,nofun⟩,trivial⟩ (k:=R.ok) (fin:=.ok (.fz (.bool true))) ⟨by rw[show(eE prog.main.body (run prog.main.body N false) false).call (Str.ofString "law") [.fz (.list (ns.map .int))]=_ from hrun];rfl,nofun⟩ (fun v s' u k r e=>?_) fun x v s' e _=>by cases e
  cases e;have:=Rep.bool_inv r;subst this;obtain⟨h,t,rfl,k1,_⟩:=k;exact hq _ ⟨h,t,rfl,fun b o e=>k1 b o (fun f=>nomatch f) e⟩
end Mine
namespace Mine
open PySem
noncomputable def rZ(B:List Stmt)(f:Str):Scope:=match dL f B with | some (_,_,sc)=>sc | none=>⟨.function,[],false,false,[]⟩
noncomputable def aL(B:List Stmt)(f:Str):List Stmt:=match dL f B with | some (_,b,_)=>b | none=>[]
noncomputable def tv:Stmt→List Stmt×Expr
 | .If t b _ _=>(b,t)
 | .For t _ b _ _=>(b,t)
 | .While t b _ _=>(b,t)
 | .Assign ts _ _=>([],ts.head?.getD (.Name Str.empty ⟨0,0,0,0⟩))
 |_=>([],.Name Str.empty ⟨0,0,0,0⟩)
noncomputable def Oi:Stmt→List Stmt
 | .If _ _ o _=>o
 |_=>[]
noncomputable def Zz(l:List Stmt):List Stmt:=l.head?.elim [] Oi
noncomputable def iY(l:List Stmt):List Stmt:=l.head?.elim [] fun s=>(tv s).1
noncomputable def bM(l:List Stmt):List Stmt:=l.head?.elim [] fun s=>(tv s).1
noncomputable def Z0(l:List Stmt):Expr:=l.head?.elim (.Name Str.empty ⟨0,0,0,0⟩) fun s=>(tv s).2
noncomputable def bW(l:List Stmt):Expr:=l.head?.elim (.Name Str.empty ⟨0,0,0,0⟩) fun s=>(tv s).2
noncomputable def stm(B:List Stmt)(f:Str)(n k:Nat):List Stmt→aA→KN→KR→R V :=
 blk (evS (evE (eE B (run B n false) false) dN (rZ B f)) (evE (eE B (run B n true) true) dN (rZ B f)) dN (eE B (run B n false) false) (rZ B f) k)
noncomputable def aB(op:Operator)(a b:R V):R V:=rb a fun a=>rb b fun b=>ofP (aD op (dOf a) (dOf b))
noncomputable def unS(op:UnaryOp)(a:R V):R V:=rb a fun v=>ofP (eV op v)
noncomputable def aM(a b:R V):R V:=rb a fun v=>rb (ofP (cR v)) fun c=>if c then b else .ok v
noncomputable def orS(a b:R V):R V:=rb a fun v=>rb (ofP (cR v)) fun c=>if c then .ok v else b
noncomputable def cM(t a b:R V):R V:=rb (tst t) fun c=>if c then a else b
noncomputable def aC(a:R V)(op:CmpOp)(b:R V):R V:=rb a fun a=>aP (rb b fun v=>ofP (cmp op (dOf a) (dOf v)))
noncomputable def e7(a:R V)(op:CmpOp)(b:R V)(op':CmpOp)(c:R V):R V:=rb a fun a=>aP (rb b fun v=>rb (ofP (cmp op (dOf a) (dOf v))) fun t=>if t then (rb c fun w=>ofP (cmp op' (dOf v) (dOf w))) else .ok false)
noncomputable def dX:List (R V)→R (List V)
 | []=>.ok []
 |e::r=>rb e fun v=>rb (dX r) fun vs=>.ok (v.clear::vs)
noncomputable def cG(l:List (R V)):R V:=rb (dX l) fun l=>if l.length≤aX then .ok (.own (.list (b6 l))) else .no
noncomputable def aO(l:List (R V)):R V:=rb (dX l) fun l=>if l.length≤aX then .ok (.fz (.tuple (b6 l))) else .no
noncomputable def nO:List (R V×R V)→R (List (PyData×PyData))
 | []=>.ok []
 |p::r=>rb p.1 fun k=>rb p.2 fun v=>rb (nO r) fun r=>.ok ((dOf k,dOf v)::r)
noncomputable def dY(l:List (R V×R V)):R V:=rb (nO l) fun l=>ofP (iK l)
noncomputable def Oj(l:List (R V×R V)):R V:=rb (nO l) fun l=>ofP (jN l)
noncomputable def aI(a:R PyData)(i:R V):R V:=rb a fun a=>rb i fun i=>ofP (getItem a (dOf i))
noncomputable def nP:Option (R V)→R (Option Int)
 |none=>.ok none
 |some e=>rb e fun v=>ofP (toI v)
noncomputable def bX(a:R PyData)(lo hi:Option (R V)):R V:=rb a fun a=>rb (nP lo) fun lo=>rb (nP hi) fun hi=>ofP (iG a lo hi)
noncomputable def bJ(m:Str)(o:R V)(as:List (R V)):R V:=rb o fun o=>if mOk m (dOf o) then rb (dX as) fun as=>ofP (l8 m (dOf o) (b6 as)) else .no
noncomputable def eH(t:Str)(a:R V):R V:=rb a fun v=>ofP (mJ t (dOf v))
noncomputable def aK(f:PyData→P V)(a:R V):R V:=rb a fun v=>ofP (f (dOf v))
noncomputable def kE(as:List (R V)):R V:=rb (dX as) fun vs=>ofP (mI vs)
noncomputable def aE(f:List V→R V)(as:List (R V)):R V:=rb (dX as) fun vs=>f vs
noncomputable def aN(it:R (List PyData))(t:PyData→R Bool)(e:PyData→R V):R V:=rb (rb it fun l=>aT t e l) fun r=>ofP (own (.list r))
noncomputable def plI(e:R V):R (List PyData):=rb e fun v=>ofP (items (dOf v))
noncomputable def rgI(e:R V):R (List PyData):=rb e fun v=>ofP ((gQ v).bind mD)
noncomputable def enI(e:R V):R (List PyData):=rb e fun v=>ofP ((wF (dOf v)).bind fun l=>.ok (dK 0 l))
noncomputable def pr2{α:Type}(d:PyData)(k:PyData→PyData→R α):R α:=match two d with
 |some q=>k q.1 q.2
 |none=>.no
noncomputable def rvI(e:R V):R (List PyData):=rb e fun v=>ofP (wI (dOf v))
noncomputable def a9(v:V):R PyData:=match (match v with | .own d=>some d | _=>none) with
 |some d=>.ok d
 |none=>rb (ofP (rdv v)) fun v=>.ok (dOf v)
noncomputable def aY(v:V):R V:=match (match v with | .ex d=>some d | _=>none) with
 |some x=>.ok (.ex x)
 |none=>ofP (rdv v)
noncomputable def e8(e:R V):R PyData:=rb e fun v=>.ok (dOf v)
noncomputable def dP(v:V)(kr:V→R V):R V:=match (match v with | .own d=>some d | _=>none) with
 |some d=>kr (.own d)
 |none=>rb (ofP (rdv v)) kr
noncomputable def ifS(t:R V)(a b:R V):R V:=rb (tst t) fun c=>if c then a else b
noncomputable def bD(x:R V)(X:R PyData)(I:R V)(k:PyData→R V):R V:=rb x fun v=>rb X fun o=>rb I fun iv=>rb (ofP (setItem o (dOf iv) (dOf v))) k
noncomputable def gY(X:R PyData)(m:Str)(as:List (R V))(k:PyData→R V):R V:=rb X fun o=>if mQ m o then rb (dX as) fun as'=>rb (ofP (f0 m o (b6 as'))) k else .no
noncomputable def Ab(k:Nat)(c:Str)(as:List (R V)):R V:=rb (dX as) fun vs=>if k=vs.length then .exc ⟨c,[]⟩ else .no
noncomputable def kF(c:Str)(as:List (R V)):R V:=rb (dX as) fun vs=>if vs.length=1 then .exc ⟨c,[]⟩ else .no
noncomputable def Ac(B:List Stmt)(c:Str)(a:R V)(h:X→R V)(kn:R V)(kr:V→R V):R V:=match a with
 | .no=>.no
 | .ok _=>kn
 | .exc y=>match eW B y.cls c with
  |some true=>rb (nx (h y)) kr
  |_=>.no
end Mine
namespace Mine
open PySem
noncomputable def BB:List Stmt:=PySem.Challenge.rw_uf010037_07.prog.main.body
end Mine
namespace Mine
open PySem
noncomputable abbrev so(x:String):Str:=Str.ofString x
noncomputable abbrev ζ(d:PyData):Option V:=some (.fz d)
noncomputable abbrev rn(n:Nat)(f:String)(vs:List V):R V:=run BB n false (Str.ofString f) vs
end Mine
namespace Mine
open PySem
variable (n:Nat) (a1 a2 a3 a4 a5 a6 a7 x1 x2 x3 x4 x5 x6 x7 x8 x9 x10 x11 x12 x13 x14 x15 x16 x17 x18 x19 d0 d1 d2 d3 d4 d5:PyData) (w1 w2 w3 w4 w5 w6 w7 w8 w9 w10 w11 w12 w13 w14 w15 w16 w17 w18 w19:V) (o1 o2 o3 o4 o5 o6 o7 o8 o9 o10 o11 o12 o13 o14 o15 o16 o17 o18 o19 p0 p1 p2 p3 p4 p5 p6 p7 p8 p9 p10 p11 p12 p13 p14 p15 p16 p17 p18 p19:Option V) (kn:KN) (kr:KR)
theorem Ad:rn (n+1) "is_name" [.fz a1]=(ifS (orS (unS .Not (.ok (.fz (.bool (pQ a1))))) (unS .Not (e7 (.ok (.fz (.int 1))) .LtE (ofP (bH a1)) .LtE (.ok (.fz (.int 8)))))) (R.ok (.fz (.bool false))) (rb (aK cE (aN (ofP (items a1)) (fun d1=>(.ok true)) (fun d1=>(aP (ofP (cmp .In d1 (.str (so "abcdefghijklmnopqrstuvwxyz")))))))) R.ok)):=by kernel_rfl
theorem Ok:rn (n+1) "is_whole" [.fz a1]=(rb (aM (.ok (.fz (.bool (eB a1)))) (unS .Not (.ok (.fz (.bool (fU a1)))))) R.ok):=by kernel_rfl
theorem nQ:rn (n+1) "is_tree" [.fz a1]=(ifS (rn n "is_whole" [.fz a1]) (R.ok (.fz (.bool true))) (ifS (unS .Not (.ok (.fz (.bool (bR a1))))) (R.ok (.fz (.bool false))) (rb (aK cE (aN (ofP (items a1)) (fun d1=>(.ok true)) (fun d1=>(aM (rn n "is_name" [.fz d1]) (aE (rn n "is_tree") [(ofP (getItem a1 d1))]))))) R.ok))):=by kernel_rfl
theorem Ol:rn (n+1) "all_branches" [.fz a1]=(rb (aM (.ok (.fz (.bool (bR a1)))) (aK cE (aN (ofP (items a1)) (fun d1=>(.ok true)) (fun d1=>(eH (so "dict") (ofP (getItem a1 d1))))))) R.ok):=by kernel_rfl
noncomputable def gZ(o0 o1 o2:Option V):aA:=[((so "tree"),o0),((so "found"),o1),((so "name"),o2)]
noncomputable def r6(n:Nat)(σ:aA)(kn:KN)(kr:KR):R V:=stm BB (so "copied") n 23 (bM (List.drop 2 (aL BB (so "copied")))) σ kn kr
noncomputable def r7:Expr:=bW (List.drop 2 (aL BB (so "copied")))
noncomputable def Ae(n:Nat)(σ:aA)(kn:KN)(kr:KR):R V:=stm BB (so "copied") n 24 (List.drop 3 (aL BB (so "copied"))) σ kn kr
theorem r9:rn (n+1) "copied" [.fz a1]=(ifS (unS .Not (.ok (.fz (.bool (bR a1))))) (R.ok (.fz a1)) (rb (ofP (items a1)) fun l1=>aQ (r6 n) r7 l1 (gZ (ζ a1) (some (.own (.dict []))) none) (fun σ=>Ae n σ (fun _=>R.ok (.fz .none)) R.ok) R.ok)):=by kernel_rfl
theorem Om:aR r7 d0 (gZ p0 p1 p2)=.ok (gZ p0 p1 (ζ d0)):=by kernel_rfl
theorem On:r6 n (gZ (ζ x1) (some (.own x2)) (ζ d0)) kn kr=(bD (aE (rn n "copied") [(ofP (getItem x1 d0))]) (.ok x2) (.ok (.fz d0)) fun o1=>(kn (gZ (ζ x1) (some (.own o1)) (ζ d0)))):=by kernel_rfl
theorem Oo:Ae n (gZ (ζ x1) (some (.own x2)) o3) kn kr=(kr (.own x2)):=by kernel_rfl
theorem Op:rn (n+1) "is_beside" [.fz a1]=(ifS (orS (unS .Not (.ok (.fz (.bool (l0 a1))))) (unS .Not (e7 (.ok (.fz (.int 1))) .LtE (ofP (bH a1)) .LtE (.ok (.fz (.int 6)))))) (R.ok (.fz (.bool false))) (ifS (unS .Not (aK cE (aN (ofP (items a1)) (fun d1=>(.ok true)) (fun d1=>(rn n "is_row" [.fz d1]))))) (R.ok (.fz (.bool false))) (rb (aN (ofP (items a1)) (fun d2=>(.ok true)) (fun d2=>(ofP (getItem d2 (.int 0))))) fun v3=>(rb (aN (ofP (items a1)) (fun d4=>(.ok true)) (fun d4=>(ofP (getItem d4 (.int 1))))) fun v5=>(rb (aM (aC (aK dS (ofP (rdv (V.clear v3)))) .Eq (ofP (bH a1))) (aC (aK dS (ofP (rdv (V.clear v5)))) .Eq (ofP (bH a1)))) R.ok))))):=by kernel_rfl
theorem Oq:rn (n+1) "are_fields" [.fz a1]=(ifS (orS (unS .Not (.ok (.fz (.bool (l0 a1))))) (unS .Not (e7 (.ok (.fz (.int 1))) .LtE (ofP (bH a1)) .LtE (.ok (.fz (.int 6)))))) (R.ok (.fz (.bool false))) (rb (aM (aK cE (aN (ofP (items a1)) (fun d1=>(.ok true)) (fun d1=>(rn n "is_name" [.fz d1])))) (aC (aK dS (.ok (.fz a1))) .Eq (ofP (bH a1)))) R.ok)):=by kernel_rfl
theorem sA:rn (n+1) "are_two_names" [.fz a1,.fz a2]=(rb (aM (rn n "is_name" [.fz a1]) (aM (rn n "is_name" [.fz a2]) (aP (ofP (cmp .NotEq a1 a2))))) R.ok):=by kernel_rfl
theorem Os:rn (n+1) "is_least" [.fz a1]=(rb (aM (rn n "is_whole" [.fz a1]) (aC (ofP (pR a1)) .Lt (ofP (aD .Pow (.int 10) (.int 30))))) R.ok):=by kernel_rfl
theorem Af:rn (n+1) "need_view" [.fz a1]=(ifS (unS .Not (rn n "is_view" [.fz a1])) (kF (so "BadView") [(.ok (.fz (.str (so "no view"))))]) (R.ok (.fz .none))):=by kernel_rfl
theorem nR:rn (n+1) "has_part" [.fz a1,.fz a2]=(rb (aM (.ok (.fz (.bool (bR a1)))) (aP (ofP (cmp .In a2 a1)))) R.ok):=by kernel_rfl
theorem Ot:rn (n+1) "is_sifted" [.fz a1,.fz a2,.fz a3]=(rb (aM (aP (ofP (cmp .In a2 a1))) (aM (aE (rn n "is_whole") [(ofP (getItem a1 a2))]) (aC (ofP (getItem a1 a2)) .GtE (.ok (.fz a3))))) R.ok):=by kernel_rfl
noncomputable def dF(o0 o1 o2 o3 o4:Option V):aA:=[((so "view"),o0),((so "tree"),o1),((so "one"),o2),((so "other"),o3),((so "key"),o4)]
noncomputable def sB(n:Nat)(σ:aA)(kn:KN)(kr:KR):R V:=stm BB (so "fits_join") n 23 (bM (List.drop 4 (aL BB (so "fits_join")))) σ kn kr
noncomputable def sE:Expr:=bW (List.drop 4 (aL BB (so "fits_join")))
noncomputable def Ag(n:Nat)(σ:aA)(kn:KN)(kr:KR):R V:=stm BB (so "fits_join") n 24 (List.drop 5 (aL BB (so "fits_join"))) σ kn kr
theorem Ah:rn (n+1) "fits_join" [.fz a1,.fz a2]=(ifS (orS (unS .Not (aE (rn n "has_part") [(.ok (.fz a2)),(ofP (getItem a1 (.int 1)))])) (unS .Not (aE (rn n "has_part") [(.ok (.fz a2)),(ofP (getItem a1 (.int 2)))]))) (R.ok (.fz (.bool false))) (rb (aI (.ok a2) (ofP (getItem a1 (.int 1)))) fun v1=>(rb (aI (.ok a2) (ofP (getItem a1 (.int 2)))) fun v2=>(ifS (orS (unS .Not (aE (rn n "all_branches") [(aY (V.clear v1))])) (unS .Not (aE (rn n "all_branches") [(aY (V.clear v2))]))) (R.ok (.fz (.bool false))) (rb (plI (ofP (rdv (V.clear (V.clear v1))))) fun l3=>aQ (sB n) sE l3 (dF (ζ a1) (ζ a2) (some (V.clear (V.clear v1))) (some (V.clear v2)) none) (fun σ=>Ag n σ (fun _=>R.ok (.fz .none)) R.ok) R.ok))))):=by kernel_rfl
theorem Ou:aR sE d0 (dF p0 p1 p2 p3 p4)=.ok (dF p0 p1 p2 p3 (ζ d0)):=by kernel_rfl
theorem Ov:sB n (dF (ζ x1) (ζ x2) (some w3) (some w4) (ζ d0)) kn kr=(ifS (aC (aN (plI (aI (a9 w3) (.ok (.fz d0)))) (fun d1=>(tst (aC (.ok (.fz d1)) .NotIn (ofP (getItem x1 (.int 3)))))) (fun d1=>(.ok (.fz d1)))) .NotEq (.ok (.own (.list [])))) (kr (.fz (.bool false))) (kn (dF (ζ x1) (ζ x2) (some w3) (some w4) (ζ d0)))):=by kernel_rfl
noncomputable def sF(n:Nat)(σ:aA)(kn:KN)(kr:KR):R V:=stm BB (so "fits_join") n 23 (bM (List.drop 5 (aL BB (so "fits_join")))) σ kn kr
noncomputable def sG:Expr:=bW (List.drop 5 (aL BB (so "fits_join")))
noncomputable def Ai(n:Nat)(σ:aA)(kn:KN)(kr:KR):R V:=stm BB (so "fits_join") n 24 (List.drop 6 (aL BB (so "fits_join"))) σ kn kr
theorem Ow:Ag n (dF (ζ x1) (ζ x2) (some w3) (some w4) o5) kn kr=(rb (plI (ofP (rdv (V.clear w4)))) fun l1=>aQ (sF n) sG l1 (dF (ζ x1) (ζ x2) (some w3) (some (V.clear w4)) o5) (fun σ=>Ai n σ kn kr) kr):=by kernel_rfl
theorem Ox:aR sG d0 (dF p0 p1 p2 p3 p4)=.ok (dF p0 p1 p2 p3 (ζ d0)):=by kernel_rfl
theorem Oy:sF n (dF (ζ x1) (ζ x2) (some w3) (some w4) (ζ d0)) kn kr=(ifS (aC (aN (plI (aI (a9 w4) (.ok (.fz d0)))) (fun d1=>(tst (aC (.ok (.fz d1)) .In (ofP (getItem x1 (.int 3)))))) (fun d1=>(.ok (.fz d1)))) .NotEq (.ok (.own (.list [])))) (kr (.fz (.bool false))) (kn (dF (ζ x1) (ζ x2) (some w3) (some w4) (ζ d0)))):=by kernel_rfl
theorem Oz:Ai n (dF (ζ x1) (ζ x2) (some w3) (some w4) o5) kn kr=(kr (.fz (.bool true))):=by kernel_rfl
noncomputable def gC(o0 o1 o2 o3:Option V):aA:=[((so "view"),o0),((so "tree"),o1),((so "found"),o2),((so "name"),o3)]
noncomputable def sH(n:Nat)(σ:aA)(kn:KN)(kr:KR):R V:=stm BB (so "shown_call") n 23 (bM (List.drop 2 (aL BB (so "shown_call")))) σ kn kr
noncomputable def sI:Expr:=bW (List.drop 2 (aL BB (so "shown_call")))
noncomputable def Aj(n:Nat)(σ:aA)(kn:KN)(kr:KR):R V:=stm BB (so "shown_call") n 24 (List.drop 3 (aL BB (so "shown_call"))) σ kn kr
theorem O0:rn (n+1) "shown_call" [.fz a1,.fz a2]=(rb (aE (rn n "need_fit") [(aM (aE (rn n "has_part") [(.ok (.fz a2)),(ofP (getItem a1 (.int 1)))]) (aC (ofP (getItem a1 (.int 2))) .NotIn (.ok (.fz a2))))]) fun _=>(rb (ofP (items a2)) fun l1=>aQ (sH n) sI l1 (gC (ζ a1) (ζ a2) (some (.own (.dict []))) none) (fun σ=>Aj n σ (fun _=>R.ok (.fz .none)) R.ok) R.ok)):=by kernel_rfl
theorem O1:aR sI d0 (gC p0 p1 p2 p3)=.ok (gC p0 p1 p2 (ζ d0)):=by kernel_rfl
theorem O2:sH n (gC (ζ x1) (ζ x2) (some (.own x3)) (ζ d0)) kn kr=(ifS (aC (.ok (.fz d0)) .Eq (ofP (getItem x1 (.int 1)))) (bD (ofP (getItem x2 d0)) (.ok x3) (ofP (getItem x1 (.int 2))) fun o1=>(kn (gC (ζ x1) (ζ x2) (some (.own o1)) (ζ d0)))) (bD (ofP (getItem x2 d0)) (.ok x3) (.ok (.fz d0)) fun o2=>(kn (gC (ζ x1) (ζ x2) (some (.own o2)) (ζ d0))))):=by kernel_rfl
theorem O3:Aj n (gC (ζ x1) (ζ x2) (some (.own x3)) o4) kn kr=(kr (.own x3)):=by kernel_rfl
noncomputable def e9(o0 o1 o2 o3 o4 o5:Option V):aA:=[((so "view"),o0),((so "tree"),o1),((so "found"),o2),((so "name"),o3),((so "part"),o4),((so "inner"),o5)]
noncomputable def dA(n:Nat)(σ:aA)(kn:KN)(kr:KR):R V:=stm BB (so "shown_beside") n 23 (bM (List.drop 1 (aL BB (so "shown_beside")))) σ kn kr
noncomputable def dB:Expr:=bW (List.drop 1 (aL BB (so "shown_beside")))
noncomputable def Ak(n:Nat)(σ:aA)(kn:KN)(kr:KR):R V:=stm BB (so "shown_beside") n 24 (List.drop 2 (aL BB (so "shown_beside"))) σ kn kr
theorem O4:rn (n+1) "shown_beside" [.fz a1,.fz a2]=(rb (plI (ofP (getItem a1 (.int 1)))) fun l1=>aQ (dA n) dB l1 (e9 (ζ a1) (ζ a2) (some (.own (.dict []))) none none none) (fun σ=>Ak n σ (fun _=>R.ok (.fz .none)) R.ok) R.ok):=by kernel_rfl
theorem Al:aR dB (.tuple [d0,d1,d2]) (e9 p0 p1 p2 p3 p4 p5)=.ok (e9 p0 p1 p2 (ζ d0) (ζ d1) (ζ d2)):=by kernel_rfl
theorem Am:dA n (e9 (ζ x1) (ζ x2) (some (.own x3)) (ζ d0) (ζ d1) (ζ d2)) kn kr=(rb (aE (rn n "need_fit") [(rn n "has_part" [.fz x2,.fz d1])]) fun _=>(bD (aE (rn n "shown") [(.ok (.fz d2)),(ofP (getItem x2 d1))]) (.ok x3) (.ok (.fz d0)) fun o1=>(kn (e9 (ζ x1) (ζ x2) (some (.own o1)) (ζ d0) (ζ d1) (ζ d2))))):=by kernel_rfl
theorem O5:Ak n (e9 (ζ x1) (ζ x2) (some (.own x3)) o4 o5 o6) kn kr=(kr (.own x3)):=by kernel_rfl
noncomputable def eI(o0 o1 o2 o3:Option V):aA:=[((so "view"),o0),((so "tree"),o1),((so "found"),o2),((so "key"),o3)]
noncomputable def nS(n:Nat)(σ:aA)(kn:KN)(kr:KR):R V:=stm BB (so "shown_sift") n 23 (bM (List.drop 2 (aL BB (so "shown_sift")))) σ kn kr
noncomputable def nT:Expr:=bW (List.drop 2 (aL BB (so "shown_sift")))
noncomputable def An(n:Nat)(σ:aA)(kn:KN)(kr:KR):R V:=stm BB (so "shown_sift") n 24 (List.drop 3 (aL BB (so "shown_sift"))) σ kn kr
theorem O6:rn (n+1) "shown_sift" [.fz a1,.fz a2]=(rb (aE (rn n "need_fit") [(rn n "all_branches" [.fz a2])]) fun _=>(rb (ofP (items a2)) fun l1=>aQ (nS n) nT l1 (eI (ζ a1) (ζ a2) (some (.own (.dict []))) none) (fun σ=>An n σ (fun _=>R.ok (.fz .none)) R.ok) R.ok)):=by kernel_rfl
theorem O7:aR nT d0 (eI p0 p1 p2 p3)=.ok (eI p0 p1 p2 (ζ d0)):=by kernel_rfl
theorem O8:nS n (eI (ζ x1) (ζ x2) (some (.own x3)) (ζ d0)) kn kr=(ifS (aE (rn n "is_sifted") [(ofP (getItem x2 d0)),(ofP (getItem x1 (.int 1))),(ofP (getItem x1 (.int 2)))]) (bD (ofP (getItem x2 d0)) (.ok x3) (.ok (.fz d0)) fun o1=>(kn (eI (ζ x1) (ζ x2) (some (.own o1)) (ζ d0)))) (kn (eI (ζ x1) (ζ x2) (some (.own x3)) (ζ d0)))):=by kernel_rfl
theorem O9:An n (eI (ζ x1) (ζ x2) (some (.own x3)) o4) kn kr=(kr (.own x3)):=by kernel_rfl
noncomputable def eJ(o0 o1 o2 o3 o4 o5 o6:Option V):aA:=[((so "view"),o0),((so "tree"),o1),((so "one"),o2),((so "other"),o3),((so "found"),o4),((so "key"),o5),((so "row"),o6)]
noncomputable def nU(n:Nat)(σ:aA)(kn:KN)(kr:KR):R V:=stm BB (so "shown_join") n 23 (bM (List.drop 4 (aL BB (so "shown_join")))) σ kn kr
noncomputable def nV:Expr:=bW (List.drop 4 (aL BB (so "shown_join")))
noncomputable def Ao(n:Nat)(σ:aA)(kn:KN)(kr:KR):R V:=stm BB (so "shown_join") n 24 (List.drop 5 (aL BB (so "shown_join"))) σ kn kr
theorem Pa:rn (n+1) "shown_join" [.fz a1,.fz a2]=(rb (aE (rn n "need_fit") [(rn n "fits_join" [.fz a1,.fz a2])]) fun _=>(rb (aI (.ok a2) (ofP (getItem a1 (.int 1)))) fun v1=>(rb (aI (.ok a2) (ofP (getItem a1 (.int 2)))) fun v2=>(rb (plI (ofP (rdv (V.clear v1)))) fun l3=>aQ (nU n) nV l3 (eJ (ζ a1) (ζ a2) (some (V.clear v1)) (some v2) (some (.own (.dict []))) none none) (fun σ=>Ao n σ (fun _=>R.ok (.fz .none)) R.ok) R.ok)))):=by kernel_rfl
theorem Pb:aR nV d0 (eJ p0 p1 p2 p3 p4 p5 p6)=.ok (eJ p0 p1 p2 p3 p4 (ζ d0) p6):=by kernel_rfl
theorem Pc:nU n (eJ (ζ x1) (ζ x2) (some w3) (some w4) (some (.own x5)) (ζ d0) o7) kn kr=(ifS (aC (.ok (.fz d0)) .In (ofP (rdv (V.clear w4)))) (rb (aK bE (aI (a9 w3) (.ok (.fz d0)))) fun v1=>(gY (ofP (c9 v1)) (so "update") [(aI (a9 (V.clear w4)) (.ok (.fz d0)))] fun o2=>(bD (.ok (.fz o2)) (.ok x5) (.ok (.fz d0)) fun o3=>(kn (eJ (ζ x1) (ζ x2) (some w3) (some (V.clear w4)) (some (.own o3)) (ζ d0) (ζ o2)))))) (kn (eJ (ζ x1) (ζ x2) (some w3) (some (V.clear w4)) (some (.own x5)) (ζ d0) o7))):=by kernel_rfl
theorem Pd:Ao n (eJ (ζ x1) (ζ x2) (some w3) (some w4) (some (.own x5)) o6 o7) kn kr=(kr (.own x5)):=by kernel_rfl
noncomputable def fO(o0 o1 o2 o3:Option V):aA:=[((so "view"),o0),((so "tree"),o1),((so "found"),o2),((so "name"),o3)]
noncomputable def nW(n:Nat)(σ:aA)(kn:KN)(kr:KR):R V:=stm BB (so "shown_each") n 23 (bM (List.drop 2 (aL BB (so "shown_each")))) σ kn kr
noncomputable def nX:Expr:=bW (List.drop 2 (aL BB (so "shown_each")))
noncomputable def Ap(n:Nat)(σ:aA)(kn:KN)(kr:KR):R V:=stm BB (so "shown_each") n 24 (List.drop 3 (aL BB (so "shown_each"))) σ kn kr
theorem Pe:rn (n+1) "shown_each" [.fz a1,.fz a2]=(rb (rn n "need_fit" [.fz (.bool (bR a2))]) fun _=>(rb (ofP (items a2)) fun l1=>aQ (nW n) nX l1 (fO (ζ a1) (ζ a2) (some (.own (.dict []))) none) (fun σ=>Ap n σ (fun _=>R.ok (.fz .none)) R.ok) R.ok)):=by kernel_rfl
theorem Pf:aR nX d0 (fO p0 p1 p2 p3)=.ok (fO p0 p1 p2 (ζ d0)):=by kernel_rfl
theorem Pg:nW n (fO (ζ x1) (ζ x2) (some (.own x3)) (ζ d0)) kn kr=(bD (aE (rn n "shown") [(ofP (getItem x1 (.int 1))),(ofP (getItem x2 d0))]) (.ok x3) (.ok (.fz d0)) fun o1=>(kn (fO (ζ x1) (ζ x2) (some (.own o1)) (ζ d0)))):=by kernel_rfl
theorem Ph:Ap n (fO (ζ x1) (ζ x2) (some (.own x3)) o4) kn kr=(kr (.own x3)):=by kernel_rfl
theorem Aq:rn (n+1) "need_tree" [.fz a1]=(ifS (unS .Not (rn n "is_tree" [.fz a1])) (kF (so "BadTree") [(.ok (.fz (.str (so "no tree"))))]) (R.ok (.fz .none))):=by kernel_rfl
theorem sJ:rn (n+1) "show" [.fz a1,.fz a2]=(rb (rn n "need_view" [.fz a1]) fun _=>(rb (rn n "need_tree" [.fz a2]) fun _=>(rb (aE (rn n "copied") [(rn n "shown" [.fz a1,.fz a2])]) R.ok))):=by kernel_rfl
theorem Pi:rn (n+1) "need_put" [.fz a1,.fz a2,.fz a3,.fz a4]=(ifS (unS .Not (.ok (.fz a1))) (Ab 3 (so "BadPut") [(.ok (.fz a2)),(.ok (.fz a3)),(rn n "copied" [.fz a4])]) (R.ok (.fz .none))):=by kernel_rfl
noncomputable def gD(o0 o1 o2 o3 o4:Option V):aA:=[((so "view"),o0),((so "new"),o1),((so "way"),o2),((so "found"),o3),((so "name"),o4)]
noncomputable def sK(n:Nat)(σ:aA)(kn:KN)(kr:KR):R V:=stm BB (so "put_call") n 23 (bM (List.drop 2 (aL BB (so "put_call")))) σ kn kr
noncomputable def sL:Expr:=bW (List.drop 2 (aL BB (so "put_call")))
noncomputable def Ar(n:Nat)(σ:aA)(kn:KN)(kr:KR):R V:=stm BB (so "put_call") n 24 (List.drop 3 (aL BB (so "put_call"))) σ kn kr
theorem Pj:rn (n+1) "put_call" [.fz a1,.fz a2,.fz a3]=(rb (aE (rn n "need_put") [(aM (.ok (.fz (.bool (bR a2)))) (aM (aC (ofP (getItem a1 (.int 2))) .In (.ok (.fz a2))) (aC (ofP (getItem a1 (.int 1))) .NotIn (.ok (.fz a2))))),(.ok (.fz a3)),(.ok (.fz (.str (so "form")))),(.ok (.fz a2))]) fun _=>(rb (ofP (items a2)) fun l1=>aQ (sK n) sL l1 (gD (ζ a1) (ζ a2) (ζ a3) (some (.own (.dict []))) none) (fun σ=>Ar n σ (fun _=>R.ok (.fz .none)) R.ok) R.ok)):=by kernel_rfl
theorem Pk:aR sL d0 (gD p0 p1 p2 p3 p4)=.ok (gD p0 p1 p2 p3 (ζ d0)):=by kernel_rfl
theorem Pl:sK n (gD (ζ x1) (ζ x2) (ζ x3) (some (.own x4)) (ζ d0)) kn kr=(ifS (aC (.ok (.fz d0)) .Eq (ofP (getItem x1 (.int 2)))) (bD (ofP (getItem x2 d0)) (.ok x4) (ofP (getItem x1 (.int 1))) fun o1=>(kn (gD (ζ x1) (ζ x2) (ζ x3) (some (.own o1)) (ζ d0)))) (bD (ofP (getItem x2 d0)) (.ok x4) (.ok (.fz d0)) fun o2=>(kn (gD (ζ x1) (ζ x2) (ζ x3) (some (.own o2)) (ζ d0))))):=by kernel_rfl
theorem Pm:Ar n (gD (ζ x1) (ζ x2) (ζ x3) (some (.own x4)) o5) kn kr=(kr (.own x4)):=by kernel_rfl
noncomputable def gE(o0 o1 o2 o3 o4 o5 o6 o7 o8:Option V):aA:=[((so "view"),o0),((so "old"),o1),((so "new"),o2),((so "way"),o3),((so "names"),o4),((so "found"),o5),((so "name"),o6),((so "part"),o7),((so "inner"),o8)]
noncomputable def fA(n:Nat)(σ:aA)(kn:KN)(kr:KR):R V:=stm BB (so "put_beside") n 23 (bM (List.drop 3 (aL BB (so "put_beside")))) σ kn kr
noncomputable def fB:Expr:=bW (List.drop 3 (aL BB (so "put_beside")))
noncomputable def As(n:Nat)(σ:aA)(kn:KN)(kr:KR):R V:=stm BB (so "put_beside") n 24 (List.drop 4 (aL BB (so "put_beside"))) σ kn kr
theorem Pn:rn (n+1) "put_beside" [.fz a1,.fz a2,.fz a3,.fz a4]=(rb (aN (plI (ofP (getItem a1 (.int 1)))) (fun d1=>(.ok true)) (fun d1=>(ofP (getItem d1 (.int 0))))) fun v2=>(rb (aE (rn n "need_put") [(aM (.ok (.fz (.bool (bR a3)))) (aC (ofP (cP a3)) .Eq (aK cP (ofP (rdv (V.clear v2)))))),(.ok (.fz a4)),(.ok (.fz (.str (so "form")))),(.ok (.fz a3))]) fun _=>(rb (ofP (bE a2)) fun v3=>(rb (plI (ofP (getItem a1 (.int 1)))) fun l4=>aQ (fA n) fB l4 (gE (ζ a1) (ζ a2) (ζ a3) (ζ a4) (some (V.clear v2)) (some v3) none none none) (fun σ=>As n σ (fun _=>R.ok (.fz .none)) R.ok) R.ok)))):=by kernel_rfl
theorem Po:aR fB (.tuple [d0,d1,d2]) (gE p0 p1 p2 p3 p4 p5 p6 p7 p8)=.ok (gE p0 p1 p2 p3 p4 p5 (ζ d0) (ζ d1) (ζ d2)):=by kernel_rfl
theorem Pp:fA n (gE (ζ x1) (ζ x2) (ζ x3) (ζ x4) (some w5) (some w6) (ζ d0) (ζ d1) (ζ d2)) kn kr=(bD (aE (rn n "put_back") [(.ok (.fz d2)),(ofP (getItem x2 d1)),(ofP (getItem x3 d0)),(aB .Add (.ok (.fz x4)) (cG [(.ok (.fz d0))]))]) (ofP (c9 w6)) (.ok (.fz d1)) fun o1=>(kn (gE (ζ x1) (ζ x2) (ζ x3) (ζ x4) (some w5) (some (.own o1)) (ζ d0) (ζ d1) (ζ d2)))):=by kernel_rfl
theorem Pq:As n (gE (ζ x1) (ζ x2) (ζ x3) (ζ x4) (some w5) (some w6) o7 o8 o9) kn kr=(dP w6 kr):=by kernel_rfl
noncomputable def hJ(o0 o1 o2 o3 o4 o5 o6 o7:Option V):aA:=[((so "view"),o0),((so "old"),o1),((so "new"),o2),((so "way"),o3),((so "key"),o4),((so "good"),o5),((so "hidden"),o6),((so "found"),o7)]
noncomputable def sM(n:Nat)(σ:aA)(kn:KN)(kr:KR):R V:=stm BB (so "put_sift") n 23 (bM (List.drop 5 (aL BB (so "put_sift")))) σ kn kr
noncomputable def sN:Expr:=bW (List.drop 5 (aL BB (so "put_sift")))
noncomputable def At(n:Nat)(σ:aA)(kn:KN)(kr:KR):R V:=stm BB (so "put_sift") n 24 (List.drop 6 (aL BB (so "put_sift"))) σ kn kr
theorem Pr:rn (n+1) "put_sift" [.fz a1,.fz a2,.fz a3,.fz a4]=(rb (aM (rn n "all_branches" [.fz a3]) (aK cE (aN (ofP (items a3)) (fun d1=>(.ok true)) (fun d1=>(aE (rn n "is_sifted") [(ofP (getItem a3 d1)),(ofP (getItem a1 (.int 1))),(ofP (getItem a1 (.int 2)))]))))) fun v2=>(rb (aE (rn n "need_put") [(aY (V.clear v2)),(.ok (.fz a4)),(.ok (.fz (.str (so "form")))),(.ok (.fz a3))]) fun _=>(rb (aN (ofP (items a2)) (fun d3=>(tst (unS .Not (aE (rn n "is_sifted") [(ofP (getItem a2 d3)),(ofP (getItem a1 (.int 1))),(ofP (getItem a1 (.int 2)))])))) (fun d3=>(.ok (.fz d3)))) fun v4=>(rb (aE (rn n "need_put") [(aC (aN (ofP (items a3)) (fun d6=>(tst (aC (.ok (.fz d6)) .In (ofP (rdv (V.clear v4)))))) (fun d6=>(.ok (.fz d6)))) .Eq (.ok (.own (.list [])))),(.ok (.fz a4)),(.ok (.fz (.str (so "hidden")))),(.ok (.fz a3))]) fun _=>(rb (plI (ofP (rdv (V.clear (V.clear v4))))) fun l7=>aQ (sM n) sN l7 (hJ (ζ a1) (ζ a2) (ζ a3) (ζ a4) none (some (V.clear v2)) (some (V.clear (V.clear v4))) (some (.own (.dict [])))) (fun σ=>At n σ (fun _=>R.ok (.fz .none)) R.ok) R.ok))))):=by kernel_rfl
theorem Ps:aR sN d0 (hJ p0 p1 p2 p3 p4 p5 p6 p7)=.ok (hJ p0 p1 p2 p3 (ζ d0) p5 p6 p7):=by kernel_rfl
theorem Pt:sM n (hJ (ζ x1) (ζ x2) (ζ x3) (ζ x4) (ζ d0) (some w6) (some w7) (some (.own x8))) kn kr=(bD (ofP (getItem x2 d0)) (.ok x8) (.ok (.fz d0)) fun o1=>(kn (hJ (ζ x1) (ζ x2) (ζ x3) (ζ x4) (ζ d0) (some w6) (some w7) (some (.own o1))))):=by kernel_rfl
theorem Pu:At n (hJ (ζ x1) (ζ x2) (ζ x3) (ζ x4) o5 (some w6) (some w7) (some (.own x8))) kn kr=(gY (.ok x8) (so "update") [(.ok (.fz x3))] fun o1=>(kr (.own o1))):=by kernel_rfl
noncomputable def hU(o0 o1 o2 o3 o4 o5 o6 o7 o8 o9 o10:Option V):aA:=[((so "view"),o0),((so "old"),o1),((so "new"),o2),((so "way"),o3),((so "one"),o4),((so "other"),o5),((so "key"),o6),((so "left"),o7),((so "right"),o8),((so "row"),o9),((so "found"),o10)]
noncomputable def sO(n:Nat)(σ:aA)(kn:KN)(kr:KR):R V:=stm BB (so "put_join") n 23 (bM (List.drop 6 (aL BB (so "put_join")))) σ kn kr
noncomputable def sP:Expr:=bW (List.drop 6 (aL BB (so "put_join")))
noncomputable def Au(n:Nat)(σ:aA)(kn:KN)(kr:KR):R V:=stm BB (so "put_join") n 24 (List.drop 7 (aL BB (so "put_join"))) σ kn kr
theorem Pv:rn (n+1) "put_join" [.fz a1,.fz a2,.fz a3,.fz a4]=(rb (aE (rn n "need_put") [(rn n "all_branches" [.fz a3]),(.ok (.fz a4)),(.ok (.fz (.str (so "form")))),(.ok (.fz a3))]) fun _=>(rb (aI (.ok a2) (ofP (getItem a1 (.int 1)))) fun v1=>(rb (aI (.ok a2) (ofP (getItem a1 (.int 2)))) fun v2=>(rb (aE (rn n "need_put") [(aC (aN (ofP (items a3)) (fun d4=>(tst (aC (aC (.ok (.fz d4)) .In (ofP (rdv (V.clear v1)))) .NotEq (aC (.ok (.fz d4)) .In (ofP (rdv (V.clear v2))))))) (fun d4=>(.ok (.fz d4)))) .Eq (.ok (.own (.list [])))),(.ok (.fz a4)),(.ok (.fz (.str (so "hidden")))),(.ok (.fz a3))]) fun _=>(rb (aK bE (aN (plI (ofP (rdv (V.clear (V.clear v1))))) (fun d5=>(tst (aC (.ok (.fz d5)) .NotIn (ofP (rdv (V.clear (V.clear v2))))))) (fun d5=>(aO [(.ok (.fz d5)),(aI (a9 (V.clear (V.clear v1))) (.ok (.fz d5)))])))) fun v6=>(rb (aK bE (aN (plI (ofP (rdv (V.clear (V.clear (V.clear v2)))))) (fun d7=>(tst (aC (.ok (.fz d7)) .NotIn (ofP (rdv (V.clear (V.clear (V.clear v1)))))))) (fun d7=>(aO [(.ok (.fz d7)),(aI (a9 (V.clear (V.clear (V.clear v2)))) (.ok (.fz d7)))])))) fun v8=>(rb (ofP (items a3)) fun l9=>aQ (sO n) sP l9 (hU (ζ a1) (ζ a2) (ζ a3) (ζ a4) (some (V.clear (V.clear (V.clear v1)))) (some (V.clear (V.clear (V.clear v2)))) none (some v6) (some v8) none none) (fun σ=>Au n σ (fun _=>R.ok (.fz .none)) R.ok) R.ok))))))):=by kernel_rfl
theorem Pw:aR sP d0 (hU p0 p1 p2 p3 p4 p5 p6 p7 p8 p9 p10)=.ok (hU p0 p1 p2 p3 p4 p5 (ζ d0) p7 p8 p9 p10):=by kernel_rfl
theorem Px:sO n (hU (ζ x1) (ζ x2) (ζ x3) (ζ x4) (some w5) (some w6) (ζ d0) (some w8) (some w9) o10 none) kn kr=(rb (ofP (getItem x3 d0)) fun v1=>(bD (aK bE (aN (plI (ofP (rdv (V.clear v1)))) (fun d2=>(tst (aC (.ok (.fz d2)) .In (ofP (getItem x1 (.int 3)))))) (fun d2=>(aO [(.ok (.fz d2)),(aI (a9 (V.clear v1)) (.ok (.fz d2)))])))) (ofP (c9 w8)) (.ok (.fz d0)) fun o3=>(bD (aK bE (aN (plI (ofP (rdv (V.clear (V.clear v1))))) (fun d4=>(tst (aC (.ok (.fz d4)) .NotIn (ofP (getItem x1 (.int 3)))))) (fun d4=>(aO [(.ok (.fz d4)),(aI (a9 (V.clear (V.clear v1))) (.ok (.fz d4)))])))) (ofP (c9 w9)) (.ok (.fz d0)) fun o5=>(kn (hU (ζ x1) (ζ x2) (ζ x3) (ζ x4) (some w5) (some w6) (ζ d0) (some (.own o3)) (some (.own o5)) (some (V.clear (V.clear v1))) none))))):=by kernel_rfl
theorem Py:Au n (hU (ζ x1) (ζ x2) (ζ x3) (ζ x4) (some w5) (some w6) o7 (some w8) (some w9) o10 none) kn kr=(rb (ofP (bE x2)) fun v1=>(bD (ofP (rdv (V.clear w8))) (ofP (c9 v1)) (ofP (getItem x1 (.int 1))) fun o2=>(bD (ofP (rdv (V.clear w9))) (.ok o2) (ofP (getItem x1 (.int 2))) fun o3=>(kr (.own o3))))):=by kernel_rfl
noncomputable def fP(o0 o1 o2 o3 o4 o5:Option V):aA:=[((so "view"),o0),((so "old"),o1),((so "new"),o2),((so "way"),o3),((so "found"),o4),((so "name"),o5)]
noncomputable def nY(n:Nat)(σ:aA)(kn:KN)(kr:KR):R V:=stm BB (so "put_each") n 23 (bM (List.drop 3 (aL BB (so "put_each")))) σ kn kr
noncomputable def n0:Expr:=bW (List.drop 3 (aL BB (so "put_each")))
noncomputable def Av(n:Nat)(σ:aA)(kn:KN)(kr:KR):R V:=stm BB (so "put_each") n 24 (List.drop 4 (aL BB (so "put_each"))) σ kn kr
theorem Pz:rn (n+1) "put_each" [.fz a1,.fz a2,.fz a3,.fz a4]=(rb (rn n "need_put" [.fz (.bool (bR a3)),.fz a4,.fz (.str (so "form")),.fz a3]) fun _=>(rb (aE (rn n "need_put") [(aC (ofP (cP a3)) .Eq (ofP (cP a2))),(.ok (.fz a4)),(.ok (.fz (.str (so "names")))),(.ok (.fz a3))]) fun _=>(rb (plI (ofP (cP a3))) fun l1=>aQ (nY n) n0 l1 (fP (ζ a1) (ζ a2) (ζ a3) (ζ a4) (some (.own (.dict []))) none) (fun σ=>Av n σ (fun _=>R.ok (.fz .none)) R.ok) R.ok))):=by kernel_rfl
theorem P0:aR n0 d0 (fP p0 p1 p2 p3 p4 p5)=.ok (fP p0 p1 p2 p3 p4 (ζ d0)):=by kernel_rfl
theorem P1:nY n (fP (ζ x1) (ζ x2) (ζ x3) (ζ x4) (some (.own x5)) (ζ d0)) kn kr=(bD (aE (rn n "put_back") [(ofP (getItem x1 (.int 1))),(ofP (getItem x2 d0)),(ofP (getItem x3 d0)),(aB .Add (.ok (.fz x4)) (cG [(.ok (.fz d0))]))]) (.ok x5) (.ok (.fz d0)) fun o1=>(kn (fP (ζ x1) (ζ x2) (ζ x3) (ζ x4) (some (.own o1)) (ζ d0)))):=by kernel_rfl
theorem P2:Av n (fP (ζ x1) (ζ x2) (ζ x3) (ζ x4) (some (.own x5)) o6) kn kr=(kr (.own x5)):=by kernel_rfl
theorem kG:rn (n+1) "put" [.fz a1,.fz a2,.fz a3]=(rb (rn n "need_view" [.fz a1]) fun _=>(rb (rn n "need_tree" [.fz a2]) fun _=>(rb (rn n "shown" [.fz a1,.fz a2]) fun _=>(rb (rn n "need_tree" [.fz a3]) fun _=>(rb (aE (rn n "copied") [(rn n "put_back" [.fz a1,.fz a2,.fz a3,.fz (.list [])])]) R.ok))))):=by kernel_rfl
theorem Z1:rn (n+1) "note_of" [.fz a1]=(rb (ofP (getItem a1 (.int 0))) fun v1=>(ifS (aC (ofP (rdv (V.clear v1))) .Eq (.ok (.fz (.str (so "beside"))))) (rb (aN (plI (ofP (getItem a1 (.int 1)))) (fun d2=>(.ok true)) (fun d2=>(aB .Add (aB .Add (aB .Add (aB .Add (aB .Add (aB .Add (.ok (.fz (.str (so "(")))) (ofP (getItem d2 (.int 0)))) (.ok (.fz (.str (so " "))))) (ofP (getItem d2 (.int 1)))) (.ok (.fz (.str (so " "))))) (aE (rn n "note_of") [(ofP (getItem d2 (.int 2)))])) (.ok (.fz (.str (so ")"))))))) fun v3=>(rb (aB .Add (aB .Add (.ok (.fz (.str (so "(beside ")))) (bJ (so "join") (.ok (.fz (.str (so " ")))) [(ofP (rdv (V.clear v3)))])) (.ok (.fz (.str (so ")"))))) R.ok)) (ifS (aC (ofP (rdv (V.clear (V.clear v1)))) .Eq (.ok (.fz (.str (so "join"))))) (rb (aB .Add (aB .Add (aB .Add (aB .Add (aB .Add (aB .Add (.ok (.fz (.str (so "(join ")))) (ofP (getItem a1 (.int 1)))) (.ok (.fz (.str (so " "))))) (ofP (getItem a1 (.int 2)))) (.ok (.fz (.str (so " ("))))) (bJ (so "join") (.ok (.fz (.str (so " ")))) [(ofP (getItem a1 (.int 3)))])) (.ok (.fz (.str (so "))"))))) R.ok) (ifS (orS (aC (ofP (rdv (V.clear (V.clear (V.clear v1))))) .Eq (.ok (.fz (.str (so "each"))))) (aC (ofP (rdv (V.clear (V.clear (V.clear v1))))) .Eq (.ok (.fz (.str (so "then")))))) (rb (aB .Add (aB .Add (aB .Add (aB .Add (.ok (.fz (.str (so "(")))) (ofP (rdv (V.clear (V.clear (V.clear (V.clear v1))))))) (.ok (.fz (.str (so " "))))) (bJ (so "join") (.ok (.fz (.str (so " ")))) [(aN (plI (bX (.ok a1) (some (.ok (.fz (.int 1)))) none)) (fun d4=>(.ok true)) (fun d4=>(rn n "note_of" [.fz d4])))])) (.ok (.fz (.str (so ")"))))) R.ok) (rb (aB .Add (aB .Add (.ok (.fz (.str (so "(")))) (bJ (so "join") (.ok (.fz (.str (so " ")))) [(aN (ofP (items a1)) (fun d5=>(.ok true)) (fun d5=>(ofP (l5 d5))))])) (.ok (.fz (.str (so ")"))))) R.ok))))):=by kernel_rfl
theorem Aw:rn (n+1) "written" [.fz a1]=(rb (rn n "need_view" [.fz a1]) fun _=>(rb (rn n "note_of" [.fz a1]) R.ok)):=by kernel_rfl
theorem P3:rn (n+1) "_law_cell_at" [.fz a1,.fz a2]=(ifS (aC (.ok (.fz a2)) .Lt (ofP (bH a1))) (rb (ofP (getItem a1 a2)) R.ok) (R.ok (.fz (.int 0)))):=by kernel_rfl
theorem P4:rn (n+1) "_law_mixed" [.fz a1,.fz a2]=(rb (aB .Mod (aB .Add (aB .Add (aB .Mult (aE (rn n "_law_cell_at") [(.ok (.fz a1)),(aB .Add (.ok (.fz (.int 2))) (ofP (aD .Mod a2 (.int 24))))]) (.ok (.fz (.int 48271)))) (ofP (aD .Mult (.int 7919) a2))) (.ok (.fz (.int 12345)))) (.ok (.fz (.int 2147483647)))) R.ok):=by kernel_rfl
theorem P5:rn (n+1) "_law_name" [.fz a1,.fz a2]=(rb (aB .Add (.ok (.fz (.int 1))) (ofP (aD .Mod a1 (.int 8)))) fun v1=>(rb (aN (rgI (.ok (.fz (.int 8)))) (fun d2=>(.ok true)) (fun d2=>(aI (.ok (.str (so "abcdefghijklmnopqrstuvwxyz"))) (aB .Mod (aB .Add (ofP (aD .FloorDiv a1 (.int 8))) (ofP (aD .Mult (.int 5) d2))) (.ok (.fz (.int 26))))))) fun v3=>(ifS (aC (aB .Mod (ofP (aD .FloorDiv a1 (.int 1664))) (.ok (.fz (.int 3)))) .Eq (.ok (.fz (.int 1)))) (bD (aI (.ok (.str (so "abcdefghijklmnopqrstuvwxyz"))) (aB .Mod (aB .Add (ofP (aD .FloorDiv a1 (.int 8))) (ofP (aD .FloorDiv a2 (.int 8)))) (.ok (.fz (.int 26))))) (ofP (c9 v3)) (.ok (.fz (.int 0))) fun o4=>(rb (bJ (so "join") (.ok (.fz (.str (so "")))) [(bX (.ok o4) none (some (aB .Add (.ok (.fz (.int 1))) (ofP (aD .Mod a2 (.int 8))))))]) R.ok)) (bD (aI (.ok (.str (so "abcdefghijklmnopqrstuvwxyz"))) (aB .Mod (aB .Add (aB .Add (ofP (aD .FloorDiv a1 (.int 8))) (.ok (.fz (.int 7)))) (.ok (.fz a2))) (.ok (.fz (.int 26))))) (ofP (c9 v3)) (aB .Mod (ofP (aD .FloorDiv a1 (.int 208))) (ofP (rdv v1))) fun o5=>(rb (bJ (so "join") (.ok (.fz (.str (so "")))) [(bX (.ok o5) none (some (ofP (rdv (V.clear v1)))))]) R.ok))))):=by kernel_rfl
theorem P6:rn (n+1) "_law_names" [.fz a1]=(rb (aN (rgI (.ok (.fz (.int 14)))) (fun d1=>(.ok true)) (fun d1=>(aE (rn n "_law_name") [(rn n "_law_cell_at" [.fz a1,.fz (.int 0)]),(.ok (.fz d1))]))) R.ok):=by kernel_rfl
theorem P7:rn (n+1) "_law_number" [.fz a1]=(ifS (aC (ofP (aD .Mod a1 (.int 5))) .Eq (.ok (.fz (.int 4)))) (rb (aB .Add (aI (e8 (cG [(ofP (aD .Pow (.int 10) (.int 20))),(unS .USub (ofP (aD .Pow (.int 10) (.int 20)))),(ofP (aD .Pow (.int 10) (.int 12))),(.ok (.fz (.int 0)))])) (aB .Mod (ofP (aD .FloorDiv a1 (.int 5))) (.ok (.fz (.int 4))))) (aB .Mod (ofP (aD .FloorDiv a1 (.int 20))) (.ok (.fz (.int 3))))) R.ok) (ifS (aC (ofP (aD .Mod a1 (.int 5))) .Eq (.ok (.fz (.int 3)))) (rb (aB .Sub (aB .Mod (aB .Mult (ofP (aD .FloorDiv a1 (.int 5))) (.ok (.fz (.int 48271)))) (.ok (.fz (.int 2000003)))) (.ok (.fz (.int 1000001)))) R.ok) (ifS (aC (ofP (aD .Mod a1 (.int 15))) .Eq (.ok (.fz (.int 2)))) (rb (aB .Mult (aK iH (aB .Mult (.ok (.fz (.str (so "37")))) (aB .Add (.ok (.fz (.int 1))) (aB .Mod (ofP (aD .FloorDiv a1 (.int 15))) (.ok (.fz (.int 14))))))) (aB .Sub (.ok (.fz (.int 1))) (aB .Mult (aB .Mod (ofP (aD .FloorDiv a1 (.int 210))) (.ok (.fz (.int 2)))) (.ok (.fz (.int 2)))))) R.ok) (rb (aB .Sub (aB .Mod (ofP (aD .FloorDiv a1 (.int 5))) (.ok (.fz (.int 9)))) (.ok (.fz (.int 4)))) R.ok)))):=by kernel_rfl
noncomputable def cH(o0 o1 o2 o3 o4 o5 o6 o7 o8 o9:Option V):aA:=[((so "_law_script"),o0),((so "_law_k"),o1),((so "_law_names_here"),o2),((so "_law_fields"),o3),((so "_law_found"),o4),((so "_law_j"),o5),((so "_law_row"),o6),((so "_law_i"),o7),((so "_law_field"),o8),((so "_law_cell"),o9)]
noncomputable def n6(n:Nat)(σ:aA)(kn:KN)(kr:KR):R V:=stm BB (so "_law_table") n 23 (bM (List.drop 1 (aL BB (so "_law_table")))) σ kn kr
noncomputable def n7:Expr:=bW (List.drop 1 (aL BB (so "_law_table")))
noncomputable def Ax(n:Nat)(σ:aA)(kn:KN)(kr:KR):R V:=stm BB (so "_law_table") n 24 (List.drop 2 (aL BB (so "_law_table"))) σ kn kr
theorem P8:rn (n+1) "_law_table" [.fz a1,.fz a2,.fz a3,.fz a4]=(rb (rgI (.ok (.fz (.int 4)))) fun l1=>aQ (n6 n) n7 l1 (cH (ζ a1) (ζ a2) (ζ a3) (ζ a4) (some (.own (.dict []))) none none none none none) (fun σ=>Ax n σ (fun _=>R.ok (.fz .none)) R.ok) R.ok):=by kernel_rfl
theorem P9:aR n7 d0 (cH p0 p1 p2 p3 p4 p5 p6 p7 p8 p9)=.ok (cH p0 p1 p2 p3 p4 (ζ d0) p6 p7 p8 p9):=by kernel_rfl
noncomputable def kH(n:Nat)(σ:aA)(kn:KN)(kr:KR):R V:=stm BB (so "_law_table") n 21 (bM (List.drop 1 (iY (bM (List.drop 1 (aL BB (so "_law_table"))))))) σ kn kr
noncomputable def kI:Expr:=bW (List.drop 1 (iY (bM (List.drop 1 (aL BB (so "_law_table"))))))
noncomputable def sQ(n:Nat)(σ:aA)(kn:KN)(kr:KR):R V:=stm BB (so "_law_table") n 22 (List.drop 2 (iY (bM (List.drop 1 (aL BB (so "_law_table")))))) σ kn kr
theorem Qa:n6 n (cH (ζ x1) (ζ x2) (ζ x3) (ζ x4) (some (.own x5)) (ζ d0) o7 o8 o9 o10) kn kr=(ifS (aC (aB .Mod (aE (rn n "_law_mixed") [(.ok (.fz x1)),(aB .Add (.ok (.fz x2)) (ofP (aD .Mult (.int 10) d0)))]) (.ok (.fz (.int 3)))) .Gt (.ok (.fz (.int 0)))) (rb (enI (.ok (.fz x4))) fun l1=>aQ (kH n) kI l1 (cH (ζ x1) (ζ x2) (ζ x3) (ζ x4) (some (.own x5)) (ζ d0) (some (.own (.dict []))) o8 o9 o10) (fun σ=>sQ n σ (fun σ=>stm BB (so "_law_table") n 23 (List.drop 1 (bM (List.drop 1 (aL BB (so "_law_table"))))) σ kn kr) kr) kr) (kn (cH (ζ x1) (ζ x2) (ζ x3) (ζ x4) (some (.own x5)) (ζ d0) o7 o8 o9 o10))):=by kernel_rfl
theorem Qb:Ax n (cH (ζ x1) (ζ x2) (ζ x3) (ζ x4) (some (.own x5)) o6 o7 o8 o9 o10) kn kr=(kr (.own x5)):=by kernel_rfl
theorem Qc:aR kI (.tuple [d0,d1]) (cH p0 p1 p2 p3 p4 p5 p6 p7 p8 p9)=.ok (cH p0 p1 p2 p3 p4 p5 p6 (ζ d0) (ζ d1) p9):=by kernel_rfl
theorem Qd:kH n (cH (ζ x1) (ζ x2) (ζ x3) (ζ x4) (some (.own x5)) (ζ x6) (some (.own x7)) (ζ d0) (ζ d1) o10) kn kr=(rb (aE (rn n "_law_mixed") [(.ok (.fz x1)),(aB .Add (aB .Add (aB .Add (.ok (.fz x2)) (ofP (aD .Mult (.int 10) x6))) (.ok (.fz d0))) (.ok (.fz (.int 1))))]) fun v1=>(ifS (aC (aB .Mod (ofP (rdv (V.clear v1))) (.ok (.fz (.int 4)))) .Gt (.ok (.fz (.int 0)))) (bD (aE (rn n "_law_number") [(aB .FloorDiv (ofP (rdv (V.clear (V.clear v1)))) (.ok (.fz (.int 4))))]) (.ok x7) (.ok (.fz d1)) fun o2=>(kn (cH (ζ x1) (ζ x2) (ζ x3) (ζ x4) (some (.own x5)) (ζ x6) (some (.own o2)) (ζ d0) (ζ d1) (some (V.clear (V.clear v1)))))) (ifS (aC (aB .Mod (ofP (rdv (V.clear (V.clear v1)))) (.ok (.fz (.int 12)))) .Eq (.ok (.fz (.int 0)))) (bD (dY [((ofP (getItem x3 (.int 0))),(aB .Mod (aB .FloorDiv (ofP (rdv (V.clear (V.clear (V.clear v1))))) (.ok (.fz (.int 12)))) (.ok (.fz (.int 5)))))]) (.ok x7) (.ok (.fz d1)) fun o3=>(kn (cH (ζ x1) (ζ x2) (ζ x3) (ζ x4) (some (.own x5)) (ζ x6) (some (.own o3)) (ζ d0) (ζ d1) (some (V.clear (V.clear (V.clear v1))))))) (kn (cH (ζ x1) (ζ x2) (ζ x3) (ζ x4) (some (.own x5)) (ζ x6) (some (.own x7)) (ζ d0) (ζ d1) (some (V.clear (V.clear v1)))))))):=by kernel_rfl
theorem Qe:sQ n (cH (ζ x1) (ζ x2) (ζ x3) (ζ x4) (some (.own x5)) (ζ x6) (some (.own x7)) o8 o9 o10) kn kr=(bD (.ok (.fz x7)) (.ok x5) (aI (.ok x3) (ofP (aD .Add (.int 9) x6))) fun o1=>(kn (cH (ζ x1) (ζ x2) (ζ x3) (ζ x4) (some (.own o1)) (ζ x6) (ζ x7) o8 o9 o10))):=by kernel_rfl
noncomputable def dC(o0 o1 o2 o3:Option V):aA:=[((so "_law_script"),o0),((so "_law_names_here"),o1),((so "_law_found"),o2),((so "_law_k"),o3)]
noncomputable def kJ(n:Nat)(σ:aA)(kn:KN)(kr:KR):R V:=stm BB (so "_law_house") n 23 (bM (List.drop 5 (aL BB (so "_law_house")))) σ kn kr
noncomputable def kK:Expr:=bW (List.drop 5 (aL BB (so "_law_house")))
noncomputable def Ay(n:Nat)(σ:aA)(kn:KN)(kr:KR):R V:=stm BB (so "_law_house") n 24 (List.drop 6 (aL BB (so "_law_house"))) σ kn kr
theorem Qf:rn (n+1) "_law_house" [.fz a1,.fz a2]=(rb (dY [((ofP (getItem a2 (.int 0))),(aE (rn n "_law_number") [(rn n "_law_mixed" [.fz a1,.fz (.int 1)])]))]) fun v1=>(bD (dY [((ofP (getItem a2 (.int 5))),(aE (rn n "_law_number") [(rn n "_law_mixed" [.fz a1,.fz (.int 2)])])),((ofP (getItem a2 (.int 6))),(dY [((ofP (getItem a2 (.int 0))),(.ok (.fz (.int 3))))]))]) (ofP (c9 v1)) (ofP (getItem a2 (.int 1))) fun o2=>(bD (aE (rn n "_law_table") [(.ok (.fz a1)),(.ok (.fz (.int 20))),(.ok (.fz a2)),(bX (.ok a2) (some (.ok (.fz (.int 5)))) (some (.ok (.fz (.int 7)))))]) (.ok o2) (ofP (getItem a2 (.int 2))) fun o3=>(bD (aE (rn n "_law_table") [(.ok (.fz a1)),(.ok (.fz (.int 70))),(.ok (.fz a2)),(bX (.ok a2) (some (.ok (.fz (.int 7)))) (some (.ok (.fz (.int 9)))))]) (.ok o3) (ofP (getItem a2 (.int 3))) fun o4=>(bD (dY [((ofP (getItem a2 (.int 2))),(aE (rn n "_law_table") [(.ok (.fz a1)),(.ok (.fz (.int 120))),(.ok (.fz a2)),(bX (.ok a2) (some (.ok (.fz (.int 5)))) (some (.ok (.fz (.int 9)))))])),((ofP (getItem a2 (.int 0))),(.ok (.fz (.int 1))))]) (.ok o4) (ofP (getItem a2 (.int 4))) fun o5=>(rb (rgI (.ok (.fz (.int 5)))) fun l6=>aQ (kJ n) kK l6 (dC (ζ a1) (ζ a2) (some (.own o5)) none) (fun σ=>Ay n σ (fun _=>R.ok (.fz .none)) R.ok) R.ok)))))):=by kernel_rfl
theorem Qg:aR kK d0 (dC p0 p1 p2 p3)=.ok (dC p0 p1 p2 (ζ d0)):=by kernel_rfl
theorem Qh:kJ n (dC (ζ x1) (ζ x2) (some (.own x3)) (ζ d0)) kn kr=(ifS (aC (aB .Mod (aE (rn n "_law_mixed") [(.ok (.fz x1)),(ofP (aD .Add (.int 200) d0))]) (.ok (.fz (.int 9)))) .Eq (.ok (.fz (.int 0)))) (gY (.ok x3) (so "pop") [(ofP (getItem x2 d0))] fun o1=>(kn (dC (ζ x1) (ζ x2) (some (.own o1)) (ζ d0)))) (kn (dC (ζ x1) (ζ x2) (some (.own x3)) (ζ d0)))):=by kernel_rfl
theorem Qi:Ay n (dC (ζ x1) (ζ x2) (some (.own x3)) o4) kn kr=(rb (aI (e8 (cG [(.ok (.fz x3)),(bJ (so "get") (.ok (.fz x3)) [(ofP (getItem x2 (.int 2))),(.ok (.own (.dict [])))]),(bJ (so "get") (.ok (.fz x3)) [(ofP (getItem x2 (.int 4))),(.ok (.fz (.int 5)))])])) (aB .Mod (aB .Mod (rn n "_law_cell_at" [.fz x1,.fz (.int 1)]) (.ok (.fz (.int 5)))) (.ok (.fz (.int 3))))) kr):=by kernel_rfl
theorem n8:rn (n+1) "_law_copy" [.fz a1]=(ifS (.ok (.fz (.bool (bR a1)))) (rb (aK bE (aN (ofP (items a1)) (fun d1=>(.ok true)) (fun d1=>(aO [(.ok (.fz d1)),(aE (rn n "_law_copy") [(ofP (getItem a1 d1))])])))) R.ok) (R.ok (.fz a1))):=by kernel_rfl
theorem sR:rn (n+1) "_law_same" [.fz a1,.fz a2]=(ifS (.ok (.fz (.bool (bR a2)))) (ifS (orS (unS .Not (.ok (.fz (.bool (bR a1))))) (aC (aK cP (ofP (dR a1))) .NotEq (aK cP (ofP (dR a2))))) (R.ok (.fz (.bool false))) (rb (aK cE (aN (ofP (items a2)) (fun d1=>(.ok true)) (fun d1=>(aE (rn n "_law_same") [(ofP (getItem a1 d1)),(ofP (getItem a2 d1))])))) R.ok)) (rb (aM (.ok (.fz (.bool (eB a1)))) (aM (unS .Not (.ok (.fz (.bool (fU a1))))) (aP (ofP (cmp .Eq a1 a2))))) R.ok)):=by kernel_rfl
theorem Az:rn (n+1) "_law_is_table" [.fz a1]=(ifS (unS .Not (.ok (.fz (.bool (bR a1))))) (R.ok (.fz (.bool false))) (rb (aC (aN (ofP (items a1)) (fun d1=>(tst (unS .Not (eH (so "dict") (ofP (getItem a1 d1)))))) (fun d1=>(.ok (.fz d1)))) .Eq (.ok (.own (.list [])))) R.ok)):=by kernel_rfl
theorem Qj:rn (n+1) "_law_high" [.fz a1,.fz a2,.fz a3]=(rb (aM (eH (so "int") (bJ (so "get") (.ok (.fz a1)) [(.ok (.fz a2))])) (aC (ofP (getItem a1 a2)) .GtE (.ok (.fz a3)))) R.ok):=by kernel_rfl
noncomputable def cI(o0 o1 o2 o3 o4 o5:Option V):aA:=[((so "_law_view_here"),o0),((so "_law_tree"),o1),((so "_law_one"),o2),((so "_law_other"),o3),((so "_law_key"),o4),((so "_law_found"),o5)]
noncomputable def n9(n:Nat)(σ:aA)(kn:KN)(kr:KR):R V:=stm BB (so "_law_joins") n 23 (bM (List.drop 3 (aL BB (so "_law_joins")))) σ kn kr
noncomputable def oA:Expr:=bW (List.drop 3 (aL BB (so "_law_joins")))
noncomputable def sS(n:Nat)(σ:aA)(kn:KN)(kr:KR):R V:=stm BB (so "_law_joins") n 24 (List.drop 4 (aL BB (so "_law_joins"))) σ kn kr
theorem Qk:rn (n+1) "_law_joins" [.fz a1,.fz a2]=(rb (bJ (so "get") (.ok (.fz a2)) [(ofP (getItem a1 (.int 1)))]) fun v1=>(rb (bJ (so "get") (.ok (.fz a2)) [(ofP (getItem a1 (.int 2)))]) fun v2=>(ifS (orS (unS .Not (aE (rn n "_law_is_table") [(aY (V.clear v1))])) (unS .Not (aE (rn n "_law_is_table") [(aY (V.clear v2))]))) (R.ok (.fz .none)) (rb (plI (ofP (rdv (V.clear (V.clear v1))))) fun l3=>aQ (n9 n) oA l3 (cI (ζ a1) (ζ a2) (some (V.clear (V.clear v1))) (some (V.clear v2)) none none) (fun σ=>sS n σ (fun _=>R.ok (.fz .none)) R.ok) R.ok)))):=by kernel_rfl
theorem Ql:aR oA d0 (cI p0 p1 p2 p3 p4 p5)=.ok (cI p0 p1 p2 p3 (ζ d0) p5):=by kernel_rfl
theorem Qm:n9 n (cI (ζ x1) (ζ x2) (some w3) (some w4) (ζ d0) none) kn kr=(ifS (aC (aN (plI (aI (a9 w3) (.ok (.fz d0)))) (fun d1=>(tst (aC (.ok (.fz d1)) .NotIn (ofP (getItem x1 (.int 3)))))) (fun d1=>(.ok (.fz d1)))) .NotEq (.ok (.own (.list [])))) (kr (.fz .none)) (kn (cI (ζ x1) (ζ x2) (some w3) (some w4) (ζ d0) none))):=by kernel_rfl
noncomputable def oB(n:Nat)(σ:aA)(kn:KN)(kr:KR):R V:=stm BB (so "_law_joins") n 23 (bM (List.drop 4 (aL BB (so "_law_joins")))) σ kn kr
noncomputable def oC:Expr:=bW (List.drop 4 (aL BB (so "_law_joins")))
noncomputable def sU(n:Nat)(σ:aA)(kn:KN)(kr:KR):R V:=stm BB (so "_law_joins") n 24 (List.drop 5 (aL BB (so "_law_joins"))) σ kn kr
theorem Qn:sS n (cI (ζ x1) (ζ x2) (some w3) (some w4) o5 none) kn kr=(rb (plI (ofP (rdv (V.clear w4)))) fun l1=>aQ (oB n) oC l1 (cI (ζ x1) (ζ x2) (some w3) (some (V.clear w4)) o5 none) (fun σ=>sU n σ kn kr) kr):=by kernel_rfl
theorem Qo:aR oC d0 (cI p0 p1 p2 p3 p4 p5)=.ok (cI p0 p1 p2 p3 (ζ d0) p5):=by kernel_rfl
theorem Qp:oB n (cI (ζ x1) (ζ x2) (some w3) (some w4) (ζ d0) none) kn kr=(ifS (aC (aN (plI (aI (a9 w4) (.ok (.fz d0)))) (fun d1=>(tst (aC (.ok (.fz d1)) .In (ofP (getItem x1 (.int 3)))))) (fun d1=>(.ok (.fz d1)))) .NotEq (.ok (.own (.list [])))) (kr (.fz .none)) (kn (cI (ζ x1) (ζ x2) (some w3) (some w4) (ζ d0) none))):=by kernel_rfl
noncomputable def kL(n:Nat)(σ:aA)(kn:KN)(kr:KR):R V:=stm BB (so "_law_joins") n 23 (bM (List.drop 6 (aL BB (so "_law_joins")))) σ kn kr
noncomputable def kM:Expr:=bW (List.drop 6 (aL BB (so "_law_joins")))
noncomputable def sV(n:Nat)(σ:aA)(kn:KN)(kr:KR):R V:=stm BB (so "_law_joins") n 24 (List.drop 7 (aL BB (so "_law_joins"))) σ kn kr
theorem Qq:sU n (cI (ζ x1) (ζ x2) (some w3) (some w4) o5 none) kn kr=(rb (plI (ofP (rdv (V.clear w3)))) fun l1=>aQ (kL n) kM l1 (cI (ζ x1) (ζ x2) (some (V.clear w3)) (some w4) o5 (some (.own (.dict [])))) (fun σ=>sV n σ kn kr) kr):=by kernel_rfl
theorem Qr:aR kM d0 (cI p0 p1 p2 p3 p4 p5)=.ok (cI p0 p1 p2 p3 (ζ d0) p5):=by kernel_rfl
theorem Qs:kL n (cI (ζ x1) (ζ x2) (some w3) (some w4) (ζ d0) (some (.own x6))) kn kr=(ifS (aC (.ok (.fz d0)) .In (ofP (rdv (V.clear w4)))) (bD (aK bE (aB .Add (aK eD (aI (a9 w3) (.ok (.fz d0)))) (aK eD (aI (a9 (V.clear w4)) (.ok (.fz d0)))))) (.ok x6) (.ok (.fz d0)) fun o1=>(kn (cI (ζ x1) (ζ x2) (some w3) (some (V.clear w4)) (ζ d0) (some (.own o1))))) (kn (cI (ζ x1) (ζ x2) (some w3) (some (V.clear w4)) (ζ d0) (some (.own x6))))):=by kernel_rfl
theorem Qt:sV n (cI (ζ x1) (ζ x2) (some w3) (some w4) o5 (some (.own x6))) kn kr=(rb (rn n "_law_copy" [.fz x6]) kr):=by kernel_rfl
theorem Qu:rn (n+1) "_law_several" [.fz a1]=(ifS (aC (aN (ofP (items a1)) (fun d1=>(tst (aC (ofP (getItem d1 (.int 1))) .Is (.ok (.fz .none))))) (fun d1=>(.ok (.fz d1)))) .NotEq (.ok (.own (.list [])))) (R.ok (.fz .none)) (rb (ofP (bE a1)) R.ok)):=by kernel_rfl
theorem Qv:rn (n+1) "_law_least" [.fz a1,.fz a2,.fz a3]=(rb (aN (plI (aK cP (ofP (dR a2)))) (fun d1=>(tst (eH (so "dict") (ofP (getItem a2 d1))))) (fun d1=>(ofP (getItem a2 d1)))) fun v2=>(rb (aN (plI (ofP (rdv (V.clear v2)))) (fun d3=>(tst (eH (so "int") (bJ (so "get") (.ok (.fz d3)) [(.ok (.fz a3))])))) (fun d3=>(ofP (getItem d3 a3)))) fun v4=>(ifS (orS (aC (ofP (rdv (V.clear v4))) .Eq (.ok (.own (.list [])))) (aC (ofP (aD .Mod a1 (.int 3))) .Eq (.ok (.fz (.int 0))))) (rb (aB .Sub (aB .Mod (ofP (aD .FloorDiv a1 (.int 3))) (.ok (.fz (.int 7)))) (.ok (.fz (.int 3)))) R.ok) (rb (aB .Sub (aB .Add (aI (a9 (V.clear (V.clear v4))) (aB .Mod (ofP (aD .FloorDiv a1 (.int 3))) (aK bH (ofP (rdv (V.clear (V.clear v4))))))) (aB .Mod (ofP (aD .FloorDiv a1 (.int 12))) (.ok (.fz (.int 3))))) (.ok (.fz (.int 1)))) R.ok)))):=by kernel_rfl
theorem A0:rn (n+1) "_law_simple" [.fz a1,.fz a2,.fz a3]=(ifS (orS (unS .Not (.ok (.fz (.bool (bR a2))))) (aC (ofP (aD .Mod a1 (.int 4))) .Eq (.ok (.fz (.int 0))))) (R.ok (.fz (.tuple [(.str (so "whole"))]))) (rb (aK cP (ofP (dR a2))) fun v1=>(ifS (aM (aC (ofP (rdv (V.clear v1))) .NotEq (.ok (.own (.list [])))) (aC (ofP (aD .Mod a1 (.int 4))) .Lt (.ok (.fz (.int 3))))) (ifS (aC (ofP (aD .Mod a1 (.int 4))) .Eq (.ok (.fz (.int 1)))) (rb (aO [(.ok (.fz (.str (so "pick")))),(aI (a9 (V.clear (V.clear v1))) (aB .Mod (ofP (aD .FloorDiv a1 (.int 4))) (aK bH (ofP (rdv (V.clear (V.clear v1)))))))]) R.ok) (rb (aI (.ok a3) (aB .Mod (ofP (aD .FloorDiv a1 (.int 16))) (.ok (.fz (.int 14))))) fun v2=>(ifS (aC (ofP (rdv (V.clear v2))) .NotIn (.ok (.fz a2))) (rb (aO [(.ok (.fz (.str (so "call")))),(aI (a9 (V.clear (V.clear v1))) (aB .Mod (ofP (aD .FloorDiv a1 (.int 4))) (aK bH (ofP (rdv (V.clear (V.clear v1))))))),(ofP (rdv (V.clear (V.clear v2))))]) R.ok) (ifS (rn n "_law_is_table" [.fz a2]) (rb (aI (.ok a3) (aB .Add (.ok (.fz (.int 5))) (aB .Mod (ofP (aD .FloorDiv a1 (.int 4))) (.ok (.fz (.int 4)))))) fun v3=>(rb (aO [(.ok (.fz (.str (so "sift")))),(ofP (rdv (V.clear v3))),(aE (rn n "_law_least") [(ofP (aD .FloorDiv a1 (.int 16))),(.ok (.fz a2)),(aY (V.clear v3))])]) R.ok)) (R.ok (.fz (.tuple [(.str (so "whole"))]))))))) (ifS (rn n "_law_is_table" [.fz a2]) (rb (aI (.ok a3) (aB .Add (.ok (.fz (.int 5))) (aB .Mod (ofP (aD .FloorDiv a1 (.int 4))) (.ok (.fz (.int 4)))))) fun v4=>(rb (aO [(.ok (.fz (.str (so "sift")))),(ofP (rdv (V.clear v4))),(aE (rn n "_law_least") [(ofP (aD .FloorDiv a1 (.int 16))),(.ok (.fz a2)),(aY (V.clear v4))])]) R.ok)) (R.ok (.fz (.tuple [(.str (so "whole"))]))))))):=by kernel_rfl
theorem Qw:rn (n+1) "_law_small" [.fz a1,.fz a2,.fz a3]=(rb (aE (rn n "_law_simple") [(ofP (aD .FloorDiv a1 (.int 6))),(.ok (.fz a2)),(.ok (.fz a3))]) fun v1=>(ifS (orS (aC (ofP (aD .Mod a1 (.int 6))) .Lt (.ok (.fz (.int 2)))) (unS .Not (.ok (.fz (.bool (bR a2)))))) (dP v1 R.ok) (rb (aK cP (ofP (dR a2))) fun v2=>(rb (aO [(.ok (.fz (.str (so "then")))),(ofP (rdv (V.clear v1))),(aE (rn n "_law_simple") [(ofP (aD .FloorDiv a1 (.int 7))),(aE (rn n "_law_seen") [(aY (V.clear v1)),(.ok (.fz a2))]),(.ok (.fz a3))])]) fun v3=>(ifS (aM (aC (ofP (aD .Mod a1 (.int 6))) .Gt (.ok (.fz (.int 2)))) (aC (ofP (rdv (V.clear v2))) .NotEq (.ok (.own (.list []))))) (rb (aI (a9 (V.clear (V.clear v2))) (aB .Mod (ofP (aD .FloorDiv a1 (.int 6))) (aK bH (ofP (rdv (V.clear (V.clear v2))))))) fun v4=>(rb (aE (rn n "_law_simple") [(ofP (aD .FloorDiv a1 (.int 11))),(aI (.ok a2) (ofP (rdv (V.clear v4)))),(.ok (.fz a3))]) fun v5=>(rb (aI (e8 (cG [(aO [(.ok (.fz (.str (so "each")))),(ofP (rdv (V.clear v5)))]),(aO [(.ok (.fz (.str (so "beside")))),(aO [(aO [(aI (.ok a3) (aB .Mod (ofP (aD .FloorDiv a1 (.int 36))) (.ok (.fz (.int 14))))),(ofP (rdv (V.clear (V.clear v4)))),(ofP (rdv (V.clear v5)))])])])])) (ofP (aD .Mod a1 (.int 2)))) fun v6=>(ifS (aM (aC (ofP (aD .Mod a1 (.int 6))) .Eq (.ok (.fz (.int 5)))) (aC (aB .Mod (ofP (aD .FloorDiv a1 (.int 6))) (.ok (.fz (.int 3)))) .Eq (.ok (.fz (.int 0))))) (rb (aO [(.ok (.fz (.str (so "join")))),(ofP (getItem a3 (.int 2))),(ofP (getItem a3 (.int 3))),(aK eT (bX (.ok a3) (some (.ok (.fz (.int 5)))) (some (.ok (.fz (.int 7))))))]) fun v7=>(rb (cM (aC (aE (rn n "_law_seen") [(aY (V.clear v7)),(.ok (.fz a2))]) .Is (.ok (.fz .none))) (ofP (rdv (V.clear (V.clear v1)))) (ofP (rdv (V.clear v7)))) R.ok)) (rb (cM (aC (aE (rn n "_law_seen") [(aY (V.clear v6)),(.ok (.fz a2))]) .Is (.ok (.fz .none))) (ofP (rdv (V.clear (V.clear v1)))) (ofP (rdv (V.clear v6)))) R.ok))))) (ifS (aM (aC (ofP (aD .Mod a1 (.int 6))) .Eq (.ok (.fz (.int 5)))) (aC (aB .Mod (ofP (aD .FloorDiv a1 (.int 6))) (.ok (.fz (.int 3)))) .Eq (.ok (.fz (.int 0))))) (rb (aO [(.ok (.fz (.str (so "join")))),(ofP (getItem a3 (.int 2))),(ofP (getItem a3 (.int 3))),(aK eT (bX (.ok a3) (some (.ok (.fz (.int 5)))) (some (.ok (.fz (.int 7))))))]) fun v8=>(rb (cM (aC (aE (rn n "_law_seen") [(aY (V.clear v8)),(.ok (.fz a2))]) .Is (.ok (.fz .none))) (ofP (rdv (V.clear (V.clear v1)))) (ofP (rdv (V.clear v8)))) R.ok)) (rb (cM (aC (aE (rn n "_law_seen") [(aY (V.clear v3)),(.ok (.fz a2))]) .Is (.ok (.fz .none))) (ofP (rdv (V.clear (V.clear v1)))) (ofP (rdv (V.clear v3)))) R.ok))))))):=by kernel_rfl
noncomputable def hX(o0 o1 o2 o3 o4 o5 o6:Option V):aA:=[((so "_law_more"),o0),((so "_law_tree"),o1),((so "_law_some"),o2),((so "_law_names_here"),o3),((so "_law_rows"),o4),((so "_law_j"),o5),((so "_law_part"),o6)]
noncomputable def sW(n:Nat)(σ:aA)(kn:KN)(kr:KR):R V:=stm BB (so "_law_wide") n 23 (bM (List.drop 1 (aL BB (so "_law_wide")))) σ kn kr
noncomputable def sX:Expr:=bW (List.drop 1 (aL BB (so "_law_wide")))
noncomputable def A1(n:Nat)(σ:aA)(kn:KN)(kr:KR):R V:=stm BB (so "_law_wide") n 24 (List.drop 2 (aL BB (so "_law_wide"))) σ kn kr
theorem Qx:rn (n+1) "_law_wide" [.fz a1,.fz a2,.fz a3,.fz a4]=(rb (rgI (kE [(ofP (bH a3)),(aB .Add (.ok (.fz (.int 1))) (aB .Mod (ofP (aD .FloorDiv a1 (.int 16))) (.ok (.fz (.int 6)))))])) fun l1=>aQ (sW n) sX l1 (hX (ζ a1) (ζ a2) (ζ a3) (ζ a4) (some (.own (.list []))) none none) (fun σ=>A1 n σ (fun _=>R.ok (.fz .none)) R.ok) R.ok):=by kernel_rfl
theorem Qy:aR sX d0 (hX p0 p1 p2 p3 p4 p5 p6)=.ok (hX p0 p1 p2 p3 p4 (ζ d0) p6):=by kernel_rfl
theorem Qz:sW n (hX (ζ x1) (ζ x2) (ζ x3) (ζ x4) (some (.own x5)) (ζ d0) o7) kn kr=(rb (aI (.ok x3) (aB .Mod (ofP (aD .Add x1 d0)) (ofP (bH x3)))) fun v1=>(gY (.ok x5) (so "append") [(aO [(aI (.ok x4) (aB .Mod (aB .Add (ofP (aD .FloorDiv x1 (.int 64))) (.ok (.fz d0))) (.ok (.fz (.int 14))))),(ofP (rdv (V.clear v1))),(aE (rn n "_law_small") [(aB .Add (ofP (aD .FloorDiv x1 (.int 7))) (ofP (aD .Mult (.int 5) d0))),(aI (.ok x2) (ofP (rdv (V.clear v1)))),(.ok (.fz x4))])])] fun o2=>(kn (hX (ζ x1) (ζ x2) (ζ x3) (ζ x4) (some (.own o2)) (ζ d0) (some (V.clear v1)))))):=by kernel_rfl
theorem Q0:A1 n (hX (ζ x1) (ζ x2) (ζ x3) (ζ x4) (some (.own x5)) o6 o7) kn kr=(rb (aO [(.ok (.fz (.str (so "beside")))),(ofP (eT x5))]) kr):=by kernel_rfl
theorem Q1:rn (n+1) "_law_piece" [.fz a1,.fz a2,.fz a3]=(rb (ofP (aD .Mod a1 (.int 10))) fun v1=>(rb (ofP (aD .FloorDiv a1 (.int 10))) fun v2=>(ifS (orS (unS .Not (.ok (.fz (.bool (bR a2))))) (aC (ofP (rdv (V.clear v1))) .Eq (.ok (.fz (.int 0))))) (R.ok (.fz (.tuple [(.str (so "whole"))]))) (rb (aK cP (ofP (dR a2))) fun v3=>(rb (aI (.ok a3) (aB .Add (.ok (.fz (.int 5))) (aB .Mod (ofP (rdv (V.clear v2))) (.ok (.fz (.int 4)))))) fun v4=>(rb (aO [(.ok (.fz (.str (so "sift")))),(ofP (rdv (V.clear v4))),(aE (rn n "_law_least") [(aB .FloorDiv (ofP (rdv (V.clear (V.clear v2)))) (.ok (.fz (.int 4)))),(.ok (.fz a2)),(aY (V.clear v4))])]) fun v5=>(ifS (aM (aC (ofP (rdv (V.clear (V.clear v1)))) .Lt (.ok (.fz (.int 3)))) (aC (ofP (rdv (V.clear v3))) .NotEq (.ok (.own (.list []))))) (rb (aO [(.ok (.fz (.str (so "pick")))),(aI (a9 (V.clear (V.clear v3))) (aB .Mod (ofP (rdv (V.clear (V.clear (V.clear v2))))) (aK bH (ofP (rdv (V.clear (V.clear v3)))))))]) fun v6=>(dP v6 R.ok)) (ifS (aM (aC (ofP (rdv (V.clear (V.clear (V.clear v1))))) .Eq (.ok (.fz (.int 3)))) (aM (aC (ofP (rdv (V.clear (V.clear v3)))) .NotEq (.ok (.own (.list [])))) (aC (aI (.ok a3) (aB .Mod (aB .FloorDiv (ofP (rdv (V.clear (V.clear (V.clear v2))))) (.ok (.fz (.int 16)))) (.ok (.fz (.int 14))))) .NotIn (ofP (rdv (V.clear (V.clear v3))))))) (rb (aO [(.ok (.fz (.str (so "call")))),(aI (a9 (V.clear (V.clear (V.clear v3)))) (aB .Mod (ofP (rdv (V.clear (V.clear (V.clear (V.clear v2)))))) (aK bH (ofP (rdv (V.clear (V.clear (V.clear v3)))))))),(aI (.ok a3) (aB .Mod (aB .FloorDiv (ofP (rdv (V.clear (V.clear (V.clear (V.clear v2)))))) (.ok (.fz (.int 16)))) (.ok (.fz (.int 14)))))]) fun v7=>(dP v7 R.ok)) (ifS (aM (aC (ofP (rdv (V.clear (V.clear (V.clear (V.clear v1)))))) .Eq (.ok (.fz (.int 4)))) (aC (ofP (rdv (V.clear (V.clear (V.clear v3))))) .NotEq (.ok (.own (.list []))))) (rb (aE (rn n "_law_wide") [(aY (V.clear (V.clear (V.clear (V.clear v2))))),(.ok (.fz a2)),(aY (V.clear (V.clear (V.clear (V.clear v3))))),(.ok (.fz a3))]) fun v8=>(dP v8 R.ok)) (ifS (orS (aC (ofP (rdv (V.clear (V.clear (V.clear (V.clear (V.clear v1))))))) .Eq (.ok (.fz (.int 7)))) (aC (ofP (rdv (V.clear (V.clear (V.clear (V.clear (V.clear v1))))))) .Eq (.ok (.fz (.int 8))))) (rb (aB .Add (.ok (.fz (.int 5))) (aB .Mult (.ok (.fz (.int 2))) (aB .Mod (ofP (rdv (V.clear (V.clear (V.clear (V.clear v2)))))) (.ok (.fz (.int 2)))))) fun v9=>(rb (bX (.ok a3) (some (ofP (rdv (V.clear v9)))) (some (aB .Add (ofP (rdv (V.clear v9))) (.ok (.fz (.int 2)))))) fun v10=>(ifS (aC (aB .Mod (aB .FloorDiv (ofP (rdv (V.clear (V.clear (V.clear (V.clear (V.clear v2))))))) (.ok (.fz (.int 2)))) (.ok (.fz (.int 4)))) .Eq (.ok (.fz (.int 1)))) (rb (aB .Add (.ok (.fz (.int 4))) (aB .Mod (aB .FloorDiv (ofP (rdv (V.clear (V.clear (V.clear (V.clear (V.clear (V.clear v2)))))))) (.ok (.fz (.int 8)))) (.ok (.fz (.int 4))))) fun v11=>(rb (bX (.ok a3) (some (ofP (rdv (V.clear v11)))) (some (aB .Add (aB .Add (ofP (rdv (V.clear v11))) (.ok (.fz (.int 1)))) (aB .Mod (aB .FloorDiv (ofP (rdv (V.clear (V.clear (V.clear (V.clear (V.clear (V.clear (V.clear v2))))))))) (.ok (.fz (.int 32)))) (.ok (.fz (.int 6))))))) fun v12=>(rb (aO [(.ok (.fz (.str (so "join")))),(aI (.ok a3) (aB .Add (.ok (.fz (.int 2))) (aB .Mod (ofP (rdv (V.clear (V.clear (V.clear (V.clear (V.clear (V.clear (V.clear (V.clear v2)))))))))) (.ok (.fz (.int 2)))))),(aI (.ok a3) (aB .Sub (.ok (.fz (.int 3))) (aB .Mod (ofP (rdv (V.clear (V.clear (V.clear (V.clear (V.clear (V.clear (V.clear (V.clear v2)))))))))) (.ok (.fz (.int 2)))))),(aK eT (ofP (rdv (V.clear v12))))]) fun v13=>(dP v13 R.ok)))) (rb (aO [(.ok (.fz (.str (so "join")))),(aI (.ok a3) (aB .Add (.ok (.fz (.int 2))) (aB .Mod (ofP (rdv (V.clear (V.clear (V.clear (V.clear (V.clear (V.clear v2)))))))) (.ok (.fz (.int 2)))))),(aI (.ok a3) (aB .Sub (.ok (.fz (.int 3))) (aB .Mod (ofP (rdv (V.clear (V.clear (V.clear (V.clear (V.clear (V.clear v2)))))))) (.ok (.fz (.int 2)))))),(aK eT (ofP (rdv (V.clear v10))))]) fun v14=>(dP v14 R.ok))))) (ifS (aC (ofP (rdv (V.clear (V.clear (V.clear (V.clear (V.clear (V.clear v1)))))))) .Eq (.ok (.fz (.int 9)))) (rb (aO [(.ok (.fz (.str (so "each")))),(aE (rn n "_law_small") [(aB .FloorDiv (ofP (rdv (V.clear (V.clear (V.clear (V.clear v2)))))) (.ok (.fz (.int 5)))),(cM (aC (ofP (rdv (V.clear (V.clear (V.clear (V.clear v3)))))) .NotEq (.ok (.own (.list [])))) (aI (.ok a2) (aI (a9 (V.clear (V.clear (V.clear (V.clear v3))))) (aB .Mod (ofP (rdv (V.clear (V.clear (V.clear (V.clear v2)))))) (aK bH (ofP (rdv (V.clear (V.clear (V.clear (V.clear v3)))))))))) (.ok (.fz (.int 0)))),(.ok (.fz a3))])]) fun v15=>(dP v15 R.ok)) (dP v5 R.ok)))))))))))):=by kernel_rfl
theorem Q2:rn (n+1) "_law_fitting" [.fz a1,.fz a2,.fz a3]=(rb (rn n "_law_piece" [.fz a1,.fz a2,.fz a3]) fun v1=>(rb (cM (aC (aE (rn n "_law_seen") [(aY (V.clear v1)),(.ok (.fz a2))]) .Is (.ok (.fz .none))) (.ok (.fz (.tuple [(.str (so "whole"))]))) (ofP (rdv (V.clear v1)))) R.ok)):=by kernel_rfl
noncomputable def cN(o0 o1 o2 o3 o4 o5 o6 o7 o8:Option V):aA:=[((so "_law_script"),o0),((so "_law_first"),o1),((so "_law_tree"),o2),((so "_law_names_here"),o3),((so "_law_pieces"),o4),((so "_law_now"),o5),((so "_law_k"),o6),((so "_law_view_here"),o7),((so "_law_piece_here"),o8)]
noncomputable def sY(n:Nat)(σ:aA)(kn:KN)(kr:KR):R V:=stm BB (so "_law_view") n 23 (bM (List.drop 2 (aL BB (so "_law_view")))) σ kn kr
noncomputable def sZ:Expr:=bW (List.drop 2 (aL BB (so "_law_view")))
noncomputable def s5(n:Nat)(σ:aA)(kn:KN)(kr:KR):R V:=stm BB (so "_law_view") n 24 (List.drop 3 (aL BB (so "_law_view"))) σ kn kr
theorem Q3:rn (n+1) "_law_view" [.fz a1,.fz a2,.fz a3,.fz a4]=(rb (rgI (aB .Add (.ok (.fz (.int 1))) (aB .Mod (rn n "_law_mixed" [.fz a1,.fz a2]) (.ok (.fz (.int 4)))))) fun l1=>aQ (sY n) sZ l1 (cN (ζ a1) (ζ a2) (ζ a3) (ζ a4) (some (.own (.list []))) (ζ a3) none none none) (fun σ=>s5 n σ (fun _=>R.ok (.fz .none)) R.ok) R.ok):=by kernel_rfl
theorem Q4:aR sZ d0 (cN p0 p1 p2 p3 p4 p5 p6 p7 p8)=.ok (cN p0 p1 p2 p3 p4 p5 (ζ d0) p7 p8):=by kernel_rfl
theorem Q5:sY n (cN (ζ x1) (ζ x2) (ζ x3) (ζ x4) (some (.own x5)) (some w6) (ζ d0) none none) kn kr=(gY (.ok x5) (so "append") [(aE (rn n "_law_fitting") [(aE (rn n "_law_mixed") [(.ok (.fz x1)),(aB .Add (ofP (aD .Add x2 (.int 1))) (.ok (.fz d0)))]),(aY (V.clear w6)),(.ok (.fz x4))])] fun o1=>(rb (aE (rn n "_law_seen") [(aI (.ok o1) (unS .USub (.ok (.fz (.int 1))))),(aY (V.clear (V.clear w6)))]) fun v2=>(kn (cN (ζ x1) (ζ x2) (ζ x3) (ζ x4) (some (.own o1)) (some v2) (ζ d0) none none)))):=by kernel_rfl
noncomputable def kN(n:Nat)(σ:aA)(kn:KN)(kr:KR):R V:=stm BB (so "_law_view") n 22 (bM (iY (List.drop 4 (aL BB (so "_law_view"))))) σ kn kr
noncomputable def kO:Expr:=bW (iY (List.drop 4 (aL BB (so "_law_view"))))
noncomputable def A2(n:Nat)(σ:aA)(kn:KN)(kr:KR):R V:=stm BB (so "_law_view") n 23 (List.drop 1 (iY (List.drop 4 (aL BB (so "_law_view"))))) σ kn kr
noncomputable def kP(n:Nat)(σ:aA)(kn:KN)(kr:KR):R V:=stm BB (so "_law_view") n 23 (bM (List.drop 6 (aL BB (so "_law_view")))) σ kn kr
noncomputable def kQ:Expr:=bW (List.drop 6 (aL BB (so "_law_view")))
noncomputable def s6(n:Nat)(σ:aA)(kn:KN)(kr:KR):R V:=stm BB (so "_law_view") n 24 (List.drop 7 (aL BB (so "_law_view"))) σ kn kr
theorem Q6:s5 n (cN (ζ x1) (ζ x2) (ζ x3) (ζ x4) (some (.own x5)) (some w6) o7 none none) kn kr=(rb (ofP (getItem x5 (.int 0))) fun v1=>(ifS (aC (aB .Mod (aB .FloorDiv (rn n "_law_mixed" [.fz x1,.fz x2]) (.ok (.fz (.int 4)))) (.ok (.fz (.int 2)))) .Eq (.ok (.fz (.int 0)))) (rb (plI (bX (.ok x5) (some (.ok (.fz (.int 1)))) none)) fun l2=>aQ (kN n) kO l2 (cN (ζ x1) (ζ x2) (ζ x3) (ζ x4) (some (.own x5)) (some w6) o7 (some v1) none) (fun σ=>A2 n σ (fun σ=>stm BB (so "_law_view") n 24 (List.drop 5 (aL BB (so "_law_view"))) σ kn kr) kr) kr) (rb (aI (.ok x5) (unS .USub (.ok (.fz (.int 1))))) fun v3=>(rb (rvI (bX (.ok x5) none (some (unS .USub (.ok (.fz (.int 1))))))) fun l4=>aQ (kP n) kQ l4 (cN (ζ x1) (ζ x2) (ζ x3) (ζ x4) (some (.own x5)) (some w6) o7 (some v3) none) (fun σ=>s6 n σ kn kr) kr)))):=by kernel_rfl
theorem Q7:aR kO d0 (cN p0 p1 p2 p3 p4 p5 p6 p7 p8)=.ok (cN p0 p1 p2 p3 p4 p5 p6 p7 (ζ d0)):=by kernel_rfl
theorem Q8:kN n (cN (ζ x1) (ζ x2) (ζ x3) (ζ x4) (some (.own x5)) (some w6) o7 (some w8) (ζ d0)) kn kr=(rb (aO [(.ok (.fz (.str (so "then")))),(ofP (rdv (V.clear w8))),(.ok (.fz d0))]) fun v1=>(kn (cN (ζ x1) (ζ x2) (ζ x3) (ζ x4) (some (.own x5)) (some w6) o7 (some v1) (ζ d0)))):=by kernel_rfl
theorem Q9:A2 n (cN (ζ x1) (ζ x2) (ζ x3) (ζ x4) (some (.own x5)) (some w6) o7 (some w8) o9) kn kr=(dP w8 kr):=by kernel_rfl
theorem Ra:aR kQ d0 (cN p0 p1 p2 p3 p4 p5 p6 p7 p8)=.ok (cN p0 p1 p2 p3 p4 p5 p6 p7 (ζ d0)):=by kernel_rfl
theorem Rb:kP n (cN (ζ x1) (ζ x2) (ζ x3) (ζ x4) (some (.own x5)) (some w6) o7 (some w8) (ζ d0)) kn kr=(rb (aO [(.ok (.fz (.str (so "then")))),(.ok (.fz d0)),(ofP (rdv (V.clear w8)))]) fun v1=>(kn (cN (ζ x1) (ζ x2) (ζ x3) (ζ x4) (some (.own x5)) (some w6) o7 (some v1) (ζ d0)))):=by kernel_rfl
theorem Rc:s6 n (cN (ζ x1) (ζ x2) (ζ x3) (ζ x4) (some (.own x5)) (some w6) o7 (some w8) o9) kn kr=(dP w8 kr):=by kernel_rfl
theorem Rd:rn (n+1) "_law_no_view" [.fz a1,.fz a2]=(rb (cG [(.ok (.fz .none)),(.ok (.fz (.str (so "whole")))),(.ok (.fz (.tuple [(.str (so "whole")),(.int 1)]))),(.ok (.fz (.tuple [(.str (so "pick")),(.str (so "A"))]))),(.ok (.fz (.tuple [(.str (so "call")),a2,a2]))),(.ok (.fz (.tuple [(.str (so "sift")),a2,(.bool true)]))),(cG [(.ok (.fz (.str (so "whole"))))]),(.ok (.fz (.tuple [])))]) fun v1=>(rb (aB .Add (ofP (rdv (V.clear v1))) (cG [(.ok (.fz (.tuple [(.str (so "then")),(.tuple [(.str (so "whole"))]),(.tuple [(.str (so "pick"))])]))),(.ok (.fz (.tuple [(.str (so "each")),(.tuple [(.str (so "beside")),(.tuple [])])]))),(aO [(.ok (.fz (.str (so "join")))),(.ok (.fz a2)),(ofP (aD .Add a2 (.str (so "x")))),(.ok (.fz (.tuple [])))])])) fun v2=>(rb (aI (a9 v2) (ofP (aD .Mod a1 (.int 11)))) R.ok))):=by kernel_rfl
theorem Re:rn (n+1) "_law_no_tree" [.fz a1,.fz a2,.fz a3]=(rb (cG [(.ok (.fz .none)),(.ok (.fz (.bool true))),(.ok (.fz (.str (so "a")))),(.ok (.own (.list []))),(dY [((.ok (.fz a2)),(.ok (.fz (.bool true))))]),(dY [((.ok (.fz (.str (so "A")))),(.ok (.fz (.int 1))))]),(dY [((.ok (.fz a2)),(dY [((.ok (.fz a2)),(.ok (.fz .none)))]))]),(.ok (.fz (.tuple []))),(Oj [((.ok (.fz (.int 1))),(.ok (.fz (.int 2))))])]) fun v1=>(ifS (aM (.ok (.fz (.bool (bR a3)))) (aC (aB .Mod (ofP (aD .FloorDiv a1 (.int 9))) (.ok (.fz (.int 2)))) .Eq (.ok (.fz (.int 1))))) (rb (ofP (bE a3)) fun v2=>(bD (aI (a9 v1) (ofP (aD .Mod a1 (.int 9)))) (ofP (c9 v2)) (.ok (.fz a2)) fun o3=>(R.ok (.own o3)))) (rb (aI (a9 v1) (ofP (aD .Mod a1 (.int 9)))) R.ok))):=by kernel_rfl
theorem s8:rn (n+1) "_law_told" [.fz a1,.fz a2,.fz a3,.fz a4]=(Ac BB (so "ViewError") (ifS (aP (ofP (cmp .Eq a1 (.int 0)))) (rn n "show" [.fz a2,.fz a3]) (ifS (aP (ofP (cmp .Eq a1 (.int 1)))) (rn n "put" [.fz a2,.fz a3,.fz a4]) (rn n "written" [.fz a2]))) (fun y1=>(run BB n true (so "_law_word") [.ex y1])) (R.ok (.fz (.tuple [(.str (so "refused")),(.str (so "nothing"))]))) R.ok):=by kernel_rfl
noncomputable def dG(o0 o1 o2 o3 o4 o5 o6 o7 o8 o9 o10 o11 o12 o13 o14 o15 o16 o17:Option V):aA:=[((so "_law_script"),o0),((so "_law_names_here"),o1),((so "_law_tree"),o2),((so "_law_turn"),o3),((so "_law_cell"),o4),((so "_law_name_here"),o5),((so "_law_view_here"),o6),((so "_law_strange"),o7),((so "_law_views"),o8),((so "_law_olds"),o9),((so "_law_news"),o10),((so "_law_old"),o11),((so "_law_new"),o12),((so "_law_no_view_here"),o13),((so "_law_no_old"),o14),((so "_law_unfit"),o15),((so "_law_due"),o16),((so "_law_found"),o17)]
noncomputable def kR(n:Nat)(σ:aA)(kn:KN)(kr:KR):R V:=stm BB (so "law") n 23 (bM (List.drop 2 (aL BB (so "law")))) σ kn kr
noncomputable def kS:Expr:=bW (List.drop 2 (aL BB (so "law")))
noncomputable def oE(n:Nat)(σ:aA)(kn:KN)(kr:KR):R V:=stm BB (so "law") n 24 (List.drop 3 (aL BB (so "law"))) σ kn kr
theorem Rf:rn (n+1) "law" [.fz a1]=(rb (rn n "_law_names" [.fz a1]) fun v1=>(rb (aE (rn n "_law_house") [(.ok (.fz a1)),(aY (V.clear v1))]) fun v2=>(rb (enI (bX (.ok a1) (some (.ok (.fz (.int 2)))) (some (.ok (.fz (.int 26)))))) fun l3=>aQ (kR n) kS l3 (dG (ζ a1) (some (V.clear v1)) (some v2) none none none none none none none none none none none none none none none) (fun σ=>oE n σ (fun _=>R.ok (.fz .none)) R.ok) R.ok))):=by kernel_rfl
theorem Rg:aR kS (.tuple [d0,d1]) (dG p0 p1 p2 p3 p4 p5 p6 p7 p8 p9 p10 p11 p12 p13 p14 p15 p16 p17)=.ok (dG p0 p1 p2 (ζ d0) (ζ d1) p5 p6 p7 p8 p9 p10 p11 p12 p13 p14 p15 p16 p17):=by kernel_rfl
theorem Rh:oE n (dG (ζ x1) (some w2) (some w3) o4 o5 o6 o7 o8 o9 o10 o11 o12 o13 o14 o15 o16 o17 o18) kn kr=(kr (.fz (.bool true))):=by kernel_rfl
end Mine
namespace Mine
open Classical PySem
inductive T where
 |num (i:Int)
 |br (f:Str→Option T)
inductive W where
 |whole
 |pick (n:Str)
 |call (a b:Str)
 |sift (f:Str) (l:Int)
 |join (a b:Str) (fs:List Str)
 |each (v:W)
 |andThen (a b:W)
 |beside (r:W)
 |bnil
 |bcons (n p:Str) (v r:W)
noncomputable def grd{α:Type}(p:Prop)(x:Option α):Option α:=if p then x else none
theorem b9{α:Type}{p:Prop}(h:p)(x:Option α):grd p x=x:=if_pos h
theorem cA{α:Type}{p:Prop}(h:¬ p)(x:Option α):grd p x=none:=if_neg h
theorem hY{α:Type}{p:Prop}{x:Option α}{y:α}(h:grd p x=some y):p∧x=some y:=by
 by_cases e:p
 ·rw[b9 e] at h;exact⟨e,h⟩
 ·rw[cA e] at h;exact ns h
noncomputable def T.get:T→Str→Option T
 | .num _,_=>none
 | .br f,k=>f k
theorem bP(f:Str→Option T)(k:Str):(T.br f).get k=f k:=rfl
noncomputable def upd(f:Str→Option T)(k:Str)(x:Option T):Str→Option T:=fun j=>if j=k then x else f j
noncomputable def cJ(f:Str→Option T):Prop:=∀ k t,f k=some t→∃ g,t=.br g
noncomputable def cT(a:Str)(l:Int)(t:T):Prop:=∃ i,t.get a=some (.num i)∧l≤i
structure FitJ(fs:List Str)(g h:Str→Option T):Prop where
 ga:cJ g
 ha:cJ h
 gf:∀ k t,g k=some t→∀ x,(t.get x).isSome=true→x∈fs
 hf:∀ k t,h k=some t→∀ x,(t.get x).isSome=true→x∉fs
noncomputable def kT(r s:T):T:=.br fun x=>(s.get x).or (r.get x)
noncomputable def dD(g h:Str→Option T):Str→Option T:=fun k=>(g k).bind fun r=>(h k).bind fun s=>some (kT r s)
noncomputable def W.names:W→List Str
 | .bcons n _ _ r=>n::r.names
 |_=>[]
noncomputable def W.parts:W→List Str
 | .bcons _ p _ r=>p::r.parts
 |_=>[]
theorem kU:W.bnil.names=[]:=rfl
theorem kW(n p:Str)(v r:W):(W.bcons n p v r).names=n::r.names:=rfl
theorem A3:W.bnil.parts=[]:=rfl
theorem A4(n p:Str)(v r:W):(W.bcons n p v r).parts=p::r.parts:=rfl
noncomputable def W.isRows:W→Bool
 | .bcons _ _ _ _=>true
 | .bnil=>true
 |_=>false
noncomputable def gF(x y:Str)(g:Str→Option T):Str→Option T:=fun k=>if k=y then g x else if k=x then none else g k
noncomputable def fC(a:Str)(l:Int)(g:Str→Option T):Str→Option T:=fun k=>(g k).bind fun x=>grd (cT a l x) (some x)
noncomputable def A5(fs:List Str)(x y:T):Option T:=match x with
 | .num _=>none
 | .br g=>match y with
  | .num _=>none
  | .br h=>grd (FitJ fs g h) (some (.br (dD g h)))
theorem dZ{α β:Type}{o:Option α}{k:α→Option β}{y:β}(h:o.bind k=some y):∃ x,o=some x∧k x=some y:=by
 cases o with
 |none=>exact ns h
 |some x=>exact⟨x,rfl,h⟩
noncomputable def aG:W→T→Option T
 | .whole,t=>some t
 | .pick n,t=>t.get n
 | .call a b,t=>grd ((t.get a).isSome=true∧t.get b=none) (some (.br (gF a b t.get)))
 | .sift a l,t=>match t with
  | .num _=>none
  | .br g=>grd (cJ g) (some (.br (fC a l g)))
 | .join a b fs,t=>(t.get a).bind fun x=>(t.get b).bind fun y=>A5 fs x y
 | .each v,t=>match t with
  | .num _=>none
  | .br g=>grd (∀ k x,g k=some x→(aG v x).isSome=true) (some (.br fun k=>(g k).bind (aG v)))
 | .andThen a b,t=>(aG a t).bind (aG b)
 | .beside r,t=>aG r t
 | .bnil,t=>some (.br fun _=>none)
 | .bcons n p v r,t=>(t.get p).bind fun x=>(aG v x).bind fun y=>(aG r t).bind fun z=>some (.br (upd z.get n (some y)))
noncomputable def W.wf:W→Prop
 | .call a b=>a≠b
 | .join a b _=>a≠b
 | .each v=>v.wf∧v.isRows=false
 | .andThen a b=>(a.wf∧a.isRows=false)∧b.wf∧b.isRows=false
 | .beside r=>r.wf∧r.isRows=true
 | .bcons n p v r=>(v.wf∧v.isRows=false)∧(r.wf∧r.isRows=true)∧n∉r.names∧p∉r.parts
 |_=>True
theorem A6{a b:Str}{fs:List Str}{t:T}{g h:Str→Option T}(ha:t.get a=some (.br g))(hb:t.get b=some (.br h)):aG (.join a b fs) t=grd (FitJ fs g h) (some (.br (dD g h))):=by
 show((t.get a).bind fun x=>(t.get b).bind fun y=>A5 fs x y)=_;rw[ha,hb];rfl
theorem oF{a b:Str}{fs:List Str}{t s:T}(e:aG (.join a b fs) t=some s):∃ g h,t.get a=some (.br g)∧t.get b=some (.br h)∧FitJ fs g h∧s=.br (dD g h):=by
 obtain⟨x,h1,e⟩:=dZ e;obtain⟨y,h2,e⟩:=dZ e;cases x with
 |num i=>exact ns e
 |br g =>
  cases y with
  |num i=>exact ns e
  |br h =>
   obtain⟨F,e⟩:=hY e;obtain rfl:=si e;exact⟨g,h,h1,h2,F,rfl⟩
noncomputable def cK(P:Str→Prop)(one other new:Str→Option T):Str→Option T:=fun k=>match new k with
 |some x=>some (.br fun f=>grd (P f) (x.get f))
 |none=>if (other k).isSome then none else one k
noncomputable def aW:W→T→T→Option T
 | .whole,_,new=>some new
 | .pick n,old,new=>some (.br (upd old.get n (some new)))
 | .call a b,_,new=>grd ((new.get b).isSome=true∧new.get a=none) (some (.br (gF b a new.get)))
 | .sift a l,old,new=>match new with
  | .num _=>none
  | .br h=>grd ((cJ h∧∀ k x,h k=some x→cT a l x)∧∀ k x,(h k).isSome=true→old.get k=some x→cT a l x)
    (some (.br fun k=>(h k).or ((old.get k).bind fun x=>grd (¬ cT a l x) (some x))))
 | .join a b fs,old,new=>match new with
  | .num _=>none
  | .br h=>(old.get a).bind fun one=>(old.get b).bind fun other =>
   grd (cJ h∧∀ k,(h k).isSome=true→((one.get k).isSome=(other.get k).isSome))
    (some (.br (upd (upd old.get a (some (.br (cK (fun f=>f∈fs) one.get other.get h)))) b (some (.br (cK (fun f=>f∉fs) other.get one.get h))))))
 | .each v,old,new=>match new with
  | .num _=>none
  | .br h=>grd ((∀ k,(h k).isSome=(old.get k).isSome)∧∀ k x y,old.get k=some x→h k=some y→(aW v x y).isSome=true)
    (some (.br fun k=>(old.get k).bind fun x=>(h k).bind fun y=>aW v x y))
 | .andThen a b,old,new=>(aG a old).bind fun m=>(aW b m new).bind fun mid=>aW a old mid
 | .beside r,old,new=>match new with
  | .num _=>none
  | .br h=>grd (∀ k,(h k).isSome=true↔k∈r.names) (aW r old new)
 | .bnil,old,_=>some old
 | .bcons n p v r,old,new=>(old.get p).bind fun o=>(new.get n).bind fun x=>(aW v o x).bind fun y=>(aW r old new).bind fun z=>some (.br (upd z.get p (some y)))
end Mine
namespace Mine
open Classical PySem
noncomputable def GPA(w:W):Prop:=∀ old s,aG w old=some s→aW w old s=some old
noncomputable def GPB(w:W):Prop:=∀ f s,aG w (.br f)=some s→(∀ k,(s.get k).isSome=true↔k∈w.names)∧∀ new:T,(∀ k,k∈w.names→new.get k=s.get k)→aW w (.br f) new=some (.br f)
structure GPs(w:W):Prop where
 a:w.isRows=false→GPA w
 b:w.isRows=true→GPB w
noncomputable def GP(w:W):Prop:=w.wf→GPs w
theorem oG{f:Str→Option T}{k:Str}{x:T}(h:f k=some x):upd f k (some x)=f:=by
 funext j
 by_cases e:j=k
 ·subst e;simp[upd,h]
 ·simp[upd,e]
theorem gp:∀ w:W,GP w:=by
 intro w
 induction w with
 |whole=>exact fun _=>⟨fun _ old s h=>by cases h;rfl,fun h=>(by cases h)⟩
 |pick n =>
  refine fun _=>⟨fun _ old s h=>?_,fun h=>(by exact bft h)⟩
  cases old with
  |num i=>exact ns h
  |br f =>
   have h:f n=some s:=h;show some (T.br (upd f n (some s)))=_;rw[oG h]
 |call a b =>
  refine fun hw=>⟨fun _ old s h=>?_,fun h=>(by exact bft h)⟩
  have hab:a≠b:=hw;obtain⟨hc,h⟩:=hY h;obtain rfl:=si h;cases old with
  |num i=>cases hc.1
  |br f =>
   simp only[bP] at hc;refine(b9 ?_ _).trans ?_
   ·simp only[bP,gF];simp[hc.1,hab]
   ·congr 2;funext k;simp only[bP,gF]
    by_cases e1:k=a
    ·subst e1;simp
    ·by_cases e2:k=b
     ·subst e2;simp[e1,hc.2]
     ·simp[e1,e2]
 |sift a l =>
  refine fun hw=>⟨fun _ old s h=>?_,fun h=>(by exact bft h)⟩
  cases old with
  |num i=>cases h
  |br g =>
   obtain⟨hg,h⟩:=hY h;obtain rfl:=si h;have hsf:∀ k x,fC a l g k=some x→g k=some x∧cT a l x:=fun k x hk=>by
    obtain⟨y,h1,h2⟩:=dZ hk;obtain⟨h3,h4⟩:=hY h2;obtain rfl:=si h4;exact⟨h1,h3⟩
   refine(b9 ⟨⟨fun k t hk=>hg k t (hsf k t hk).1,fun k x hk=>(hsf k x hk).2⟩,fun k x hk hx=>?_⟩ _).trans ?_
   ·congr 2;funext k;simp only[fC,bP];refine ocs (g k) (fun gk=>?_) fun x gk=>?_
    ·try rewrite[gk]
     rfl
    ·try rewrite[gk]
     by_cases e:cT a l x<;>simp[e,grd]
   ·refine ocs (fC a l g k) (fun e=>?_) fun y e=>?_
    ·try rewrite[e]
     rw[e] at hk;exact bft hk
    ·try rewrite[e]
     obtain⟨h1,h2⟩:=hsf k y e;have hx:g k=some x:=hx;rw[h1] at hx;obtain rfl:=si hx;exact h2
 |join a b fs =>
  refine fun hw=>⟨fun _ old s h=>?_,fun h=>(by exact bft h)⟩
  have hab:a≠b:=hw;obtain⟨g,o,ga,oa,F,rfl⟩:=oF h;cases old with
  |num i=>exact ns ga
  |br f =>
   have ga:f a=some (.br g):=ga;have oa:f b=some (.br o):=oa;have hl:cK (fun x=>x∈fs) g o (dD g o)=g:=by
    funext k;simp only[cK,dD];cases gk:g k with
    |none=>cases o k<;>simp
    |some r =>
     cases ok:o k with
     |none=>simp
     |some q =>
      obtain⟨r',rfl⟩:=F.ga k r gk;simp only[Option.bind_some,kT,bP,Option.some.injEq,T.br.injEq];funext x
      by_cases hx:x∈fs
      ·have:q.get x=none:=by
        refine ocs (q.get x) (fun e=>?_) fun y e=>?_
        ·try rewrite[e]
         rfl
        ·try rewrite[e]
         exact absurd hx (F.hf k q ok x (by rw[e];rfl))
       simp[grd,hx,this]
      ·have:r' x=none:=by
        refine ocs (r' x) (fun e=>?_) fun y e=>?_
        ·try rewrite[e]
         rfl
        ·try rewrite[e]
         exact absurd (F.gf k _ gk x (by rw[bP,e];rfl)) hx
       simp[grd,hx,this]
   have hr:cK (fun x=>x∉fs) o g (dD g o)=o:=by
    funext k;simp only[cK,dD];cases gk:g k with
    |none=>cases o k<;>simp
    |some r =>
     cases ok:o k with
     |none=>simp
     |some q =>
      obtain⟨q',rfl⟩:=F.ha k q ok;simp only[Option.bind_some,kT,bP,Option.some.injEq,T.br.injEq];funext x
      by_cases hx:x∈fs
      ·have:q' x=none:=by
        refine ocs (q' x) (fun e=>?_) fun y e=>?_
        ·try rewrite[e]
         rfl
        ·try rewrite[e]
         exact absurd hx (F.hf k _ ok x (by rw[bP,e];rfl))
       simp[grd,hx,this]
      ·have:r.get x=none:=by
        refine ocs (r.get x) (fun e=>?_) fun y e=>?_
        ·try rewrite[e]
         rfl
        ·try rewrite[e]
         exact absurd (F.gf k r gk x (by rw[e];rfl)) hx
       simp[grd,hx,this]
   show((f a).bind fun one=>(f b).bind fun other=>_)=_;rw[ga,oa];refine(b9 ⟨fun k t hk=>?_,fun k hk=>?_⟩ _).trans ?_
   ·show some (T.br (upd (upd f a (some (.br (cK (fun x=>x∈fs) g o (dD g o))))) b (some (.br (cK (fun x=>x∉fs) o g (dD g o))))))=_;rw[hl,hr,oG ga,oG oa]
   ·obtain⟨r,_,h2⟩:=dZ hk;obtain⟨q,_,h3⟩:=dZ h2;obtain rfl:=si h3;exact⟨_,rfl⟩
   ·show(g k).isSome=(o k).isSome;cases gk:g k with
    |none=>simp[dD,gk] at hk
    |some r =>
     refine ocs (o k) (fun ok=>?_) fun q ok=>?_
     ·try rewrite[ok]
      simp[dD,gk,ok] at hk
     ·try rewrite[ok]
      rfl
 |each v ih =>
  refine fun hw=>⟨fun _ old s h=>?_,fun h=>(by exact bft h)⟩
  have ih:=(ih hw.1).1 hw.2;cases old with
  |num i=>exact ns h
  |br g =>
   obtain⟨hs,h⟩:=hY h;obtain rfl:=si h;have key:∀ k x,g k=some x→∃ y,aG v x=some y∧aW v x y=some x:=fun k x hk=>by
    have:=hs k x hk;refine ocs (aG v x) (fun e=>?_) fun y e=>?_
    ·try rewrite[e]
     rw[e] at this;exact bft this
    ·try rewrite[e]
     exact⟨y,rfl,ih x y e⟩
   refine(b9 ⟨fun k=>?_,fun k x y hx hy=>?_⟩ _).trans ?_
   ·congr 2;funext k;show(g k).bind (fun x=>((g k).bind (aG v)).bind fun y=>aW v x y)=g k;refine ocs (g k) (fun e=>?_) fun x e=>?_
    ·try rewrite[e]
     rfl
    ·try rewrite[e]
     obtain⟨y,h1,h2⟩:=key k x e;simp only[Option.bind_some,h1,h2]
   ·show((g k).bind (aG v)).isSome=(g k).isSome;refine ocs (g k) (fun e=>?_) fun x e=>?_
    ·try rewrite[e]
     rfl
    ·try rewrite[e]
     obtain⟨y,h1,_⟩:=key k x e;rw[Option.bind_some,h1];rfl
   ·have hx:g k=some x:=hx;obtain⟨y',h1,h2⟩:=key k x hx;have hy:(g k).bind (aG v)=some y:=hy;rw[hx,Option.bind_some,h1] at hy;obtain rfl:=si hy;rw[h2];rfl
 |andThen a b iha ihb =>
  refine fun hw=>⟨fun _ old s h=>?_,fun h=>(by exact bft h)⟩
  have iha:=(iha hw.1.1).1 hw.1.2;have ihb:=(ihb hw.2.1).1 hw.2.2;obtain⟨m,h1,h2⟩:=dZ h;show((aG a old).bind fun m=>(aW b m s).bind fun mid=>aW a old mid)=_;rw[h1,Option.bind_some,ihb m s h2,Option.bind_some];exact iha old m h1
 |beside r ih =>
  refine fun hw=>⟨fun _ old s h=>?_,fun h=>(by exact bft h)⟩
  have ih:=(ih hw.1).2 hw.2;have h:aG r old=some s:=h;cases old with
  |num i =>
   cases r with
   |bnil=>obtain rfl:=si h;exact(b9 (fun k=>by simp[W.names]) _).trans rfl
   |bcons=>exact ns h
   |_=>cases hw.2
  |br f =>
   obtain⟨i1,i2⟩:=ih f s h;cases s with
   |num i =>
    cases r with
    |bnil=>cases h
    |bcons n p v r =>
     obtain⟨x,_,h⟩:=dZ h;obtain⟨y,_,h⟩:=dZ h;obtain⟨z,_,h⟩:=dZ h;cases h
    |_=>cases hw.2
   |br g =>
    refine(b9 i1 _).trans ?_;exact i2 (.br g) fun k _=>rfl
 |bnil =>
  refine fun hw=>⟨fun h=>(by exact btf h),fun _ f s h=>?_⟩
  obtain rfl:=si h;exact⟨fun k=>by simp[bP,W.names],fun _ _=>rfl⟩
 |bcons n p v r ihv ihr =>
  refine fun hw=>⟨fun h=>(by exact btf h),fun _ f s h=>?_⟩
  obtain⟨⟨v1,v2⟩,⟨r1,r2⟩,hn,hp⟩:=hw;have ihv:=(ihv v1).1 v2;have ihr:=(ihr r1).2 r2;obtain⟨x,h1,h⟩:=dZ h;obtain⟨y,h2,h⟩:=dZ h;obtain⟨z,h3,h⟩:=dZ h;obtain rfl:=si h;obtain⟨i1,i2⟩:=ihr f z h3;have h1:f p=some x:=h1;refine⟨fun k=>?_,fun new hnew=>?_⟩
  ·simp only[bP,upd,W.names,List.mem_cons]
   by_cases e:k=n
   ·simp[e]
   ·simp only[e,if_false,false_or];exact i1 k
  ·have e1:new.get n=some y:=by
    rw[hnew n (by simp[W.names])];simp[bP,upd]
   have e2:=i2 new fun k hk=>by
    rw[hnew k (by simp[W.names,hk])];have:k≠n:=fun e=>hn (e▸hk);simp[bP,upd,this]
   show((f p).bind fun o=>(new.get n).bind fun x=>(aW v o x).bind fun y=>(aW r (T.br f) new).bind fun z=>some (T.br (upd z.get p (some y))))=_;rw[h1,e1,Option.bind_some,Option.bind_some,ihv x y h2,Option.bind_some,e2,Option.bind_some];show some (T.br (upd f p (some x)))=_;rw[oG h1]
theorem Ri{w:W}(hw:w.wf)(hr:w.isRows=false){old s:T}(h:aG w old=some s):aW w old s=some old:=(gp w hw).1 hr old s h
end Mine
namespace Mine
open PySem
noncomputable def ltS(a b:Str):Prop:=a.cps.toList < b.cps.toList
end Mine
namespace Mine
open PySem
abbrev TT:=T
abbrev WW:=W
abbrev LP:=List (Str×PyData)
noncomputable def mkd(l:LP):List (PyData×PyData):=l.map fun p=>(.str p.1,p.2)
noncomputable def ks(l:LP):List Str:=l.map (·.1)
noncomputable def lk:LP→Str→Option PyData
 | [],_=>none
 |p::r,x=>if x=p.1 then some p.2 else lk r x
noncomputable def st:LP→Str→PyData→LP
 | [],x,u=>[(x,u)]
 |p::r,x,u=>if x=p.1 then (p.1,u)::r else p::st r x u
noncomputable def sts:LP→LP→LP
 | [],acc=>acc
 |p::r,acc=>sts r (st acc p.1 p.2)
noncomputable def dl:LP→Str→LP
 | [],_=>[]
 |p::r,x=>if x=p.1 then r else p::dl r x
theorem kX:∀ (l:LP) (x:Str),cC (mkd l) x=lk l x:=by
 intro v0
 induction v0 with
 |nil =>
  intro _;exact rfl
 |cons p r ih =>
  intro x;show(if x=p.1 then some p.2 else cC (mkd r) x)=if x=p.1 then some p.2 else lk r x;rw[ih x]
theorem s9:∀ (l:LP) (x:Str) (u:PyData),dJ (mkd l) x u=mkd (st l x u):=by
 intro v0
 induction v0 with
 |nil =>
  intro _ _;exact rfl
 |cons p r ih =>
  intro x u;show(if x=p.1 then (.str p.1,u)::mkd r else (.str p.1,p.2)::dJ (mkd r) x u)=mkd (if x=p.1 then (p.1,u)::r else p::st r x u);rw[ih x u]
  split<;>rfl
theorem Rj:∀ (l:LP) (x:Str),eR (mkd l) x=mkd (dl l x):=by
 intro v0
 induction v0 with
 |nil =>
  intro _;exact rfl
 |cons p r ih =>
  intro x;show(if x=p.1 then mkd r else (.str p.1,p.2)::eR (mkd r) x)=mkd (if x=p.1 then r else p::dl r x);rw[ih x]
  split<;>rfl
theorem tA:∀ (ps acc:LP),cS ps (mkd acc)=mkd (sts ps acc):=by
 intro v0
 induction v0 with
 |nil =>
  intro _;exact rfl
 |cons p r ih =>
  intro acc;show cS r (dJ (mkd acc) p.1 p.2)=_;simp only[s9,ih];rfl
theorem tB(l:LP):(mkd l).map (·.1)=(ks l).map PyData.str:=by
 simp[mkd,ks,List.map_map,Function.comp_def]
theorem A7(l:LP):(mkd l).length=l.length:=by simp[mkd]
theorem mk_keys?:∀ l:LP,keys? (mkd l)=some l
 | []=>rfl
 |p::r=>by
  show(keys? (mkd r)).map ((p.1,p.2)::·)=_;rw[mk_keys? r];rfl
theorem kY:∀ (l:LP) (x:Str) (u:PyData) (y:Str),lk (st l x u) y=if y=x then some u else lk l y:=by
 intro v0
 induction v0 with
 |nil =>
  intro x u y;exact rfl
 |cons p r ih =>
  intro x u y;show lk (if x=p.1 then (p.1,u)::r else p::st r x u) y=if y=x then some u else if y=p.1 then some p.2 else lk r y
  by_cases h:x=p.1
  ·rw[if_pos h];show(if y=p.1 then some u else lk r y)=_;subst h
   split<;>rfl
  ·rw[if_neg h];show(if y=p.1 then some p.2 else lk (st r x u) y)=_;rw[ih x u y]
   by_cases e:y=x
   ·subst e;rw[if_neg h,if_pos rfl,if_pos rfl]
   ·rw[if_neg e,if_neg e]
theorem kZ:∀ {l:LP} {x:Str} , (lk l x).isSome=true↔x∈ks l
 | [],x=>⟨fun h=>bft h,fun h=>cL h⟩
 |p::r,x=>by
  show(if x=p.1 then some p.2 else lk r x).isSome=true↔x∈p.1::ks r
  by_cases h:x=p.1
  ·simp[h]
  ·rw[if_neg h,kZ (l:=r)];simp[h]
theorem k6{l:LP}{x:Str}{d:PyData}(h:lk l x=some d):x∈ks l:=kZ.mp (by rw[h];rfl)
theorem A8:∀ {l:LP} (x:Str) (u:PyData),(ks l).Nodup→(ks (st l x u)).Nodup∧∀ y,y∈ks (st l x u)↔y=x∨y∈ks l:=by
 intro v0
 induction v0 with
 |nil =>
  intro x u _;refine⟨List.nodup_cons.mpr ⟨fun h=>cL h,List.nodup_nil⟩,fun y=>⟨fun h=>.inl (List.mem_singleton.mp h),fun h=>?_⟩⟩;rcases h with rfl | h
  ·exact List.mem_cons_self
  ·exact cL h
 |cons p r ih =>
  intro x u h;have h1:p.1∉ks r∧(ks r).Nodup:=List.nodup_cons.mp h;show(ks (if x=p.1 then (p.1,u)::r else p::st r x u)).Nodup∧∀ y,y∈ks (if x=p.1 then (p.1,u)::r else p::st r x u)↔y=x∨y∈p.1::ks r
  by_cases e:x=p.1
  ·rw[if_pos e];refine⟨h,fun y=>?_⟩;show y∈p.1::ks r↔_;rw[e];simp
  ·rw[if_neg e];obtain⟨i1,i2⟩:=ih x u h1.2;refine⟨List.nodup_cons.mpr ⟨fun hm=>?_,i1⟩,fun y=>?_⟩
   ·rcases(i2 p.1).mp hm with e' | e'
    ·exact e e'.symm
    ·exact h1.1 e'
   ·show y∈p.1::ks (st r x u)↔_;rw[List.mem_cons,i2,List.mem_cons];constructor
    ·rintro(a | a | a)<;>simp[a]
    ·rintro(a | a | a)<;>simp[a]
theorem A9:∀ {l:LP} (x:Str),(ks l).Nodup→(ks (dl l x)).Nodup∧(∀ y,y∈ks (dl l x)→y∈ks l)∧∀ y,lk (dl l x) y=if y=x then none else lk l y:=by
 intro v0
 induction v0 with
 |nil =>
  intro x _;exact⟨List.nodup_nil,fun y hy=>hy,fun y=>(ite_self none).symm⟩
 |cons p r ih =>
  intro x h;have h1:p.1∉ks r∧(ks r).Nodup:=List.nodup_cons.mp h;show(ks (if x=p.1 then r else p::dl r x)).Nodup∧(∀ y,y∈ks (if x=p.1 then r else p::dl r x)→y∈p.1::ks r)∧∀ y,lk (if x=p.1 then r else p::dl r x) y=if y=x then none else if y=p.1 then some p.2 else lk r y
  by_cases e:x=p.1
  ·rw[if_pos e];refine⟨h1.2,fun y hy=>List.mem_cons_of_mem _ hy,fun y=>?_⟩
   by_cases e':y=x
   ·rw[if_pos e'];refine ocs (lk r y) (fun hl=>?_) fun d hl=>?_
    ·try rewrite[hl]
     rfl
    ·try rewrite[hl]
     exact absurd (e▸e'▸k6 hl) h1.1
   ·rw[if_neg e',if_neg (e▸e')]
  ·rw[if_neg e];obtain⟨i1,i2,i3⟩:=ih x h1.2;refine⟨List.nodup_cons.mpr ⟨fun hm=>h1.1 (i2 _ hm),i1⟩,fun y hy=>?_,fun y=>?_⟩
   ·rcases List.mem_cons.mp hy with rfl | hy
    ·simp
    ·exact List.mem_cons_of_mem _ (i2 y hy)
   ·show(if y=p.1 then some p.2 else lk (dl r x) y)=_;rw[i3]
    by_cases e':y=x
    ·subst e';rw[if_neg e,if_pos rfl,if_pos rfl]
    ·rw[if_neg e',if_neg e']
noncomputable def big:Nat:=10 ^ 29
inductive Sem(N:List Str):Nat→PyData→TT→Prop where
 |num {m:Nat} {i:Int}:i.natAbs < big→Sem N m (.int i) (.num i)
 |br {m:Nat} {l:LP} {f:Str→Option TT}:(ks l).Nodup→(∀ k∈ks l,k∈N)→(∀ k,(lk l k).isSome=(f k).isSome)→(∀ k d t,lk l k=some d→f k=some t→Sem N m d t)→Sem N (m+1) (.dict (mkd l)) (.br f)
structure Bld(N:List Str)(m:Nat)(l:LP)(f:Str→Option TT):Prop where
 nd:(ks l).Nodup
 sub:∀ k∈ks l,k∈N
 dom:∀ k,(lk l k).isSome=(f k).isSome
 sem:∀ k d t,lk l k=some d→f k=some t→Sem N m d t
variable {N:List Str} {m:Nat}
theorem Bld.toSem{l:LP}{f:Str→Option TT}(B:Bld N m l f):Sem N (m+1) (.dict (mkd l)) (.br f):=.br B.nd B.sub B.dom B.sem
inductive SemI(N:List Str):Nat→PyData→TT→Prop where
 |num {m:Nat} (i:Int) (h:i.natAbs < big):SemI N m (.int i) (.num i)
 |br (m:Nat) (l:LP) (f:Str→Option TT) (B:Bld N m l f):SemI N (m+1) (.dict (mkd l)) (.br f)
inductive SemE(N:List Str)(m:Nat)(d:PyData)(t:TT):Prop where
 |num (i:Int) (e1:d=.int i) (e2:t=.num i) (h:i.natAbs < big):SemE N m d t
 |br (m':Nat) (l:LP) (f:Str→Option TT) (e:m=m'+1) (e1:d=.dict (mkd l)) (e2:t=.br f) (B:Bld N m' l f):SemE N m d t
inductive SemB(N:List Str)(m:Nat)(d:PyData)(f:Str→Option TT):Prop where
 |mk (m':Nat) (l:LP) (e:m=m'+1) (e1:d=.dict (mkd l)) (B:Bld N m' l f):SemB N m d f
inductive SemF(N:List Str)(f:Str→Option TT):Nat→PyData→Prop where
 |mk (m:Nat) (l:LP) (B:Bld N m l f):SemF N f (m+1) (.dict (mkd l))
theorem Sem.inv{d:PyData}{t:TT}(h:Sem N m d t):SemI N m d t:=by
 cases h with
 |num h=>exact .num _ h
 |br a b c e=>exact .br _ _ _ ⟨a,b,c,e⟩
theorem Sem.inv'{d:PyData}{t:TT}(h:Sem N m d t):SemE N m d t:=by
 cases h with
 |num h=>exact .num _ rfl rfl h
 |br a b c e=>exact .br _ _ _ rfl rfl rfl ⟨a,b,c,e⟩
@[elab_as_elim] theorem Sem.by {motive:Nat→PyData→TT→Prop} {m:Nat} {d:PyData} {t:TT} (h:Sem N m d t) (h1:∀ (m:Nat) (i:Int),i.natAbs < big→motive m (.int i) (.num i)) (h2:∀ (m:Nat) (l:LP) (f:Str→Option TT),Bld N m l f→motive (m+1) (.dict (mkd l)) (.br f)):motive m d t:=by
 cases h with
 |num h=>exact h1 _ _ h
 |br a b c e=>exact h2 _ _ _ ⟨a,b,c,e⟩
@[elab_as_elim] theorem Sem.byB {motive:Nat→PyData→Prop} {f:Str→Option TT} {m:Nat} {d:PyData} (h:Sem N m d (.br f)) (h2:∀ (m:Nat) (l:LP),Bld N m l f→motive (m+1) (.dict (mkd l))):motive m d:=by
 cases h with
 |br a b c e=>exact h2 _ _ ⟨a,b,c,e⟩
theorem Sem.br_inv{d:PyData}{f:Str→Option TT}(h:Sem N m d (.br f)):SemF N f m d:=by
 cases h with
 |br a b c e=>exact⟨_,_,a,b,c,e⟩
theorem Sem.br_inv'{d:PyData}{f:Str→Option TT}(h:Sem N m d (.br f)):SemB N m d f:=by
 cases h with
 |br a b c e=>exact⟨_,_,rfl,rfl,a,b,c,e⟩
inductive BGet(N:List Str)(m:Nat)(l:LP)(k:Str)(t:TT):Prop where
 |mk (d:PyData) (h:lk l k=some d) (s:Sem N m d t):BGet N m l k t
inductive BGe'(N:List Str)(m:Nat)(f:Str→Option TT)(k:Str)(d:PyData):Prop where
 |mk (t:TT) (h:f k=some t) (s:Sem N m d t):BGe' N m f k d
inductive BKey(N:List Str)(m:Nat)(l:LP)(f:Str→Option TT)(k:Str):Prop where
 |mk (d:PyData) (t:TT) (h:lk l k=some d) (g:f k=some t) (s:Sem N m d t):BKey N m l f k
theorem Sem.num_inv{d:PyData}{i:Int}(h:Sem N m d (.num i)):d=.int i∧i.natAbs < big:=by
 cases h with
 |num h=>exact⟨rfl,h⟩
theorem Sem.mono:∀ {m m':Nat} {d:PyData} {t:TT},Sem N m d t→m≤m'→Sem N m' d t
 := by
 intro m
 induction m with
 |zero =>
  intro m' d t s h;cases s with
  |num h=>exact .num h
 |succ m ih =>
  intro m' d t s h;cases s with
  |num h=>exact .num h
  |br a b c e =>
   cases m' with
   |zero=>exact absurd h (Nat.not_succ_le_zero _)
   |succ m'=>exact .br a b c fun k d t h1 h2=>ih (e k d t h1 h2) (Nat.le_of_succ_le_succ h)
theorem Bld.mono{m':Nat}{l:LP}{f:Str→Option TT}(B:Bld N m l f)(h:m≤m'):Bld N m' l f:=⟨B.nd,B.sub,B.dom,fun k d t h1 h2=>(B.sem k d t h1 h2).mono h⟩
theorem Bld.nil:Bld N m [] fun _=>none:=⟨by simp[ks],by simp[ks],fun k=>rfl,fun k d t h=>by exact ns h⟩
theorem Bld.ext{l:LP}{f g:Str→Option TT}(B:Bld N m l f)(h:∀ k,f k=g k):Bld N m l g:=by
 have:f=g:=funext h;exact this▸B
theorem Bld.set{l:LP}{f:Str→Option TT}(B:Bld N m l f){k:Str}{d:PyData}{t:TT}(hk:k∈N)(h:Sem N m d t):Bld N m (st l k d) (upd f k (some t)):=by
 obtain⟨q1,q2⟩:=A8 k d B.nd;refine⟨q1,fun y hy=>?_,fun y=>?_,fun y e u h1 h2=>?_⟩
 ·rcases(q2 y).mp hy with rfl | hy
  ·exact hk
  ·exact B.sub y hy
 ·rw[kY]
  by_cases e:y=k
  ·simp[upd,e]
  ·simp only[upd,if_neg e];exact B.dom y
 ·rw[kY] at h1
  by_cases e:y=k
  ·rw[if_pos e] at h1;simp only[upd,if_pos e] at h2;obtain rfl:=si h1;obtain rfl:=si h2;exact h
  ·rw[if_neg e] at h1;simp only[upd,if_neg e] at h2;exact B.sem y _ u h1 h2
theorem Bld.del{l:LP}{f:Str→Option TT}(B:Bld N m l f)(k:Str):Bld N m (dl l k) (upd f k none):=by
 obtain⟨q1,q2,q3⟩:=A9 k B.nd;refine⟨q1,fun y hy=>B.sub y (q2 y hy),fun y=>?_,fun y e u h1 h2=>?_⟩
 ·rw[q3]
  by_cases e:y=k
  ·simp[upd,e]
  ·simp only[upd,if_neg e];exact B.dom y
 ·rw[q3] at h1
  by_cases e:y=k
  ·rw[if_pos e] at h1;exact ns h1
  ·rw[if_neg e] at h1;simp only[upd,if_neg e] at h2;exact B.sem y _ u h1 h2
theorem Bld.get{l:LP}{f:Str→Option TT}(B:Bld N m l f){k:Str}{t:TT}(h:f k=some t):BGet N m l k t:=by
 refine ocs (lk l k) (fun e=>?_) fun d e=>?_
 ·try rewrite[e]
  have:=B.dom k;simp only[e,h] at this;exact bft this
 ·try rewrite[e]
  exact⟨d,e,B.sem k d t e h⟩
theorem Bld.get'{l:LP}{f:Str→Option TT}(B:Bld N m l f){k:Str}{d:PyData}(h:lk l k=some d):BGe' N m f k d:=by
 refine ocs (f k) (fun e=>?_) fun t e=>?_
 ·try rewrite[e]
  have:=B.dom k;simp only[e,h] at this;exact btf this
 ·try rewrite[e]
  exact⟨t,e,B.sem k d t h e⟩
theorem Bld.none_iff{l:LP}{f:Str→Option TT}(B:Bld N m l f){k:Str}:f k=none↔lk l k=none:=by
 have:=B.dom k;cases e:f k<;>cases e':lk l k<;>simp_all
theorem Bld.key{l:LP}{f:Str→Option TT}(B:Bld N m l f){k:Str}(h:k∈ks l):BKey N m l f k:=by
 have h1:=kZ.mpr h;refine ocs (lk l k) (fun e=>?_) fun d e=>?_
 ·try rewrite[e]
  rw[e] at h1;exact bft h1
 ·try rewrite[e]
  obtain⟨t,a,b⟩:=B.get' e;exact⟨d,t,e,a,b⟩
theorem Bld.mem{l:LP}{f:Str→Option TT}(B:Bld N m l f){k:Str}:k∈ks l↔(f k).isSome=true:=by
 rw[← B.dom,kZ]
theorem tC{α:Type}[DecidableEq α]:∀ {a b:List α},a.Nodup→(∀ x∈a,x∈b)→a.length≤b.length:=by
 intro v0
 induction v0 with
 |nil =>
  intro _ _ _;exact Nat.zero_le _
 |cons x r ih =>
  intro b hn hs;obtain⟨h1,h2⟩:=List.nodup_cons.mp hn;have hx:=hs x (by simp);have:=ih (b:=b.erase x) h2 fun y hy=>(List.mem_erase_of_ne (fun e:y=x=>h1 (e▸hy))).mpr (hs y (by simp[hy]));simp only[List.length_erase_of_mem hx] at this;have hp:0 < b.length:=List.length_pos_of_mem hx;show r.length+1≤b.length;exact Ep this hp
theorem Bld.len{l:LP}{f:Str→Option TT}(B:Bld N m l f):l.length≤N.length:=by
 have:=tC B.nd B.sub;simpa[ks] using this
inductive Out{α β:Type}(S:α→β→aA)(c:KN→KR→R V)(I:α→Prop)(E:X→Prop)(Q:V→Prop):Prop where
 |kn (a:α) (j:β) (hi:I a) (h:∀ kn kr,c kn kr=kn (S a j)):Out S c I E Q
 |exc (x:X) (hi:E x) (h:∀ kn kr,c kn kr=.exc x):Out S c I E Q
 |kr (v:V) (hi:Q v) (h:∀ kn kr,c kn kr=kr v):Out S c I E Q
theorem iZ{α β:Type}{S:α→β→aA}{b:aA→KN→KR→R V}{t:Expr}{I:List PyData→α→Prop}{E:X→Prop}{Q:V→Prop} :
  ∀ {l p:List PyData} {a:α} {j:β},(∀ q d r a j,p++l=q++d::r→I q a→Out S (fun kn kr=>rb (ofP (aR t d (S a j))) fun σ=>b σ kn kr) (I (q++[d])) E Q)→I p a→Out S (aQ b t l (S a j)) (I (p++l)) E Q
 | [],p,a,j,_,hi=>Out.kn a j (by simpa using hi) fun _ _=>rfl
 |d::r,p,a,j,h,hi=>by
  rcases h p d r a j rfl hi with ⟨a',j',hi',e⟩ | ⟨x,hx,e⟩ | ⟨v,hv,e⟩
  ·have e1:p++d::r=(p++[d])++r:=by simp
   have:=iZ (S:=S) (b:=b) (t:=t) (l:=r) (p:=p++[d]) (a:=a') (j:=j') (I:=I) (E:=E) (Q:=Q) (fun q d' r' a j hq=>h q d' r' a j (e1.trans hq)) hi';rw[← e1] at this;rcases this with ⟨a2,j2,h2,e2⟩ | ⟨x,hx,e2⟩ | ⟨v,hv,e2⟩
   ·exact Out.kn a2 j2 h2 fun kn kr=>(e _ _).trans (e2 kn kr)
   ·exact Out.exc x hx fun kn kr=>(e _ _).trans (e2 kn kr)
   ·exact Out.kr v hv fun kn kr=>(e _ _).trans (e2 kn kr)
  ·exact Out.exc x hx fun kn kr=>e _ _
  ·exact Out.kr v hv fun kn kr=>e _ _
end Mine
namespace Mine
open PySem
section
variable {α β:Type}
theorem aF(a:α)(k:α→R β):rb (.ok a) k=k a:=rfl
theorem tD(x:X)(k:α→R β):rb (.exc x) k=.exc x:=rfl
theorem aJ(a:α):ofP (.ok a)=.ok a:=rfl
theorem dQ(a:α):nx (.ok a)=.ok a:=rfl
theorem fD(a:α)(f:α→P β):P.bind (.ok a) f=f a:=rfl
theorem fE(a:α):ofO (some a)=.ok a:=rfl
theorem bY(a b:α):(if true=true then a else b)=a:=rfl
theorem cY(a b:α):(if false=true then a else b)=b:=rfl
end
theorem k7(b:Bool):tst (.ok (.fz (.bool b)))=.ok b:=rfl
theorem tE(b:Bool):cR (.fz (.bool b))=.ok b:=rfl
theorem fQ(d:PyData):dOf (.fz d)=d:=rfl
theorem k9(d:PyData):dOf (.own d)=d:=rfl
theorem bZ(d:PyData):V.clear (.fz d)=.fz d:=rfl
theorem iA(d:PyData):V.clear (.own d)=.fz d:=rfl
theorem dE(d:PyData):aY (.fz d)=.ok (.fz d):=rfl
theorem cO(d:PyData):rdv (.fz d)=.ok (.fz d):=rfl
theorem oH(d:PyData):a9 (.fz d)=.ok d:=rfl
theorem tF(d:PyData):a9 (.own d)=.ok d:=rfl
theorem tG(d:PyData)(k:V→R V):dP (.fz d) k=k (.fz d):=rfl
theorem tH(d:PyData)(k:V→R V):dP (.own d) k=k (.own d):=rfl
theorem oJ(d:PyData):c9 (.own d)=.ok d:=rfl
theorem tI:dX []=.ok []:=rfl
theorem tJ(v:V)(r:List (R V)):dX (.ok v::r)=rb (dX r) fun vs=>.ok (v.clear::vs):=rfl
theorem tK(b:Bool):fzb (.ok b)=.ok (.fz (.bool b)):=rfl
theorem tL(b:Bool):aP (.ok b)=.ok (.fz (.bool b)):=rfl
theorem tM(d:PyData):gQ (.fz d)=.ok d:=rfl
theorem Z2(i:Int):toI (.fz (.int i))=.ok (some i):=rfl
theorem tN:nP none=.ok none:=rfl
theorem tO(i:Int):nP (some (.ok (.fz (.int i))))=.ok (some i):=rfl
theorem lA(b:Bool):eV .Not (.fz (.bool b))=.ok (.fz (.bool !b)):=rfl
theorem tP(i:Int):eV .USub (.fz (.int i))=.ok (.fz (.int (-i))):=rfl
theorem tQ:(!true)=false:=rfl
theorem tR:(!false)=true:=rfl
theorem oK(l:LP)(x:Str):getItem (.dict (mkd l)) (.str x)=frz (lk l x):=by
 show frz (cC (mkd l) x)=_;rw[kX]
theorem aZ{l:LP}{x:Str}{d:PyData}(h:lk l x=some d):getItem (.dict (mkd l)) (.str x)=.ok (.fz d):=by
 simp only[oK,h];rfl
theorem i7(l:LP):fG (mkd l)=false:=by cases l<;>rfl
theorem lB(l:LP):bE (.dict (mkd l))=.ok (.own (.dict (mkd l))):=if_neg (by rw[i7];decide)
theorem Rk(l:LP):aK bE (ofP (P.ok (V.fz (.dict (mkd l)))))=.ok (.own (.dict (mkd l))):=congrArg ofP (lB l)
theorem cZ(l:LP)(x:Str):Mine.contains (.str x) (.dict (mkd l))=.ok (lk l x).isSome:=by
 show(if fG (mkd l)=true then P.no else P.ok (cC (mkd l) x).isSome)=_;rw[i7,if_neg (by decide)];rw[kX]
theorem bN(l:LP):Mine.items (.dict (mkd l))=.ok ((ks l).map .str):=by
 show P.ok ((mkd l).map (·.1))=_;rw[tB]
theorem cB{l:LP}(x:Str)(d:PyData)(h:l.length < aX):Mine.setItem (.dict (mkd l)) (.str x) d=.ok (.dict (mkd (st l x d))):=by
 show(if (mkd l).length < aX then P.ok (PyData.dict (dJ (mkd l) x d)) else .no)=_;rw[A7,if_pos h,s9]
theorem lC(l:List (PyData×PyData)):bR (.dict l)=true:=rfl
theorem oM(i:Int):bR (.int i)=false:=rfl
theorem tT(l:List (PyData×PyData)):eB (.dict l)=false:=rfl
theorem tU(i:Int):eB (.int i)=true:=rfl
theorem tV(i:Int):fU (.int i)=false:=rfl
theorem tW(l:List (PyData×PyData)):fU (.dict l)=false:=rfl
theorem Ba:∀ bs:List Bool,bools? (bs.map PyData.bool)=some bs
 | []=>rfl
 |b::r=>by
  show(bools? (r.map PyData.bool)).map (b::·)=_;rw[Ba r];rfl
theorem fR:∀ xs:List Str,strs? (xs.map PyData.str)=some xs
 | []=>rfl
 |b::r=>by
  show(strs? (r.map PyData.str)).map (b::·)=_;rw[fR r];rfl
theorem Bb(bs:List Bool):cE (.list (bs.map PyData.bool))=.ok (.fz (.bool (bs.all id))):=by
 show fzb ((ofO (bools? (bs.map PyData.bool))).bind fun bs=>.ok (bs.all id))=_;rw[Ba];rfl
theorem lD{t:PyData→R Bool}{e:PyData→R V}{g:PyData→PyData}:∀ {l:List PyData},(∀ d∈l,t d=.ok true∧∃ v,e d=.ok v∧dOf v=g d)→aT t e l=.ok (l.map g):=by
 intro v0
 induction v0 with
 |nil =>
  intro _;exact rfl
 |cons d r ih =>
  intro h;obtain⟨h1,v,h2,h3⟩:=h d (by simp);show rb (nx (t d)) (fun b=>if b then rb (nx (e d)) fun v=>rb (aT t e r) fun xs=>.ok (dOf v::xs) else aT t e r)=_;simp only[h1,dQ,aF,bY,h2,dQ,aF,ih fun d hd=>h d (List.mem_cons_of_mem _ hd),h3];rfl
theorem i8{xs:List Str}{e:PyData→R V}{g:Str→Bool}(h:∀ x∈xs,e (.str x)=.ok (.fz (.bool (g x)))):aK cE (aN (.ok (xs.map .str)) (fun _=>.ok true) e)=.ok (.fz (.bool (xs.all g))):=by
 have:aT (fun _=>.ok true) e (xs.map .str)=.ok ((xs.map g).map .bool):=by
  rw[lD (g:=fun d=>match d with | .str x=>.bool (g x) | d=>d) fun d hd=>?_]
  ·simp[Function.comp_def]
  ·obtain⟨x,hx,rfl⟩:=List.mem_map.mp hd;exact⟨rfl,_,h x hx,rfl⟩
 show rb (rb (rb (.ok (xs.map .str)) fun l=>aT (fun _=>.ok true) e l) fun r=>ofP (own (.list r))) (fun v=>ofP (cE (dOf v)))=_;simp only[aF,this];show ofP (cE (.list ((xs.map g).map .bool)))=_;simp only[Bb];simp[Function.comp_def,ofP]
theorem tX{l:List PyData}{e:PyData→R V}{g:PyData→Bool}(h:∀ x∈l,e x=.ok (.fz (.bool (g x)))):aK cE (aN (.ok l) (fun _=>.ok true) e)=.ok (.fz (.bool (l.all g))):=by
 have:aT (fun _=>.ok true) e l=.ok ((l.map g).map .bool):=by
  simp only[lD (g:=fun d=>.bool (g d)) fun d hd=>⟨rfl,_,h d hd,rfl⟩];simp[Function.comp_def]
 show rb (rb (rb (.ok l) fun l=>aT (fun _=>.ok true) e l) fun r=>ofP (own (.list r))) (fun v=>ofP (cE (dOf v)))=_;simp only[aF,this];show ofP (cE (.list ((l.map g).map .bool)))=_;simp only[Bb];simp[Function.comp_def,ofP]
theorem tY{t:PyData→R Bool}{g:Str→Bool}:∀ {xs:List Str},(∀ x∈xs,t (.str x)=.ok (g x))→aT t (fun d=>.ok (.fz d)) (xs.map .str)=.ok ((xs.filter g).map .str):=by
 intro v0
 induction v0 with
 |nil =>
  intro _;exact rfl
 |cons x r ih =>
  intro h;show rb (nx (t (.str x))) (fun b=>if b then rb (nx (.ok (.fz (.str x)))) fun v=>rb (aT t (fun d=>.ok (.fz d)) (r.map .str)) fun xs=>.ok (dOf v::xs) else aT t (fun d=>.ok (.fz d)) (r.map .str))=_;rw[h x (by simp),dQ,aF,ih fun d hd=>h d (List.mem_cons_of_mem _ hd)];cases hg:g x
  ·rw[cY,List.filter_cons_of_neg (by simp[hg])]
  ·rw[bY,List.filter_cons_of_pos hg];rfl
noncomputable def bC(p:Str×PyData):PyData:=.tuple [.str p.1,p.2]
theorem Bc:∀ ps:LP,twos? (ps.map bC)=some (mkd ps)
 | []=>rfl
 |p::r=>by
  show(twos? (r.map bC)).map ((.str p.1,p.2)::·)=_;simp only[Bc r];rfl
theorem oN{ps:LP}(h:ps.length < 4096):bE (.list (ps.map bC))=.ok (.own (.dict (mkd (sts ps [])))):=by
 show((ofO (twos? (ps.map bC))).bind fun l=>(ofO (keys? l)).bind fun l=>if l.length < 4096 then own (.dict (cS l [])) else .no)=_;simp only[Bc,fE,fD,mk_keys?,fE,fD,if_pos h];show P.ok (V.own (.dict (cS ps (mkd []))))=_;simp only[tA]
theorem i9{N:List Str}{m:Nat}{F:Str→Option TT}:∀ {ps acc:LP} {f:Str→Option TT},Bld N m acc f→(∀ p∈ps,p.1∈N∧∃ t,F p.1=some t∧Sem N m p.2 t)→Bld N m (sts ps acc) fun k=>if k∈ks ps then F k else f k
 | [],acc,f,B,_=>B.ext fun k=>by simp[ks]
 |p::r,acc,f,B,h=>by
  obtain⟨h1,t,h2,h3⟩:=h p (by simp);refine(i9 (F:=F) (B.set h1 h3) fun q hq=>h q (by simp[hq])).ext fun k=>?_;show(if k∈ks r then F k else upd f p.1 (some t) k)=if k∈p.1::ks r then F k else f k
  by_cases e1:k∈ks r
  ·simp[e1]
  ·by_cases e2:k=p.1
   ·subst e2;simp[e1,upd,h2]
   ·simp[e1,e2,upd]
theorem Bd{N:List Str}{m:Nat}{F:Str→Option TT}{t:PyData→R Bool}{e:PyData→R V}:∀ {xs:List Str},(∀ x∈xs,x∈N∧((t (.str x)=.ok false∧F x=none)∨t (.str x)=.ok true∧∃ v d u,e (.str x)=.ok v∧dOf v=.tuple [.str x,d]∧F x=some u∧Sem N m d u)) →
  ∃ ps:LP,aT t e (xs.map .str)=.ok (ps.map bC)∧ps.length≤xs.length∧(∀ k,k∈ks ps↔k∈xs∧(F k).isSome=true)∧∀ p∈ps,p.1∈N∧∃ u,F p.1=some u∧Sem N m p.2 u
 := by
 intro xs
 induction xs with
 |nil=>exact fun _=>⟨[],rfl,Nat.le_refl _,fun k=>⟨fun h=>cL h,fun h=>cL h.1⟩,fun p hp=>cL hp⟩
 |cons x r ih =>
  intro h;obtain⟨ps,e1,e2,e3,e4⟩:=ih fun y hy=>h y (List.mem_cons_of_mem _ hy);have hs:aT t e ((x::r).map .str)=rb (nx (t (.str x))) (fun b=>if b then rb (nx (e (.str x))) fun v=>rb (aT t e (r.map .str)) fun xs=>.ok (dOf v::xs) else aT t e (r.map .str)):=rfl;obtain⟨hN,⟨h1,h2⟩ | ⟨h1,v,d,u,h2,h3,h4,h5⟩⟩:=h x (by simp)
  ·refine⟨ps,?_,Nat.le_succ_of_le e2,fun k=>?_,e4⟩
   ·simp only[hs,h1,dQ,aF,cY,e1]
   ·simp only[e3 k]
    by_cases ek:k=x
    ·subst ek;simp[h2]
    ·simp[ek]
  ·refine⟨(x,d)::ps,?_,Nat.succ_le_succ e2,fun k=>?_,fun p hp=>?_⟩
   ·simp only[hs,h1,dQ,aF,bY,h2,dQ,aF,e1,aF,h3];rfl
   ·show k∈x::ks ps↔_;simp only[List.mem_cons,e3 k]
    by_cases ek:k=x
    ·subst ek;simp[h4]
    ·simp[ek]
   ·rcases List.mem_cons.mp hp with rfl | hp
    ·exact⟨hN,u,h4,h5⟩
    ·exact e4 p hp
theorem tZ{N:List Str}{m:Nat}{F:Str→Option TT}{t:PyData→R Bool}{e:PyData→R V}{xs:List Str}(hl:xs.length < 4096)(h:∀ x∈xs,x∈N∧((t (.str x)=.ok false∧F x=none)∨t (.str x)=.ok true∧∃ v d u,e (.str x)=.ok v∧dOf v=.tuple [.str x,d]∧F x=some u∧Sem N m d u)) :
  ∃ l:LP,aK bE (aN (.ok (xs.map .str)) t e)=.ok (.own (.dict (mkd l)))∧Bld N m l fun k=>if k∈xs then F k else none:=by
 obtain⟨ps,e1,e2,e3,e4⟩:=Bd h;refine⟨sts ps [],?_,(i9 (F:=F) Bld.nil e4).ext fun k=>?_⟩
 ·show rb (rb (rb (.ok (xs.map .str)) fun l=>aT t e l) fun r=>ofP (own (.list r))) (fun v=>ofP (bE (dOf v)))=_;rw[aF,e1];show ofP (bE (.list (ps.map bC)))=_;rw[oN (Nat.lt_of_le_of_lt e2 hl)];rfl
 ·by_cases hk:k∈xs
  ·rw[if_pos hk];refine ocs (F k) (fun hF=>?_) fun u hF=>?_
   ·try rewrite[hF]
    rw[if_neg];intro hc;have:=((e3 k).mp hc).2;rw[hF] at this;exact bft this
   ·try rewrite[hF]
    rw[if_pos ((e3 k).mpr ⟨hk,by rw[hF];rfl⟩)]
  ·rw[if_neg hk,if_neg fun hc=>hk ((e3 k).mp hc).1]
theorem Bld.all{N:List Str}{m:Nat}{l:LP}{f F:Str→Option TT}(B:Bld N m l f)(h:∀ k,f k=none→F k=none){l':LP}{m':Nat}(C:Bld N m' l' fun k=>if k∈ks l then F k else none):Bld N m' l' F :=
 C.ext fun k=>by
  by_cases hk:k∈ks l
  ·rw[if_pos hk]
  ·rw[if_neg hk];refine(h k ?_).symm;refine ocs (f k) (fun e=>?_) fun t e=>?_
   ·try rewrite[e]
    rfl
   ·try rewrite[e]
    exact absurd (B.mem.mpr (by rw[e];rfl)) hk
theorem lE(xs:List Str):eqO (.list (xs.map .str)) (.list [])=.ok xs.isEmpty:=by
 cases xs with
 |nil=>rfl
 |cons x r=>rfl
end Mine
namespace Mine
open PySem
end Mine
namespace Mine
open PySem
noncomputable def inL(c:Nat):Bool:=Txt.contains (so "abcdefghijklmnopqrstuvwxyz") ⟨#[c]⟩
structure okN(x:Str):Prop where
 lo:1≤x.cps.size
 hi:x.cps.size≤8
 let_:∀ c∈x.cps.toList,inL c=true∧c < 16 ^ 8
theorem d8(n:Nat){x:Str}(h:okN x):rn (n+1) "is_name" [.fz (.str x)]=.ok (.fz (.bool true)):=by
 simp only[Ad];have h1:decide ((1:Int)≤(x.cps.size:Int))=true:=by have:=h.lo;simp;exact vK this
 have h2:decide ((x.cps.size:Int)≤8)=true:=by have:=h.hi;simp;exact Er this
 have hc:e7 (.ok (.fz (.int 1))) .LtE (ofP (bH (.str x))) .LtE (.ok (.fz (.int 8)))=.ok (.fz (.bool true)):=by
  show aP (if decide ((1:Int)≤(x.cps.size:Int))=true then .ok (decide ((x.cps.size:Int)≤8)) else .ok false)=_;simp only[h1,bY,h2];rfl
 have ha:aK cE (aN (ofP (items (.str x))) (fun _=>.ok true) (fun d1=>(aP (ofP (cmp .In d1 (.str (so "abcdefghijklmnopqrstuvwxyz")))))))=.ok (.fz (.bool true)):=by
  refine(tX (l:=x.cps.toList.map bO) (g:=fun _=>true) fun d hd=>?_).trans (by simp);obtain⟨c,hc,rfl⟩:=List.mem_map.mp hd;show R.ok (V.fz (.bool (inL c)))=_;simp only[(h.let_ c hc).1]
 simp only[hc,ha];rfl
theorem jA(n:Nat)(d:PyData):rn (n+1) "is_whole" [.fz d]=.ok (.fz (.bool (eB d&&!fU d))):=by
 simp only[Ok];cases eB d<;>cases fU d<;>rfl
structure Wld(N:List Str):Prop where
 len:N.length=14
 nd:N.Nodup
 ok:∀ x∈N,okN x
variable {N:List Str} {m:Nat}
theorem Bld.lt(H:Wld N){l:LP}{f:Str→Option TT}(B:Bld N m l f){k:Nat}(hk:14 < k):l.length < k:=by
 have:=B.len;simp only[H.len] at this;exact Es hk this
@[elab_as_elim] theorem exnE {motive:Nat→Prop} {a c x:Nat} (n:Nat) (h:a+c≤n) (i:x≤n) (g:∀ k,x≤k+c→motive (k+c)):motive n:=by
 have e:=Nat.sub_add_cancel (Nat.le_trans (Nat.le_add_left c a) h);rw[← e];exact g _ (by rw[e];exact i)
inductive ExN(c:Nat):Nat→Prop where
 |mk (k:Nat):ExN c (k+c)
theorem exn{a c n:Nat}(h:a+c≤n):ExN c n:=Nat.sub_add_cancel (Nat.le_trans (Nat.le_add_left c a) h)▸ExN.mk (n - c)
theorem fd{a b k c:Nat}(h:a+k+c≤b+c):a≤b:=Nat.le_trans (Nat.le_add_right a k) (Nat.le_of_add_le_add_right h)
theorem mx{k x y r s:Nat}(h:k*max x y+r≤s):k*x+r≤s∧k*y+r≤s:=⟨Nat.le_trans (Nat.add_le_add_right (Nat.mul_le_mul_left k (Nat.le_max_left x y)) r) h,Nat.le_trans (Nat.add_le_add_right (Nat.mul_le_mul_left k (Nat.le_max_right x y)) r) h⟩
theorem eA(l:LP):(ks l).length=l.length:=by simp[ks]
theorem jB(H:Wld N):∀ {m n:Nat} {d:PyData} {t:TT},Sem N m d t→m+1≤n→rn (n+1) "is_tree" [.fz d]=.ok (.fz (.bool true)):=by
 intro m
 induction m with
 |zero =>
  intro n d t h hn;obtain⟨i,rfl,rfl,_⟩ | ⟨_,_,_,e,_⟩:=h.inv'
  ·refine exnE (c:=1) n hn hn fun n hn=>?_;simp only[nQ,jA];rfl
  ·cases e
 |succ m ih =>
  intro n d t h hn;refine exnE (c:=1) n hn hn fun n hn=>?_;obtain⟨i,rfl,rfl,_⟩ | ⟨_,l,f,e,rfl,rfl,B⟩:=h.inv'
  ·simp only[nQ,jA];rfl
  ·cases e;simp only[nQ,jA,bN];have:=i8 (xs:=ks l) (g:=fun _=>true) (e:=fun d1=>(aM (rn (n+1) "is_name" [.fz d1]) (aE (rn (n+1) "is_tree") [(ofP (getItem (.dict (mkd l)) d1))]))) fun x hx=>by
    obtain⟨d,t,h1,h2,h3⟩:=B.key hx;simp only[d8 n (H.ok x (B.sub x hx)),aZ h1];exact ih h3 (by exact Et hn)
   simp only[aJ,this];simp[ifS,unS,eB,bR,k7,aF,ofP,lA]
inductive Gives(r:R V)(P:PyData→Prop):Prop where
 |mk (v:V) (d:PyData) (e:r=.ok v) (c:v.clear=.fz d) (p:P d):Gives r P
theorem eK{v:V}{d:PyData}(h:v.clear=.fz d):dOf v=d:=by
 cases v with
 |fz=>cases h;rfl
 |own=>cases h;rfl
 |ex=>cases h
theorem Be{f:List V→R V}{r:R V}{v:V}{d:PyData}(h:r=.ok v)(hv:v.clear=.fz d):aE f [r]=f [.fz d]:=by
 rw[h];show f [v.clear]=_;rw[hv]
theorem oO{α β:Type}{S:α→β→aA}{b:aA→KN→KR→R V}{t:Expr}{I:List Str→α→Prop}{E:X→Prop}{Q:V→Prop} :
  ∀ {l p:List Str} {a:α} {j:β},(∀ q d r a j,p++l=q++d::r→I q a→Out S (fun kn kr=>rb (ofP (aR t (.str d) (S a j))) fun σ=>b σ kn kr) (I (q++[d])) E Q)→I p a→Out S (aQ b t (l.map .str) (S a j)) (I (p++l)) E Q
 | [],p,a,j,_,hi=>Out.kn a j (by simpa using hi) fun _ _=>rfl
 |d::r,p,a,j,h,hi=>by
  rcases h p d r a j rfl hi with ⟨a',j',hi',e⟩ | ⟨x,hx,e⟩ | ⟨v,hv,e⟩
  ·have e1:p++d::r=(p++[d])++r:=by simp
   have:=oO (S:=S) (b:=b) (t:=t) (l:=r) (p:=p++[d]) (a:=a') (j:=j') (I:=I) (E:=E) (Q:=Q) (fun q d' r' a j hq=>h q d' r' a j (e1.trans hq)) hi';rw[← e1] at this;rcases this with ⟨a2,j2,h2,e2⟩ | ⟨x,hx,e2⟩ | ⟨v,hv,e2⟩
   ·exact Out.kn a2 j2 h2 fun kn kr=>(e _ _).trans (e2 kn kr)
   ·exact Out.exc x hx fun kn kr=>(e _ _).trans (e2 kn kr)
   ·exact Out.kr v hv fun kn kr=>(e _ _).trans (e2 kn kr)
  ·exact Out.exc x hx fun kn kr=>e _ _
  ·exact Out.kr v hv fun kn kr=>e _ _
theorem oP{β:Type}{S:β→aA}{b:aA→KN→KR→R V}{t:Expr}{c:Str→Bool}{v:V}{xs:List Str}(h:∀ x∈xs,∀ j,∃ j',∀ kn kr,(rb (ofP (aR t (.str x) (S j))) fun σ=>b σ kn kr)=if c x=true then kn (S j') else kr v) :
  ∀ j,∃ j',∀ kn kr,aQ b t (xs.map .str) (S j) kn kr=if xs.all c=true then kn (S j') else kr v:=by
 induction xs with
 |nil=>exact fun j=>⟨j,fun _ _=>rfl⟩
 |cons x xs ih =>
  intro j;obtain⟨j1,e1⟩:=h x List.mem_cons_self j;obtain⟨j2,e2⟩:=ih (fun x hx=>h x (List.mem_cons_of_mem _ hx)) j1;refine⟨j2,fun kn kr=>(e1 _ kr).trans ?_⟩;rw[List.all_cons,e2];cases c x<;>rfl
theorem lF{q r l:List Str}{x:Str}(h:[]++l=q++x::r):x∈l:=by
 have:x∈q++x::r:=by simp
 simp only[← h] at this;simpa using this
theorem t6(H:Wld N){β:Type}{S:LP→β→aA}{b:aA→KN→KR→R V}{t:Expr}{xs:List Str}(F:Str→Option TT){E:X→Prop}(P:Str→Prop){j:β}
  (h:∀ q x r,[]++xs=q++x::r→(∀ y∈q,P y)→∀ a j,a.length < aX→x∈N∧((P x∧F x=none∧∃ j',∀ kn kr,(rb (ofP (aR t (.str x) (S a j))) fun σ=>b σ kn kr)=kn (S a j')) ∨
   (P x∧∃ d u j',F x=some u∧Sem N m d u∧∀ kn kr,(rb (ofP (aR t (.str x) (S a j))) fun σ=>b σ kn kr)=kn (S (st a x d) j')) ∨
   (∃ e,E e∧∀ kn kr,(rb (ofP (aR t (.str x) (S a j))) fun σ=>b σ kn kr)=.exc e))) :
  (∃ a j',Bld N m a (fun k=>if k∈xs then F k else none)∧(∀ x∈xs,P x)∧∀ kn kr,aQ b t (xs.map .str) (S [] j) kn kr=kn (S a j'))∨∃ e,E e∧∀ kn kr,aQ b t (xs.map .str) (S [] j) kn kr=.exc e:=by
 have:=oO (S:=S) (b:=b) (t:=t) (l:=xs) (p:=[]) (a:=[]) (j:=j) (I:=fun p a=>Bld N m a (fun k=>if k∈p then F k else none)∧∀ x∈p,P x) (E:=E) (Q:=fun _=>False) (fun q x r a j hq hi=>?_) ⟨Bld.nil.ext fun k=>by simp,fun x hx=>by exact cL hx⟩
 ·rcases this with ⟨a,j,h1,h2⟩ | ⟨e,h1,h2⟩ | ⟨v,hv,_⟩
  ·exact .inl ⟨a,j,h1.1,h1.2,h2⟩
  ·exact .inr ⟨e,h1,h2⟩
  ·exact hv.elim
 ·have hP:P x→∀ y∈q++[x],P y:=fun hx y hy=>by
   rcases List.mem_append.mp hy with hy | hy
   ·exact hi.2 y hy
   ·simp only[List.mem_singleton.mp hy];exact hx
  obtain⟨hN,⟨h0,h1,j',h2⟩ | ⟨h0,d,u,j',h1,h2,h3⟩ | ⟨e,h1,h2⟩⟩:=h q x r hq hi.2 a j (hi.1.lt H (by decide))
  ·refine Out.kn a j' ⟨hi.1.ext fun k=>?_,hP h0⟩ h2
   by_cases e:k=x
   ·subst e;simp[h1]
   ·simp[e]
  ·refine Out.kn (st a x d) j' ⟨(hi.1.set hN h2).ext fun k=>?_,hP h0⟩ h3
   by_cases e:k=x
   ·subst e;simp[h1,upd]
   ·simp[e,upd]
  ·exact Out.exc e h1 h2
theorem lG(H:Wld N){β:Type}{S:LP→β→aA}{b:aA→KN→KR→R V}{t:Expr}{xs:List Str}(F:Str→Option TT){E:X→Prop}{j:β}
  (h:∀ x∈xs,∀ a j,a.length < aX→x∈N∧((F x=none∧∃ j',∀ kn kr,(rb (ofP (aR t (.str x) (S a j))) fun σ=>b σ kn kr)=kn (S a j')) ∨
   (∃ d u j',F x=some u∧Sem N m d u∧∀ kn kr,(rb (ofP (aR t (.str x) (S a j))) fun σ=>b σ kn kr)=kn (S (st a x d) j')) ∨
   (∃ e,E e∧∀ kn kr,(rb (ofP (aR t (.str x) (S a j))) fun σ=>b σ kn kr)=.exc e))) :
  (∃ a j',Bld N m a (fun k=>if k∈xs then F k else none)∧∀ kn kr,aQ b t (xs.map .str) (S [] j) kn kr=kn (S a j'))∨∃ e,E e∧∀ kn kr,aQ b t (xs.map .str) (S [] j) kn kr=.exc e:=by
 rcases t6 H (S:=S) (b:=b) (t:=t) (xs:=xs) (j:=j) (m:=m) F (E:=E) (fun _=>True) (fun q x r hq _ a j ha=>(h x (lF hq) a j ha).imp id (Or.imp (fun h=>⟨trivial,h⟩) (Or.imp (fun h=>⟨trivial,h⟩) id))) with ⟨a,j',h1,_,h2⟩ | h
 ·exact .inl ⟨a,j',h1,h2⟩
 ·exact .inr h
theorem t7(H:Wld N):∀ {m n:Nat} {d:PyData} {t:TT},Sem N m d t→m≤n→Gives (rn (n+1) "copied" [.fz d]) fun d'=>Sem N m d' t:=by
 intro m
 induction m with
 |zero =>
  intro n d t h hn;obtain⟨i,rfl,rfl,hi⟩ | ⟨_,_,_,e,_⟩:=h.inv'
  ·exact⟨_,_,(r9 n _).trans rfl,rfl,.num hi⟩
  ·cases e
 |succ m ih =>
  intro n d t h hn;refine exnE (c:=1) n hn hn fun n hn=>?_;obtain⟨i,rfl,rfl,hi⟩ | ⟨_,l,f,e,rfl,rfl,B⟩:=h.inv'
  ·exact⟨_,_,(r9 _ _).trans rfl,rfl,.num hi⟩
  ·cases e;have:=lG H (m:=m) (S:=fun (a:LP) (j:Option V)=>gZ (ζ (.dict (mkd l))) (some (.own (.dict (mkd a)))) j) (b:=r6 (n+1)) (t:=r7) (xs:=ks l) (j:=none) f (E:=fun _=>False) fun x hx a j ha=>?_
   ·obtain⟨a,j,hi,e⟩ | ⟨x,hx,_⟩:=this
    ·refine⟨.own (.dict (mkd a)),_,?_,rfl,(B.all (fun _ h=>h) hi).toSem⟩;simp only[r9,bN];exact(e _ _).trans (Oo ..)
    ·exact hx.elim
   ·obtain⟨dx,tx,h1,h2,h3⟩:=B.key hx;obtain⟨v,d',e1,e2,e3⟩:=ih h3 (Nat.le_of_succ_le_succ hn);refine⟨B.sub x hx,.inr (.inl ⟨d',tx,some (.fz (.str x)),h2,e3,fun kn kr=>?_⟩)⟩;simp only[Om,aJ,aF,On,aZ h1];show rb (rn (n+1) "copied" [.fz dx]) (fun v=>rb (ofP (Mine.setItem (.dict (mkd a)) (.str x) (dOf v))) _)=_;simp only[e1,aF,eK e2,cB x d' ha];rfl
end Mine
namespace Mine
open PySem
noncomputable def tl:PyData→List PyData
 | .tuple l=>l
 |_=>[]
noncomputable def enc:WW→PyData
 | .whole=>.tuple [.str (so "whole")]
 | .pick n=>.tuple [.str (so "pick"),.str n]
 | .call a b=>.tuple [.str (so "call"),.str a,.str b]
 | .sift f l=>.tuple [.str (so "sift"),.str f,.int l]
 | .join a b fs=>.tuple [.str (so "join"),.str a,.str b,.tuple (fs.map .str)]
 | .each v=>.tuple [.str (so "each"),enc v]
 | .andThen a b=>.tuple [.str (so "then"),enc a,enc b]
 | .beside r=>.tuple [.str (so "beside"),enc r]
 | .bnil=>.tuple []
 | .bcons n p v r=>.tuple (.tuple [.str n,.str p,enc v]::tl (enc r))
noncomputable def aS(r:WW):List PyData:=tl (enc r)
theorem iB{r:WW}(h:r.isRows=true):enc r=.tuple (aS r):=by
 cases r<;>first | rfl | cases h
noncomputable def W.hgt:WW→Nat
 | .each v=>v.hgt+1
 | .andThen a b=>max a.hgt b.hgt+1
 | .beside r=>r.hgt+1
 | .bcons _ _ v r=>max v.hgt r.hgt
 |_=>0
noncomputable def okW(N:List Str):WW→Prop
 | .whole=>True
 | .pick n=>n∈N
 | .call a b=>a∈N∧b∈N∧a≠b
 | .sift f l=>f∈N∧l.natAbs < 10 ^ 30
 | .join a b fs=>(a∈N∧b∈N∧a≠b)∧(1≤fs.length∧fs.length≤6)∧fs.Nodup∧∀ f∈fs,f∈N
 | .each v=>okW N v∧v.isRows=false
 | .andThen a b=>(okW N a∧a.isRows=false)∧okW N b∧b.isRows=false
 | .beside r=>(okW N r∧r.isRows=true)∧1≤r.names.length∧r.names.length≤6
 | .bnil=>True
 | .bcons n p v r=>(n∈N∧p∈N)∧(okW N v∧v.isRows=false)∧(okW N r∧r.isRows=true)∧n∉r.names∧p∉r.parts
variable {N:List Str}
theorem okW.wf:∀ {w:WW},okW N w→w.wf:=by
 intro w
 induction w with
 |call a b=>exact fun h=>h.2.2
 |join a b fs=>exact fun h=>h.1.2.2
 |each v ih=>exact fun h=>⟨ih h.1,h.2⟩
 |andThen a b iha ihb=>exact fun h=>⟨⟨iha h.1.1,h.1.2⟩,ihb h.2.1,h.2.2⟩
 |beside r ih=>exact fun h=>⟨ih h.1.1,h.1.2⟩
 |bcons n p v r ihv ihr=>exact fun h=>⟨⟨ihv h.2.1.1,h.2.1.2⟩,⟨ihr h.2.2.1.1,h.2.2.1.2⟩,h.2.2.2⟩
 |_=>exact fun _=>trivial
theorem Rl:∀ {l:List Str},l.Nodup→b4 l=l:=by
 intro v0
 induction v0 with
 |nil =>
  intro _;exact rfl
 |cons a r ih =>
  intro h;obtain⟨h1,h2⟩:=List.nodup_cons.mp h;show(if r.contains a then b4 r else a::b4 r)=_;rw[if_neg (by simpa using h1),ih h2]
theorem Bg{l:List Str}(h:l.Nodup)(hl:l.length < 64):dS (.tuple (l.map .str))=.ok (.fz (.int l.length)):=by
 show((ofO (strs? (l.map .str))).bind fun ss=>if ss.length < 64 then fz (.int (b4 ss.reverse).length) else .no)=_;rw[fR,fE,fD,if_pos hl,Rl (by simpa[List.Nodup,List.pairwise_reverse,ne_comm] using h),List.length_reverse];rfl
theorem Rm{l:List Str}(h:l.Nodup)(hl:l.length < 64):dS (.list (l.map .str))=.ok (.fz (.int l.length)):=Bg h hl
theorem Bi(H:Wld N)(n:Nat){a b:Str}(ha:a∈N)(hb:b∈N)(hab:a≠b):rn (n+2) "are_two_names" [.fz (.str a),.fz (.str b)]=.ok (.fz (.bool true)):=by
 simp only[sA,d8 n (H.ok a ha),d8 n (H.ok b hb)];show R.ok (V.fz (.bool !(a==b)))=_;simp only[beq_false_of_ne hab];rfl
theorem Rn(n:Nat){l:Int}(hl:l.natAbs < 10 ^ 30):rn (n+2) "is_least" [.fz (.int l)]=.ok (.fz (.bool true)):=by
 rw[Os,jA];show R.ok (V.fz (.bool (decide ((if l < 0 then -l else l) < (10 ^ 30:Int)))))=_;congr;rw[decide_eq_true_eq]
 split<;>omega
theorem Bj{α:Type}{l:List α}(h1:1≤l.length)(h2:l.length≤6):aP (if decide ((1:Int)≤(l.length:Int))=true then R.ok (decide ((l.length:Int)≤6)) else R.ok false)=.ok (.fz (.bool true)):=by
 have e1:decide ((1:Int)≤(l.length:Int))=true:=by simp;exact vK h1
 have e2:decide ((l.length:Int)≤6)=true:=by simp;exact Eu h2
 simp only[e1,bY,e2];rfl
theorem t8{l:List Str}{r:List PyData}{d:PyData}(hd:d=.tuple (l.map .str)∨d=.list (l.map .str))(h:l.Nodup)(hl:l.length < 64)(hr:r.length=l.length):aC (aK dS (.ok (.fz d))) .Eq (ofP (bH (.tuple r)))=.ok (.fz (.bool true)):=by
 show rb (ofP (dS d)) (fun a=>aP (ofP (cmp .Eq (dOf a) (.int r.length))))=_;rw[show dS d=.ok (.fz (.int l.length)) from hd.elim (fun e=>e▸Bg h hl) fun e=>e▸Rm h hl,hr];show R.ok (V.fz (.bool ((l.length:Int)==(l.length:Int))))=_;simp
theorem Ro(H:Wld N)(n:Nat){fs:List Str}(h1:1≤fs.length)(h2:fs.length≤6)(hn:fs.Nodup)(hN:∀ f∈fs,f∈N):rn (n+2) "are_fields" [.fz (.tuple (fs.map .str))]=.ok (.fz (.bool true)):=by
 have e0:e7 (.ok (.fz (.int 1))) .LtE (ofP (bH (.tuple (fs.map .str)))) .LtE (.ok (.fz (.int 6)))=.ok (.fz (.bool true)):=Bj (l:=fs.map PyData.str) (by simpa using h1) (by simpa using h2);have e1:aK cE (aN (ofP (items (.tuple (fs.map .str)))) (fun d1=>(.ok true)) (fun d1=>(rn (n+1) "is_name" [.fz d1])))=.ok (.fz (.bool true)) :=
  (i8 (g:=fun _=>true) fun x hx=>d8 n (H.ok x (hN x hx))).trans (by simp)
 rw[Oq,e0,e1,t8 (.inl rfl) hn (by exact vL h2) (by simp)];rfl
theorem Bk:∀ {r:WW},r.isRows=true→okW N r→(aT (fun _=>.ok true) (fun d=>ofP (getItem d (.int 0))) (aS r)=.ok (r.names.map .str)∧aT (fun _=>.ok true) (fun d=>ofP (getItem d (.int 1))) (aS r)=.ok (r.parts.map .str))∧(r.names.Nodup∧r.parts.Nodup)∧(aS r).length=r.names.length∧r.parts.length=r.names.length:=by
 intro r
 induction r with
 |bnil=>exact fun _ _=>⟨⟨rfl,rfl⟩,⟨List.nodup_nil,List.nodup_nil⟩,rfl,rfl⟩
 |bcons n p v r ihv ihr =>
  intro _ h;obtain⟨⟨i1,i2⟩,⟨i3,i4⟩,i5,i6⟩:=ihr h.2.2.1.2 h.2.2.1.1;refine⟨⟨?_,?_⟩,⟨List.nodup_cons.mpr ⟨h.2.2.2.1,i3⟩,List.nodup_cons.mpr ⟨h.2.2.2.2,i4⟩⟩,congrArg (·+1) i5,congrArg (·+1) i6⟩
  ·show rb (aT (fun _=>.ok true) (fun d=>ofP (getItem d (.int 0))) (aS r)) (fun xs=>.ok (.str n::xs))=_;rw[i1];rfl
  ·show rb (aT (fun _=>.ok true) (fun d=>ofP (getItem d (.int 1))) (aS r)) (fun xs=>.ok (.str p::xs))=_;rw[i2];rfl
 |_=>exact fun h=>by exact bft h
theorem Rp(n:Nat){r:WW}(hr:r.isRows=true)(ho:okW N r)(h1:1≤r.names.length)(h2:r.names.length≤6)(h:∀ d∈aS r,rn n "is_row" [.fz d]=.ok (.fz (.bool true))):rn (n+1) "is_beside" [.fz (enc r)]=.ok (.fz (.bool true)):=by
 obtain⟨⟨i1,i2⟩,⟨i3,i4⟩,i5,i6⟩:=Bk hr ho;simp only[iB hr,Op];have e0:e7 (.ok (.fz (.int 1))) .LtE (ofP (bH (.tuple (aS r)))) .LtE (.ok (.fz (.int 6)))=.ok (.fz (.bool true)):=Bj (l:=aS r) (by exact Ev h1 i5) (by exact Ew h2 i5);have e1:aK cE (aN (ofP (items (.tuple (aS r)))) (fun d1=>(.ok true)) (fun d1=>(rn n "is_row" [.fz d1])))=.ok (.fz (.bool true)) :=
  (tX (l:=aS r) (g:=fun _=>true) h).trans (by simp)
 have e2:aN (ofP (items (.tuple (aS r)))) (fun _=>.ok true) (fun d=>ofP (getItem d (.int 0)))=.ok (.own (.list (r.names.map .str))):=by
  show rb (aT (fun _=>.ok true) (fun d=>ofP (getItem d (.int 0))) (aS r)) (fun r=>ofP (own (.list r)))=_;simp only[i1];rfl
 have e3:aN (ofP (items (.tuple (aS r)))) (fun _=>.ok true) (fun d=>ofP (getItem d (.int 1)))=.ok (.own (.list (r.parts.map .str))):=by
  show rb (aT (fun _=>.ok true) (fun d=>ofP (getItem d (.int 1))) (aS r)) (fun r=>ofP (own (.list r)))=_;simp only[i2];rfl
 simp only[e0,e1,e2,e3];show rb (aM (aC (aK dS (.ok (.fz (.list (r.names.map .str))))) .Eq (ofP (bH (.tuple (aS r))))) (aC (aK dS (.ok (.fz (.list (r.parts.map .str))))) .Eq (ofP (bH (.tuple (aS r)))))) R.ok=_;rw[t8 (.inr rfl) i3 (by exact vL h2) i5,t8 (.inr rfl) i4 (by exact Ex h2 i6) (by exact Ey i5 i6)];rfl
section
theorem Rq(n:Nat):rn (n+1) "is_view" [.fz (enc .whole)]=.ok (.fz (.bool true)):=by kernel_rfl
theorem Rr(n:Nat)(x:Str):rn (n+1) "is_view" [.fz (enc (.pick x))]=rb (rn n "is_name" [.fz (.str x)]) R.ok:=by kernel_rfl
theorem Rs(n:Nat)(x y:Str):rn (n+1) "is_view" [.fz (enc (.call x y))]=rb (rn n "are_two_names" [.fz (.str x),.fz (.str y)]) R.ok:=by kernel_rfl
theorem Rt(n:Nat)(x:Str)(l:Int):rn (n+1) "is_view" [.fz (enc (.sift x l))]=rb (aM (rn n "is_name" [.fz (.str x)]) (rn n "is_least" [.fz (.int l)])) R.ok:=by kernel_rfl
theorem Ru(n:Nat)(x y:Str)(fs:List Str):rn (n+1) "is_view" [.fz (enc (.join x y fs))]=rb (aM (rn n "are_two_names" [.fz (.str x),.fz (.str y)]) (rn n "are_fields" [.fz (.tuple (fs.map .str))])) R.ok:=by kernel_rfl
theorem Rv(n:Nat)(v:WW):rn (n+1) "is_view" [.fz (enc (.each v))]=rb (rn n "is_view" [.fz (enc v)]) R.ok:=by kernel_rfl
theorem Rw(n:Nat)(a b:WW):rn (n+1) "is_view" [.fz (enc (.andThen a b))]=rb (aM (rn n "is_view" [.fz (enc a)]) (rn n "is_view" [.fz (enc b)])) R.ok:=by kernel_rfl
theorem Rx(n:Nat)(r:WW):rn (n+1) "is_view" [.fz (enc (.beside r))]=rb (rn n "is_beside" [.fz (enc r)]) R.ok:=by kernel_rfl
theorem Ry(n:Nat)(x y:Str)(v:WW):rn (n+1) "is_row" [.fz (.tuple [.str x,.str y,enc v])]=rb (aM (rn n "is_name" [.fz (.str x)]) (aM (rn n "is_name" [.fz (.str y)]) (rn n "is_view" [.fz (enc v)]))) R.ok:=by kernel_rfl
end
noncomputable def Rz(w:WW):Prop:=∀ n,3*w.hgt+3≤n→rn n "is_view" [.fz (enc w)]=.ok (.fz (.bool true))
noncomputable def R0(w:WW):Prop:=∀ n,3*w.hgt+4≤n→∀ d∈aS w,rn n "is_row" [.fz d]=.ok (.fz (.bool true))
structure ViewS(w:WW):Prop where
 a:w.isRows=false→Rz w
 b:w.isRows=true→R0 w
theorem oQ(H:Wld N):∀ {w:WW},okW N w→ViewS w:=by
 intro w
 induction w with
 |whole=>exact fun _=>⟨fun _ n hn=>exnE (c:=1) n hn hn fun n _=>Rq n,fun h=>by exact bft h⟩
 |pick x=>exact fun h=>⟨fun _ n hn=>by
   refine exnE (c:=2) n hn hn fun n hn=>?_;simp only[Rr,d8 n (H.ok x h)];rfl,fun h=>by exact bft h⟩
 |call a b=>exact fun h=>⟨fun _ n hn=>by
   refine exnE (c:=3) n hn hn fun n hn=>?_;simp only[Rs,Bi H n h.1 h.2.1 h.2.2];rfl,fun h=>by exact bft h⟩
 |sift x l=>exact fun h=>⟨fun _ n hn=>by
   refine exnE (c:=3) n hn hn fun n hn=>?_;simp only[Rt,d8 (n+1) (H.ok x h.1),Rn n h.2];rfl,fun h=>by exact bft h⟩
 |join a b fs=>exact fun h=>⟨fun _ n hn=>by
   refine exnE (c:=3) n hn hn fun n hn=>?_;simp only[Ru,Bi H n h.1.1 h.1.2.1 h.1.2.2,Ro H n h.2.1.1 h.2.1.2 h.2.2.1 h.2.2.2];rfl,fun h=>by exact bft h⟩
 |each v ih=>exact fun h=>⟨fun _ n hn=>by
   have hn:3*(v.hgt+1)+3≤n:=hn;refine exnE (c:=1) n hn hn fun n hn=>?_;simp only[Rv,(ih h.1).1 h.2 n (fd (k:=2) (c:=1) hn)];rfl,fun h=>by exact bft h⟩
 |andThen a b iha ihb=>exact fun h=>⟨fun _ n hn=>by
   have hn:3*(max a.hgt b.hgt+1)+3≤n:=hn;refine exnE (c:=1) n hn hn fun n hn=>?_;simp only[Rw,(iha h.1.1).1 h.1.2 n (mx (fd (k:=2) (c:=1) hn)).1,(ihb h.2.1).1 h.2.2 n (mx (k:=3) (r:=3) (fd (k:=2) (c:=1) hn)).2];rfl,fun h=>by exact bft h⟩
 |beside r ih=>exact fun h=>⟨fun _ n hn=>by
   have hn:3*(r.hgt+1)+3≤n:=hn;refine exnE (c:=2) n hn hn fun n hn=>?_;simp only[Rx,Rp n h.1.2 h.1.1 h.2.1 h.2.2 fun d hd=>(ih h.1.1).2 h.1.2 n (fd (k:=0) (c:=2) hn) d hd];rfl,fun h=>by exact bft h⟩
 |bnil=>exact fun _=>⟨fun h=>(by cases h),fun _ n _ d hd=>by cases hd⟩
 |bcons x y v r ihv ihr =>
  intro h;refine⟨fun h=>(by exact btf h),fun _ n hn d hd=>?_⟩;have hn:3*(max v.hgt r.hgt)+4≤n:=hn;rcases List.mem_cons.mp (show d∈.tuple [.str x,.str y,enc v]::aS r from hd) with rfl | hd
  ·refine exnE (c:=2) n hn hn fun n hn=>?_;simp only[Ry,d8 n (H.ok x h.1.1),d8 n (H.ok y h.1.2),(ihv h.2.1.1).1 h.2.1.2 (n+1) (fd (k:=0) (c:=1) (mx hn).1)];rfl
  ·exact(ihr h.2.2.1.1).2 h.2.2.1.2 n (mx hn).2 d hd
end Mine
namespace Mine
open PySem
variable {N:List Str} {m:Nat}
theorem Bm:∀ {l:LP} {p:Str×PyData},(ks l).Nodup→p∈l→lk l p.1=some p.2
 |q::r,p,h,hp=>by
  obtain⟨h1,h2⟩:=List.nodup_cons.mp (show(q.1::ks r).Nodup from h);show(if p.1=q.1 then some q.2 else lk r p.1)=_;rcases List.mem_cons.mp hp with rfl | hp
  ·rw[if_pos rfl]
  ·rw[if_neg fun e:p.1=q.1=>h1 (e▸List.mem_map_of_mem (f:=(·.1)) hp),Bm h2 hp]
theorem Bld.upd{l1 l2:LP}{f g:Str→Option TT}(B:Bld N m l1 f)(C:Bld N m l2 g):Bld N m (sts l2 l1) fun k=>(g k).or (f k):=by
 refine(i9 (F:=g) B fun p hp=>?_).ext fun k=>?_
 ·have h:=Bm C.nd hp;obtain⟨t,a,b⟩:=C.get' h;exact⟨C.sub _ (k6 h),t,a,b⟩
 ·by_cases hk:k∈ks l2
  ·obtain⟨d,t,_,h2,_⟩:=C.key hk;rw[if_pos hk,h2];rfl
  ·have:g k=none:=by
    refine ocs (g k) (fun e=>?_) fun t e=>?_
    ·try rewrite[e]
     rfl
    ·try rewrite[e]
     exact absurd (C.mem.mpr (by rw[e];rfl)) hk
   rw[if_neg hk,this];rfl
theorem Bn{l1 l2:LP}(h:l1.length+l2.length < 4096):f0 (so "update") (.dict (mkd l1)) [.dict (mkd l2)]=.ok (.dict (mkd (sts l2 l1))):=by
 show((ofO (keys? (mkd l2))).bind fun m=>if (mkd l1).length+m.length < 4096 then P.ok (PyData.dict (cS m (mkd l1))) else .no)=_;simp only[mk_keys?,fE,fD,A7,if_pos h,tA]
section
noncomputable def XT:X:=⟨so "BadTree", []⟩
theorem jC(n:Nat):rn (n+1) "need_fit" [.fz (.bool true)]=.ok (.fz .none):=by kernel_rfl
theorem fS(n:Nat):rn (n+1) "need_fit" [.fz (.bool false)]=.exc XT:=by kernel_rfl
theorem R1(n:Nat)(d:PyData):rn (n+1) "shown" [.fz (enc .whole),.fz d]=.ok (.fz d):=by kernel_rfl
theorem R2(n:Nat)(x:Str)(d:PyData):rn (n+1) "shown" [.fz (enc (.pick x)),.fz d]=rb (aE (rn n "need_fit") [rn n "has_part" [.fz d,.fz (.str x)]]) fun _=>rb (ofP (getItem d (.str x))) R.ok:=by kernel_rfl
theorem R3(n:Nat)(x y:Str)(d:PyData):rn (n+1) "shown" [.fz (enc (.call x y)),.fz d]=rb (rn n "shown_call" [.fz (enc (.call x y)),.fz d]) R.ok:=by kernel_rfl
theorem R4(n:Nat)(x:Str)(l:Int)(d:PyData):rn (n+1) "shown" [.fz (enc (.sift x l)),.fz d]=rb (rn n "shown_sift" [.fz (enc (.sift x l)),.fz d]) R.ok:=by kernel_rfl
theorem R5(n:Nat)(x y:Str)(fs:List Str)(d:PyData):rn (n+1) "shown" [.fz (enc (.join x y fs)),.fz d]=rb (rn n "shown_join" [.fz (enc (.join x y fs)),.fz d]) R.ok:=by kernel_rfl
theorem R6(n:Nat)(v:WW)(d:PyData):rn (n+1) "shown" [.fz (enc (.each v)),.fz d]=rb (rn n "shown_each" [.fz (enc (.each v)),.fz d]) R.ok:=by kernel_rfl
theorem R7(n:Nat)(v:WW)(d:PyData):rn (n+1) "shown" [.fz (enc (.beside v)),.fz d]=rb (rn n "shown_beside" [.fz (enc (.beside v)),.fz d]) R.ok:=by kernel_rfl
theorem R8(n:Nat)(a b:WW)(d:PyData):rn (n+1) "shown" [.fz (enc (.andThen a b)),.fz d]=rb (aE (rn n "shown") [.ok (.fz (enc b)),rn n "shown" [.fz (enc a),.fz d]]) R.ok:=by kernel_rfl
end
theorem oR(n:Nat)(l:LP)(x:Str):rn (n+1) "has_part" [.fz (.dict (mkd l)),.fz (.str x)]=.ok (.fz (.bool (lk l x).isSome)):=by
 rw[nR];show rb (aP (ofP (Mine.contains (.str x) (.dict (mkd l))))) R.ok=_;rw[cZ];rfl
theorem Bp(n:Nat){d:PyData}{t:TT}(h:Sem N m d t)(x:Str):rn (n+1) "has_part" [.fz d,.fz (.str x)]=.ok (.fz (.bool (t.get x).isSome)):=by
 obtain⟨i,rfl,rfl,_⟩ | ⟨_,l,f,_,rfl,rfl,B⟩:=h.inv'
 ·simp only[nR];rfl
 ·simp only[oR,B.dom];rfl
noncomputable def ShR(N:List Str)(m:Nat)(o:Option TT)(r:R V):Prop:=match o with
 |some s=>Gives r fun d=>Sem N m d s
 |none=>r=.exc XT
theorem ShR.rb{o:Option TT}{r:R V}(h:ShR N m o r):ShR N m o (rb r R.ok):=by
 cases o with
 |none=>have h:r=.exc XT:=h;rw[h];rfl
 |some t=>obtain⟨v,d,rfl,e,p⟩:=h;exact⟨v,d,rfl,e,p⟩
theorem ShR.mono{m':Nat}{o:Option TT}{r:R V}(h:ShR N m o r)(hm:m≤m'):ShR N m' o r:=by
 cases o with
 |none=>exact h
 |some t=>obtain⟨v,d,e1,e2,e3⟩:=h;exact⟨v,d,e1,e2,e3.mono hm⟩
noncomputable def dec(p:Prop):Bool:=@decide p (Classical.propDecidable p)
theorem cD{p:Prop}:dec p=true↔p:=by unfold dec;simp
theorem cU{p:Prop}:dec p=false↔¬ p:=by unfold dec;simp
theorem eL{p:Prop}{b:Bool}(h:b=true↔p):b=dec p:=by rw[Bool.eq_iff_iff,cD];exact h
noncomputable def sb(a:Str)(l:Int)(t:TT):Bool:=dec (cT a l t)
theorem oS{a:Str}{l:Int}{t:TT}:sb a l t=true↔cT a l t:=cD
theorem gG{a:Str}{l:Int}{t:TT}:sb a l t=false↔¬ cT a l t:=cU
theorem t9(n:Nat){l:LP}{f:Str→Option TT}(B:Bld N m l f)(a:Str)(i:Int):rn (n+2) "is_sifted" [.fz (.dict (mkd l)),.fz (.str a),.fz (.int i)]=.ok (.fz (.bool (sb a i (.br f)))):=by
 rw[Ot];show rb (aM (aP (ofP (Mine.contains (.str a) (.dict (mkd l))))) (aM (aE (rn (n+1) "is_whole") [(ofP (getItem (.dict (mkd l)) (.str a)))]) (aC (ofP (getItem (.dict (mkd l)) (.str a))) .GtE (.ok (.fz (.int i)))))) R.ok=_;rw[cZ,oK];cases e:lk l a with
 |none =>
  have:sb a i (.br f)=false:=gG.mpr fun ⟨j,h,_⟩=>by
   have h:f a=some (.num j):=h;rw[B.none_iff.mpr e] at h;cases h
  rw[this];rfl
 |some d =>
  obtain⟨t,h1,h2⟩:=B.get' e;show rb (aM (rn (n+1) "is_whole" [.fz d]) (aP (ofP (cmp .GtE d (.int i))))) R.ok=_;rw[jA];obtain⟨j,rfl,rfl,_⟩ | ⟨_,l',f',_,rfl,rfl,_⟩:=h2.inv'
  ·show R.ok (V.fz (.bool (decide (i≤j))))=_;rw[show decide (i≤j)=sb a i (.br f) from eL (decide_eq_true_iff.trans ⟨fun h=>⟨j,h1,h⟩,fun ⟨k,h,h'⟩=>by
    have h:f a=some (.num k):=h;rw[h1] at h;cases h;exact h'⟩)]
  ·have:sb a i (.br f)=false:=gG.mpr fun ⟨j,h,_⟩=>by
    have h:f a=some (.num j):=h;rw[h1] at h;cases h
   rw[this];rfl
noncomputable def abB:TT→Bool
 | .num _=>false
 | .br f=>dec (cJ f)
theorem lH(n:Nat){d:PyData}{t:TT}(h:Sem N m d t):rn (n+1) "all_branches" [.fz d]=.ok (.fz (.bool (abB t))):=by
 rw[Ol];obtain⟨i,rfl,rfl,_⟩ | ⟨m,l,f,_,rfl,rfl,B⟩:=h.inv'
 ·rfl
 ·have:=i8 (xs:=ks l) (e:=fun d1=>eH (so "dict") (ofP (getItem (.dict (mkd l)) d1))) (g:=fun x=>match lk l x with | some d=>bR d | none=>false) fun x hx=>by
   obtain⟨d,t,h1,h2,h3⟩:=B.key hx;rw[aZ h1,h1];rfl
  rw[bN,aJ,this];show R.ok (V.fz (.bool ((ks l).all _)))=_;refine congrArg (fun b=>R.ok (V.fz (.bool b))) (eL ?_);rw[List.all_eq_true];constructor
  ·intro h k t hk;obtain⟨d,h1,h2⟩:=B.get hk;have:=h k (k6 h1);rw[h1] at this;obtain⟨i,rfl,rfl,_⟩ | ⟨_,l',f',_,rfl,rfl,_⟩:=h2.inv'
   ·exact bft this
   ·exact⟨_,rfl⟩
  ·intro h x hx;obtain⟨d,t,h1,h2,h3⟩:=B.key hx;obtain⟨g,rfl⟩:=h x t h2;obtain⟨_,l',_,rfl,_⟩:=h3.br_inv';rw[h1];rfl
theorem oU(fs:List Str)(x:Str):Mine.contains (.str x) (.tuple (fs.map .str))=.ok (fs.contains x):=by
 show((ofO (strs? (fs.map .str))).bind fun ss=>P.ok (ss.contains x))=_;rw[fR];rfl
theorem R9{xs:List Str}{t:PyData→R Bool}{g:Str→Bool}(h:∀ x∈xs,t (.str x)=.ok (g x)):aC (aN (.ok (xs.map .str)) t (fun d=>.ok (.fz d))) .NotEq (.ok (.own (.list [])))=.ok (.fz (.bool (!(xs.filter g).isEmpty))):=by
 show rb (rb (aT t (fun d=>.ok (.fz d)) (xs.map .str)) fun r=>ofP (own (.list r))) _=_;rw[tY h];show aP (ofP (bK (eqO (.list ((xs.filter g).map .str)) (.list []))))=_;rw[lE];rfl
theorem uA{xs:List Str}{t:PyData→R Bool}{g:Str→Bool}(h:∀ x∈xs,t (.str x)=.ok (g x)):aC (aN (.ok (xs.map .str)) t (fun d=>.ok (.fz d))) .Eq (.ok (.own (.list [])))=.ok (.fz (.bool (xs.filter g).isEmpty)):=by
 show rb (rb (aT t (fun d=>.ok (.fz d)) (xs.map .str)) fun r=>ofP (own (.list r))) _=_;rw[tY h];show aP (ofP (eqO (.list ((xs.filter g).map .str)) (.list [])))=_;rw[lE];rfl
theorem lI{xs:List Str}{g:Str→Bool}:(xs.filter g).isEmpty=true↔∀ x∈xs,g x=false:=by
 rw[List.isEmpty_iff,List.filter_eq_nil_iff];simp
noncomputable def lJ(g:Str→Option TT)(P:Str→Prop):Prop:=∀ k t,g k=some t→∀ x,(t.get x).isSome=true→P x
noncomputable def gH(g:Str→Option TT)(P:Str→Prop)(k:Str):Bool:=dec (∀ t,g k=some t→∀ x,(t.get x).isSome=true→P x)
theorem oV{l:LP}{g:Str→Option TT}(B:Bld N m l g)(P:Str→Prop):(ks l).all (gH g P)=dec (lJ g P):=eL (by
 rw[List.all_eq_true];exact⟨fun h k t hk=>cD.mp (h k (B.mem.mpr (by rw[hk];rfl))) t hk,fun h k _=>cD.mpr (h k)⟩)
theorem oW{l lr:LP}{g r:Str→Option TT}{x:Str}{P:Str→Prop}{c:Str→Bool}{T:PyData→R Bool}(hT:∀ y,T (.str y)=.ok (c y))(hc:∀ y,c y=false↔P y)(Br:Bld N m lr r)(h1:lk l x=some (.dict (mkd lr)))(h2:g x=some (.br r))(A B:R V) :
  ifS (aC (aN (plI (aI (a9 (.fz (.dict (mkd l)))) (.ok (.fz (.str x))))) T (fun d=>.ok (.fz d))) .NotEq (.ok (.own (.list [])))) A B=if gH g P x=true then B else A:=by
 show ifS (aC (aN (plI (ofP (getItem (.dict (mkd l)) (.str x)))) T _) _ _) _ _=_;rw[aZ h1];show ifS (aC (aN (ofP (items (.dict (mkd lr)))) T _) _ _) _ _=_;rw[bN,aJ,R9 (g:=c) fun y _=>hT y,show((ks lr).filter c).isEmpty=gH g P x from eL (lI.trans ⟨fun h t ht y hy=>by
  rw[h2] at ht;obtain rfl:=si ht;exact(hc y).mp (h y (Br.mem.mpr hy)),fun h y hy=>(hc y).mpr (h _ h2 y (Br.mem.mp hy))⟩)]
 cases gH g P x<;>rfl
theorem Bq(a b:Str)(fs:List Str)(y:Str):tst (aC (.ok (.fz (.str y))) .NotIn (ofP (getItem (enc (.join a b fs)) (.int 3))))=.ok (!fs.contains y):=by
 show tst (aP (ofP (bK (Mine.contains (.str y) (.tuple (fs.map .str))))))=_;rw[oU];rfl
theorem Bs(a b:Str)(fs:List Str)(y:Str):tst (aC (.ok (.fz (.str y))) .In (ofP (getItem (enc (.join a b fs)) (.int 3))))=.ok (fs.contains y):=by
 show tst (aP (ofP (Mine.contains (.str y) (.tuple (fs.map .str)))))=_;rw[oU];rfl
theorem Bt(fs:List Str)(y:Str):(!fs.contains y)=false↔y∈fs:=by simp
theorem Bu(fs:List Str)(y:Str):fs.contains y=false↔y∉fs:=by simp
theorem gI{f:Str→Option TT}{a b:Str}{fs:List Str}(h:∀ g k,f a=some (.br g)→f b=some (.br k)→¬ FitJ fs g k):aG (.join a b fs) (.br f)=none:=by
 refine ocs (aG (.join a b fs) (.br f)) (fun e=>e) fun s e=>?_;obtain⟨g,k,h1,h2,F,_⟩:=oF e;exact absurd F (h g k h1 h2)
theorem uB{t:TT}(h:abB t=true):∃ g,t=.br g∧cJ g:=by
 cases t with
 |num=>exact bft h
 |br g=>exact⟨g,rfl,cD.mp h⟩
theorem Sa(n:Nat)(a b:Str)(fs:List Str)(i:Int):rn (n+2) "fits_join" [.fz (enc (.join a b fs)),.fz (.int i)]=.ok (.fz (.bool false)):=by
 simp only[Ah];show ifS (orS (unS .Not (rn (n+1) "has_part" [.fz (.int i),.fz (.str a)])) _) _ _=_;simp only[nR];rfl
theorem Sb(n:Nat){a b:Str}{fs:List Str}{l:LP}{f:Str→Option TT}(B:Bld N m l f):rn (n+2) "fits_join" [.fz (enc (.join a b fs)),.fz (.dict (mkd l))]=.ok (.fz (.bool (aG (.join a b fs) (.br f)).isSome)):=by
 simp only[Ah];show ifS (orS (unS .Not (rn (n+1) "has_part" [.fz (.dict (mkd l)),.fz (.str a)])) (unS .Not (rn (n+1) "has_part" [.fz (.dict (mkd l)),.fz (.str b)]))) _ (rb (ofP (getItem (.dict (mkd l)) (.str a))) fun v1=>rb (ofP (getItem (.dict (mkd l)) (.str b))) fun v2=>_)=_;simp only[oR,oR];refine ocs (lk l a) (fun e=>?_) fun d1 e1=>?_
 ·simp only[e,gI fun g k h1 _ _=>ns ((B.none_iff.mpr e).symm.trans h1)];rfl
 refine ocs (lk l b) (fun e=>?_) fun d2 e2=>?_
 ·simp only[e1,e,gI fun g k _ h1 _=>ns ((B.none_iff.mpr e).symm.trans h1)];rfl
 obtain⟨t1,f1,s1⟩:=B.get' e1;obtain⟨t2,f2,s2⟩:=B.get' e2;simp only[e1,e2,aZ e1,aZ e2];show ifS (orS (unS .Not (rn (n+1) "all_branches" [.fz d1])) (unS .Not (rn (n+1) "all_branches" [.fz d2]))) _ (rb (ofP (items d1)) fun l3=>_)=_;simp only[lH n s1,lH n s2];refine bcs (abB t1) (fun c1=>?_) fun c1=>?_
 ·rw[c1,gI fun g k h1 _ F=>by
   simp only[f1] at h1;obtain rfl:=si h1;exact cU.mp c1 F.ga];rfl
 refine bcs (abB t2) (fun c2=>?_) fun c2=>?_
 ·rw[c1,c2,gI fun g k _ h1 F=>by
   simp only[f2] at h1;obtain rfl:=si h1;exact cU.mp c2 F.ha];rfl
 simp only[c1,c2];obtain⟨g,rfl,ga⟩:=uB c1;obtain⟨h,rfl,ha⟩:=uB c2;obtain⟨_,l1,_,rfl,B1⟩:=s1.br_inv';obtain⟨_,l2,_,rfl,B2⟩:=s2.br_inv';obtain⟨j1,L1⟩:=oP (S:=fun (j:Option V)=>dF (ζ (enc (.join a b fs))) (ζ (.dict (mkd l))) (ζ (.dict (mkd l1))) (ζ (.dict (mkd l2))) j) (b:=sB (n+1)) (t:=sE) (c:=gH g (·∈fs)) (v:=.fz (.bool false)) (xs:=ks l1) (fun x hx j=>⟨some (.fz (.str x)),fun kn kr=>by
  obtain⟨d,t,h1,h2,h3⟩:=B1.key hx;obtain⟨r1,rfl⟩:=ga x t h2;obtain⟨_,lr,_,rfl,Br⟩:=h3.br_inv';simp only[Ou,aJ,aF,Ov];exact oW (Bq a b fs) (Bt fs) Br h1 h2 _ _⟩) none
 obtain⟨j2,L2⟩:=oP (S:=fun (j:Option V)=>dF (ζ (enc (.join a b fs))) (ζ (.dict (mkd l))) (ζ (.dict (mkd l1))) (ζ (.dict (mkd l2))) j) (b:=sF (n+1)) (t:=sG) (c:=gH h (·∉fs)) (v:=.fz (.bool false)) (xs:=ks l2) (fun x hx j=>⟨some (.fz (.str x)),fun kn kr=>by
  obtain⟨d,t,h1,h2,h3⟩:=B2.key hx;obtain⟨r1,rfl⟩:=ha x t h2;obtain⟨_,lr,_,rfl,Br⟩:=h3.br_inv';simp only[Ox,aJ,aF,Oy];exact oW (Bs a b fs) (Bu fs) Br h1 h2 _ _⟩) j1
 simp only[bN];refine(L1 _ _).trans ?_;simp only[oV B1,Ow];show(if _ then rb (ofP (items (.dict (mkd l2)))) _ else _)=_;simp only[bN,aJ,aF,bZ,L2,oV B2,Oz,A6 (t:=.br f) f1 f2]
 by_cases p1:lJ g (·∈fs)
 case neg=>rw[cU.mpr p1,cA fun F=>p1 F.gf];rfl
 by_cases p2:lJ h (·∉fs)
 case neg=>rw[cU.mpr p2,cD.mpr p1,cA fun F=>p2 F.hf];rfl
 rw[cD.mpr p2,cD.mpr p1,b9 ⟨ga,ha,p1,p2⟩];rfl
end Mine
namespace Mine
open PySem
variable {N:List Str} {m:Nat}
theorem Bv(H:Wld N){β:Type}{S:LP→β→aA}{b:aA→KN→KR→R V}{t:Expr}{l:LP}{f:Str→Option TT}(B:Bld N m l f){x y:Str}(hy:y∈N)(hfy:f y=none){j:β}
  (h:∀ k d a j,lk l k=some d→a.length < aX→∃ j',∀ kn kr,(rb (ofP (aR t (.str k) (S a j))) fun σ=>b σ kn kr)=kn (S (st a (if k=x then y else k) d) j')) :
  ∃ a j',Bld N m a (gF x y f)∧∀ kn kr,aQ b t ((ks l).map .str) (S [] j) kn kr=kn (S a j'):=by
 have:=oO (S:=S) (b:=b) (t:=t) (l:=ks l) (p:=[]) (a:=[]) (j:=j) (I:=fun p a=>Bld N m a fun k=>if k=y then (if x∈p then f x else none) else if k=x then none else if k∈p then f k else none) (E:=fun _=>False) (Q:=fun _=>False) (fun q k r a j hq hi=>?_) (Bld.nil.ext fun k=>by simp)
 ·rcases this with ⟨a,j,h1,h2⟩ | ⟨e,h1,_⟩ | ⟨v,hv,_⟩
  ·refine⟨a,j,h1.ext fun k=>?_,h2⟩;have hn:∀ k,k∉ks l→f k=none:=fun k hk=>by
    refine ocs (f k) (fun e=>?_) fun t e=>?_
    ·try rewrite[e]
     rfl
    ·try rewrite[e]
     exact absurd (B.mem.mpr (by rw[e];rfl)) hk
   simp only[List.nil_append,gF];have e1:(if x∈ks l then f x else none)=f x:=by
    by_cases hx:x∈ks l
    ·rw[if_pos hx]
    ·rw[if_neg hx,hn x hx]
   have e2:(if k∈ks l then f k else none)=f k:=by
    by_cases hx:k∈ks l
    ·rw[if_pos hx]
    ·rw[if_neg hx,hn k hx]
   rw[e1,e2]
  ·exact h1.elim
  ·exact hv.elim
 ·have hk:=lF hq;obtain⟨d,u,h1,h2,h3⟩:=B.key hk;obtain⟨j',e⟩:=h k d a j h1 (hi.lt H (by decide));refine Out.kn _ j' ((hi.set (k:=if k=x then y else k) (by split;exact hy;exact B.sub k hk) h3).ext fun z=>?_) e;have hky:k≠y:=fun e=>by rw[e,hfy] at h2;exact ns h2
  simp only[upd,List.mem_append,List.mem_singleton]
  by_cases e1:k=x
  ·subst e1
   by_cases e2:z=y
   ·simp[e2,h2]
   ·by_cases e3:z=k
    ·subst e3;simp[hky]
    ·simp[e2,e3]
  ·by_cases e2:z=k
   ·subst e2;simp[hky,e1,h2]
   ·by_cases e3:z=y
    ·subst e3;simp[e1,Ne.symm hky,Ne.symm e1]
    ·simp[e1,e2,e3]
theorem Sc(H:Wld N)(n:Nat){x y:Str}(hy:y∈N){d:PyData}{t:TT}(h:Sem N m d t):ShR N m (aG (.call x y) t) (rn (n+2) "shown_call" [.fz (enc (.call x y)),.fz d]):=by
 simp only[O0];show ShR N m (grd _ _) (rb (aE (rn (n+1) "need_fit") [aM (rn (n+1) "has_part" [.fz d,.fz (.str x)]) (aP (ofP (bK (Mine.contains (.str y) d))))]) _);rw[Bp n h];obtain⟨i,rfl,rfl,_⟩ | ⟨m,l,f,rfl,rfl,rfl,B⟩:=h.inv'
 ·rw[cA fun h=>bft h.1];show rb (rn (n+1) "need_fit" [.fz (.bool false)]) _=_;rw[fS];rfl
 simp only[bP]
 by_cases hc:(f x).isSome=true∧f y=none
 case neg =>
  rw[cA hc,cZ,B.dom,show aM (.ok (.fz (.bool (f x).isSome))) (aP (ofP (bK (.ok (f y).isSome))))=.ok (.fz (.bool false)) from by
   refine ocs (f x) (fun ex=>?_) fun u ex=>?_
   ·try rewrite[ex]
    rfl
   ·try rewrite[ex]
    refine ocs (f y) (fun ey=>absurd ⟨by rw[ex];rfl,ey⟩ hc) fun v ey=>?_;rw[ey];rfl]
  show rb (rn (n+1) "need_fit" [.fz (.bool false)]) _=_;rw[fS];rfl
 obtain⟨a,j,h1,h2⟩:=Bv H (S:=fun (a:LP) (j:Option V)=>gC (ζ (enc (.call x y))) (ζ (.dict (mkd l))) (some (.own (.dict (mkd a)))) j) (b:=sH (n+1)) (t:=sI) B (x:=x) hy hc.2 (j:=none) fun k d a j hk ha=>⟨some (.fz (.str k)),fun kn kr=>by
  simp only[O1,aJ,aF,O2];show(if (k==x)=true then bD (ofP (getItem (.dict (mkd l)) (.str k))) (.ok (.dict (mkd a))) (.ok (.fz (.str y))) _ else bD (ofP (getItem (.dict (mkd l)) (.str k))) (.ok (.dict (mkd a))) (.ok (.fz (.str k))) _)=_;simp only[aZ hk]
  by_cases e:k=x
  ·rw[if_pos (by simpa using e),if_pos e];show rb (ofP (Mine.setItem (.dict (mkd a)) (.str y) d)) _=_;simp only[cB y d ha];rfl
  ·rw[if_neg (by simpa using e),if_neg e];show rb (ofP (Mine.setItem (.dict (mkd a)) (.str k) d)) _=_;simp only[cB k d ha];rfl⟩
 rw[b9 hc];refine⟨.own (.dict (mkd a)),_,?_,rfl,h1.toSem⟩;simp only[hc.1,cZ,B.none_iff.mp hc.2];show rb (rn (n+1) "need_fit" [.fz (.bool true)]) _=_;simp only[jC,bN];exact(h2 _ _).trans (O3 ..)
theorem Sd(H:Wld N)(n:Nat){x:Str}{i:Int}{d:PyData}{t:TT}(h:Sem N m d t):ShR N m (aG (.sift x i) t) (rn (n+3) "shown_sift" [.fz (enc (.sift x i)),.fz d]):=by
 rw[O6,lH _ h];refine bcs (abB t) (fun hc=>?_) fun hc=>?_
 ·rw[hc,show aG (.sift x i) t=none from by
   cases t with
   |num=>rfl
   |br f=>exact cA (cU.mp hc) _]
  show rb (rn (n+2) "need_fit" [.fz (.bool false)]) _=_;rw[fS];rfl
 rw[hc];obtain⟨f,rfl,hf⟩:=uB hc;obtain⟨m,l,rfl,rfl,B⟩:=h.br_inv';rw[show aG (.sift x i) (.br f)=some (.br (fC x i f)) from b9 hf _];have:=lG H (m:=m) (S:=fun (a:LP) (j:Option V)=>eI (ζ (enc (.sift x i))) (ζ (.dict (mkd l))) (some (.own (.dict (mkd a)))) j) (b:=nS (n+2)) (t:=nT) (xs:=ks l) (j:=none) (fC x i f) (E:=fun _=>False) fun k hk a j ha=>?_
 ·obtain⟨a,j,hi,e⟩ | ⟨x,hx,_⟩:=this
  ·refine⟨.own (.dict (mkd a)),_,?_,rfl,(B.all (fun k h=>by show(f k).bind _=none;rw[h];rfl) hi).toSem⟩;show rb (rn (n+2) "need_fit" [.fz (.bool true)]) _=_;rw[jC,bN];exact(e _ _).trans (O9 ..)
  ·exact hx.elim
 ·obtain⟨d,t,h1,h2,h3⟩:=B.key hk;obtain⟨g,rfl⟩:=hf k t h2;obtain⟨_,lr,_,rfl,Br⟩:=h3.br_inv';have hF:fC x i f k=grd (cT x i (.br g)) (some (.br g)):=by show(f k).bind _=_;rw[h2];rfl
  have hb:∀ kn kr,(rb (ofP (aR nT (.str k) (eI (ζ (enc (.sift x i))) (ζ (.dict (mkd l))) (some (.own (.dict (mkd a)))) j))) fun σ=>nS (n+2) σ kn kr) =
    if sb x i (.br g)=true then kn (eI (ζ (enc (.sift x i))) (ζ (.dict (mkd l))) (some (.own (.dict (mkd (st a k (.dict (mkd lr))))))) (ζ (.str k))) else kn (eI (ζ (enc (.sift x i))) (ζ (.dict (mkd l))) (some (.own (.dict (mkd a)))) (ζ (.str k))):=fun kn kr=>by
   rw[O7,aJ,aF,O8,aZ h1];show ifS (rn (n+2) "is_sifted" [.fz (.dict (mkd lr)),.fz (.str x),.fz (.int i)]) (rb (ofP (Mine.setItem (.dict (mkd a)) (.str k) (.dict (mkd lr)))) _) _=_;rw[t9 n Br,cB k _ ha];rfl
  refine⟨B.sub k hk,?_⟩;refine bcs (sb x i (.br g)) (fun hs=>?_) fun hs=>?_
  ·try rewrite[hs]
   exact .inl ⟨hF.trans (cA (gG.mp hs) _),some (.fz (.str k)),fun kn kr=>(hb kn kr).trans (by rw[hs,cY])⟩
  ·try rewrite[hs]
   exact .inr (.inl ⟨.dict (mkd lr),.br g,some (.fz (.str k)),hF.trans (b9 (oS.mp hs) _),h3,fun kn kr=>(hb kn kr).trans (by rw[hs,bY])⟩)
theorem Se(H:Wld N)(n:Nat){a b:Str}{fs:List Str}{d:PyData}{t:TT}(hd:Sem N m d t):ShR N m (aG (.join a b fs) t) (rn (n+3) "shown_join" [.fz (enc (.join a b fs)),.fz d]):=by
 rw[Pa];obtain⟨i,rfl,rfl,_⟩ | ⟨m,l,f,rfl,rfl,rfl,B⟩:=hd.inv'
 ·rw[Sa n];show rb (rn (n+2) "need_fit" [.fz (.bool false)]) _=_;rw[fS];rfl
 rw[Sb n B];refine ocs (aG (.join a b fs) (.br f)) (fun hs=>?_) fun s hs=>?_
 ·rw[hs];show rb (rn (n+2) "need_fit" [.fz (.bool false)]) _=_;rw[fS];rfl
 rw[hs];obtain⟨g,h,ga,ha,F,rfl⟩:=oF hs;obtain⟨d1,e1,q2⟩:=B.get ga;obtain⟨d2,e2,q4⟩:=B.get ha;obtain⟨m,l1,B1⟩:=q2.br_inv;obtain⟨_,l2,e,rfl,B2⟩:=q4.br_inv';cases e;have:=lG H (m:=m) (S:=fun (c:LP) (j:Option V×Option V)=>eJ (ζ (enc (.join a b fs))) (ζ (.dict (mkd l))) (ζ (.dict (mkd l1))) (ζ (.dict (mkd l2))) (some (.own (.dict (mkd c)))) j.1 j.2) (b:=nU (n+2)) (t:=nV) (xs:=ks l1) (j:=(none,none)) (dD g h) (E:=fun _=>False) fun k hk c j ha=>?_
 ·obtain⟨c,j,hi,e⟩ | ⟨x,hx,_⟩:=this
  ·refine⟨.own (.dict (mkd c)),_,?_,rfl,(B1.all (fun k h=>by show(g k).bind _=none;simp only[h];rfl) hi).toSem.mono (Nat.le_succ _)⟩;show rb (rn (n+2) "need_fit" [.fz (.bool true)]) (fun _=>rb (ofP (getItem (.dict (mkd l)) (.str a))) fun v1=>rb (ofP (getItem (.dict (mkd l)) (.str b))) fun v2=>_)=_;simp only[jC,aZ e1,aZ e2,aF,aJ,aF,aJ,aF];show rb (ofP (items (.dict (mkd l1)))) _=_;simp only[bN];exact(e _ _).trans (Pd ..)
  ·exact hx.elim
 ·obtain⟨d,t,h1,h2,h3⟩:=B1.key hk;obtain⟨r1,rfl⟩:=F.ga k t h2;obtain⟨m',lr,Br⟩:=h3.br_inv;refine⟨B1.sub k hk,?_⟩;have hb:∀ kn kr,(rb (ofP (aR nV (.str k) (eJ (ζ (enc (.join a b fs))) (ζ (.dict (mkd l))) (ζ (.dict (mkd l1))) (ζ (.dict (mkd l2))) (some (.own (.dict (mkd c)))) j.1 j.2))) fun σ=>nU (n+2) σ kn kr)=ifS (.ok (.fz (.bool (lk l2 k).isSome))) (rb (ofP (getItem (.dict (mkd l2)) (.str k))) fun v=>rb (ofP (f0 (so "update") (.dict (mkd lr)) [dOf v])) fun o2=>rb (ofP (Mine.setItem (.dict (mkd c)) (.str k) o2)) fun o3=>kn (eJ (ζ (enc (.join a b fs))) (ζ (.dict (mkd l))) (ζ (.dict (mkd l1))) (ζ (.dict (mkd l2))) (some (.own o3)) (ζ (.str k)) (ζ o2))) (kn (eJ (ζ (enc (.join a b fs))) (ζ (.dict (mkd l))) (ζ (.dict (mkd l1))) (ζ (.dict (mkd l2))) (some (.own (.dict (mkd c)))) (ζ (.str k)) j.2)):=fun kn kr=>by
   simp only[Pb,aJ,aF,Pc];show ifS (aP (ofP (Mine.contains (.str k) (.dict (mkd l2))))) (rb (aK bE (ofP (getItem (.dict (mkd l1)) (.str k)))) fun v1=>gY (ofP (c9 v1)) (so "update") [ofP (getItem (.dict (mkd l2)) (.str k))] _) _=_;simp only[cZ,aZ h1,oK,Rk];cases lk l2 k<;>rfl
  refine ocs (lk l2 k) (fun hk2=>?_) fun d2 hk2=>?_
  ·try rewrite[hk2]
   refine .inl ⟨?_,(some (.fz (.str k)),j.2),fun kn kr=>(hb kn kr).trans (by simp only[hk2];rfl)⟩;show(g k).bind (fun r=>(h k).bind _)=none;simp only[h2,B2.none_iff.mpr hk2];rfl
  ·try rewrite[hk2]
   obtain⟨t2,q1,q2⟩:=B2.get' hk2;obtain⟨r2,rfl⟩:=F.ha k t2 q1;obtain⟨_,lr2,e,rfl,Br2⟩:=q2.br_inv';cases e;refine .inr (.inl ⟨.dict (mkd (sts lr2 lr)),kT (.br r1) (.br r2),(some (.fz (.str k)),some (.fz (.dict (mkd (sts lr2 lr))))),?_,(Br.upd Br2).toSem,fun kn kr=>(hb kn kr).trans ?_⟩)
   ·show(g k).bind (fun r=>(h k).bind _)=_;simp only[h2,q1];rfl
   ·simp only[hk2,aZ hk2];show rb (ofP (f0 (so "update") (.dict (mkd lr)) [.dict (mkd lr2)])) _=_;rw[Bn (by have:=Br.len;have:=Br2.len;have:=H.len;lia)];show rb (ofP (Mine.setItem (.dict (mkd c)) (.str k) _)) _=_;simp only[cB k _ ha];rfl
end Mine
namespace Mine
open PySem
variable {N:List Str} {m:Nat}
inductive BindE{α β:Type}(o:Option α)(k:α→Option β)(y:β):Prop where
 |mk (x:α) (h:o=some x) (g:k x=some y):BindE o k y
theorem bind_some{α β:Type}{o:Option α}{k:α→Option β}{y:β}(h:o.bind k=some y):BindE o k y:=by
 cases o with
 |none=>exact ns h
 |some x=>exact⟨x,rfl,h⟩
theorem uC:∀ {r:WW} {t z:TT},r.isRows=true→r.wf→aG r t=some z→∃ f,z=.br f∧∀ k,(f k).isSome=true↔k∈r.names:=by
 intro r
 induction r with
 |bnil=>intro t z _ _ h;obtain rfl:=si h;exact⟨_,rfl,fun k=>by simp[kU,kW]⟩
 |bcons n p v r ihv ihr =>
  intro t z _ hw h;obtain⟨x,h1,h⟩:=bind_some h;obtain⟨y,h2,h⟩:=bind_some h;obtain⟨z1,h3,h⟩:=bind_some h;obtain rfl:=si h;obtain⟨f,rfl,hf⟩:=ihr hw.2.1.2 hw.2.1.1 h3;refine⟨_,rfl,fun k=>?_⟩;simp only[upd,bP,kU,kW,List.mem_cons]
  by_cases e:k=n
  ·simp[e]
  ·simp only[e,if_false,false_or];exact hf k
 |_=>intro t z h;exact bft h
theorem Gives.rb{r:R V}{P:PyData→Prop}(h:Gives r P):Gives (rb r R.ok) P:=by
 obtain⟨v,d,rfl,e,p⟩:=h;exact⟨v,d,rfl,e,p⟩
noncomputable def bj(vw tr:PyData)(c:LP)(j:Option V×Option V×Option V):aA:=e9 (ζ vw) (ζ tr) (some (.own (.dict (mkd c)))) j.1 j.2.1 j.2.2
noncomputable def ShB(N:List Str)(m n:Nat)(w:WW)(o:Option TT)(vw:PyData)(l:LP)(c:LP)(g:Str→Option TT)(j:Option V×Option V×Option V):Prop:=match o with
 |some z=>∃ c' j',Bld N m c' (fun k=>(z.get k).or (g k))∧∀ kn kr,aQ (dA n) dB (aS w) (bj vw (.dict (mkd l)) c j) kn kr=kn (bj vw (.dict (mkd l)) c' j')
 |none=>∀ kn kr,aQ (dA n) dB (aS w) (bj vw (.dict (mkd l)) c j) kn kr=.exc XT
noncomputable def Sf(N:List Str)(w:WW):Prop:=∀ {m n d t},2*w.hgt+4≤n→Sem N m d t→ShR N m (aG w t) (rn n "shown" [.fz (enc w),.fz d])
noncomputable def Sg(N:List Str)(w:WW):Prop:=∀ {m n l f},2*w.hgt+4≤n→Bld N m l f→∀ vw c g j,Bld N m c g→ShB N m n w (aG w (.br f)) vw l c g j
structure ShownS(N:List Str)(w:WW):Prop where
 a:w.isRows=false→Sf N w
 b:w.isRows=true→Sg N w
theorem uD(H:Wld N):∀ {w:WW},okW N w→ShownS N w:=by
 intro w
 induction w with
 |whole =>
  refine fun _=>⟨fun _ m n d t hn hd=>?_,fun h=>by exact bft h⟩
  obtain⟨n⟩:=exn (c:=1) hn;exact⟨_,_,R1 n d,rfl,hd⟩
 |pick x =>
  refine fun _=>⟨fun _ m n d t hn hd=>?_,fun h=>by exact bft h⟩
  obtain⟨n⟩:=exn (c:=2) hn;show ShR N m (t.get x) _;simp only[R2,Bp n hd];refine ocs (t.get x) (fun e=>?_) fun s e=>?_
  ·simp only[e];show rb (rn (n+1) "need_fit" [.fz (.bool false)]) _=_;simp only[fS];rfl
  simp only[e];cases t with
  |num=>exact ns e
  |br f =>
   obtain⟨m,l,B⟩:=hd.br_inv;obtain⟨d,h1,h2⟩:=B.get e;refine⟨.fz d,d,?_,rfl,h2.mono (Nat.le_succ _)⟩;simp only[aZ h1];show rb (rn (n+1) "need_fit" [.fz (.bool true)]) _=_;simp only[jC];rfl
 |call x y =>
  refine fun ho=>⟨fun _ m n d t hn hd=>?_,fun h=>by exact bft h⟩
  obtain⟨n⟩:=exn (c:=3) hn;simp only[R3];exact(Sc H n ho.2.1 hd).rb
 |sift x i =>
  refine fun ho=>⟨fun _ m n d t hn hd=>?_,fun h=>by exact bft h⟩
  obtain⟨n⟩:=exn (c:=4) hn;simp only[R4];exact(Sd H n hd).rb
 |join a b fs =>
  refine fun ho=>⟨fun _ m n d t hn hd=>?_,fun h=>by exact bft h⟩
  obtain⟨n⟩:=exn (c:=4) hn;simp only[R5];exact(Se H n hd).rb
 |each v ih =>
  refine fun ho=>⟨fun _ m n d t hn hd=>?_,fun h=>by exact bft h⟩
  have hn:2*(v.hgt+1)+4≤n:=hn;obtain⟨n⟩:=exn (c:=3) hn;simp only[R6];refine ShR.rb ?_;simp only[Pe];obtain⟨i,rfl,rfl,_⟩ | ⟨m,l,f,rfl,rfl,rfl,B⟩:=hd.inv'
  ·show rb (rn (n+1) "need_fit" [.fz (.bool false)]) _=_;simp only[fS];rfl
  have:=t6 H (m:=m) (S:=fun (a:LP) (j:Option V)=>fO (ζ (enc (.each v))) (ζ (.dict (mkd l))) (some (.own (.dict (mkd a)))) j) (b:=nW (n+1)) (t:=nX) (xs:=ks l) (j:=none) (fun k=>(f k).bind (aG v)) (P:=fun k=>∀ x,f k=some x→(aG v x).isSome=true) (E:=fun e=>e=XT∧¬ ∀ k x,f k=some x→(aG v x).isSome=true) fun q0 k r0 hq0 _ a j ha=>?_
  ·show ShR N (m+1) (grd (∀ k x,f k=some x→(aG v x).isSome=true) _) (rb (rn (n+1) "need_fit" [.fz (.bool true)]) _);simp only[jC,bN];obtain⟨a,j,hi,hP,e⟩ | ⟨x,⟨rfl,hx⟩,e⟩:=this
   ·simp only[b9 fun k x hk=>hP k (B.mem.mpr (by simp only[hk];rfl)) x hk];exact⟨.own (.dict (mkd a)),_,(e _ _).trans (Ph ..),rfl,(B.all (fun k h=>by show(f k).bind _=none;simp only[h];rfl) hi).toSem⟩
   ·simp only[cA hx];exact e _ _
  ·have hk:=lF hq0;obtain⟨dx,tx,h1,h2,h3⟩:=B.key hk;have hI:=(ih ho.1).1 ho.2 (n:=n+1) (fd (k:=0) (c:=2) hn) h3;have hb:∀ kn kr,(rb (ofP (aR nX (.str k) (fO (ζ (enc (.each v))) (ζ (.dict (mkd l))) (some (.own (.dict (mkd a)))) j))) fun σ=>nW (n+1) σ kn kr)=rb (rn (n+1) "shown" [.fz (enc v),.fz dx]) (fun v'=>rb (ofP (Mine.setItem (.dict (mkd a)) (.str k) (dOf v'))) fun o=>kn (fO (ζ (enc (.each v))) (ζ (.dict (mkd l))) (some (.own o)) (ζ (.str k)))):=fun kn kr=>by
    simp only[Pf,aJ,aF,Pg,aZ h1];rfl
   refine⟨B.sub k hk,ocs (aG v tx) (fun sx=>?_) fun u sx=>?_⟩
   ·simp only[sx] at hI;have hI:rn (n+1) "shown" [.fz (enc v),.fz dx]=.exc XT:=hI;exact .inr (.inr ⟨XT,⟨rfl,fun h=>by have:=h k tx h2;simp only[sx] at this;exact bft this⟩,fun kn kr=>(hb kn kr).trans (by simp only[hI];rfl)⟩)
   ·simp only[sx] at hI;obtain⟨w,d',e1,e2,e3⟩:=hI;refine .inr (.inl ⟨fun x hx=>by simp only[h2] at hx;obtain rfl:=si hx;simp only[sx];rfl,d',u,some (.fz (.str k)),by show(f k).bind _=_;simp only[h2];exact sx,e3,fun kn kr=>(hb kn kr).trans ?_⟩);simp only[e1,aF,eK e2,cB k d' ha];rfl
 |andThen a b iha ihb =>
  refine fun ho=>⟨fun _ m n d t hn hd=>?_,fun h=>by exact bft h⟩
  have hn:2*(max a.hgt b.hgt+1)+4≤n:=hn;obtain⟨n⟩:=exn (c:=1) hn;have hA:=(iha ho.1.1).1 ho.1.2 (n:=n) (mx (fd (k:=1) (c:=1) hn)).1 hd;show ShR N m ((aG a t).bind (aG b)) _;simp only[R8];refine ShR.rb (ocs (aG a t) (fun e=>?_) fun mid e=>?_)
  ·simp only[e] at hA;have hA:rn n "shown" [.fz (enc a),.fz d]=.exc XT:=hA;simp only[e,hA];rfl
  ·simp only[e] at hA;obtain⟨w,d',e1,e2,e3⟩:=hA;simp only[e,e1];show ShR N m (aG b mid) (rn n "shown" [.fz (enc b),w.clear]);simp only[e2];exact(ihb ho.2.1).1 ho.2.2 (mx (fd (k:=1) (c:=1) hn)).2 e3
 |beside r ih =>
  refine fun ho=>⟨fun _ m n d t hn hd=>?_,fun h=>by exact bft h⟩
  have hn:2*(r.hgt+1)+4≤n:=hn;obtain⟨n⟩:=exn (c:=2) hn;show ShR N m (aG r t) _;simp only[R7];refine ShR.rb ?_;simp only[O4];show ShR N m (aG r t) (rb (ofP (items (enc r))) _);simp only[iB ho.1.2];obtain⟨i,rfl,rfl,_⟩ | ⟨m,l,f,rfl,rfl,rfl,B⟩:=hd.inv'
  ·cases r with
   |bcons x p v r =>
    have key:∀ kn kr,aQ (dA n) dB (aS (.bcons x p v r)) (e9 (ζ (enc (.beside (.bcons x p v r)))) (ζ (.int i)) (some (.own (.dict []))) none none none) kn kr=.exc XT:=fun kn kr=>by
     show rb (ofP (aR dB (.tuple [.str x,.str p,enc v]) _)) (fun σ=>dA n σ (fun σ=>aQ (dA n) dB (aS r) σ kn kr) kr)=_;have hn:2*(W.bcons x p v r).hgt+4≤n:=fd (k:=0) (c:=2) hn;obtain⟨n⟩:=exn (c:=1) hn;simp only[Al,aJ,aF,Am,nR];show rb (rn (n+1) "need_fit" [.fz (.bool false)]) _=_;simp only[fS];rfl
    exact key _ _
   |bnil=>have:=ho.2.1;simp[kU,kW] at this
   |_=>cases ho.1.2
  ·have hI:=(ih ho.1.1).2 ho.1.2 (n:=n) (fd (k:=0) (c:=2) hn) B (enc (.beside r)) [] (fun _=>none) (none,none,none) Bld.nil;refine ocs (aG r (.br f)) (fun e=>?_) fun s e=>?_
   ·simp only[e] at hI;simp only[e];exact hI _ _
   ·simp only[e] at hI;obtain⟨c,j,h1,h2⟩:=hI;obtain⟨f',rfl,_⟩:=uC ho.1.2 ho.1.1.wf e;simp only[e];exact⟨.own (.dict (mkd c)),_,(h2 _ _).trans (O5 ..),rfl,(h1.ext fun k=>by simp[bP]).toSem⟩
 |bnil =>
  refine fun ho=>⟨fun h=>(by exact btf h),fun _ m n l f hn B vw c g j hc=>?_⟩
  exact⟨c,j,hc.ext fun k=>by simp[bP],fun _ _=>rfl⟩
 |bcons x p v r ihv ihr =>
  refine fun ho=>⟨fun h=>(by exact btf h),fun _ m n l f hn B vw c g j hc=>?_⟩
  have hn:2*(max v.hgt r.hgt)+4≤n:=hn;show ShB N m n _ ((f p).bind fun x'=>(aG v x').bind fun y=>(aG r (.br f)).bind fun z=>some (.br (upd z.get x (some y)))) vw l c g j;have hb:∀ kn kr,aQ (dA n) dB (aS (.bcons x p v r)) (bj vw (.dict (mkd l)) c j) kn kr=rb (aE (rn n "need_fit") [.ok (.fz (.bool (lk l p).isSome))]) fun _=>rb (aE (rn n "shown") [.ok (.fz (enc v)),ofP (getItem (.dict (mkd l)) (.str p))]) fun v'=>rb (ofP (Mine.setItem (.dict (mkd c)) (.str x) (dOf v'))) fun o=>aQ (dA n) dB (aS r) (e9 (ζ vw) (ζ (.dict (mkd l))) (some (.own o)) (ζ (.str x)) (ζ (.str p)) (ζ (enc v))) kn kr:=fun kn kr=>by
   show rb (ofP (aR dB (.tuple [.str x,.str p,enc v]) _)) (fun σ=>dA n σ (fun σ=>aQ (dA n) dB (aS r) σ kn kr) kr)=_;obtain⟨n⟩:=exn (c:=1) hn;unfold bj;simp only[Al,aJ,aF,Am,oR];rfl
  obtain⟨n'⟩:=exn (c:=1) hn;refine ocs (f p) (fun e=>?_) fun t1 h1=>?_
  ·simp only[e];refine fun kn kr=>(hb kn kr).trans ?_;simp only[B.dom,e];show rb (rn (n'+1) "need_fit" [.fz (.bool false)]) _=_;simp only[fS];rfl
  obtain⟨d1,q1,q2⟩:=B.get h1;have hV:=(ihv ho.2.1.1).1 ho.2.1.2 (n:=n'+1) (mx hn).1 q2;have hb2:∀ kn kr,aQ (dA (n'+1)) dB (aS (.bcons x p v r)) (bj vw (.dict (mkd l)) c j) kn kr=rb (rn (n'+1) "shown" [.fz (enc v),.fz d1]) fun v'=>rb (ofP (Mine.setItem (.dict (mkd c)) (.str x) (dOf v'))) fun o=>aQ (dA (n'+1)) dB (aS r) (e9 (ζ vw) (ζ (.dict (mkd l))) (some (.own o)) (ζ (.str x)) (ζ (.str p)) (ζ (enc v))) kn kr:=fun kn kr=>by
   simp only[hb,q1,aZ q1];show rb (rn (n'+1) "need_fit" [.fz (.bool true)]) _=_;simp only[jC];rfl
  simp only[h1,Option.bind_some];refine ocs (aG v t1) (fun e=>?_) fun y h2=>?_
  ·simp only[e] at hV;have hV:rn (n'+1) "shown" [.fz (enc v),.fz d1]=.exc XT:=hV;simp only[e];exact fun kn kr=>(hb2 kn kr).trans (by simp only[hV];rfl)
  simp only[h2] at hV;obtain⟨w,d',e1,e2,e3⟩:=hV;have hR:=(ihr ho.2.2.1.1).2 ho.2.2.1.2 (n:=n'+1) (mx hn).2 B vw (st c x d') _ (some (.fz (.str x)),some (.fz (.str p)),some (.fz (enc v))) (hc.set ho.1.1 e3);have hb3:∀ kn kr,aQ (dA (n'+1)) dB (aS (.bcons x p v r)) (bj vw (.dict (mkd l)) c j) kn kr=aQ (dA (n'+1)) dB (aS r) (bj vw (.dict (mkd l)) (st c x d') (some (.fz (.str x)),some (.fz (.str p)),some (.fz (enc v)))) kn kr:=fun kn kr=>by
   simp only[hb2,e1,aF,eK e2,cB x d' (hc.lt H (by decide))];rfl
  simp only[h2,Option.bind_some];refine ocs (aG r (.br f)) (fun e=>?_) fun z1 h3=>?_
  ·simp only[e] at hR;simp only[e];exact fun kn kr=>(hb3 kn kr).trans (hR kn kr)
  simp only[h3] at hR;obtain⟨c',j',i1,i2⟩:=hR;obtain⟨f1,rfl,hf1⟩:=uC ho.2.2.1.2 ho.2.2.1.1.wf h3;simp only[h3];refine⟨c',j',i1.ext fun k=>?_,fun kn kr=>(hb3 kn kr).trans (i2 kn kr)⟩;simp only[bP,upd]
  by_cases e:k=x
  ·subst e;have:f1 k=none:=by
    refine ocs (f1 k) (fun ef=>ef) fun u ef=>?_;exact absurd ((hf1 k).mp (by simp only[ef];rfl)) ho.2.2.2.1
   simp[this]
  ·simp[e]
section
theorem oX(n:Nat)(d:PyData)(h:rn n "is_view" [.fz d]=.ok (.fz (.bool true))):rn (n+1) "need_view" [.fz d]=.ok (.fz .none):=by
 rw[Af,h];rfl
theorem lK(n:Nat)(d:PyData)(h:rn n "is_tree" [.fz d]=.ok (.fz (.bool true))):rn (n+1) "need_tree" [.fz d]=.ok (.fz .none):=by
 rw[Aq,h];rfl
end
theorem Bx(H:Wld N){w:WW}(ho:okW N w)(hr:w.isRows=false){m n:Nat}{d:PyData}{t:TT}(hn:3*w.hgt+m+6≤n)(hd:Sem N m d t):ShR N m (aG w t) (rn n "show" [.fz (enc w),.fz d]):=by
 obtain⟨n⟩:=exn (c:=3) hn;have h:=(uD H ho).1 hr (n:=n+2) (by exact E0 hn) hd;simp only[sJ,oX _ _ ((oQ H ho).1 hr (n+1) (by exact E1 hn)),lK _ _ (jB H hd (by exact E2 hn)),aF,aF];refine ocs (aG w t) (fun e=>?_) fun s e=>?_
 ·simp only[e] at h;have h:rn (n+2) "shown" [.fz (enc w),.fz d]=.exc XT:=h;simp only[e,h];rfl
 ·simp only[e] at h;obtain⟨v,d1,e1,e2,e3⟩:=h;simp only[e,Be e1 e2];exact(t7 H e3 (by exact E3 hn)).rb
end Mine
namespace Mine
open PySem
variable {N:List Str} {m:Nat}
noncomputable def W.grow:WW→Nat
 | .pick _=>1
 | .join _ _ _=>1
 | .each v=>v.grow
 | .andThen a b=>a.grow+b.grow
 | .beside r=>r.grow
 | .bcons _ _ v r=>max v.grow r.grow
 |_=>0
theorem fF{α:Type}{o:Option α}(h:o.isSome=true):∃ x,o=some x:=by
 cases o with
 |none=>exact bft h
 |some x=>exact⟨x,rfl⟩
theorem Sh{a b:Str}(h:a.cps.toList=b.cps.toList):a=b:=by
 cases a;cases b;simp only[Str.mk.injEq];exact Array.toList_inj.mp h
theorem oY(a:Str):¬ ltS a a:=List.lt_irrefl _
theorem By{a b c:Str}(h1:ltS a b)(h2:ltS b c):ltS a c:=List.lt_trans h1 h2
theorem Si{a b:Str}(h:¬ ltS b a)(hn:a≠b):ltS a b:=by
 rcases Std.le_iff_lt_or_eq.mp (List.not_lt.mp h) with h | h
 ·exact h
 ·exact absurd (Sh h) hn
theorem uE{x a:Str}:∀ {l:List Str},x∈dI a l↔x=a∨x∈l
 | []=>by simp[dI]
 |b::r=>by
  show x∈(if b.cps.toList < a.cps.toList then b::dI a r else a::b::r)↔_
  split
  ·rw[List.mem_cons,uE (l:=r),List.mem_cons];constructor
   ·rintro(h | h | h)<;>simp[h]
   ·rintro(h | h | h)<;>simp[h]
  ·simp
theorem cV{x:Str}:∀ {l:List Str},x∈a8 l↔x∈l
 | []=>by simp[a8]
 |a::r=>by
  show x∈dI a (a8 r)↔_;rw[uE,cV (l:=r),List.mem_cons]
theorem Sj{a:Str}:∀ {l:List Str},a∉l→l.Pairwise ltS→(dI a l).Pairwise ltS:=by
 intro v0
 induction v0 with
 |nil =>
  intro _ _;simp[dI]
 |cons b r ih =>
  intro hn h;obtain⟨h1,h2⟩:=List.pairwise_cons.mp h;show(if b.cps.toList < a.cps.toList then b::dI a r else a::b::r).Pairwise ltS
  split
  ·rename_i hl;refine List.pairwise_cons.mpr ⟨fun x hx=>?_,ih (fun hm=>hn (List.mem_cons_of_mem _ hm)) h2⟩;rcases uE.mp hx with rfl | hx
   ·exact hl
   ·exact h1 x hx
  ·rename_i hl;have hab:ltS a b:=Si hl fun e=>hn (by simp[e]);refine List.pairwise_cons.mpr ⟨fun x hx=>?_,h⟩;rcases List.mem_cons.mp hx with rfl | hx
   ·exact hab
   ·exact By hab (h1 x hx)
theorem uF:∀ {l:List Str},l.Nodup→(a8 l).Pairwise ltS:=by
 intro v0
 induction v0 with
 |nil =>
  intro _;exact .nil
 |cons a r ih =>
  intro h;obtain⟨h1,h2⟩:=List.nodup_cons.mp h;exact Sj (fun hm=>h1 (cV.mp hm)) (ih h2)
theorem Bz:∀ {a b:List Str},a.Pairwise ltS→b.Pairwise ltS→(∀ x,x∈a↔x∈b)→a=b
 | [],[],_,_,_=>rfl
 | [],y::s,_,_,h=>absurd ((h y).mpr (by simp)) (by simp)
 |x::r,[],_,_,h=>absurd ((h x).mp (by simp)) (by simp)
 |x::r,y::s,ha,hb,h=>by
  obtain⟨a1,a2⟩:=List.pairwise_cons.mp ha;obtain⟨b1,b2⟩:=List.pairwise_cons.mp hb;have e:x=y:=by
   rcases List.mem_cons.mp ((h x).mp (by simp)) with e | hx
   ·exact e
   ·rcases List.mem_cons.mp ((h y).mpr (by simp)) with e | hy
    ·exact e.symm
    ·exact absurd (By (a1 y hy) (b1 x hx)) (oY x)
  subst e;rw[Bz a2 b2 fun z=>?_];have:=h z;rw[List.mem_cons,List.mem_cons] at this;constructor
  ·intro hz;rcases this.mp (.inr hz) with rfl | h'
   ·exact absurd (a1 z hz) (oY z)
   ·exact h'
  ·intro hz;rcases this.mpr (.inr hz) with rfl | h'
   ·exact absurd (b1 z hz) (oY z)
   ·exact h'
theorem B5{l:List Str}(h:l.Nodup):(a8 l).Nodup:=(uF h).imp fun {a b} (h:ltS a b) (e:a=b)=>oY b (e▸h)
theorem Sk{l:List Str}(h:l.Nodup):(a8 l).length=l.length:=Nat.le_antisymm (tC (B5 h) fun x hx=>cV.mp hx) (tC h fun x hx=>cV.mpr hx)
theorem lL{l:List Str}(h:l.length < 64):eS (l.map .str)=.ok (.own (.list ((a8 l).map .str))):=by
 show((ofO (strs? (l.map .str))).bind fun l=>if l.length < 64 then own (.list ((a8 l).map .str)) else .no)=_;rw[fR,fE,fD,if_pos h];rfl
theorem uG(a b:List Str):eqO (.list (a.map .str)) (.list (b.map .str))=.ok (a==b):=by
 show(if (a.map PyData.str).length=(b.map PyData.str).length then eQ (a.map .str) (b.map .str) else P.ok false)=_;rw[List.length_map,List.length_map]
 by_cases h:a.length=b.length
 ·rw[if_pos h];unfold eQ;rw[fR,fR]
 ·rw[if_neg h];congr;exact(beq_false_of_ne fun e=>h (by rw[e])).symm
theorem uH{a b:List Str}(ha:a.Nodup)(hb:b.Nodup):(a8 a==a8 b)=dec (∀ x,x∈a↔x∈b):=by
 refine eL (beq_iff_eq.trans ⟨fun e x=>?_,fun h=>Bz (uF ha) (uF hb) fun x=>?_⟩)
 ·rw[← cV,e,cV]
 ·rw[cV,cV];exact h x
end Mine
namespace Mine
open PySem
variable {N:List Str} {m:Nat}
theorem uI{l:LP}(h:l.length < 64):cP (.dict (mkd l))=.ok (.own (.list ((a8 (ks l)).map .str))):=by
 show eS ((mkd l).map (·.1))=_;rw[tB,lL (by rw[eA];exact h)]
theorem B6(b:R V):aM (.ok (.fz (.bool false))) b=.ok (.fz (.bool false)):=rfl
theorem lM(b:R V):aM (.ok (.fz (.bool true))) b=b:=rfl
theorem iC(f:List V→R V)(a b c d:PyData):aE f [.ok (.fz a),.ok (.fz b),.ok (.fz c),.ok (.fz d)]=f [.fz a,.fz b,.fz c,.fz d]:=rfl
noncomputable def BP:X:=⟨so "BadPut", []⟩
theorem eM(H:Wld N)(n:Nat)(b:Bool)(w k:PyData){p:PyData}{t:TT}(h:Sem N m p t)(hn:m≤n):rn (n+2) "need_put" [.fz (.bool b),.fz w,.fz k,.fz p]=if b=true then .ok (.fz .none) else .exc BP:=by
 rw[Pi];cases b with
 |true=>rfl
 |false =>
  obtain⟨v,d,e1,_,_⟩:=t7 H h hn;show Ab 3 _ [_,_,rn (n+1) "copied" [.fz p]]=_;rw[e1];rfl
noncomputable def bQ(N:List Str)(m:Nat)(o:Option TT)(r:R V):Prop:=match o with
 |some t=>Gives r fun d=>Sem N m d t
 |none=>r=.exc BP
theorem bQ.rb{o:Option TT}{r:R V}(h:bQ N m o r):bQ N m o (rb r R.ok):=by
 cases o with
 |none=>have h:r=.exc BP:=h;rw[h];rfl
 |some t=>exact Gives.rb (P:=fun d=>Sem N m d t) h
theorem Sl(H:Wld N)(n:Nat){x y:Str}(hx:x∈N){d way:PyData}{t:TT}(h:Sem N m d t)(hn:m≤n)(to:TT):bQ N m (aW (.call x y) to t) (rn (n+3) "put_call" [.fz (enc (.call x y)),.fz d,.fz way]):=by
 rw[Pj];obtain⟨i,hi⟩ | ⟨m,l,f,B⟩:=h.inv
 ·show bQ N m (grd _ _) (rb (rn (n+2) "need_put" [.fz (.bool false),.fz way,.fz (.str (so "form")),.fz (.int i)]) _);rw[cA (fun h=>by cases h.1),eM H n _ _ _ h hn];rfl
 ·show bQ N (m+1) (grd _ _) (rb (aE (rn (n+2) "need_put") [aM (aP (ofP (Mine.contains (.str y) (.dict (mkd l))))) (aP (ofP (bK (Mine.contains (.str x) (.dict (mkd l)))))),.ok (.fz way),.ok (.fz (.str (so "form"))),.ok (.fz (.dict (mkd l)))]) _);rw[cZ,cZ];have hc:aM (aP (ofP (.ok (lk l y).isSome))) (aP (ofP (bK (.ok (lk l x).isSome))))=.ok (.fz (.bool ((lk l y).isSome&&!(lk l x).isSome))):=by cases (lk l y).isSome<;>rfl
  rw[hc];show bQ N (m+1) (grd _ _) (rb (rn (n+2) "need_put" [.fz (.bool _),.fz way,.fz (.str (so "form")),.fz (.dict (mkd l))]) _);rw[eM H n _ _ _ h hn,B.dom,B.dom];simp only[bP]
  by_cases hc:(f y).isSome=true∧f x=none
  ·rw[b9 hc,hc.1,hc.2];obtain⟨a,j,h1,h2⟩:=Bv H (S:=fun (a:LP) (j:Option V)=>gD (ζ (enc (.call x y))) (ζ (.dict (mkd l))) (ζ way) (some (.own (.dict (mkd a)))) j) (b:=sK (n+2)) (t:=sL) B (x:=y) hx hc.2 (j:=none) fun k d a j hk ha=>⟨some (.fz (.str k)),fun kn kr=>by
    rw[Pk,aJ,aF,Pl];show(if (k==y)=true then bD (ofP (getItem (.dict (mkd l)) (.str k))) (.ok (.dict (mkd a))) (.ok (.fz (.str x))) _ else bD (ofP (getItem (.dict (mkd l)) (.str k))) (.ok (.dict (mkd a))) (.ok (.fz (.str k))) _)=_;rw[aZ hk]
    by_cases e:k=y
    ·rw[if_pos (by simpa using e),if_pos e];show rb (ofP (Mine.setItem (.dict (mkd a)) (.str x) d)) _=_;rw[cB x d ha];rfl
    ·rw[if_neg (by simpa using e),if_neg e];show rb (ofP (Mine.setItem (.dict (mkd a)) (.str k) d)) _=_;rw[cB k d ha];rfl⟩
   refine⟨.own (.dict (mkd a)),_,?_,rfl,h1.toSem⟩;rw[bN];exact(h2 _ _).trans (Pm ..)
  ·rw[cA hc];have:((f y).isSome&&!(f x).isSome)=false:=by
    cases e1:f y with
    |none=>rfl
    |some u =>
     refine ocs (f x) (fun e2=>?_) fun v e2=>?_
     ·try rewrite[e2]
      exact absurd ⟨by rw[e1];rfl,e2⟩ hc
     ·try rewrite[e2]
      rfl
   rw[this];rfl
theorem Sm(H:Wld N)(n:Nat){x:Str}{i:Int}{ln:LP}{d way:PyData}{f:Str→Option TT}{t:TT}(B:Bld N m ln f)(hf:cJ f)(h:Sem N (m+1) d t)(hn:m+1≤n):bQ N (m+1) (aW (.sift x i) (.br f) t) (rn (n+3) "put_sift" [.fz (enc (.sift x i)),.fz (.dict (mkd ln)),.fz d,.fz way]):=by
 rw[Pr,lH (n+1) h];obtain⟨j,rfl,rfl,hi⟩ | ⟨_,l,g,e,rfl,rfl,C⟩:=h.inv'
 ·rw[show abB (T.num j)=false from rfl,B6,aF,bZ,dE,iC,eM H n _ _ _ h hn];rfl
 cases e;have hg:aM (.ok (.fz (.bool (abB (.br g))))) (aK cE (aN (ofP (items (.dict (mkd l)))) (fun d1=>(.ok true)) (fun d1=>(aE (rn (n+2) "is_sifted") [(ofP (getItem (.dict (mkd l)) d1)),(ofP (getItem (enc (.sift x i)) (.int 1))),(ofP (getItem (enc (.sift x i)) (.int 2)))]))))=.ok (.fz (.bool (dec (cJ g∧∀ k u,g k=some u→cT x i u)))):=by
  refine bcs (abB (.br g)) (fun ha=>?_) fun ha=>?_
  ·try rewrite[ha]
   have ha:¬ cJ g:=cU.mp ha;rw[show dec (cJ g∧∀ k u,g k=some u→cT x i u)=false from cU.mpr fun h=>ha h.1];rfl
  ·try rewrite[ha]
   have ha:cJ g:=cD.mp ha;have:=i8 (xs:=ks l) (g:=fun k=>match g k with | some u=>sb x i u | none=>true) (e:=fun d1=>(aE (rn (n+2) "is_sifted") [(ofP (getItem (.dict (mkd l)) d1)),(ofP (getItem (enc (.sift x i)) (.int 1))),(ofP (getItem (enc (.sift x i)) (.int 2)))])) fun k hk=>by
    obtain⟨d,u,h1,h2,h3⟩:=C.key hk;obtain⟨r,rfl⟩:=ha k u h2;obtain⟨_,lr,_,rfl,Br⟩:=h3.br_inv';rw[aZ h1,h2];exact t9 n Br x i
   rw[bN,aJ,this];show R.ok (V.fz (.bool _))=_;refine congrArg (fun b=>R.ok (V.fz (.bool b))) (eL ?_);rw[List.all_eq_true];constructor
   ·intro h;refine⟨ha,fun k u hk=>?_⟩;have:=h k (C.mem.mpr (by rw[hk];rfl));rw[hk] at this;exact oS.mp this
   ·intro h k hk;obtain⟨d,u,h1,h2,h3⟩:=C.key hk;rw[h2];exact oS.mpr (h.2 k u h2)
 rw[hg];show bQ N (m+1) (grd _ _) (rb (rn (n+2) "need_put" [.fz (.bool _),.fz way,.fz (.str (so "form")),.fz (.dict (mkd l))]) _);rw[eM H n _ _ _ h hn]
 by_cases hc1:cJ g∧∀ k u,g k=some u→cT x i u
 case neg=>rw[cA fun h=>hc1 h.1,cU.mpr hc1];rfl
 rw[cD.mpr hc1];have hh:aN (ofP (items (.dict (mkd ln)))) (fun d3=>(tst (unS .Not (aE (rn (n+2) "is_sifted") [(ofP (getItem (.dict (mkd ln)) d3)),(ofP (getItem (enc (.sift x i)) (.int 1))),(ofP (getItem (enc (.sift x i)) (.int 2)))])))) (fun d3=>(.ok (.fz d3)))=.ok (.own (.list (((ks ln).filter fun k=>match f k with | some u=>!sb x i u | none=>false).map .str))):=by
  rw[bN];show rb (aT _ _ ((ks ln).map .str)) (fun r=>ofP (own (.list r)))=_;rw[tY (g:=fun k=>match f k with | some u=>!sb x i u | none=>false) fun k hk=>by
   obtain⟨d,u,h1,h2,h3⟩:=B.key hk;obtain⟨r,rfl⟩:=hf k u h2;obtain⟨_,lr,_,rfl,Br⟩:=h3.br_inv';rw[aZ h1,h2];show tst (unS .Not (rn (n+2) "is_sifted" [.fz (.dict (mkd lr)),.fz (.str x),.fz (.int i)]))=_;rw[t9 n Br x i];rfl]
  rfl
 rw[hh];generalize hH:((ks ln).filter fun k=>match f k with | some u=>!sb x i u | none=>false)=hs;have hmem:∀ k,k∈hs↔∃ u,f k=some u∧¬ cT x i u:=fun k=>by
  rw[← hH,List.mem_filter];constructor
  ·rintro⟨h1,h2⟩
   obtain⟨d,u,_,h4,_⟩:=B.key h1;rw[h4] at h2;exact⟨u,h4,gG.mp (by simpa using h2)⟩
  ·rintro⟨u,h1,h2⟩
   refine⟨B.mem.mpr (by rw[h1];rfl),?_⟩;rw[h1];simpa using gG.mpr h2
 show bQ N (m+1) (grd _ _) (rb (aE (rn (n+2) "need_put") [aC (aN (ofP (items (.dict (mkd l)))) (fun d6=>tst (aP (ofP (Mine.contains d6 (.list (hs.map .str)))))) (fun d6=>.ok (.fz d6))) .Eq (.ok (.own (.list []))),.ok (.fz way),.ok (.fz (.str (so "hidden"))),.ok (.fz (.dict (mkd l)))]) fun _=>rb (ofP (items (.list (hs.map .str)))) _);rw[bN,aJ,uA (g:=fun k=>hs.contains k) fun k hk=>by
  show tst (aP (ofP ((ofO (strs? (hs.map .str))).bind fun ss=>P.ok (ss.contains k))))=_;rw[fR];rfl]
 show bQ N (m+1) (grd _ _) (rb (rn (n+2) "need_put" [.fz (.bool _),.fz way,.fz (.str (so "hidden")),.fz (.dict (mkd l))]) _);rw[eM H n _ _ _ h hn]
 by_cases hc2:∀ k u,(g k).isSome=true→f k=some u→cT x i u
 case neg =>
  rw[cA fun h=>hc2 h.2,show((ks l).filter fun k=>hs.contains k).isEmpty=false from by
   rw[Bool.eq_false_iff];intro he;refine hc2 fun k u h1 h2=>Classical.byContradiction fun h3=>?_;have:=lI.mp he k (C.mem.mpr h1);rw[show hs.contains k=true from by simpa using (hmem k).mpr ⟨u,h2,h3⟩] at this;exact btf this]
  rfl
 rw[b9 ⟨hc1,hc2⟩,show((ks l).filter fun k=>hs.contains k).isEmpty=true from lI.mpr fun k hk=>by
  refine bcs (hs.contains k) (fun e=>?_) fun e=>?_
  ·try rewrite[e]
   rfl
  ·try rewrite[e]
   obtain⟨u,h1,h2⟩:=(hmem k).mp (by simpa using e);exact absurd (hc2 k u (C.mem.mp hk) h1) h2]
 have:=lG H (m:=m) (S:=fun (a:LP) (j:Option V)=>hJ (ζ (enc (.sift x i))) (ζ (.dict (mkd ln))) (ζ (.dict (mkd l))) (ζ way) j (ζ (.bool true)) (ζ (.list (hs.map .str))) (some (.own (.dict (mkd a))))) (b:=sM (n+2)) (t:=sN) (xs:=hs) (j:=none) f (E:=fun _=>False) fun k hk a j ha=>by
  obtain⟨u,h1,h2⟩:=(hmem k).mp hk;obtain⟨d,h3,h4⟩:=B.get h1;refine⟨B.sub k (k6 h3),.inr (.inl ⟨d,u,some (.fz (.str k)),h1,h4,fun kn kr=>?_⟩)⟩;rw[Ps,aJ,aF,Pt,aZ h3];show rb (ofP (Mine.setItem (.dict (mkd a)) (.str k) d)) _=_;rw[cB k d ha];rfl
 obtain⟨a,j,hi,e⟩ | ⟨_,hx,_⟩:=this
 ·refine⟨.own (.dict (mkd (sts l a))),_,?_,rfl,((hi.upd C).ext fun k=>?_).toSem⟩
  ·refine(e _ _).trans ((Pu ..).trans ?_);show rb (ofP (f0 (so "update") (.dict (mkd a)) [.dict (mkd l)])) _=_;rw[Bn (by have:=hi.len;have:=C.len;have:=H.len;lia)];rfl
  ·congr 1;refine ocs (f k) (fun ef=>?_) fun u ef=>?_
   ·try rewrite[ef]
    simp[bP,ef]
   ·try rewrite[ef]
    by_cases hs':cT x i u
    ·have:k∉hs:=fun hk=>by
      obtain⟨u',h1,h2⟩:=(hmem k).mp hk;rw[ef] at h1;obtain rfl:=si h1;exact h2 hs'
     simp[bP,ef,this,grd,hs']
    ·have:k∈hs:=(hmem k).mpr ⟨u,ef,hs'⟩;simp[bP,ef,this,grd,hs']
 ·exact hx.elim
end Mine
namespace Mine
open PySem
variable {N:List Str} {m:Nat}
theorem So{l:LP}{k:Str}{d:PyData}(h:lk l k=some d):aO [.ok (.fz (.str k)),aI (.ok (.dict (mkd l))) (.ok (.fz (.str k)))]=.ok (.fz (.tuple [.str k,d])):=by
 show rb (rb (R.ok (V.fz (.str k))) fun v=>rb (rb (ofP (getItem (.dict (mkd l)) (.str k))) fun v=>.ok [v.clear]) fun vs=>.ok (v.clear::vs)) _=_;rw[aZ h];rfl
theorem oZ(H:Wld N){l:LP}{r:Str→Option TT}(B:Bld N m l r){F:Str→Option TT}{t:PyData→R Bool}{c:Str→Bool}(ht:∀ k,t (.str k)=.ok (c k))(hF:∀ k,F k=if c k=true then r k else none) :
  ∃ l':LP,aK bE (aN (.ok ((ks l).map .str)) t (fun d=>aO [.ok (.fz d),aI (.ok (.dict (mkd l))) (.ok (.fz d))]))=.ok (.own (.dict (mkd l')))∧Bld N m l' F:=by
 obtain⟨l',e,C⟩:=tZ (N:=N) (m:=m) (F:=F) (t:=t) (e:=fun d=>aO [.ok (.fz d),aI (.ok (.dict (mkd l))) (.ok (.fz d))]) (xs:=ks l) (by rw[eA];exact B.lt H (by decide)) fun k hk=>by
  obtain⟨d,u,h1,h2,h3⟩:=B.key hk;refine⟨B.sub k hk,?_⟩;rw[ht,hF];refine bcs (c k) (fun hc=>?_) fun hc=>?_
  ·try rewrite[hc]
   exact .inl ⟨rfl,by simp only[cY]⟩
  ·try rewrite[hc]
   exact .inr ⟨rfl,_,d,u,So h1,rfl,by rw[bY];exact h2,h3⟩
 exact⟨l',e,B.all (fun k hk=>by rw[hF,hk];split<;>rfl) C⟩
theorem Sp(H:Wld N)(n:Nat){a b:Str}{fs:List Str}(ha:a∈N)(hb:b∈N){lo l1 l2:LP}{d way:PyData}{f g h:Str→Option TT}{t:TT}(Bo:Bld N (m+1) lo f)(e1:lk lo a=some (.dict (mkd l1)))(e2:lk lo b=some (.dict (mkd l2)))(fa:f a=some (.br g))(fb:f b=some (.br h))(B1:Bld N m l1 g)(B2:Bld N m l2 h)(hd:Sem N (m+2) d t)(hn:m+2≤n) :
  bQ N (m+3) (aW (.join a b fs) (.br f) t) (rn (n+3) "put_join" [.fz (enc (.join a b fs)),.fz (.dict (mkd lo)),.fz d,.fz way]):=by
 simp only[Pv,lH (n+1) hd,iC,eM H n _ _ _ hd hn];obtain⟨j,rfl,rfl,hi⟩ | ⟨_,l,q,e,rfl,rfl,C⟩:=hd.inv'
 ·exact rfl
 cases e;have hp:aW (.join a b fs) (.br f) (.br q)=grd (cJ q∧∀ k,(q k).isSome=true→((g k).isSome=(h k).isSome)) (some (.br (upd (upd f a (some (.br (cK (fun f=>f∈fs) g h q)))) b (some (.br (cK (fun f=>f∉fs) h g q)))))):=by
  show((f a).bind fun one=>(f b).bind fun other=>_)=_;simp only[fa,fb];rfl
 simp only[hp]
 by_cases hc1:cJ q
 case neg=>rw[cA fun h=>hc1 h.1,show abB (.br q)=false from cU.mpr hc1];rfl
 simp only[show abB (.br q)=true from cD.mpr hc1,bY,aF];show bQ N (m+3) (grd _ _) (rb (ofP (getItem (.dict (mkd lo)) (.str a))) fun v1=>rb (ofP (getItem (.dict (mkd lo)) (.str b))) fun v2=>_);simp only[aZ e1,aZ e2,aJ,aJ,aF,aF];have hcmp:aC (aN (ofP (items (.dict (mkd l)))) (fun d4=>(tst (aC (aC (.ok (.fz d4)) .In (ofP (rdv (V.clear (.fz (.dict (mkd l1))))))) .NotEq (aC (.ok (.fz d4)) .In (ofP (rdv (V.clear (.fz (.dict (mkd l2)))))))))) (fun d4=>(.ok (.fz d4)))) .Eq (.ok (.own (.list [])))=.ok (.fz (.bool (dec (∀ k,(q k).isSome=true→((g k).isSome=(h k).isSome))))):=by
  rw[bN,aJ,uA (g:=fun k=>!((lk l1 k).isSome==(lk l2 k).isSome)) fun k hk=>by
   show tst (rb (aP (ofP (Mine.contains (.str k) (.dict (mkd l1))))) fun a=>aP (rb (aP (ofP (Mine.contains (.str k) (.dict (mkd l2))))) fun v=>ofP (cmp .NotEq (dOf a) (dOf v))))=_;simp only[cZ,cZ];rfl]
  refine congrArg (fun b=>R.ok (V.fz (.bool b))) (eL ?_);simp only[lI];constructor
  ·intro h k hk;have:=h k (C.mem.mpr hk);simp only[B1.dom,B2.dom] at this;simpa using this
  ·intro h k hk;simp only[B1.dom,B2.dom,h k (C.mem.mp hk)];simp
 simp only[hcmp,iC,eM H n _ _ _ hd hn]
 by_cases hc2:∀ k,(q k).isSome=true→((g k).isSome=(h k).isSome)
 case neg=>rw[cA fun h=>hc2 h.2,cU.mpr hc2];rfl
 rw[b9 ⟨hc1,hc2⟩,cD.mpr hc2,bY,aF];obtain⟨ll,el,Bl⟩:=oZ H B1 (F:=fun k=>if (h k).isSome then none else g k) (t:=fun d5=>tst (aP (ofP (bK (Mine.contains d5 (.dict (mkd l2))))))) (c:=fun k=>!(lk l2 k).isSome) (fun k=>by simp only[cZ];rfl) fun k=>by
  simp only[B2.dom];cases (h k).isSome<;>rfl
 obtain⟨lr,er,Br⟩:=oZ H B2 (F:=fun k=>if (g k).isSome then none else h k) (t:=fun d5=>tst (aP (ofP (bK (Mine.contains d5 (.dict (mkd l1))))))) (c:=fun k=>!(lk l1 k).isSome) (fun k=>by simp only[cZ];rfl) fun k=>by
  simp only[B1.dom];cases (g k).isSome<;>rfl
 show bQ N (m+3) _ (rb (aK bE (aN (ofP (items (.dict (mkd l1)))) (fun d5=>tst (aP (ofP (bK (Mine.contains d5 (.dict (mkd l2))))))) (fun d=>aO [.ok (.fz d),aI (.ok (.dict (mkd l1))) (.ok (.fz d))]))) fun v6=>rb (aK bE (aN (ofP (items (.dict (mkd l2)))) (fun d5=>tst (aP (ofP (bK (Mine.contains d5 (.dict (mkd l1))))))) (fun d=>aO [.ok (.fz d),aI (.ok (.dict (mkd l2))) (.ok (.fz d))]))) fun v8=>_);simp only[bN,bN,aJ,aJ,el,er,aF,aF,bN,aJ,aF];have L:=oO (S:=fun (c:LP×LP) (j:Option V×Option V)=>hU (ζ (enc (.join a b fs))) (ζ (.dict (mkd lo))) (ζ (.dict (mkd l))) (ζ way) (ζ (.dict (mkd l1))) (ζ (.dict (mkd l2))) j.1 (some (.own (.dict (mkd c.1)))) (some (.own (.dict (mkd c.2)))) j.2 none) (b:=sO (n+2)) (t:=sP) (l:=ks l) (p:=[]) (a:=(ll,lr)) (j:=(none,none))
  (I:=fun p c=>Bld N (m+1) c.1 (fun k=>if k∈p then cK (fun f=>f∈fs) g h q k else if (h k).isSome then none else g k)∧Bld N (m+1) c.2 (fun k=>if k∈p then cK (fun f=>f∉fs) h g q k else if (g k).isSome then none else h k)) (E:=fun _=>False) (Q:=fun _=>False) (fun p k r c j hq hi=>by
   have hk:=lF hq;obtain⟨dk,u,h1,h2,h3⟩:=C.key hk;obtain⟨rw',rfl⟩:=hc1 k u h2;obtain⟨_,lw,e,rfl,Bw⟩:=h3.br_inv';cases e;have hlT:cK (fun f=>f∈fs) g h q k=some (.br fun fl=>grd (fl∈fs) (rw' fl)):=by simp only[cK,h2,bP]
   have hlF:cK (fun f=>f∉fs) h g q k=some (.br fun fl=>grd (fl∉fs) (rw' fl)):=by simp only[cK,h2,bP]
   obtain⟨x1,ex1,Bx1⟩:=oZ H Bw (F:=fun fl=>grd (fl∈fs) (rw' fl)) (t:=fun d5=>tst (aP (ofP (Mine.contains d5 (.tuple (fs.map .str)))))) (c:=fun k=>fs.contains k) (fun k=>by simp only[oU];rfl) fun k=>by
    by_cases e:k∈fs<;>simp[e,grd]
   obtain⟨x2,ex2,Bx2⟩:=oZ H Bw (F:=fun fl=>grd (fl∉fs) (rw' fl)) (t:=fun d5=>tst (aP (ofP (bK (Mine.contains d5 (.tuple (fs.map .str))))))) (c:=fun k=>!fs.contains k) (fun k=>by simp only[oU];rfl) fun k=>by
    by_cases e:k∈fs<;>simp[e,grd]
   refine Out.kn (st c.1 k (.dict (mkd x1)),st c.2 k (.dict (mkd x2))) (some (.fz (.str k)),some (.fz (.dict (mkd lw)))) ⟨(hi.1.set (C.sub k hk) Bx1.toSem).ext fun z=>?_,(hi.2.set (C.sub k hk) Bx2.toSem).ext fun z=>?_⟩ fun kn kr=>?_
   ·by_cases e:z=k
    ·subst e;simp only[upd,List.mem_append,List.mem_singleton,or_true,if_true,hlT]
    ·simp[upd,e]
   ·by_cases e:z=k
    ·subst e;simp only[upd,List.mem_append,List.mem_singleton,or_true,if_true,hlF]
    ·simp[upd,e]
   ·simp only[Pw,aJ,aF,Px,aZ h1,aJ,aF];show rb (aK bE (aN (ofP (items (.dict (mkd lw)))) (fun d5=>tst (aP (ofP (Mine.contains d5 (.tuple (fs.map .str)))))) (fun d=>aO [.ok (.fz d),aI (.ok (.dict (mkd lw))) (.ok (.fz d))]))) (fun v=>rb (ofP (Mine.setItem (.dict (mkd c.1)) (.str k) (dOf v))) fun o3=>rb (aK bE (aN (ofP (items (.dict (mkd lw)))) (fun d5=>tst (aP (ofP (bK (Mine.contains d5 (.tuple (fs.map .str))))))) (fun d=>aO [.ok (.fz d),aI (.ok (.dict (mkd lw))) (.ok (.fz d))]))) (fun v=>rb (ofP (Mine.setItem (.dict (mkd c.2)) (.str k) (dOf v))) fun o5=>_))=_;simp only[bN,aJ,ex1,ex2,aF,k9,cB k _ (hi.1.lt H (by decide)),aJ,aF,aF,k9,cB k _ (hi.2.lt H (by decide))];rfl) ⟨(Bl.mono (Nat.le_succ _)).ext fun k=>by simp,(Br.mono (Nat.le_succ _)).ext fun k=>by simp⟩
 obtain⟨c,j,hi,e⟩ | ⟨_,hx,_⟩ | ⟨_,hv,_⟩:=L
 ·have hqn:∀ k,k∉ks l→q k=none:=fun k hk=>by
   refine ocs (q k) (fun e=>?_) fun t e=>?_
   ·try rewrite[e]
    rfl
   ·try rewrite[e]
    exact absurd (C.mem.mpr (by rw[e];rfl)) hk
  have I1:=hi.1.ext (g:=cK (fun f=>f∈fs) g h q) fun k=>by
   by_cases hk:k∈ks l
   ·simp[hk]
   ·simp[hk,cK,hqn k hk]
  have I2:=hi.2.ext (g:=cK (fun f=>f∉fs) h g q) fun k=>by
   by_cases hk:k∈ks l
   ·simp[hk]
   ·simp[hk,cK,hqn k hk]
  refine⟨.own (.dict (mkd (st (st lo a (.dict (mkd c.1))) b (.dict (mkd c.2))))),_,?_,rfl,(((Bo.mono (Nat.le_succ _)).set ha I1.toSem).set hb I2.toSem).toSem⟩;refine(e _ _).trans ((Py ..).trans ?_);simp only[lB,aJ,aF];show rb (ofP (Mine.setItem (.dict (mkd lo)) (.str a) (.dict (mkd c.1)))) (fun o2=>rb (ofP (Mine.setItem o2 (.str b) (.dict (mkd c.2)))) fun o3=>_)=_;have B2':=(Bo.mono (Nat.le_succ _)).set ha I1.toSem;rw[cB a _ (Bo.lt H (by decide)),aJ,aF,cB b _ (B2'.lt H (by decide))];rfl
 ·exact hx.elim
 ·exact hv.elim
end Mine
namespace Mine
open PySem
variable {N:List Str} {m:Nat}
section
theorem Sq(n:Nat)(o d w:PyData):rn (n+1) "put_back" [.fz (enc .whole),.fz o,.fz d,.fz w]=.ok (.fz d):=by kernel_rfl
theorem Sr(n:Nat)(x:Str)(o d w:PyData):rn (n+1) "put_back" [.fz (enc (.pick x)),.fz o,.fz d,.fz w]=rb (ofP (bE o)) fun v=>rb (ofP (c9 v)) fun o=>rb (ofP (Mine.setItem o (.str x) d)) fun o=>.ok (.own o):=by kernel_rfl
theorem Ss(n:Nat)(x y:Str)(o d w:PyData):rn (n+1) "put_back" [.fz (enc (.call x y)),.fz o,.fz d,.fz w]=rb (rn n "put_call" [.fz (enc (.call x y)),.fz d,.fz w]) R.ok:=by kernel_rfl
theorem Su(n:Nat)(x:Str)(l:Int)(o d w:PyData):rn (n+1) "put_back" [.fz (enc (.sift x l)),.fz o,.fz d,.fz w]=rb (rn n "put_sift" [.fz (enc (.sift x l)),.fz o,.fz d,.fz w]) R.ok:=by kernel_rfl
theorem Sv(n:Nat)(x y:Str)(fs:List Str)(o d w:PyData):rn (n+1) "put_back" [.fz (enc (.join x y fs)),.fz o,.fz d,.fz w]=rb (rn n "put_join" [.fz (enc (.join x y fs)),.fz o,.fz d,.fz w]) R.ok:=by kernel_rfl
theorem Sw(n:Nat)(v:WW)(o d w:PyData):rn (n+1) "put_back" [.fz (enc (.each v)),.fz o,.fz d,.fz w]=rb (rn n "put_each" [.fz (enc (.each v)),.fz o,.fz d,.fz w]) R.ok:=by kernel_rfl
theorem Sx(n:Nat)(v:WW)(o d w:PyData):rn (n+1) "put_back" [.fz (enc (.beside v)),.fz o,.fz d,.fz w]=rb (rn n "put_beside" [.fz (enc (.beside v)),.fz o,.fz d,.fz w]) R.ok:=by kernel_rfl
theorem Sy(n:Nat)(a b:WW)(o d:PyData)(w:List PyData):rn (n+1) "put_back" [.fz (enc (.andThen a b)),.fz o,.fz d,.fz (.list w)]=rb (aE (rn n "put_back") [.ok (.fz (enc b)),rn n "shown" [.fz (enc a),.fz o],.ok (.fz d),ofP (eP .Add w (.list [.int 1]))]) fun v=>rb (aE (rn n "put_back") [.ok (.fz (enc a)),.ok (.fz o),aY v.clear,ofP (eP .Add w (.list [.int 0]))]) R.ok:=by kernel_rfl
end
theorem pA{w:List PyData}(x:PyData)(h:w.length < 1000):eP .Add w (.list [x])=.ok (.own (.list (w++[x]))):=by
 show(if iF .Add=true∧w.length+[x].length≤aX then P.ok (V.own (.list (w++[x]))) else .no)=_;rw[if_pos ⟨rfl,by have:aX=16777216:=rfl;simp only[List.length_singleton];lia⟩]
theorem Sz:∀ {r:WW} {f:Str→Option TT} {new z:TT},r.isRows=true→r.wf→aW r (.br f) new=some z→∃ g,z=.br g∧∀ k,k∉r.parts→g k=f k:=by
 intro r
 induction r with
 |bnil=>intro f new z _ _ h;obtain rfl:=si h;exact⟨_,rfl,fun _ _=>rfl⟩
 |bcons n p v r ihv ihr =>
  intro f new z _ hw h;obtain⟨o,h1,h⟩:=bind_some h;obtain⟨x,h2,h⟩:=bind_some h;obtain⟨y,h3,h⟩:=bind_some h;obtain⟨z1,h4,h⟩:=bind_some h;obtain rfl:=si h;obtain⟨g,rfl,hg⟩:=ihr hw.2.1.2 hw.2.1.1 h4;refine⟨_,rfl,fun k hk=>?_⟩;have hk1:k≠p:=fun e=>hk (by simp[W.parts,e]);simp only[upd,if_neg hk1,bP];exact hg k fun e=>hk (by simp[W.parts,e])
 |_=>intro f new z h;exact bft h
noncomputable def pj(vw old new way names:PyData)(c:LP)(j:Option V×Option V×Option V):aA:=gE (ζ vw) (ζ old) (ζ new) (ζ way) (ζ names) (some (.own (.dict (mkd c)))) j.1 j.2.1 j.2.2
theorem S4(H:Wld N)(n:Nat){v:WW}{f:Str→Option TT}{t:TT}{l:LP}{d:PyData}{w:List PyData}(hw:w.length < 1000)(B:Bld N m l f)(hd:Sem N (m+1) d t)(hn:m+1≤n){g:Nat}
  (ih:∀ k o x to tx,f k=some to→Sem N m o to→Sem N m x tx→bQ N (m+g) (aW v to tx) (rn (n+2) "put_back" [.fz (enc v),.fz o,.fz x,.fz (.list (w++[.str k]))])) :
  bQ N (m+g+1) (aW (.each v) (.br f) t) (rn (n+3) "put_each" [.fz (enc (.each v)),.fz (.dict (mkd l)),.fz d,.fz (.list w)]):=by
 rw[Pz,eM H n _ _ _ hd hn];obtain⟨j,rfl,rfl,hi⟩ | ⟨_,ln,q,e,rfl,rfl,C⟩:=hd.inv'
 ·exact rfl
 cases e;rw[lC,bY,aF,uI (C.lt H (by decide)),uI (B.lt H (by decide))];have hc:aC (ofP (.ok (.own (.list ((a8 (ks ln)).map .str))))) .Eq (ofP (.ok (.own (.list ((a8 (ks l)).map .str)))))=.ok (.fz (.bool (dec (∀ k,(q k).isSome=(f k).isSome)))):=by
  show aP (ofP (eqO (.list ((a8 (ks ln)).map .str)) (.list ((a8 (ks l)).map .str))))=_;rw[uG,uH C.nd B.nd];refine congrArg (fun b=>R.ok (V.fz (.bool b))) (eL (cD.trans ⟨fun h k=>?_,fun h k=>?_⟩))
  ·have:=h k;rw[C.mem,B.mem] at this;exact Bool.eq_iff_iff.mpr this
  ·rw[C.mem,B.mem,h k]
 rw[hc,iC,eM H n _ _ _ hd hn];show bQ N (m+g+1) (grd ((∀ k,(q k).isSome=(f k).isSome)∧∀ k x y,f k=some x→q k=some y→(aW v x y).isSome=true) (some (.br fun k=>(f k).bind fun x=>(q k).bind fun y=>aW v x y))) _
 by_cases hc1:∀ k,(q k).isSome=(f k).isSome
 case neg=>rw[cA fun h=>hc1 h.1,cU.mpr hc1];rfl
 rw[cD.mpr hc1,bY,aF];have:=t6 H (m:=m+g) (S:=fun (a:LP) (j:Option V)=>fP (ζ (enc (.each v))) (ζ (.dict (mkd l))) (ζ (.dict (mkd ln))) (ζ (.list w)) (some (.own (.dict (mkd a)))) j) (b:=nY (n+2)) (t:=n0) (xs:=a8 (ks ln)) (j:=none) (fun k=>(f k).bind fun x=>(q k).bind fun y=>aW v x y) (P:=fun k=>((f k).bind fun x=>(q k).bind fun y=>aW v x y).isSome=true) (E:=fun e=>e=BP∧∃ k x y,f k=some x∧q k=some y∧aW v x y=none) fun q0 k r0 hq0 hP a j ha=>by
  have hk:=lF hq0;obtain⟨dn,tn,h1,h2,h3⟩:=C.key (cV.mp hk);have hf:(f k).isSome=true:=by rw[← hc1 k,h2];rfl
  cases hfk:f k with
  |none=>rw[hfk] at hf;exact bft hf
  |some to =>
   obtain⟨do_,h4,h5⟩:=B.get hfk;have hp:=ih k do_ dn to tn hfk h5 h3;refine⟨C.sub k (cV.mp hk),?_⟩;have hb:∀ kn kr,(rb (ofP (aR n0 (.str k) (fP (ζ (enc (.each v))) (ζ (.dict (mkd l))) (ζ (.dict (mkd ln))) (ζ (.list w)) (some (.own (.dict (mkd a)))) j))) fun σ=>nY (n+2) σ kn kr)=rb (rn (n+2) "put_back" [.fz (enc v),.fz do_,.fz dn,.fz (.list (w++[.str k]))]) fun v'=>rb (ofP (Mine.setItem (.dict (mkd a)) (.str k) (dOf v'))) fun o1=>kn (fP (ζ (enc (.each v))) (ζ (.dict (mkd l))) (ζ (.dict (mkd ln))) (ζ (.list w)) (some (.own o1)) (ζ (.str k))):=fun kn kr=>by
    rw[P0,aJ,aF,P1,aZ h1,aZ h4];show rb (aE (rn (n+2) "put_back") [.ok (.fz (enc v)),.ok (.fz do_),.ok (.fz dn),ofP (eP .Add w (.list [.str k]))]) _=_;rw[pA _ hw];rfl
   refine ocs (aW v to tn) (fun hpt=>?_) fun z hpt=>?_
   ·try rewrite[hpt]
    rw[hpt] at hp;have hp:rn (n+2) "put_back" [.fz (enc v),.fz do_,.fz dn,.fz (.list (w++[.str k]))]=.exc BP:=hp;exact .inr (.inr ⟨BP,⟨rfl,k,to,tn,hfk,h2,hpt⟩,fun kn kr=>(hb kn kr).trans (by rw[hp];rfl)⟩)
   ·try rewrite[hpt]
    rw[hpt] at hp;obtain⟨v',d',e1,e2,e3⟩:=hp;exact .inr (.inl ⟨by rw[h2];exact(congrArg Option.isSome hpt).trans rfl,d',z,some (.fz (.str k)),by rw[h2];exact hpt,e3,fun kn kr=>(hb kn kr).trans (by
     rw[e1,aF,eK e2,cB k d' ha];rfl)⟩)
 obtain⟨a,j,hi,hall,e⟩ | ⟨_,⟨rfl,k,x,y,h1,h2,h3⟩,e⟩:=this
 ·rw[b9 ⟨hc1,fun k x y hx hy=>by
   have:=hall k (cV.mpr (C.mem.mpr (by rw[hy];rfl)));rw[hx,hy] at this;exact this⟩]
  refine⟨.own (.dict (mkd a)),_,(e _ _).trans (P2 ..),rfl,(hi.ext fun k=>?_).toSem⟩
  by_cases hk:k∈a8 (ks ln)
  ·rw[if_pos hk]
  ·rw[if_neg hk];have:q k=none:=by
    refine ocs (q k) (fun e=>?_) fun t e=>?_
    ·try rewrite[e]
     rfl
    ·try rewrite[e]
     exact absurd (cV.mpr (C.mem.mpr (by rw[e];rfl))) hk
   rw[this];cases f k<;>rfl
 ·rw[cA fun h=>by have:=h.2 k x y h1 h2;rw[h3] at this;exact bft this];exact(e _ _)
end Mine
namespace Mine
open PySem
variable {N:List Str} {m:Nat}
theorem ml3{a m g n:Nat}(h:a+m+g≤n):m≤n:=Nat.le_trans (Nat.le_add_left m a) (Nat.le_trans (Nat.le_add_right _ g) h)
theorem wl1{a b:Nat}(h:a+b≤900):a < 1000:=Nat.lt_of_le_of_lt (Nat.le_trans (Nat.le_add_right a b) h) (by decide)
theorem uJ(H:Wld N){w:WW}(ho:okW N w)(hr:w.isRows=false){m n:Nat}{d:PyData}{t s:TT}(hn:2*w.hgt+4≤n)(hd:Sem N m d t)(hs:aG w t=some s):Gives (rn n "shown" [.fz (enc w),.fz d]) fun d'=>Sem N m d' s:=by
 have:=(uD H ho).1 hr hn hd;simp only[hs] at this;exact this
theorem bQ.mono{m':Nat}{o:Option TT}{r:R V}(h:bQ N m o r)(hm:m≤m'):bQ N m' o r:=by
 cases o with
 |none=>exact h
 |some t=>obtain⟨v,d,e1,e2,e3⟩:=h;exact⟨v,d,e1,e2,e3.mono hm⟩
noncomputable def B7(N:List Str)(M:Nat)(n:Nat)(w:WW)(o:Option TT)(vw old new way names:PyData)(c:LP)(g:Str→Option TT)(j:Option V×Option V×Option V):Prop:=match o with
 |some z=>∃ c' j',Bld N M c' (fun k=>if k∈w.parts then z.get k else g k)∧∀ kn kr,aQ (fA n) fB (aS w) (pj vw old new way names c j) kn kr=kn (pj vw old new way names c' j')
 |none=>∀ kn kr,aQ (fA n) fB (aS w) (pj vw old new way names c j) kn kr=.exc BP
theorem S5(H:Wld N)(n:Nat){r:WW}(hr:r.isRows=true)(ho:okW N r){f:Str→Option TT}{t:TT}{l:LP}{d:PyData}{w:List PyData}(B:Bld N m l f)(hd:Sem N (m+1) d t)(hn:m+1≤n){M:Nat}(hM:m≤M)(hl:r.names.length≤6)
  (ih:∀ ln q names,d=.dict (mkd ln)→Bld N m ln q→(∀ k∈r.names,(q k).isSome=true)→t=.br q→B7 N M (n+2) r (aW r (.br f) (.br q)) (enc (.beside r)) (.dict (mkd l)) (.dict (mkd ln)) (.list w) names l f (none,none,none)) :
  bQ N (M+1) (aW (.beside r) (.br f) t) (rn (n+3) "put_beside" [.fz (enc (.beside r)),.fz (.dict (mkd l)),.fz d,.fz (.list w)]):=by
 obtain⟨⟨i1,i2⟩,⟨i3,i4⟩,i5,i6⟩:=Bk hr ho;simp only[Pn];have hl1:aN (plI (ofP (getItem (enc (.beside r)) (.int 1)))) (fun d1=>(.ok true)) (fun d1=>(ofP (getItem d1 (.int 0))))=.ok (.own (.list (r.names.map .str))):=by
  show rb (rb (ofP (items (enc r))) fun l=>aT (fun _=>.ok true) (fun d=>ofP (getItem d (.int 0))) l) (fun r=>ofP (own (.list r)))=_;simp only[iB hr];show rb (aT (fun _=>.ok true) (fun d=>ofP (getItem d (.int 0))) (aS r)) (fun r=>ofP (own (.list r)))=_;simp only[i1];rfl
 simp only[hl1,aF];obtain⟨j,rfl,rfl,hi⟩ | ⟨_,ln,q,e,rfl,rfl,C⟩:=hd.inv'
 ·simp only[oM,B6,iC,eM H n _ _ _ hd hn];rfl
 cases e;simp only[lC,lM,uI (C.lt H (by decide))];have hc:aC (ofP (.ok (.own (.list ((a8 (ks ln)).map .str))))) .Eq (aK cP (ofP (rdv (V.clear (.own (.list (r.names.map .str)))))))=.ok (.fz (.bool (dec (∀ k,(q k).isSome=true↔k∈r.names)))):=by
  show aP (rb (ofP (eS (r.names.map .str))) fun v=>ofP (eqO (.list ((a8 (ks ln)).map .str)) (dOf v)))=_;rw[lL (by lia)];show aP (ofP (eqO (.list ((a8 (ks ln)).map .str)) (.list ((a8 r.names).map .str))))=_;simp only[uG,uH C.nd i3];refine congrArg (fun b=>R.ok (V.fz (.bool b))) (eL (cD.trans ⟨fun h k=>?_,fun h k=>?_⟩))
  ·simp only[← C.mem];exact h k
  ·simp only[C.mem];exact h k
 simp only[hc,iC,eM H n _ _ _ hd hn];show bQ N (M+1) (grd (∀ k,(q k).isSome=true↔k∈r.names) (aW r (.br f) (.br q))) _
 by_cases hc1:∀ k,(q k).isSome=true↔k∈r.names
 case neg=>simp only[cA hc1,cU.mpr hc1];rfl
 simp only[b9 hc1,cD.mpr hc1,bY,aF,lB,aJ,aF];have hI:=ih ln q (.list (r.names.map .str)) rfl C (fun k hk=>(hc1 k).mpr hk) rfl;show bQ N (M+1) _ (rb (ofP (items (enc r))) _);simp only[iB hr];refine ocs (aW r (.br f) (.br q)) (fun hp=>?_) fun z hp=>?_
 ·try rewrite[hp]
  simp only[hp] at hI;exact hI _ _
 ·try rewrite[hp]
  simp only[hp] at hI;obtain⟨c,j,h1,h2⟩:=hI;obtain⟨z',rfl,hz⟩:=Sz hr ho.wf hp;refine⟨.own (.dict (mkd c)),_,(h2 _ _).trans (Pq ..),rfl,(h1.ext fun k=>?_).toSem⟩
  by_cases hk:k∈r.parts
  ·simp only[if_pos hk];rfl
  ·simp only[if_neg hk];exact(hz k hk).symm
noncomputable def S6(N:List Str)(w:WW):Prop:=∀ {m n o d to tn wl},2*w.hgt+m+w.grow+8≤n→wl.length+w.hgt≤900→Sem N m o to→Sem N m d tn→(aG w to).isSome=true→bQ N (m+w.grow) (aW w to tn) (rn n "put_back" [.fz (enc w),.fz o,.fz d,.fz (.list wl)])
noncomputable def S7(N:List Str)(w:WW):Prop:=∀ {m n lo f ln q wl},2*w.hgt+m+w.grow+8≤n→wl.length+w.hgt+1≤900→Bld N m lo f→Bld N m ln q→(aG w (.br f)).isSome=true→(∀ k∈w.names,(q k).isSome=true)→∀ vw names M,m+w.grow≤M→∀ c g j,Bld N M c g→B7 N M n w (aW w (.br f) (.br q)) vw (.dict (mkd lo)) (.dict (mkd ln)) (.list wl) names c g j
structure PutS(N:List Str)(w:WW):Prop where
 a:w.isRows=false→S6 N w
 b:w.isRows=true→S7 N w
theorem S8(H:Wld N):∀ {w:WW},okW N w→PutS N w:=by
 intro w
 induction w with
 |whole =>
  refine fun _=>⟨fun _ m n o d to tn wl hn hw hO hD hs=>?_,fun h=>by exact bft h⟩
  obtain⟨n⟩:=exn (c:=1) hn;exact⟨_,_,Sq n _ _ _,rfl,hD⟩
 |pick x =>
  refine fun ho=>⟨fun _ m n o d to tn wl hn hw hO hD hs=>?_,fun h=>by exact bft h⟩
  obtain⟨n⟩:=exn (c:=1) hn;cases to with
  |num=>exact bft hs
  |br f =>
   obtain⟨m,l,B⟩:=hO.br_inv;refine⟨.own (.dict (mkd (st l x d))),_,?_,rfl,((B.mono (Nat.le_succ _)).set ho hD).toSem⟩;simp only[Sr,lB];show rb (ofP (Mine.setItem (.dict (mkd l)) (.str x) d)) _=_;simp only[cB x d (B.lt H (by decide))];rfl
 |call x y =>
  refine fun ho=>⟨fun _ m n o d to tn wl hn hw hO hD hs=>?_,fun h=>by exact bft h⟩
  obtain⟨n⟩:=exn (c:=4) hn;simp only[Ss];exact(Sl H n ho.1 hD (ml3 (fd (k:=4) (c:=4) hn)) to).rb
 |sift x i =>
  refine fun ho=>⟨fun _ m n o d to tn wl hn hw hO hD hs=>?_,fun h=>by exact bft h⟩
  obtain⟨n⟩:=exn (c:=4) hn;cases to with
  |num=>exact bft hs
  |br f =>
   obtain⟨s,hs⟩:=fF hs;obtain⟨hc,_⟩:=hY hs;obtain⟨m,l,B⟩:=hO.br_inv;simp only[Su];exact(Sm H n B hc hD (ml3 (fd (k:=4) (c:=4) hn))).rb
 |join a b fs =>
  refine fun ho=>⟨fun _ m n o d to tn wl hn hw hO hD hs=>?_,fun h=>by exact bft h⟩
  obtain⟨n⟩:=exn (c:=4) hn;obtain⟨s,hs⟩:=fF hs;obtain⟨g,h,ga,ha,F,_⟩:=oF hs;cases to with
  |num=>exact ns ga
  |br f =>
   obtain⟨m,l,B⟩:=hO.br_inv;obtain⟨d1,q1,q2⟩:=B.get ga;obtain⟨d2,q3,q4⟩:=B.get ha;obtain⟨m,l1,B1⟩:=q2.br_inv;obtain⟨_,l2,e,rfl,B2⟩:=q4.br_inv';cases e;simp only[Sv];exact(Sp H n ho.1.1 ho.1.2.1 B q1 q3 ga ha B1 B2 hD (ml3 (fd (k:=4) (c:=4) hn))).rb
 |each v ih =>
  refine fun ho=>⟨fun _ m n o d to tn wl hn hw hO hD hs=>?_,fun h=>by exact bft h⟩
  have hn:2*(v.hgt+1)+m+v.grow+8≤n:=hn;have hw:wl.length+(v.hgt+1)≤900:=hw;obtain⟨n⟩:=exn (c:=4) hn;cases to with
  |num=>exact bft hs
  |br f =>
   obtain⟨s,hs⟩:=fF hs;obtain⟨hc,_⟩:=hY hs;obtain⟨m,l,B⟩:=hO.br_inv;simp only[Sw];refine bQ.rb ?_;have:=S4 H n (v:=v) (w:=wl) (wl1 hw) B hD (ml3 (fd (k:=4) (c:=4) hn)) (g:=v.grow) fun k o x to tx hk h1 h2=>(ih ho.1).1 ho.2 (n:=n+2) (by lia) (by simp only[List.length_append,List.length_singleton];lia) h1 h2 (hc k to hk);exact this.mono (Nat.le_of_eq (Nat.add_right_comm _ _ _))
 |andThen a b iha ihb =>
  refine fun ho=>⟨fun _ m n o d to tn wl hn hw hO hD hs=>?_,fun h=>by exact bft h⟩
  have hn:2*(max a.hgt b.hgt+1)+m+(a.grow+b.grow)+8≤n:=hn;have hw:wl.length+(max a.hgt b.hgt+1)≤900:=hw;obtain⟨n⟩:=exn (c:=1) hn;obtain⟨s,hs⟩:=fF hs;obtain⟨mid,h1,h2⟩:=bind_some hs;obtain⟨v1,d1,e1,e2,e3⟩:=uJ H ho.1.1 ho.1.2 (n:=n) (by exact E4 hn) hO h1;have hb:=(ihb ho.2.1).1 ho.2.2 (n:=n) (wl:=wl++[.int 1]) (by lia) (by simp only[List.length_append,List.length_singleton];lia) e3 hD (by simp only[h2];rfl);have hpt:aW (.andThen a b) to tn=(aW b mid tn).bind fun mid=>aW a to mid:=by
   show((aG a to).bind fun m=>_)=_;simp only[h1];rfl
  simp only[Sy,e1,pA _ (wl1 hw),pA _ (wl1 hw),hpt];show bQ N _ _ (rb (rn n "put_back" [.fz (enc b),v1.clear,.fz d,.fz (.list (wl++[.int 1]))]) _);simp only[e2];cases hp:aW b mid tn with
  |none =>
   simp only[hp] at hb;have hb:rn n "put_back" [.fz (enc b),.fz d1,.fz d,.fz (.list (wl++[.int 1]))]=.exc BP:=hb;simp only[hb];rfl
  |some mt =>
   simp only[hp] at hb;obtain⟨v2,d2,g1,g2,g3⟩:=hb;have ha:=(iha ho.1.1).1 ho.1.2 (n:=n) (wl:=wl++[.int 0]) (by lia) (by simp only[List.length_append,List.length_singleton];lia) (hO.mono (Nat.le_add_right m b.grow)) g3 (by simp only[h1];rfl);simp only[g1,aF,g2];exact ha.rb.mono (Nat.le_of_eq ((Nat.add_assoc m b.grow a.grow).trans (congrArg (m+·) (Nat.add_comm _ _))))
 |beside r ih =>
  refine fun ho=>⟨fun _ m n o d to tn wl hn hw hO hD hs=>?_,fun h=>by exact bft h⟩
  have hn:2*(r.hgt+1)+m+r.grow+8≤n:=hn;have hw:wl.length+(r.hgt+1)≤900:=hw;obtain⟨n⟩:=exn (c:=4) hn;have hs:(aG r to).isSome=true:=hs;cases to with
  |num i =>
   exfalso;cases r with
   |bcons=>exact bft hs
   |bnil=>have:=ho.2.1;simp[W.names] at this
   |_=>cases ho.1.2
  |br f =>
   obtain⟨m,l,B⟩:=hO.br_inv;simp only[Sx];refine bQ.rb ?_;have:=S5 H n (r:=r) (w:=wl) ho.1.2 ho.1.1 B hD (ml3 (fd (k:=4) (c:=4) hn)) (M:=m+r.grow) (Nat.le_add_right _ _) ho.2.2 fun ln q names _ C hq _=>(ih ho.1.1).2 ho.1.2 (n:=n+2) (by lia) (by lia) B C hs hq _ _ _ (Nat.le_refl _) l f _ (B.mono (by lia));exact this.mono (Nat.le_of_eq (Nat.add_right_comm _ _ _))
 |bnil =>
  refine fun ho=>⟨fun h=>(by cases h),fun _ m n lo f ln q wl hn hw B C hs hq vw names M hM c g j hc=>?_⟩
  exact⟨c,j,hc.ext fun k=>by simp[W.parts],fun _ _=>rfl⟩
 |bcons x p v r ihv ihr =>
  refine fun ho=>⟨fun h=>(by cases h),fun _ m n lo f ln q wl hn hw B C hs hq vw names M hM c g j hc=>?_⟩
  have hn:2*(max v.hgt r.hgt)+m+max v.grow r.grow+8≤n:=hn;have hw:wl.length+max v.hgt r.hgt+1≤900:=hw;have hM:m+max v.grow r.grow≤M:=hM;obtain⟨s,hs⟩:=fF hs;obtain⟨t1,h1,hs⟩:=bind_some hs;obtain⟨y,h2,hs⟩:=bind_some hs;obtain⟨z1,h3,hs⟩:=bind_some hs;obtain⟨d1,q1,q2⟩:=B.get h1;obtain⟨xn,h4⟩:=fF (hq x (by simp[W.names]));obtain⟨dn,q3,q4⟩:=C.get h4;have hv:=(ihv ho.2.1.1).1 ho.2.1.2 (n:=n) (wl:=wl++[.str x]) (by lia) (by simp only[List.length_append,List.length_singleton];lia) q2 q4 (by simp only[h2];rfl);have hpt:aW (.bcons x p v r) (.br f) (.br q)=(aW v t1 xn).bind fun y=>(aW r (.br f) (.br q)).bind fun z=>some (.br (upd z.get p (some y))):=by
   show((f p).bind fun o=>(q x).bind fun x=>_)=_;have h1:f p=some t1:=h1;simp only[h1,h4];rfl
  simp only[hpt];have hb:∀ kn kr,aQ (fA n) fB (aS (.bcons x p v r)) (pj vw (.dict (mkd lo)) (.dict (mkd ln)) (.list wl) names c j) kn kr=rb (rn n "put_back" [.fz (enc v),.fz d1,.fz dn,.fz (.list (wl++[.str x]))]) fun v'=>rb (ofP (Mine.setItem (.dict (mkd c)) (.str p) (dOf v'))) fun o=>aQ (fA n) fB (aS r) (gE (ζ vw) (ζ (.dict (mkd lo))) (ζ (.dict (mkd ln))) (ζ (.list wl)) (ζ names) (some (.own o)) (ζ (.str x)) (ζ (.str p)) (ζ (enc v))) kn kr:=fun kn kr=>by
   show rb (ofP (aR fB (.tuple [.str x,.str p,enc v]) _)) (fun σ=>fA n σ (fun σ=>aQ (fA n) fB (aS r) σ kn kr) kr)=_;unfold pj;simp only[Po,aJ,aF,Pp,aZ q1,aZ q3];show rb (aE (rn n "put_back") [.ok (.fz (enc v)),.ok (.fz d1),.ok (.fz dn),ofP (eP .Add wl (.list [.str x]))]) _=_;simp only[pA _ (wl1 (b:=max v.hgt r.hgt+1) hw)];rfl
  cases hp:aW v t1 xn with
  |none =>
   simp only[hp] at hv;have hv:rn n "put_back" [.fz (enc v),.fz d1,.fz dn,.fz (.list (wl++[.str x]))]=.exc BP:=hv;exact fun kn kr=>(hb kn kr).trans (by simp only[hv];rfl)
  |some yt =>
   simp only[hp] at hv;obtain⟨v',d',e1,e2,e3⟩:=hv;have hr:=(ihr ho.2.2.1.1).2 ho.2.2.1.2 (n:=n) (wl:=wl) (by lia) (by lia) B C (by simp only[h3];rfl) (fun k hk=>hq k (by simp[W.names,hk])) vw names M (by lia) (st c p d') (upd g p (some yt)) (some (.fz (.str x)),some (.fz (.str p)),some (.fz (enc v))) (hc.set ho.1.2 (e3.mono (by lia)));have hb':∀ kn kr,aQ (fA n) fB (aS (.bcons x p v r)) (pj vw (.dict (mkd lo)) (.dict (mkd ln)) (.list wl) names c j) kn kr=aQ (fA n) fB (aS r) (pj vw (.dict (mkd lo)) (.dict (mkd ln)) (.list wl) names (st c p d') (some (.fz (.str x)),some (.fz (.str p)),some (.fz (enc v)))) kn kr:=fun kn kr=>(hb kn kr).trans (by
    simp only[e1,aF,eK e2,cB p d' (hc.lt H (by decide))];rfl)
   simp only[Option.bind_some];cases hpr:aW r (.br f) (.br q) with
   |none =>
    simp only[hpr] at hr;exact fun kn kr=>(hb' kn kr).trans (hr kn kr)
   |some z =>
    simp only[hpr] at hr;obtain⟨c',j',i1,i2⟩:=hr;refine⟨c',j',i1.ext fun k=>?_,fun kn kr=>(hb' kn kr).trans (i2 kn kr)⟩;simp only[W.parts,List.mem_cons,bP,upd]
    by_cases e:k=p
    ·subst e;simp[ho.2.2.2.2]
    ·simp[e]
theorem S9(H:Wld N){w:WW}(ho:okW N w)(hr:w.isRows=false){n:Nat}{o d:PyData}{to tn:TT}(hn:3*w.hgt+m+w.grow+10≤n)(hh:w.hgt≤900)(hO:Sem N m o to)(hD:Sem N m d tn){s:TT}(hs:aG w to=some s):bQ N (m+w.grow) (aW w to tn) (rn n "put" [.fz (enc w),.fz o,.fz d]):=by
 obtain⟨n⟩:=exn (c:=3) hn;obtain⟨v,d1,e1,e2,e3⟩:=uJ H ho hr (n:=n+2) (by exact E5 hn) hO hs;have hp:=(S8 H ho).1 hr (n:=n+2) (wl:=[]) (by lia) (by simpa using hh) hO hD (by rw[hs];rfl);rw[kG,oX _ _ ((oQ H ho).1 hr (n+1) (by lia)),lK _ _ (jB H hO (by lia)),lK _ _ (jB H hD (by lia)),e1,aF,aF,aF,aF];refine ocs (aW w to tn) (fun hpt=>?_) fun z hpt=>?_
 ·try rewrite[hpt]
  rw[hpt] at hp;have hp:rn (n+2) "put_back" [.fz (enc w),.fz o,.fz d,.fz (.list [])]=.exc BP:=hp;rw[hp];rfl
 ·try rewrite[hpt]
  rw[hpt] at hp;obtain⟨v',d',g1,g2,g3⟩:=hp;rw[Be g1 g2];exact(t7 H g3 (by lia)).rb
end Mine
namespace Mine
open PySem
variable {N:List Str} {m:Nat}
theorem Ta(a:PyData){v:V}{d:PyData}(hv:v.clear=.fz d):aO [.ok (.fz a),.ok v]=.ok (.fz (.tuple [a,d])):=by
 show(if [V.fz a,v.clear].length≤aX then R.ok (V.fz (.tuple (b6 [V.fz a,v.clear]))) else .no)=_;rw[hv];rfl
theorem gJ(a:PyData){r:R V}{v:V}{d:PyData}(hr:r=.ok v)(hv:v.clear=.fz d):aO [.ok (.fz a),r]=.ok (.fz (.tuple [a,d])):=by simp only[hr,Ta a hv]
theorem jD(H:Wld N):∀ {m n:Nat} {d:PyData} {t:TT},Sem N m d t→m≤n→Gives (rn (n+1) "_law_copy" [.fz d]) fun d'=>Sem N m d' t:=by
 intro m
 induction m with
 |zero =>
  intro n d t h hn;obtain⟨i,rfl,rfl,hi⟩ | ⟨_,_,_,e,_⟩:=h.inv'
  ·exact⟨_,_,(n8 n _).trans rfl,rfl,.num hi⟩
  ·cases e
 |succ m ih =>
  intro n d t h hn;refine exnE (c:=1) n hn hn fun n hn=>?_;obtain⟨i,rfl,rfl,hi⟩ | ⟨_,l,f,e,rfl,rfl,B⟩:=h.inv'
  ·exact⟨_,_,(n8 _ _).trans rfl,rfl,.num hi⟩
  ·cases e;obtain⟨l',e,C⟩:=tZ (N:=N) (m:=m) (F:=f) (t:=fun _=>.ok true) (e:=fun d1=>aO [.ok (.fz d1),aE (rn (n+1) "_law_copy") [ofP (getItem (.dict (mkd l)) d1)]]) (xs:=ks l) (by rw[eA];exact B.lt H (by decide)) fun k hk=>by
    obtain⟨d,u,h1,h2,h3⟩:=B.key hk;obtain⟨v,d',e1,e2,e3⟩:=ih h3 (Nat.le_of_succ_le_succ hn);refine⟨B.sub k hk,.inr ⟨rfl,.fz (.tuple [.str k,d']),d',u,?_,rfl,h2,e3⟩⟩;rw[aZ h1];exact gJ _ e1 e2
   refine⟨.own (.dict (mkd l')),_,?_,rfl,(B.all (fun _ h=>h) C).toSem⟩;rw[n8,bN,aJ,e];rfl
theorem Tc(n:Nat):rn (n+1) "_law_copy" [.fz .none]=.ok (.fz .none):=(n8 n _).trans rfl
theorem list_dict(l:LP):dR (.dict (mkd l))=.ok (.own (.list ((ks l).map .str))):=by
 refine(if_neg (by rw[i7];decide)).trans ?_;show own (.list ((mkd l).map (·.1)))=_;simp only[tB];rfl
theorem Z3(H:Wld N):∀ {m n:Nat} {d1 d2:PyData} {t:TT},Sem N m d1 t→Sem N m d2 t→m≤n→rn (n+1) "_law_same" [.fz d1,.fz d2]=.ok (.fz (.bool true)):=by
 intro m
 induction m with
 |zero =>
  intro n d1 d2 t h1 h2 hn;cases t with
  |num i =>
   obtain⟨rfl,_⟩:=h1.num_inv;obtain⟨rfl,_⟩:=h2.num_inv;simp only[sR];show R.ok (V.fz (.bool (i==i)))=_;simp
  |br f=>obtain⟨_,_,e,_⟩:=h1.br_inv';cases e
 |succ m ih =>
  intro n d1 d2 t h1 h2 hn;cases t with
  |num i =>
   obtain⟨rfl,_⟩:=h1.num_inv;obtain⟨rfl,_⟩:=h2.num_inv;simp only[sR];show R.ok (V.fz (.bool (i==i)))=_;simp
  |br f =>
   obtain⟨_,l1,e,rfl,B1⟩:=h1.br_inv';cases e;obtain⟨_,l2,e,rfl,B2⟩:=h2.br_inv';cases e;refine exnE (c:=1) n hn hn fun n hn=>?_;have e0:aC (aK cP (ofP (dR (.dict (mkd l1))))) .NotEq (aK cP (ofP (dR (.dict (mkd l2)))))=.ok (.fz (.bool false)):=by
    simp only[list_dict,list_dict];show rb (ofP (eS ((ks l1).map .str))) (fun a=>aP (rb (ofP (eS ((ks l2).map .str))) fun v=>ofP (cmp .NotEq (dOf a) (dOf v))))=_;rw[lL (by rw[eA];exact B1.lt H (by decide)),lL (by rw[eA];exact B2.lt H (by decide))];show aP (ofP (bK (eqO (.list ((a8 (ks l1)).map .str)) (.list ((a8 (ks l2)).map .str)))))=_;rw[uG,uH B1.nd B2.nd,cD.mpr fun x=>by rw[B1.mem,B2.mem]];rfl
   have e1:=i8 (xs:=ks l2) (g:=fun _=>true) (e:=fun d1=>aE (rn (n+1) "_law_same") [ofP (getItem (.dict (mkd l1)) d1),ofP (getItem (.dict (mkd l2)) d1)]) fun k hk=>by
    obtain⟨dk,u,q1,q2,q3⟩:=B2.key hk;obtain⟨dk',q4,q5⟩:=B1.get q2;simp only[aZ q1,aZ q4];exact ih q5 q3 (Nat.le_of_succ_le_succ hn)
   simp only[sR,e0,bN,aJ,e1];show R.ok (V.fz (.bool ((ks l2).all fun _=>true)))=_;simp
theorem uK(n:Nat){d:PyData}{t:TT}(h:Sem N m d t):rn (n+1) "_law_is_table" [.fz d]=.ok (.fz (.bool (abB t))):=by
 rw[Az];obtain⟨i,rfl,rfl,_⟩ | ⟨m,l,f,_,rfl,rfl,B⟩:=h.inv'
 ·rfl
 ·rw[bN,aJ,uA (g:=fun x=>match lk l x with | some d=>!bR d | none=>false) fun x hx=>by
   obtain⟨d,t,h1,h2,h3⟩:=B.key hx;rw[aZ h1,h1];rfl]
  show R.ok (V.fz (.bool _))=_;refine congrArg (fun b=>R.ok (V.fz (.bool b))) (eL ?_);rw[lI];constructor
  ·intro h k t hk;obtain⟨d,h1,h2⟩:=B.get hk;have:=h k (k6 h1);rw[h1] at this;obtain⟨i,rfl,rfl,_⟩ | ⟨_,l',f',_,rfl,rfl,_⟩:=h2.inv'
   ·exact btf this
   ·exact⟨_,rfl⟩
  ·intro h x hx;obtain⟨d,t,h1,h2,h3⟩:=B.key hx;obtain⟨g,rfl⟩:=h x t h2;obtain⟨_,l',_,rfl,_⟩:=h3.br_inv';rw[h1];rfl
theorem Td(n:Nat):rn (n+1) "_law_is_table" [.fz .none]=.ok (.fz (.bool false)):=(Az n _).trans rfl
theorem Te(l:LP)(x:Str):eU (.dict (mkd l)) [.str x]=.ok (.fz ((lk l x).getD .none)):=by
 refine(if_neg (by rw[i7];decide)).trans ?_;show fz ((cC (mkd l) x).getD .none)=_;rw[kX];rfl
theorem lN(l:LP)(x:Str):bJ (so "get") (.ok (.fz (.dict (mkd l)))) [.ok (.fz (.str x))]=.ok (.fz ((lk l x).getD .none)):=by
 show ofP (eU (.dict (mkd l)) [.str x])=_;rw[Te];rfl
theorem Tf(n:Nat){l:LP}{f:Str→Option TT}(B:Bld N m l f)(a:Str)(i:Int):rn (n+1) "_law_high" [.fz (.dict (mkd l)),.fz (.str a),.fz (.int i)]=.ok (.fz (.bool (sb a i (.br f)))):=by
 rw[Qj,lN,oK];refine ocs (lk l a) (fun e=>?_) fun d e=>?_
 ·try rewrite[e]
  have:sb a i (.br f)=false:=gG.mpr fun ⟨j,h,_⟩=>by
   have h:f a=some (.num j):=h;rw[B.none_iff.mpr e] at h;cases h
  rw[this];rfl
 ·try rewrite[e]
  obtain⟨t,h1,h2⟩:=B.get' e;obtain⟨j,rfl,rfl,_⟩ | ⟨_,l',f',_,rfl,rfl,_⟩:=h2.inv'
  ·show R.ok (V.fz (.bool (decide (i≤j))))=_;rw[show decide (i≤j)=sb a i (.br f) from eL (decide_eq_true_iff.trans ⟨fun h=>⟨j,h1,h⟩,fun ⟨k,h,h'⟩=>by
    have h:f a=some (.num k):=h;rw[h1] at h;cases h;exact h'⟩)]
  ·have:sb a i (.br f)=false:=gG.mpr fun ⟨j,h,_⟩=>by
    have h:f a=some (.num j):=h;rw[h1] at h;cases h
   rw[this];rfl
theorem B8(xs:List PyData):eqO (.list xs) (.list [])=.ok xs.isEmpty:=by
 cases xs with
 |nil=>rfl
 |cons x r=>rfl
theorem Th{t:PyData→R Bool}{g:PyData→Bool}:∀ {xs:List PyData},(∀ x∈xs,t x=.ok (g x))→aT t (fun d=>.ok (.fz d)) xs=.ok (xs.filter g):=by
 intro v0
 induction v0 with
 |nil =>
  intro _;exact rfl
 |cons x r ih =>
  intro h;show rb (nx (t x)) (fun b=>if b then rb (nx (.ok (.fz x))) fun v=>rb (aT t (fun d=>.ok (.fz d)) r) fun xs=>.ok (dOf v::xs) else aT t (fun d=>.ok (.fz d)) r)=_;rw[h x (by simp),dQ,aF,ih fun d hd=>h d (List.mem_cons_of_mem _ hd)];cases hg:g x
  ·rw[cY,List.filter_cons_of_neg (by simp[hg])]
  ·rw[bY,List.filter_cons_of_pos hg];rfl
theorem B9{xs:List PyData}{t:PyData→R Bool}{g:PyData→Bool}(h:∀ x∈xs,t x=.ok (g x)):aC (aN (.ok xs) t (fun d=>.ok (.fz d))) .NotEq (.ok (.own (.list [])))=.ok (.fz (.bool (!(xs.filter g).isEmpty))):=by
 show rb (rb (aT t (fun d=>.ok (.fz d)) xs) fun r=>ofP (own (.list r))) _=_;rw[Th h];show aP (ofP (bK (eqO (.list (xs.filter g)) (.list []))))=_;rw[B8];rfl
noncomputable def sec:PyData→PyData
 | .tuple [_,d]=>d
 |d=>d
theorem Cb(n:Nat)(ps:LP):rn (n+1) "_law_several" [.fz (.list (ps.map bC))]=if ((ps.map bC).filter fun d=>c8 (sec d)).isEmpty=true then rb (ofP (bE (.list (ps.map bC)))) R.ok else .ok (.fz .none):=by
 rw[Qu];show ifS (aC (aN (.ok (ps.map bC)) (fun d1=>tst (aC (ofP (getItem d1 (.int 1))) .Is (.ok (.fz .none)))) (fun d1=>.ok (.fz d1))) .NotEq (.ok (.own (.list [])))) _ _=_;rw[B9 (g:=fun d=>c8 (sec d)) fun d hd=>by
  obtain⟨p,_,rfl⟩:=List.mem_map.mp hd;rfl]
 cases ((ps.map bC).filter fun d=>c8 (sec d)).isEmpty<;>rfl
theorem Cc(n:Nat){ps:LP}{p:Str×PyData}(hp:p∈ps)(h:p.2=.none):rn (n+1) "_law_several" [.fz (.list (ps.map bC))]=.ok (.fz .none):=by
 rw[Cb,if_neg];intro he;rw[List.isEmpty_iff,List.filter_eq_nil_iff] at he;exact he (bC p) (List.mem_map_of_mem hp) (by show c8 p.2=true;rw[h];rfl)
theorem Cd(n:Nat){ps:LP}(h:∀ p∈ps,c8 p.2=false)(hl:ps.length < 4096):rn (n+1) "_law_several" [.fz (.list (ps.map bC))]=.ok (.own (.dict (mkd (sts ps [])))):=by
 rw[Cb,if_pos,oN hl]
 ·rfl
 ·rw[List.isEmpty_iff,List.filter_eq_nil_iff];intro d hd;obtain⟨p,hp,rfl⟩:=List.mem_map.mp hd;show ¬ c8 p.2=true;rw[h p hp];exact Bool.false_ne_true
theorem Sem.notNone{d:PyData}{t:TT}(h:Sem N m d t):c8 d=false:=by
 obtain⟨i,rfl,rfl,_⟩ | ⟨m,l,f,_,rfl,rfl,B⟩:=h.inv'<;>rfl
end Mine
namespace Mine
open PySem
variable {N:List Str} {m:Nat}
noncomputable def bV(N:List Str)(m:Nat)(o:Option TT)(r:R V):Prop:=match o with
 |some s=>Gives r fun d=>Sem N m d s
 |none=>r=.ok (.fz .none)
theorem bV.rb{o:Option TT}{r:R V}(h:bV N m o r):bV N m o (rb r R.ok):=by
 cases o with
 |none=>have h:r=.ok (.fz .none):=h;rw[h];rfl
 |some t=>exact Gives.rb (P:=fun d=>Sem N m d t) h
theorem Ce(l:LP):eD (.dict (mkd l))=.ok (.own (.list (l.map bC))):=by
 refine(if_neg (by rw[i7];decide)).trans ?_;show own (.list ((mkd l).map fun p=>.tuple [p.1,p.2]))=_;simp only[mkd,List.map_map];rfl
theorem Cf:∀ (a b c:LP),sts (a++b) c=sts b (sts a c):=by
 intro v0
 induction v0 with
 |nil =>
  intro _ _;exact rfl
 |cons p r ih =>
  intro b c;exact ih b (st c p.1 p.2)
noncomputable def js(vw tr one other:PyData)(j:Option V)(fo:Option V):aA:=cI (ζ vw) (ζ tr) (ζ one) (ζ other) j fo
theorem Ti(H:Wld N)(n:Nat){a b:Str}{fs:List Str}{l:LP}{f:Str→Option TT}(B:Bld N m l f)(hn:m≤n):bV N (m+1) (aG (.join a b fs) (.br f)) (rn (n+2) "_law_joins" [.fz (enc (.join a b fs)),.fz (.dict (mkd l))]):=by
 simp only[Qk];show bV N (m+1) _ (rb (bJ (so "get") (.ok (.fz (.dict (mkd l)))) [.ok (.fz (.str a))]) fun v1=>rb (bJ (so "get") (.ok (.fz (.dict (mkd l)))) [.ok (.fz (.str b))]) fun v2=>_);simp only[lN,lN,aF,aF];have ht:∀ x,(∃ g,f x=some (.br g)∧cJ g∧∃ l' m',m=m'+1∧lk l x=some (.dict (mkd l'))∧Bld N m' l' g∧rn (n+1) "_law_is_table" [.fz ((lk l x).getD .none)]=.ok (.fz (.bool true)))∨((∀ g,f x=some (.br g)→¬ cJ g)∧rn (n+1) "_law_is_table" [.fz ((lk l x).getD .none)]=.ok (.fz (.bool false))):=fun x=>by
  refine ocs (lk l x) (fun e=>?_) fun d e=>?_
  ·try rewrite[e]
   exact .inr ⟨fun g hg=>(by simp only[B.none_iff.mpr e] at hg;cases hg),Td n⟩
  ·try rewrite[e]
   obtain⟨t,h1,h2⟩:=B.get' e;show(∃ g,_∧_∧∃ l' m',m=m'+1∧some d=some (.dict (mkd l'))∧_∧rn (n+1) "_law_is_table" [.fz d]=_)∨(_∧rn (n+1) "_law_is_table" [.fz d]=_);simp only[uK n h2];obtain⟨i,_⟩ | ⟨m',l',g,B'⟩:=h2.inv
   ·exact .inr ⟨fun g hg=>(by simp only[h1] at hg;cases hg),rfl⟩
   ·by_cases hg:cJ g
    ·exact .inl ⟨g,h1,hg,l',m',rfl,rfl,B',by simp only[show abB (.br g)=true from cD.mpr hg]⟩
    ·exact .inr ⟨fun g' hg'=>(by simp only[h1] at hg';cases hg';exact hg),by simp only[show abB (.br g)=false from cU.mpr hg]⟩
 simp only[bZ,bZ,bZ,dE,dE];show bV N (m+1) _ (ifS (orS (unS .Not (rn (n+1) "_law_is_table" [.fz ((lk l a).getD .none)])) (unS .Not (rn (n+1) "_law_is_table" [.fz ((lk l b).getD .none)]))) _ _);obtain⟨g,fa,ga,l1,m',rfl,e1,B1,q1⟩ | ⟨ha,q1⟩:=ht a
 case inr=>simp only[q1,gI fun g h h1 h2 F=>ha g h1 F.ga];rfl
 obtain⟨h,fb,hb,l2,_,e,e2,B2,q2⟩ | ⟨hb,q2⟩:=ht b
 case inr=>simp only[q1,q2,gI fun g h h1 h2 F=>hb h h2 F.ha];rfl
 cases e;rw[q1,q2,e1,e2];show bV N (m'+1+1) _ (rb (ofP (items (.dict (mkd l1)))) fun l3=>aQ (n9 (n+1)) oA l3 (js (enc (.join a b fs)) (.dict (mkd l)) (.dict (mkd l1)) (.dict (mkd l2)) none none) (fun σ=>sS (n+1) σ (fun _=>R.ok (.fz .none)) R.ok) R.ok);simp only[bN,aJ,aF];obtain⟨j,L1⟩:=oP (S:=fun (j:Option V)=>js (enc (.join a b fs)) (.dict (mkd l)) (.dict (mkd l1)) (.dict (mkd l2)) j none) (b:=n9 (n+1)) (t:=oA) (c:=gH g (·∈fs)) (v:=.fz .none) (xs:=ks l1) (fun x hx j=>⟨some (.fz (.str x)),fun kn kr=>by
  obtain⟨d,t,h1,h2,h3⟩:=B1.key hx;obtain⟨r1,rfl⟩:=ga x t h2;obtain⟨_,lr,_,rfl,Br⟩:=h3.br_inv';unfold js;simp only[Ql,aJ,aF,Qm];exact oW (Bq a b fs) (Bt fs) Br h1 h2 _ _⟩) none
 simp only[L1,oV B1]
 by_cases c1:lJ g (·∈fs)
 case neg=>rw[cU.mpr c1,gI fun g' h' h1 h2 F=>by rw[fa] at h1;cases h1;exact c1 F.gf];rfl
 simp only[cD.mpr c1,bY];unfold js;simp only[Qn];show bV N (m'+1+1) _ (rb (ofP (items (.dict (mkd l2)))) fun l3=>aQ (oB (n+1)) oC l3 (js (enc (.join a b fs)) (.dict (mkd l)) (.dict (mkd l1)) (.dict (mkd l2)) j none) (fun σ=>sU (n+1) σ (fun _=>R.ok (.fz .none)) R.ok) R.ok);simp only[bN,aJ,aF];obtain⟨j2,L2⟩:=oP (S:=fun (j:Option V)=>js (enc (.join a b fs)) (.dict (mkd l)) (.dict (mkd l1)) (.dict (mkd l2)) j none) (b:=oB (n+1)) (t:=oC) (c:=gH h (·∉fs)) (v:=.fz .none) (xs:=ks l2) (fun x hx j=>⟨some (.fz (.str x)),fun kn kr=>by
  obtain⟨d,t,h1,h2,h3⟩:=B2.key hx;obtain⟨r1,rfl⟩:=hb x t h2;obtain⟨_,lr,_,rfl,Br⟩:=h3.br_inv';unfold js;simp only[Qo,aJ,aF,Qp];exact oW (Bs a b fs) (Bu fs) Br h1 h2 _ _⟩) j
 simp only[L2,oV B2]
 by_cases c2:lJ h (·∉fs)
 case neg=>rw[cU.mpr c2,gI fun g' h' h1 h2 F=>by rw[fb] at h2;cases h2;exact c2 F.hf];rfl
 rw[cD.mpr c2,bY];unfold js;simp only[Qq];show bV N (m'+1+1) _ (rb (ofP (items (.dict (mkd l1)))) fun l3=>aQ (kL (n+1)) kM l3 (js (enc (.join a b fs)) (.dict (mkd l)) (.dict (mkd l1)) (.dict (mkd l2)) j2 (some (.own (.dict [])))) (fun σ=>sV (n+1) σ (fun _=>R.ok (.fz .none)) R.ok) R.ok);simp only[bN,aJ,aF];have hyes:aG (.join a b fs) (.br f)=some (.br (dD g h)):=(A6 (t:=.br f) fa fb).trans (b9 ⟨ga,hb,c1,c2⟩ _);simp only[hyes];have L:=lG H (m:=m') (S:=fun (c:LP) (j:Option V)=>js (enc (.join a b fs)) (.dict (mkd l)) (.dict (mkd l1)) (.dict (mkd l2)) j (some (.own (.dict (mkd c))))) (b:=kL (n+1)) (t:=kM) (xs:=ks l1) (j:=j2) (dD g h) (E:=fun _=>False) fun k hk c j ha=>by
  obtain⟨d,t,h1,h2,h3⟩:=B1.key hk;obtain⟨r1,rfl⟩:=ga k t h2;obtain⟨m',lr,Br⟩:=h3.br_inv;refine⟨B1.sub k hk,?_⟩;have hb':∀ kn kr,(rb (ofP (aR kM (.str k) (js (enc (.join a b fs)) (.dict (mkd l)) (.dict (mkd l1)) (.dict (mkd l2)) j (some (.own (.dict (mkd c))))))) fun σ=>kL (n+1) σ kn kr)=ifS (.ok (.fz (.bool (lk l2 k).isSome))) (bD (aK bE (aB .Add (.ok (.own (.list (lr.map bC)))) (aK eD (ofP (getItem (.dict (mkd l2)) (.str k)))))) (.ok (.dict (mkd c))) (.ok (.fz (.str k))) fun o3=>kn (js (enc (.join a b fs)) (.dict (mkd l)) (.dict (mkd l1)) (.dict (mkd l2)) (ζ (.str k)) (some (.own o3)))) (kn (js (enc (.join a b fs)) (.dict (mkd l)) (.dict (mkd l1)) (.dict (mkd l2)) (ζ (.str k)) (some (.own (.dict (mkd c)))))):=fun kn kr=>by
   unfold js;simp only[Qr,aJ,aF,Qs];show ifS (aP (ofP (Mine.contains (.str k) (.dict (mkd l2))))) (bD (aK bE (aB .Add (aK eD (ofP (getItem (.dict (mkd l1)) (.str k)))) (aK eD (ofP (getItem (.dict (mkd l2)) (.str k)))))) _ _ _) _=_;simp only[cZ,aZ h1,show aK eD (ofP (.ok (.fz (.dict (mkd lr)))))=.ok (.own (.list (lr.map bC))) from congrArg ofP (Ce lr)];rfl
  refine ocs (lk l2 k) (fun hk2=>?_) fun d2 hk2=>?_
  ·try rewrite[hk2]
   refine .inl ⟨?_,some (.fz (.str k)),fun kn kr=>(hb' kn kr).trans (by simp only[hk2];rfl)⟩;show(g k).bind (fun r=>(h k).bind _)=none;simp only[h2,B2.none_iff.mpr hk2];rfl
  ·try rewrite[hk2]
   obtain⟨t2,q1,q2⟩:=B2.get' hk2;obtain⟨r2,rfl⟩:=hb k t2 q1;obtain⟨_,lr2,e,rfl,Br2⟩:=q2.br_inv';cases e;have hl1:=Br.len;have hl2:=Br2.len;have hN:=H.len;refine .inr (.inl ⟨.dict (mkd (sts (lr++lr2) [])),kT (.br r1) (.br r2),some (.fz (.str k)),?_,?_,fun kn kr=>(hb' kn kr).trans ?_⟩)
   ·show(g k).bind (fun r=>(h k).bind _)=_;simp only[h2,q1];rfl
   ·simp only[Cf];exact(((Bld.nil.upd Br).upd Br2).ext fun x=>by simp[bP]).toSem
   ·simp only[hk2,aZ hk2,show aK eD (ofP (.ok (.fz (.dict (mkd lr2)))))=.ok (.own (.list (lr2.map bC))) from congrArg ofP (Ce lr2)];show rb (rb (ofP (eP .Add (lr.map bC) (.list (lr2.map bC)))) fun v=>ofP (bE (dOf v))) _=_;rw[show eP .Add (lr.map bC) (.list (lr2.map bC))=.ok (.own (.list ((lr++lr2).map bC))) from by
     show(if iF .Add=true∧(lr.map bC).length+(lr2.map bC).length≤aX then P.ok (V.own (.list (lr.map bC++lr2.map bC))) else .no)=_;rw[if_pos ⟨rfl,by have:aX=16777216:=rfl;simp only[List.length_map];exact E6 hl1 hl2 hN this⟩,List.map_append]]
    show rb (ofP (bE (.list ((lr++lr2).map bC)))) _=_;rw[oN (by rw[List.length_append];exact Ez hl1 hl2 hN)];show rb (ofP (Mine.setItem (.dict (mkd c)) (.str k) _)) _=_;simp only[cB k _ ha];rfl
 obtain⟨c,j,hi,e⟩ | ⟨_,hx,_⟩:=L
 ·have hs:Sem N (m'+1) (.dict (mkd c)) (.br (dD g h)):=(B1.all (fun k h=>by show(g k).bind _=none;simp only[h];rfl) hi).toSem;simp only[show js (enc (.join a b fs)) (.dict (mkd l)) (.dict (mkd l1)) (.dict (mkd l2)) j2 (some (.own (.dict [])))=js (enc (.join a b fs)) (.dict (mkd l)) (.dict (mkd l1)) (.dict (mkd l2)) j2 (some (.own (.dict (mkd [])))) from rfl,e];unfold js;simp only[Qt];obtain⟨v,d,g1,g2,g3⟩:=(jD H hs (n:=n) hn).rb;exact⟨v,d,g1,g2,g3.mono (Nat.le_succ _)⟩
 ·exact hx.elim
end Mine
namespace Mine
open PySem
variable {N:List Str} {m:Nat}
section
theorem Tj(n:Nat)(d:PyData):rn (n+1) "_law_seen" [.fz (enc .whole),.fz d]=rb (rn n "_law_copy" [.fz d]) R.ok:=by kernel_rfl
theorem Tk(n:Nat)(a b:WW)(d:PyData):rn (n+1) "_law_seen" [.fz (enc (.andThen a b)),.fz d]=rb (rn n "_law_seen" [.fz (enc a),.fz d]) fun v=>rb (cM (aC (ofP (rdv v.clear)) .Is (.ok (.fz .none))) (.ok (.fz .none)) (aE (rn n "_law_seen") [.ok (.fz (enc b)),aY v.clear])) R.ok:=by kernel_rfl
theorem Tl(n:Nat)(x:Str)(i:Int):rn (n+1) "_law_seen" [.fz (enc (.pick x)),.fz (.int i)]=.ok (.fz .none):=by kernel_rfl
theorem Tm(n:Nat)(x y:Str)(i:Int):rn (n+1) "_law_seen" [.fz (enc (.call x y)),.fz (.int i)]=.ok (.fz .none):=by kernel_rfl
theorem Tn(n:Nat)(x:Str)(y i:Int):rn (n+1) "_law_seen" [.fz (enc (.sift x y)),.fz (.int i)]=.ok (.fz .none):=by kernel_rfl
theorem To(n:Nat)(x y:Str)(fs:List Str)(i:Int):rn (n+1) "_law_seen" [.fz (enc (.join x y fs)),.fz (.int i)]=.ok (.fz .none):=by kernel_rfl
theorem Tp(n:Nat)(v:WW)(i:Int):rn (n+1) "_law_seen" [.fz (enc (.each v)),.fz (.int i)]=.ok (.fz .none):=by kernel_rfl
theorem Tq(n:Nat)(v:WW)(i:Int):rn (n+1) "_law_seen" [.fz (enc (.beside v)),.fz (.int i)]=.ok (.fz .none):=by kernel_rfl
theorem Ts(n:Nat)(x:Str)(l:List (PyData×PyData)):rn (n+1) "_law_seen" [.fz (enc (.pick x)),.fz (.dict l)]=rb (aE (rn n "_law_copy") [bJ (so "get") (.ok (.fz (.dict l))) [.ok (.fz (.str x))]]) R.ok:=by kernel_rfl
theorem Tt(n:Nat)(x y:Str)(l:List (PyData×PyData)):rn (n+1) "_law_seen" [.fz (enc (.call x y)),.fz (.dict l)]=ifS (orS (aP (ofP (bK (Mine.contains (.str x) (.dict l))))) (aP (ofP (Mine.contains (.str y) (.dict l))))) (.ok (.fz .none)) (rb (aN (ofP (items (.dict l))) (fun d3=>tst (aP (ofP (cmp .NotEq d3 (.str x))))) (fun d3=>aO [.ok (.fz d3),aE (rn n "_law_copy") [ofP (getItem (.dict l) d3)]])) fun v4=>rb (aK bE (aB .Add (ofP (rdv v4.clear)) (cG [aO [.ok (.fz (.str y)),aE (rn n "_law_copy") [ofP (getItem (.dict l) (.str x))]]]))) R.ok):=by kernel_rfl
theorem Tu(n:Nat)(r:WW)(l:List (PyData×PyData)):rn (n+1) "_law_seen" [.fz (enc (.beside r)),.fz (.dict l)]=ifS (aC (aN (ofP (items (enc r))) (fun d5=>tst (aC (ofP (getItem d5 (.int 1))) .NotIn (.ok (.fz (.dict l))))) (fun d5=>.ok (.fz d5))) .NotEq (.ok (.own (.list [])))) (.ok (.fz .none)) (rb (aE (rn n "_law_several") [aN (ofP (items (enc r))) (fun d7=>.ok true) (fun d7=>aO [ofP (getItem d7 (.int 0)),aE (rn n "_law_seen") [ofP (getItem d7 (.int 2)),aI (.ok (.dict l)) (ofP (getItem d7 (.int 1)))]])]) R.ok):=by kernel_rfl
theorem Tv(n:Nat)(v:WW)(l:List (PyData×PyData)):rn (n+1) "_law_seen" [.fz (enc (.each v)),.fz (.dict l)]=rb (aE (rn n "_law_several") [aN (ofP (items (.dict l))) (fun d9=>.ok true) (fun d9=>aO [.ok (.fz d9),aE (rn n "_law_seen") [.ok (.fz (enc v)),ofP (getItem (.dict l) d9)]])]) R.ok:=by kernel_rfl
theorem Tw(n:Nat)(x y:Str)(fs:List Str)(l:List (PyData×PyData)):rn (n+1) "_law_seen" [.fz (enc (.join x y fs)),.fz (.dict l)]=rb (rn n "_law_joins" [.fz (enc (.join x y fs)),.fz (.dict l)]) R.ok:=by kernel_rfl
theorem Ty(n:Nat)(x:Str)(i:Int)(l:List (PyData×PyData)):rn (n+1) "_law_seen" [.fz (enc (.sift x i)),.fz (.dict l)]=ifS (unS .Not (rn n "_law_is_table" [.fz (.dict l)])) (.ok (.fz .none)) (rb (aK bE (aN (ofP (items (.dict l))) (fun d10=>tst (aE (rn n "_law_high") [ofP (getItem (.dict l) d10),.ok (.fz (.str x)),.ok (.fz (.int i))])) (fun d10=>aO [.ok (.fz d10),aE (rn n "_law_copy") [ofP (getItem (.dict l) d10)]]))) R.ok):=by kernel_rfl
end
theorem Tz:∀ {r:WW} {f:Str→Option TT} {z:TT},r.isRows=true→r.wf→aG r (.br f)=some z→∀ p∈r.parts,(f p).isSome=true:=by
 intro r
 induction r with
 |bnil=>intro f z _ _ _ p hp;exact cL hp
 |bcons n p v r ihv ihr =>
  intro f z _ hw h q hq;obtain⟨x,h1,h⟩:=bind_some h;obtain⟨y,h2,h⟩:=bind_some h;obtain⟨z1,h3,h⟩:=bind_some h;rcases List.mem_cons.mp (show q∈p::r.parts from hq) with rfl | hq
  ·have h1:f q=some x:=h1;rw[h1];rfl
  ·exact ihr hw.2.1.2 hw.2.1.1 h3 q hq
 |_=>intro f z h;exact bft h
noncomputable def uL:PyData→Str
 | .tuple [_,.str p,_]=>p
 |_=>⟨#[]⟩
theorem T3{l:LP}:∀ {r:WW},r.isRows=true→okW N r→(∀ d∈aS r,tst (aC (ofP (getItem d (.int 1))) .NotIn (.ok (.fz (.dict (mkd l)))))=.ok (!(lk l (uL d)).isSome))∧(((aS r).filter fun d=>!(lk l (uL d)).isSome).isEmpty=true↔∀ p∈r.parts,(lk l p).isSome=true):=by
 intro r
 induction r with
 |bnil=>intro _ _;exact⟨fun d hd=>(by exact cL hd),⟨fun _ _ h=>cL h,fun _=>rfl⟩⟩
 |bcons n p v r ihv ihr =>
  intro _ ho;obtain⟨i1,i2⟩:=ihr ho.2.2.1.2 ho.2.2.1.1;refine⟨fun d hd=>?_,?_⟩
  ·rcases List.mem_cons.mp (show d∈.tuple [.str n,.str p,enc v]::aS r from hd) with rfl | hd
   ·show tst (aP (ofP (bK (Mine.contains (.str p) (.dict (mkd l))))))=_;rw[cZ];rfl
   ·exact i1 d hd
  ·rw[List.isEmpty_iff] at i2 ⊢;show List.filter _ (.tuple [.str n,.str p,enc v]::aS r)=[]↔∀ q∈p::r.parts,_;rw[List.forall_mem_cons,← i2,List.filter_cons];show(if (!(lk l p).isSome)=true then _ else _)=[]↔_;cases (lk l p).isSome<;>simp
 |_=>intro h;exact bft h
noncomputable def uM(n:Nat)(l:LP):PyData→R V:=fun d7=>aO [ofP (getItem d7 (.int 0)),aE (rn n "_law_seen") [ofP (getItem d7 (.int 2)),aI (.ok (.dict (mkd l))) (ofP (getItem d7 (.int 1)))]]
inductive SeenW(N:List Str)(m:Nat)(r:R (List PyData))(nm:List Str)(o:Option TT):Prop where
 |mk (ps:LP) (e1:r=.ok (ps.map bC)) (e2:ks ps=nm) (e3:(∃ z,o=some z∧∀ p∈ps,p.1∈N∧∃ u,z.get p.1=some u∧Sem N m p.2 u)∨o=none∧∃ p∈ps,p.2=.none):SeenW N m r nm o
noncomputable def T5(N:List Str)(w:WW):Prop:=∀ {m n d t},w.hgt+m+3≤n→Sem N m d t→bV N m (aG w t) (rn n "_law_seen" [.fz (enc w),.fz d])
noncomputable def T6(N:List Str)(w:WW):Prop:=∀ {m n l f},w.hgt+m+3≤n→Bld N m l f→(∀ p∈w.parts,(f p).isSome=true)→SeenW N m (aT (fun _=>.ok true) (uM n l) (aS w)) w.names (aG w (.br f))
structure SeenS(N:List Str)(w:WW):Prop where
 a:w.isRows=false→T5 N w
 b:w.isRows=true→T6 N w
theorem pB(H:Wld N):∀ {w:WW},okW N w→SeenS N w:=by
 intro w
 induction w with
 |whole =>
  refine fun _=>⟨fun _ m n d t hn hd=>?_,fun h=>by exact bft h⟩
  refine exnE (c:=2) n hn hn fun n hn=>?_;rw[Tj];exact(jD H hd (by exact E7 hn)).rb
 |pick x =>
  refine fun _=>⟨fun _ m n d t hn hd=>?_,fun h=>by exact bft h⟩
  refine exnE (c:=2) n hn hn fun n hn=>?_
  revert hn;refine hd.by (fun m i _ hn=>?_) fun m l f B hn=>?_
  ·exact Tl _ _ _
  ·rw[Ts,lN];refine bV.rb ?_;show bV N (m+1) (f x) (rn (n+1) "_law_copy" [.fz ((lk l x).getD .none)]);refine ocs (f x) (fun e=>?_) fun u e=>?_
   ·try rewrite[e]
    rw[B.none_iff.mp e];exact Tc n
   ·try rewrite[e]
    obtain⟨d,h1,h2⟩:=B.get e;rw[h1];obtain⟨v,d',g1,g2,g3⟩:=jD H h2 (n:=n) (by exact lV hn);exact⟨v,d',g1,g2,g3.mono (Nat.le_succ _)⟩
 |call x y =>
  refine fun ho=>⟨fun _ m n d t hn hd=>?_,fun h=>by exact bft h⟩
  refine exnE (c:=2) n hn hn fun n hn=>?_
  revert hn;refine hd.by (fun m i _ hn=>?_) fun m l f B hn=>?_
  ·rw[show aG (.call x y) (.num i:TT)=none from cA (fun h=>by cases h.1) _];exact Tm _ _ _ _
  ·rw[Tt,cZ,cZ,B.dom,B.dom];show bV N (m+1) (grd ((f x).isSome=true∧f y=none) (some (.br (gF x y f)))) _
   by_cases hc:(f x).isSome=true∧f y=none
   case neg =>
    rw[cA hc];cases e1:f x with
    |none=>rfl
    |some u =>
     refine ocs (f y) (fun e2=>?_) fun v e2=>?_
     ·try rewrite[e2]
      exact absurd ⟨by rw[e1];rfl,e2⟩ hc
     ·try rewrite[e2]
      rfl
   rw[b9 hc,hc.1,hc.2];obtain⟨u,hu⟩:=fF hc.1;obtain⟨dx,q1,q2⟩:=B.get hu;obtain⟨v,dx',g1,g2,g3⟩:=jD H q2 (n:=n) (by exact lV hn);obtain⟨ps,e1,e2,e3,e4⟩:=Bd (N:=N) (m:=m) (F:=fun k=>if k=x then none else f k) (t:=fun d3=>tst (aP (ofP (cmp .NotEq d3 (.str x))))) (e:=fun d3=>aO [.ok (.fz d3),aE (rn (n+1) "_law_copy") [ofP (getItem (.dict (mkd l)) d3)]]) (xs:=ks l) fun k hk=>by
    obtain⟨d,u,h1,h2,h3⟩:=B.key hk;refine⟨B.sub k hk,?_⟩;show(R.ok (!(k==x))=_∧_)∨R.ok (!(k==x))=_∧_
    by_cases e:k=x
    ·exact .inl ⟨by simp[e],by simp[e]⟩
    ·obtain⟨v,d',e1,e2,e3⟩:=jD H h3 (n:=n) (by exact lV hn);refine .inr ⟨by simp[e],.fz (.tuple [.str k,d']),d',u,?_,rfl,by simp only[if_neg e];exact h2,e3⟩;rw[aZ h1];exact gJ _ e1 e2
   have hl:=B.lt H (k:=1000) (by decide);rw[eA] at e2;refine⟨.own (.dict (mkd (sts (ps++[(y,dx')]) []))),_,?_,rfl,?_⟩
   ·rw[bN,aZ q1];show rb (rb (aT _ _ ((ks l).map .str)) fun r=>ofP (own (.list r))) (fun v4=>rb (aK bE (aB .Add (ofP (rdv v4.clear)) (cG [aO [.ok (.fz (.str y)),rn (n+1) "_law_copy" [.fz dx]]]))) R.ok)=_;rw[e1,gJ _ g1 g2];show rb (rb (ofP (eP .Add (ps.map bC) (.list [.tuple [.str y,dx']]))) fun v=>ofP (bE (dOf v))) R.ok=_;rw[show eP .Add (ps.map bC) (.list [.tuple [.str y,dx']])=.ok (.own (.list ((ps++[(y,dx')]).map bC))) from by
     show(if iF .Add=true∧(ps.map bC).length+1≤aX then P.ok (V.own (.list (ps.map bC++[.tuple [.str y,dx']]))) else .no)=_;rw[if_pos ⟨rfl,by have:aX=16777216:=rfl;simp only[List.length_map];exact E8 e2 hl this⟩,List.map_append];rfl]
    show rb (ofP (bE (.list ((ps++[(y,dx')]).map bC)))) R.ok=_;rw[oN (by rw[List.length_append];simp only[List.length_singleton];exact E9 e2 hl)];rfl
   ·rw[Cf];refine(((i9 (F:=fun k=>if k=x then none else f k) Bld.nil e4).set ho.2.1 g3).ext fun k=>?_).toSem;simp only[upd,gF]
    by_cases ky:k=y
    ·rw[if_pos ky,if_pos ky,hu]
    ·rw[if_neg ky,if_neg ky]
     by_cases kx:k=x
     ·rw[if_pos kx];simp[kx]
     ·rw[if_neg kx]
      by_cases hk:k∈ks ps
      ·rw[if_pos hk]
      ·rw[if_neg hk];refine ocs (f k) (fun ef=>?_) fun u ef=>?_
       ·try rewrite[ef]
        rfl
       ·try rewrite[ef]
        exact absurd ((e3 k).mpr ⟨B.mem.mpr (by rw[ef];rfl),by simp[kx,ef]⟩) hk
 |sift x i =>
  refine fun _=>⟨fun _ m n d t hn hd=>?_,fun h=>by exact bft h⟩
  refine exnE (c:=2) n hn hn fun n hn=>?_
  revert hn;refine hd.by (fun m i _ hn=>?_) fun m l f B hn=>?_
  ·exact Tn _ _ _ _
  ·rw[Ty,uK n B.toSem];show bV N (m+1) (grd (cJ f) (some (.br (fC x i f)))) _
   by_cases hc:cJ f
   case neg=>rw[cA hc,show abB (.br f)=false from cU.mpr hc];rfl
   rw[b9 hc,show abB (.br f)=true from cD.mpr hc];obtain⟨l',e,C⟩:=tZ (N:=N) (m:=m) (F:=fC x i f) (t:=fun d10=>tst (aE (rn (n+1) "_law_high") [ofP (getItem (.dict (mkd l)) d10),.ok (.fz (.str x)),.ok (.fz (.int i))])) (e:=fun d10=>aO [.ok (.fz d10),aE (rn (n+1) "_law_copy") [ofP (getItem (.dict (mkd l)) d10)]]) (xs:=ks l) (by rw[eA];exact B.lt H (by decide)) fun k hk=>by
    obtain⟨d,u,h1,h2,h3⟩:=B.key hk;obtain⟨g,rfl⟩:=hc k u h2;obtain⟨_,lr,_,rfl,Br⟩:=h3.br_inv';refine⟨B.sub k hk,?_⟩;rw[aZ h1,show fC x i f k=grd (cT x i (.br g)) (some (.br g)) from by show(f k).bind _=_;rw[h2];rfl];show(tst (rn (n+1) "_law_high" [.fz (.dict (mkd lr)),.fz (.str x),.fz (.int i)])=_∧_)∨tst (rn (n+1) "_law_high" [.fz (.dict (mkd lr)),.fz (.str x),.fz (.int i)])=_∧_;rw[Tf n Br x i];refine bcs (sb x i (.br g)) (fun hs=>?_) fun hs=>?_
    ·try rewrite[hs]
     exact .inl ⟨rfl,cA (gG.mp hs) _⟩
    ·try rewrite[hs]
     obtain⟨v,d',e1,e2,e3⟩:=jD H h3 (n:=n) (by exact lV hn);exact .inr ⟨rfl,.fz (.tuple [.str k,d']),d',.br g,gJ _ e1 e2,rfl,b9 (oS.mp hs) _,e3⟩
   refine⟨.own (.dict (mkd l')),_,?_,rfl,(B.all (fun k h=>by show(f k).bind _=none;rw[h];rfl) C).toSem⟩;rw[bN,aJ,e];rfl
 |join a b fs =>
  refine fun _=>⟨fun _ m n d t hn hd=>?_,fun h=>by exact bft h⟩
  refine exnE (c:=3) n hn hn fun n hn=>?_
  revert hn;refine hd.by (fun m i _ hn=>?_) fun m l f B hn=>?_
  ·exact To _ _ _ _ _
  ·rw[Tw];exact(Ti H n B (by exact Fa hn)).rb
 |each v ih =>
  refine fun ho=>⟨fun _ m n d t hn hd=>?_,fun h=>by exact bft h⟩
  have hn:v.hgt+1+m+3≤n:=hn;refine exnE (c:=2) n hn hn fun n hn=>?_
  revert hn;refine hd.by (fun m i _ hn=>?_) fun m l f B hn=>?_
  ·exact Tp _ _ _
  ·have key:∀ xs:List Str,(∀ x∈xs,x∈ks l)→∃ ps:LP,aT (fun _=>.ok true) (fun d9=>aO [.ok (.fz d9),aE (rn (n+1) "_law_seen") [.ok (.fz (enc v)),ofP (getItem (.dict (mkd l)) d9)]]) (xs.map .str)=.ok (ps.map bC)∧ks ps=xs∧∀ p∈ps,(p.2=.none∧(f p.1).bind (aG v)=none∧(f p.1).isSome=true)∨∃ u,(f p.1).bind (aG v)=some u∧Sem N m p.2 u:=by
    intro xs
    induction xs with
    |nil=>exact fun _=>⟨[],rfl,rfl,fun p hp=>by exact cL hp⟩
    |cons x r ihx =>
     intro hx;obtain⟨ps,e1,e2,e3⟩:=ihx fun y hy=>hx y (List.mem_cons_of_mem _ hy);obtain⟨d,u,h1,h2,h3⟩:=B.key (hx x (by simp));have hv:=(ih ho.1).1 ho.2 (n:=n+1) (by exact vM hn) h3;have hs:aT (fun _=>.ok true) (fun d9=>aO [.ok (.fz d9),aE (rn (n+1) "_law_seen") [.ok (.fz (enc v)),ofP (getItem (.dict (mkd l)) d9)]]) ((x::r).map .str)=rb (nx (aO [.ok (.fz (.str x)),aE (rn (n+1) "_law_seen") [.ok (.fz (enc v)),ofP (getItem (.dict (mkd l)) (.str x))]])) fun w=>rb (.ok (ps.map bC)) fun xs=>.ok (dOf w::xs):=by rw[← e1];rfl
     rw[hs,aZ h1];refine ocs (aG v u) (fun hsu=>?_) fun s hsu=>?_
     ·try rewrite[hsu]
      rw[hsu] at hv;refine⟨(x,.none)::ps,?_,by rw[← e2];rfl,fun p hp=>?_⟩
      ·rw[gJ (.str x) (show aE (rn (n+1) "_law_seen") [.ok (.fz (enc v)),ofP (.ok (.fz d))]=.ok (.fz .none) from hv) rfl];rfl
      ·rcases List.mem_cons.mp hp with rfl | hp
       ·exact .inl ⟨rfl,by show(f x).bind _=none;rw[h2];exact hsu,by show(f x).isSome=true;rw[h2];rfl⟩
       ·exact e3 p hp
     ·try rewrite[hsu]
      rw[hsu] at hv;obtain⟨w,d',g1,g2,g3⟩:=hv;refine⟨(x,d')::ps,?_,by rw[← e2];rfl,fun p hp=>?_⟩
      ·rw[gJ (.str x) (show aE (rn (n+1) "_law_seen") [.ok (.fz (enc v)),ofP (.ok (.fz d))]=.ok w from g1) g2];rfl
      ·rcases List.mem_cons.mp hp with rfl | hp
       ·exact .inr ⟨s,by show(f x).bind _=_;rw[h2];exact hsu,g3⟩
       ·exact e3 p hp
   obtain⟨ps,e1,e2,e3⟩:=key (ks l) fun _ h=>h;have hl:ps.length < 4096:=by
    have:=congrArg List.length e2;rw[eA,eA] at this;have:=B.lt H (k:=4096) (by decide);lia
   rw[Tv,bN];refine bV.rb ?_;show bV N (m+1) (grd _ _) (aE (rn (n+1) "_law_several") [rb (aT _ _ ((ks l).map .str)) fun r=>ofP (own (.list r))]);rw[e1];show bV N (m+1) (grd _ _) (rn (n+1) "_law_several" [.fz (.list (ps.map bC))])
   by_cases hc:∀ k x,f k=some x→(aG v x).isSome=true
   ·rw[b9 hc];have e4:∀ p∈ps,∃ u,(f p.1).bind (aG v)=some u∧Sem N m p.2 u:=fun p hp=>by
     rcases e3 p hp with ⟨_,h2,h3⟩ | h
     ·obtain⟨u,hu⟩:=fF h3;rw[hu] at h2;have:=hc p.1 u hu;rw[show aG v u=none from h2] at this;exact bft this
     ·exact h
    refine⟨_,_,Cd n (fun p hp=>?_) hl,rfl,((i9 (F:=fun k=>(f k).bind (aG v)) Bld.nil fun p hp=>⟨?_,e4 p hp⟩).ext fun k=>?_).toSem⟩
    ·obtain⟨u,_,h⟩:=e4 p hp;exact h.notNone
    ·exact B.sub p.1 (e2▸List.mem_map_of_mem (f:=(·.1)) hp)
    ·rw[e2]
     by_cases hk:k∈ks l
     ·rw[if_pos hk]
     ·rw[if_neg hk];refine ocs (f k) (fun ef=>?_) fun u ef=>?_
      ·try rewrite[ef]
       rfl
      ·try rewrite[ef]
       exact absurd (B.mem.mpr (by rw[ef];rfl)) hk
   ·rw[cA hc];simp only[Classical.not_forall] at hc;obtain⟨k,x,hk,hx⟩:=hc;have hkl:k∈ks ps:=e2▸B.mem.mpr (by rw[hk];rfl);obtain⟨p,hp,rfl⟩:=List.mem_map.mp hkl;rcases e3 p hp with ⟨h1,_,_⟩ | ⟨u,h,_⟩
    ·exact Cc n hp h1
    ·rw[hk] at h;rw[show aG v x=some u from h] at hx;exact absurd rfl hx
 |andThen a b iha ihb =>
  refine fun ho=>⟨fun _ m n d t hn hd=>?_,fun h=>by exact bft h⟩
  have hn:max a.hgt b.hgt+1+m+3≤n:=hn;refine exnE (c:=1) n hn hn fun n hn=>?_;have ha:=(iha ho.1.1).1 ho.1.2 (n:=n) (by exact Fb hn) hd;rw[Tk];show bV N m ((aG a t).bind (aG b)) _;refine ocs (aG a t) (fun hs=>?_) fun mid hs=>?_
  ·try rewrite[hs]
   rw[hs] at ha;have ha:rn n "_law_seen" [.fz (enc a),.fz d]=.ok (.fz .none):=ha;rw[ha];rfl
  ·try rewrite[hs]
   rw[hs] at ha;obtain⟨v,d',g1,g2,g3⟩:=ha;rw[g1,aF,g2,Option.bind_some];refine bV.rb ?_;show bV N m _ (cM (.ok (.fz (.bool (c8 d')))) (.ok (.fz .none)) (rn n "_law_seen" [.fz (enc b),.fz d']));rw[g3.notNone];exact(ihb ho.2.1).1 ho.2.2 (n:=n) (by exact Fc hn) g3
 |beside r ih =>
  refine fun ho=>⟨fun _ m n d t hn hd=>?_,fun h=>by exact bft h⟩
  have hn:r.hgt+1+m+3≤n:=hn;refine exnE (c:=2) n hn hn fun n hn=>?_
  revert hn;refine hd.by (fun m i _ hn=>?_) fun m l f B hn=>?_
  ·have:aG (.beside r) (.num i:TT)=none:=by
    cases r with
    |bcons=>rfl
    |bnil=>have:=ho.2.1;simp[kU,kW] at this
    |_=>cases ho.1.2
   rw[this];exact Tq _ _ _
  ·obtain⟨f1,f2⟩:=T3 (l:=l) ho.1.2 ho.1.1;rw[Tu,iB ho.1.2];show bV N (m+1) (aG r (.br f)) (ifS (aC (aN (.ok (aS r)) _ _) _ _) _ _);rw[B9 f1]
   by_cases hp:∀ p∈r.parts,(f p).isSome=true
   case neg =>
    have:((aS r).filter fun d=>!(lk l (uL d)).isSome).isEmpty=false:=by
     rw[Bool.eq_false_iff];exact fun h=>hp fun p hp=>by rw[← B.dom];exact f2.mp h p hp
    rw[this];refine ocs (aG r (.br f)) (fun hs=>?_) fun z hs=>?_
    ·try rewrite[hs]
     rfl
    ·try rewrite[hs]
     exact absurd (Tz ho.1.2 ho.1.1.wf hs) hp
   rw[f2.mpr fun p h=>by rw[B.dom];exact hp p h];obtain⟨ps,e1,e2,e3⟩:=(ih ho.1.1).2 ho.1.2 (n:=n+1) (by exact vM hn) B hp;have hl:ps.length < 4096:=by
    have:=congrArg List.length e2;rw[eA] at this;have:=ho.2.2;lia
   show bV N (m+1) _ (rb (aE (rn (n+1) "_law_several") [rb (aT (fun _=>.ok true) (uM (n+1) l) (aS r)) fun r=>ofP (own (.list r))]) R.ok);refine bV.rb ?_;rw[e1];show bV N (m+1) _ (rn (n+1) "_law_several" [.fz (.list (ps.map bC))]);rcases e3 with ⟨z,hz,e4⟩ | ⟨hz,p,hp,h0⟩
   ·obtain⟨zf,rfl,hd⟩:=uC ho.1.2 ho.1.1.wf hz;rw[hz];refine⟨_,_,Cd n (fun p hp=>?_) hl,rfl,((i9 (F:=zf) Bld.nil e4).ext fun k=>?_).toSem⟩
    ·obtain⟨_,u,_,h⟩:=e4 p hp;exact h.notNone
    ·rw[e2]
     by_cases hk:k∈r.names
     ·rw[if_pos hk]
     ·rw[if_neg hk];refine ocs (zf k) (fun ef=>?_) fun u ef=>?_
      ·try rewrite[ef]
       rfl
      ·try rewrite[ef]
       exact absurd ((hd k).mp (by rw[ef];rfl)) hk
   ·rw[hz];exact Cc n hp h0
 |bnil =>
  exact fun _=>⟨fun h=>(by cases h),fun _ m n l f hn B hp=>⟨[],rfl,rfl,.inl ⟨_,rfl,fun p hp=>by cases hp⟩⟩⟩
 |bcons x p v r ihv ihr =>
  refine fun ho=>⟨fun h=>(by exact btf h),fun _ m n l f hn B hp=>?_⟩
  have hn:max v.hgt r.hgt+m+3≤n:=hn;obtain⟨ps,e1,e2,e3⟩:=(ihr ho.2.2.1.1).2 ho.2.2.1.2 (n:=n) (by exact Fd hn) B fun q hq=>hp q (List.mem_cons_of_mem _ hq);obtain⟨u,hu⟩:=fF (hp p (by simp[A3,A4]));obtain⟨d,h1,h2⟩:=B.get hu;have hv:=(ihv ho.2.1.1).1 ho.2.1.2 (n:=n) (by exact Fe hn) h2;have hs:aT (fun _=>.ok true) (uM n l) (aS (.bcons x p v r))=rb (nx (aO [.ok (.fz (.str x)),aE (rn n "_law_seen") [.ok (.fz (enc v)),ofP (getItem (.dict (mkd l)) (.str p))]])) fun w=>rb (.ok (ps.map bC)) fun xs=>.ok (dOf w::xs):=by rw[← e1];rfl
  have hst:aG (.bcons x p v r) (.br f)=(aG v u).bind fun y=>(aG r (.br f)).bind fun z=>some (.br (upd z.get x (some y))):=by
   show(f p).bind _=_;rw[hu];rfl
  rw[hs,aZ h1,hst];refine ocs (aG v u) (fun hsu=>?_) fun s hsu=>?_
  ·try rewrite[hsu]
   rw[hsu] at hv;refine⟨(x,.none)::ps,?_,by rw[show ks ((x,PyData.none)::ps)=x::ks ps from rfl,e2];rfl,.inr ⟨rfl,(x,.none),by simp,rfl⟩⟩;rw[gJ (.str x) (show aE (rn n "_law_seen") [.ok (.fz (enc v)),ofP (.ok (.fz d))]=.ok (.fz .none) from hv) rfl];rfl
  ·try rewrite[hsu]
   rw[hsu] at hv;obtain⟨w,d',g1,g2,g3⟩:=hv;refine⟨(x,d')::ps,?_,by rw[show ks ((x,d')::ps)=x::ks ps from rfl,e2];rfl,?_⟩
   ·rw[gJ (.str x) (show aE (rn n "_law_seen") [.ok (.fz (enc v)),ofP (.ok (.fz d))]=.ok w from g1) g2];rfl
   ·rcases e3 with ⟨z,hz,e4⟩ | ⟨hz,q,hq,h0⟩
    ·rw[hz];refine .inl ⟨_,rfl,fun q hq=>?_⟩;rcases List.mem_cons.mp hq with rfl | hq
     ·exact⟨ho.1.1,s,by simp[bP,upd],g3⟩
     ·obtain⟨i1,u',i2,i3⟩:=e4 q hq;refine⟨i1,u',?_,i3⟩;have hne:q.1≠x:=fun e=>ho.2.2.2.1 (e▸e2▸List.mem_map_of_mem (f:=(·.1)) hq);simp only[bP,upd,if_neg hne];exact i2
    ·rw[hz];exact .inr ⟨rfl,q,List.mem_cons_of_mem _ hq,h0⟩
end Mine
namespace Mine
open PySem
theorem aU(a:Int){n:Int}(h:0 < n):0≤a.fmod n∧a.fmod n < n:=by
 rw[Int.fmod_eq_emod_of_nonneg a (by exact pO h)];exact⟨Int.emod_nonneg a (by exact Ff h),Int.emod_lt_of_pos a h⟩
theorem gK(x:Int){y:Int}(h:y≠0):aD .Mod (.int x) (.int y)=.ok (.fz (.int (x.fmod y))):=if_pos h
theorem iD(x:Int){y:Int}(h:y.natAbs < 2 ^ 63):aD .Mult (.int x) (.int y)=.ok (.fz (.int (x*y))):=if_pos (.inr h)
theorem uN(l:List PyData)(t:PyData→R Bool)(e:PyData→R V):aN (.ok l) t e=rb (aT t e l) fun r=>ofP (own (.list r)):=rfl
theorem lO{x:Int}(y:Int)(h:x.natAbs < 2 ^ 63):aD .Mult (.int x) (.int y)=.ok (.fz (.int (x*y))):=if_pos (.inl h)
theorem lP{l:List PyData}{k:Int}{d:PyData}(h0:0≤k)(h:l[k.toNat]?=some d):getItem (.list l) (.int k)=.ok (.fz d):=by
 have hk:k.toNat < l.length:=(List.getElem?_eq_some_iff.mp h).1;show(if 0≤k then (if 0≤k∧k < l.length then frz l[k.toNat]? else .no) else atN l k)=_;rw[if_pos h0,if_pos ⟨h0,by exact Fg hk⟩,h];rfl
noncomputable def Li(s:List Int):PyData:=.list (s.map .int)
noncomputable def dH(s:List Int)(k:Int):Int:=if k < s.length then (s[k.toNat]?).getD 0 else 0
noncomputable def bG(s:List Int)(k:Int):Int:=(dH s (2+k.fmod 24)*48271+7919*k+12345).fmod 2147483647
theorem uO(n:Nat)(s:List Int){k:Int}(hk:0≤k):rn (n+1) "_law_cell_at" [.fz (Li s),.fz (.int k)]=.ok (.fz (.int (dH s k))):=by
 rw[P3];show(if decide (k < ((s.map PyData.int).length:Int))=true then rb (ofP (getItem (.list (s.map .int)) (.int k))) R.ok else R.ok (.fz (.int 0)))=_;rw[List.length_map];unfold dH
 by_cases h:k < s.length
 ·have hl:k.toNat < s.length:=by exact Fh hk h
  rw[if_pos (decide_eq_true h),if_pos h,lP hk (by rw[List.getElem?_map,List.getElem?_eq_getElem hl];rfl),List.getElem?_eq_getElem hl];rfl
 ·rw[if_neg (by simpa using h),if_neg h]
theorem gL(n:Nat)(s:List Int)(k:Int):rn (n+2) "_law_mixed" [.fz (Li s),.fz (.int k)]=.ok (.fz (.int (bG s k))):=by
 rw[P4];have h:=(aU k (n:=24) (by decide)).1;refine Eq.trans (b:=rb (aB .Mod (aB .Add (aB .Add (aB .Mult (rn (n+1) "_law_cell_at" [.fz (Li s),.fz (.int (2+k.fmod 24))]) (.ok (.fz (.int 48271)))) (ofP (aD .Mult (.int 7919) (.int k)))) (.ok (.fz (.int 12345)))) (.ok (.fz (.int 2147483647)))) R.ok) (by kernel_rfl) ?_;rw[uO n s (by exact Fi h),show aB .Mult (.ok (.fz (.int (dH s (2+k.fmod 24))))) (.ok (.fz (.int 48271)))=.ok (.fz (.int (dH s (2+k.fmod 24)*48271))) from congrArg ofP (iD _ (by decide)),lO _ (by decide)];rfl
theorem Cg{n:Nat}{m:Int}(h0:0≤m)(h1:m < n):∃ k:Nat,k∈List.range n∧m=k:=by
 obtain⟨k,rfl⟩:=Int.eq_ofNat_of_zero_le h0;exact⟨k,List.mem_range.mpr (Int.ofNat_lt.mp h1),rfl⟩
theorem T7{m:Int}(h:0≤m∧m < 14):∃ i:Int,aK iH (aB .Mult (.ok (.fz (.str (so "37")))) (.ok (.fz (.int (1+m)))))=.ok (.fz (.int i))∧0≤i∧i < 10 ^ 28:=by
 have all:∀ k∈List.range 14,∃ i:Int,aK iH (aB .Mult (.ok (.fz (.str (so "37")))) (.ok (.fz (.int (1+(k:Int))))))=.ok (.fz (.int i))∧0≤i∧i < 10 ^ 28:=by
  rw[show List.range 14=[0,1,2,3,4,5,6,7,8,9,10,11,12,13] from rfl]
  repeat rw[List.forall_mem_cons]
  exact⟨⟨37,by kernel_rfl,by decide⟩,⟨3737,by kernel_rfl,by decide⟩,⟨373737,by kernel_rfl,by decide⟩,⟨37373737,by kernel_rfl,by decide⟩,⟨3737373737,by kernel_rfl,by decide⟩,⟨373737373737,by kernel_rfl,by decide⟩,⟨37373737373737,by kernel_rfl,by decide⟩,⟨3737373737373737,by kernel_rfl,by decide⟩,⟨373737373737373737,by kernel_rfl,by decide⟩,⟨37373737373737373737,by kernel_rfl,by decide⟩,⟨3737373737373737373737,by kernel_rfl,by decide⟩,⟨373737373737373737373737,by kernel_rfl,by decide⟩,⟨37373737373737373737373737,by kernel_rfl,by decide⟩,⟨3737373737373737373737373737,by kernel_rfl,by decide⟩,fun _ h=>nomatch h⟩
 obtain⟨k,hk,rfl⟩:=Cg h.1 h.2;exact all k hk
inductive RInt(r:R V)(b:Nat):Prop where
 |mk (i:Int) (e:r=.ok (.fz (.int i))) (h:i.natAbs < b):RInt r b
theorem RInt.of{r r':R V}{b:Nat}(h:r=r')(x:RInt r' b):RInt r b:=h▸x
theorem nb4{m q:Int}(hm:0≤m∧m < 4)(hq:0≤q∧q < 3):RInt (rb (aB .Add (aI (e8 (cG [(ofP (aD .Pow (.int 10) (.int 20))),(unS .USub (ofP (aD .Pow (.int 10) (.int 20)))),(ofP (aD .Pow (.int 10) (.int 12))),(.ok (.fz (.int 0)))])) (.ok (.fz (.int m)))) (.ok (.fz (.int q)))) R.ok) big:=by
 have all:∀ k∈List.range 4,∃ i:Int,rb (aB .Add (aI (e8 (cG [(ofP (aD .Pow (.int 10) (.int 20))),(unS .USub (ofP (aD .Pow (.int 10) (.int 20)))),(ofP (aD .Pow (.int 10) (.int 12))),(.ok (.fz (.int 0)))])) (.ok (.fz (.int (k:Int))))) (.ok (.fz (.int q)))) R.ok=.ok (.fz (.int (i+q)))∧i.natAbs≤10 ^ 20:=by
  rw[show List.range 4=[0,1,2,3] from rfl]
  repeat rw[List.forall_mem_cons]
  exact⟨⟨10 ^ 20,by kernel_rfl,by decide⟩,⟨-10 ^ 20,by kernel_rfl,by decide⟩,⟨10 ^ 12,by kernel_rfl,by decide⟩,⟨0,by kernel_rfl,by decide⟩,fun _ h=>nomatch h⟩
 obtain⟨k,hk,rfl⟩:=Cg hm.1 hm.2;obtain⟨i,e,hi⟩:=all k hk;exact⟨i+q,e,by unfold big;omega⟩
theorem uP(n:Nat)(c:Int):RInt (rn (n+1) "_law_number" [.fz (.int c)]) big:=by
 rw[P7];refine RInt.of (r':=(if (c.fmod 5==4)=true then rb (aB .Add (aI (e8 (cG [(ofP (aD .Pow (.int 10) (.int 20))),(unS .USub (ofP (aD .Pow (.int 10) (.int 20)))),(ofP (aD .Pow (.int 10) (.int 12))),(.ok (.fz (.int 0)))])) (.ok (.fz (.int ((c.fdiv 5).fmod 4))))) (.ok (.fz (.int ((c.fdiv 20).fmod 3))))) R.ok else if (c.fmod 5==3)=true then rb (aB .Sub (aB .Mod (ofP (aD .Mult (.int (c.fdiv 5)) (.int 48271))) (.ok (.fz (.int 2000003)))) (.ok (.fz (.int 1000001)))) R.ok else if (c.fmod 15==2)=true then rb (aB .Mult (aK iH (aB .Mult (.ok (.fz (.str (so "37")))) (.ok (.fz (.int (1+(c.fdiv 15).fmod 14)))))) (aB .Sub (.ok (.fz (.int 1))) (ofP (aD .Mult (.int ((c.fdiv 210).fmod 2)) (.int 2))))) R.ok else R.ok (.fz (.int ((c.fdiv 5).fmod 9 - 4))))) (by kernel_rfl) ?_
 split
 ·exact nb4 (aU _ (by decide)) (aU _ (by decide))
 split
 ·rw[iD _ (by decide)];refine⟨(c.fdiv 5*48271).fmod 2000003 - 1000001,rfl,?_⟩;have:=aU (c.fdiv 5*48271) (n:=2000003) (by decide);unfold big;omega
 split
 ·obtain⟨i,hi,hb⟩:=T7 (aU (c.fdiv 15) (n:=14) (by decide));have hq:=aU (c.fdiv 210) (n:=2) (by decide);rw[hi,iD _ (by decide)];refine⟨i*(1 - (c.fdiv 210).fmod 2*2),?_,?_⟩
  ·show rb (ofP (aD .Mult (.int i) (.int (1 - (c.fdiv 210).fmod 2*2)))) R.ok=_;rw[iD _ (by omega)];rfl
  ·have:(c.fdiv 210).fmod 2=0∨(c.fdiv 210).fmod 2=1:=by exact vN hq
   unfold big;rcases this with h | h<;>rw[h]<;>omega
 ·refine⟨_,rfl,?_⟩;have:=aU (c.fdiv 5) (n:=9) (by decide);unfold big;omega
theorem T8:∀ (r:List Nat) (acc:Array Nat),(r.map fun c=>(⟨#[c]⟩:Str)).foldl (fun acc p=>acc++(so "").cps++p.cps) acc=acc++r.toArray:=by
 intro v0
 induction v0 with
 |nil =>
  intro acc;simp
 |cons c r ih =>
  intro acc;simp only[List.map_cons,List.foldl_cons];rw[ih];have:(so "").cps=#[]:=rfl;rw[this];simp
theorem T9(cs:List Nat):Txt.join (so "") (cs.map fun c=>⟨#[c]⟩)=⟨cs.toArray⟩:=by
 show Builtin.Str.glued _ _=_;unfold Builtin.Str.glued;cases cs with
 |nil=>rfl
 |cons c r =>
  simp only[List.map_cons,List.drop_succ_cons,List.drop_zero,List.headD_cons];rw[T8];simp
theorem Ch:∀ cs:List Nat,strs? (cs.map bO)=some (cs.map fun c=>⟨#[c]⟩)
 | []=>rfl
 |c::r=>by
  show(strs? (r.map bO)).map (_::·)=_;rw[Ch r];rfl
theorem Ua:∀ (cs:List Nat) (a:Nat),(cs.map fun c=>(⟨#[c]⟩:Str)).foldl (fun x y=>x+y.length+(so "").length) a=a+cs.length:=by
 intro v0
 induction v0 with
 |nil =>
  intro a;simp
 |cons c r ih =>
  intro a;simp only[List.map_cons,List.foldl_cons];rw[ih];have:(so "").length=0:=rfl;have h1:(⟨#[c]⟩:Str).length=1:=rfl;rw[this,h1];simp;exact Fj
theorem Ci{cs:List Nat}(h:cs.length≤1000):eU (.str (so "")) [.list (cs.map bO)]=.ok (.fz (.str ⟨cs.toArray⟩)):=by
 have e:eU (.str (so "")) [.list (cs.map bO)]=(ofO (strs? (cs.map bO))).bind fun l=>if JoinOk (so "") l then fz (.str (Txt.join (so "") l)) else .no:=rfl;rw[e,Ch,fE,fD];have hj:JoinOk (so "") (cs.map fun c=>⟨#[c]⟩)=true:=by
  unfold JoinOk Builtin.Str.tooLong;rw[List.foldl_toArray',Ua]<;>simp[sizeLine];exact Fk h
 rw[if_pos hj,T9];rfl
theorem pC{n:Nat}{a:Int}(h0:0≤a)(h1:a≤n):clipAt n a=a.toNat:=by
 unfold clipAt;rw[if_neg (Int.not_lt.mpr h0),Int.min_eq_left h1,Int.max_eq_right h0]
theorem Ub{n:Nat}{a:Int}(h0:0≤a)(h1:(n:Int)≤a):clipAt n a=n:=by
 unfold clipAt;rw[if_neg (Int.not_lt.mpr h0),Int.min_eq_right h1,Int.max_eq_right (Int.natCast_nonneg n),Int.toNat_natCast]
theorem Cj{α:Type}(l:List α){k:Int}(h:0≤k):slice l none (some k)=l.take k.toNat:=by
 show(l.drop 0).take (clipAt l.length k - 0)=_;rw[List.drop_zero,Nat.sub_zero];rcases Int.le_total k l.length with hk | hk
 ·rw[pC h hk]
 ·rw[Ub h hk,List.take_of_length_le (Nat.le_refl _),List.take_of_length_le];have:=Int.toNat_le_toNat hk
  rwa [Int.toNat_natCast] at this
noncomputable def LET:Str:=so "abcdefghijklmnopqrstuvwxyz"
noncomputable def ltr(m:Int):Nat:=(LET.cps[m.toNat]?).getD 0
theorem Ck:∀ i:_root_.Fin 26,(LET.cps[i.val]?).isSome=true∧inL ((LET.cps[i.val]?).getD 0)=true∧(LET.cps[i.val]?).getD 0 < 16 ^ 8:=by decide +kernel
theorem uQ(x:Int):getItem (.str (so "abcdefghijklmnopqrstuvwxyz")) (.int (x.fmod 26))=.ok (.fz (bO (ltr (x.fmod 26)))):=by
 have h:=aU x (n:=26) (by decide);show(if 0≤x.fmod 26∧x.fmod 26 < LET.cps.size then frz (LET.cps[(x.fmod 26).toNat]?.map bO) else .no)=_;rw[if_pos ⟨h.1,by show _ < ((26:Nat):Int);exact Fl h⟩];have hs:(LET.cps[(x.fmod 26).toNat]?).isSome=true:=(Ck ⟨(x.fmod 26).toNat,by exact lW h⟩).1;unfold ltr;cases e:LET.cps[(x.fmod 26).toNat]? with
 |none=>rw[e] at hs;exact bft hs
 |some c=>rfl
theorem uR{a:Int}(ha:0≤a∧a < 26):inL (ltr a)=true∧ltr a < 16 ^ 8:=(Ck ⟨a.toNat,by exact lW ha⟩).2
theorem Cl{a b:Int}(ha:0≤a∧a < 26)(hb:0≤b∧b < 26)(h:ltr a=ltr b):a=b:=by
 have key:∀ i j:_root_.Fin 26,(LET.cps[i.val]?).getD 0=(LET.cps[j.val]?).getD 0→i=j:=by decide +kernel
 have:=key ⟨a.toNat,by exact lW ha⟩ ⟨b.toNat,by exact lW hb⟩ h;have:=congrArg _root_.Fin.val this;simp at this;exact Fm ha hb this
noncomputable def eN(c:Int):List Nat:=[0,1,2,3,4,5,6,7].map fun j:Int=>ltr ((c.fdiv 8+5*j).fmod 26)
noncomputable def nm(c k:Int):List Nat :=
 if (c.fdiv 1664).fmod 3=1 then ((eN c).set 0 (ltr ((c.fdiv 8+k.fdiv 8).fmod 26))).take (1+k.fmod 8).toNat
 else ((eN c).set ((c.fdiv 208).fmod (1+c.fmod 8)).toNat (ltr ((c.fdiv 8+7+k).fmod 26))).take (1+c.fmod 8).toNat
theorem Cm{cs:List Nat}{k:Int}(h:0≤k∧k < cs.length)(x:Nat):Mine.setItem (.list (cs.map bO)) (.int k) (bO x)=.ok (.list ((cs.set k.toNat x).map bO)):=by
 show(if 0≤k∧k < (cs.map bO).length then P.ok (PyData.list ((cs.map bO).set k.toNat (bO x))) else .no)=_;rw[if_pos (by simpa using h),List.map_set]
theorem Uc(c:Int):aN (rgI (.ok (.fz (.int 8)))) (fun d2=>(.ok true)) (fun d2=>(aI (.ok (.str (so "abcdefghijklmnopqrstuvwxyz"))) (aB .Mod (aB .Add (ofP (aD .FloorDiv (.int c) (.int 8))) (ofP (aD .Mult (.int 5) d2))) (.ok (.fz (.int 26))))))=.ok (.own (.list ((eN c).map bO))):=by
 rw[show rgI (.ok (.fz (.int 8)))=.ok ([0,1,2,3,4,5,6,7].map PyData.int) from by kernel_rfl,uN,lD (g:=fun d=>match d with | .int j=>bO (ltr ((c.fdiv 8+5*j).fmod 26)) | d=>d)]
 ·rfl
 ·intro d hd;obtain⟨j,_,rfl⟩:=List.mem_map.mp hd;refine⟨rfl,.fz (bO (ltr ((c.fdiv 8+5*j).fmod 26))),?_,rfl⟩;refine Eq.trans (b:=ofP (getItem (.str (so "abcdefghijklmnopqrstuvwxyz")) (.int ((c.fdiv 8+5*j).fmod 26)))) (by kernel_rfl) ?_;rw[uQ];rfl
theorem iE(c:Int):(eN c).length=8:=rfl
theorem Ud(n:Nat)(c k:Int):rn (n+1) "_law_name" [.fz (.int c),.fz (.int k)]=.ok (.fz (.str ⟨(nm c k).toArray⟩)):=by
 rw[P5];have h8:=aU c (n:=8) (by decide);have k8:=aU k (n:=8) (by decide);have hp:=aU (c.fdiv 208) (n:=1+c.fmod 8) (by exact Fn h8);rw[Uc c];refine Eq.trans (b:=if ((c.fdiv 1664).fmod 3==1)=true then rb (ofP (getItem (.str (so "abcdefghijklmnopqrstuvwxyz")) (.int ((c.fdiv 8+k.fdiv 8).fmod 26)))) (fun v=>rb (ofP (Mine.setItem (.list ((eN c).map bO)) (.int 0) (dOf v))) fun o=>rb (rb (rb (ofP (iG o none (some (1+k.fmod 8)))) fun v=>.ok [v.clear]) fun as=>ofP (eU (.str (so "")) (b6 as))) R.ok) else rb (ofP (getItem (.str (so "abcdefghijklmnopqrstuvwxyz")) (.int ((c.fdiv 8+7+k).fmod 26)))) (fun v=>rb (ofP (aD .Mod (.int (c.fdiv 208)) (.int (1+c.fmod 8)))) fun i=>rb (ofP (Mine.setItem (.list ((eN c).map bO)) (dOf i) (dOf v))) fun o=>rb (rb (rb (ofP (iG o none (some (1+c.fmod 8)))) fun v=>.ok [v.clear]) fun as=>ofP (eU (.str (so "")) (b6 as))) R.ok)) (by kernel_rfl) ?_;unfold nm
 by_cases h:(c.fdiv 1664).fmod 3=1
 ·rw[if_pos (by simpa using h),if_pos h,uQ,aJ,aF,fQ,Cm (by simp[iE]),aJ,aF];show rb (ofP (eU (.str (so "")) [.list (slice (((eN c).set 0 _).map bO) none (some (1+k.fmod 8)))])) R.ok=_;rw[Cj _ (by exact vO k8),← List.map_take,Ci (by simp[iE];exact vP)];rfl
 ·rw[if_neg (by simpa using h),if_neg h,uQ,aJ,aF,fQ,gK _ (by exact Fo h8),aJ,aF,fQ,Cm (by simp[iE];exact Fp h8 hp),aJ,aF];show rb (ofP (eU (.str (so "")) [.list (slice (((eN c).set _ _).map bO) none (some (1+c.fmod 8)))])) R.ok=_;rw[Cj _ (by exact vO h8),← List.map_take,Ci (by simp[iE];exact vP)];rfl
theorem Ue(c k:Int):okN ⟨(nm c k).toArray⟩:=by
 have base:∀ x∈eN c,inL x=true∧x < 16 ^ 8:=by
  intro x hx;obtain⟨j,_,rfl⟩:=List.mem_map.mp hx;exact uR (aU _ (by decide))
 have h8:=aU c (n:=8) (by decide);have k8:=aU k (n:=8) (by decide);refine⟨?_,?_,fun x hx=>?_⟩
 ·show 1≤(nm c k).toArray.size;rw[List.size_toArray];unfold nm
  split<;>simp[iE]<;>lia
 ·show(nm c k).toArray.size≤8;rw[List.size_toArray];unfold nm
  split<;>simp[iE]<;>lia
 ·have hx:x∈nm c k:=by simpa using hx
  unfold nm at hx
  split at hx
  ·rcases List.mem_or_eq_of_mem_set (List.mem_of_mem_take hx) with h | h
   ·exact base x h
   ·rw[h];exact uR (aU _ (by decide))
  ·rcases List.mem_or_eq_of_mem_set (List.mem_of_mem_take hx) with h | h
   ·exact base x h
   ·rw[h];exact uR (aU _ (by decide))
theorem Cn{x a b:Int}(ha:0≤a∧a < 26)(hb:0≤b∧b < 26)(h:(x+a).fmod 26=(x+b).fmod 26):a=b:=by
 rw[Int.fmod_eq_emod_of_nonneg _ (by decide),Int.fmod_eq_emod_of_nonneg _ (by decide)] at h;exact Fq ha hb h
theorem fd8{k:Int}(hk:0≤k∧k < 14):0≤k.fdiv 8∧k.fdiv 8 < 26:=by
 rw[Int.fdiv_eq_ediv_of_nonneg _ (by decide)];exact Fs hk
theorem ml8{a b:Int}(ha:0≤a∧a < 8)(hb:0≤b∧b < 8)(h:min (1+a).toNat 8=min (1+b).toNat 8):a=b:=by exact Ft ha hb h
theorem po8{a:Int}(ha:0≤a∧a < 8):0 < (1+a).toNat:=by exact Fu ha
theorem lt8{a b:Int}(ha:0≤a∧a < 8)(hb:0≤b∧b < 1+a):b.toNat < 8∧b.toNat < (1+a).toNat:=by exact Fv ha hb
theorem Uf{c k k':Int}(hk:0≤k∧k < 14)(hk':0≤k'∧k' < 14)(h:nm c k=nm c k'):k=k':=by
 unfold nm at h
 by_cases hc:(c.fdiv 1664).fmod 3=1
 ·rw[if_pos hc,if_pos hc] at h;have hl:=congrArg List.length h;simp only[List.length_take,List.length_set,iE] at hl;have h8:=ml8 (aU k (by decide)) (aU k' (by decide)) hl;have he:=congrArg (fun l=>l[0]?) h;simp only[List.getElem?_take,List.getElem?_set,if_pos (po8 (aU k (n:=8) (by decide))),if_pos (po8 (aU k' (n:=8) (by decide))),if_pos (show 0 < (eN c).length from Nat.succ_pos 7),if_true] at he;have hl2:=Cn (fd8 hk) (fd8 hk') (Cl (aU _ (by decide)) (aU _ (by decide)) (si he));rw[← Int.mul_fdiv_add_fmod k 8,← Int.mul_fdiv_add_fmod k' 8,hl2,h8]
 ·rw[if_neg hc,if_neg hc] at h;have h8:=aU c (n:=8) (by decide);obtain⟨h1,h2⟩:=lt8 h8 (aU (c.fdiv 208) (n:=1+c.fmod 8) (Int.lt_add_one_of_le h8.1 |> fun h=>by rw[Int.add_comm];exact h));have he:=congrArg (fun l=>l[((c.fdiv 208).fmod (1+c.fmod 8)).toNat]?) h;simp only[List.getElem?_take,List.getElem?_set,if_pos h2,if_pos (show _ < (eN c).length from h1),if_true] at he;exact Cn ⟨hk.1,Int.lt_trans hk.2 (by decide)⟩ ⟨hk'.1,Int.lt_trans hk'.2 (by decide)⟩ (Cl (aU _ (by decide)) (aU _ (by decide)) (si he))
noncomputable def nsI:List Int:=[0,1,2,3,4,5,6,7,8,9,10,11,12,13]
noncomputable def nms(c:Int):List Str:=nsI.map fun k=>⟨(nm c k).toArray⟩
theorem Ug(c:Int):Wld (nms c):=by
 refine⟨rfl,?_,fun x hx=>?_⟩
 ·refine List.Pairwise.map _ (R:=fun a b=>(0≤a∧a < 14)∧(0≤b∧b < 14)∧a≠b) (fun a b h e=>?_) (by unfold nsI;decide);have:(nm c a).toArray=(nm c b).toArray:=Str.mk.inj e;exact h.2.2 (Uf h.1 h.2.1 (by simpa using congrArg Array.toList this))
 ·obtain⟨k,_,rfl⟩:=List.mem_map.mp hx;exact Ue c k
noncomputable def NL(N:List Str):PyData:=.list (N.map .str)
theorem Uh(n:Nat)(s:List Int):rn (n+2) "_law_names" [.fz (Li s)]=.ok (.own (NL (nms (dH s 0)))):=by
 rw[P6];rw[show rgI (.ok (.fz (.int 14)))=.ok (nsI.map PyData.int) from by kernel_rfl,uN,lD (g:=fun d=>match d with | .int k=>.str ⟨(nm (dH s 0) k).toArray⟩ | d=>d)]
 ·rfl
 ·intro d hd;obtain⟨j,_,rfl⟩:=List.mem_map.mp hd;refine⟨rfl,.fz (.str ⟨(nm (dH s 0) j).toArray⟩),?_,rfl⟩;rw[uO n s (by decide)];exact Ud n _ _
end Mine
namespace Mine
open PySem
theorem uS(x y:Int):aD .Add (.int x) (.int y)=.ok (.fz (.int (x+y))):=rfl
theorem uT(x y:Int):aD .Sub (.int x) (.int y)=.ok (.fz (.int (x - y))):=rfl
theorem pD(x:Int){y:Int}(h:y≠0∧y.natAbs < 2 ^ 63):aD .FloorDiv (.int x) (.int y)=.ok (.fz (.int (x.fdiv y))):=if_pos h
theorem uU(x y:Int):cmp .Lt (.int x) (.int y)=.ok (decide (x < y)):=rfl
theorem uV(x y:Int):cmp .Gt (.int x) (.int y)=.ok (decide (y < x)):=rfl
theorem uW(x y:Int):cmp .Eq (.int x) (.int y)=.ok (x==y):=rfl
end Mine
namespace Mine
open PySem
variable {N:List Str} {m:Nat}
noncomputable def Tr(N:List Str)(m:Nat)(d:PyData):Prop:=∃ t,Sem N m d t
noncomputable def BT(N:List Str)(m:Nat)(l:LP):Prop:=∃ f,Bld N m l f
theorem BT.nil:BT N m []:=⟨_,Bld.nil⟩
theorem BT.set{l:LP}(B:BT N m l){k:Str}{d:PyData}(hk:k∈N)(h:Tr N m d):BT N m (st l k d):=by
 obtain⟨f,B⟩:=B;obtain⟨t,h⟩:=h;exact⟨_,B.set hk h⟩
theorem BT.toTr{l:LP}(B:BT N m l):Tr N (m+1) (.dict (mkd l)):=by obtain⟨f,B⟩:=B;exact⟨_,B.toSem⟩
theorem BT.lt(H:Wld N){l:LP}(B:BT N m l){k:Nat}(hk:14 < k):l.length < k:=by obtain⟨f,B⟩:=B;exact B.lt H hk
theorem Tr.int{i:Int}(h:i.natAbs < big):Tr N m (.int i):=⟨_,.num h⟩
theorem Tr.mono{m':Nat}{d:PyData}(h:Tr N m d)(hm:m≤m'):Tr N m' d:=by obtain⟨t,h⟩:=h;exact⟨t,h.mono hm⟩
inductive NlA(N:List Str)(i:Int)(r:P V):Prop where
 |mk (x:Str) (h:x∈N) (g:N[i.toNat]?=some x) (e:r=.ok (.fz (.str x))):NlA N i r
theorem c7(H:Wld N){i:Int}(h:0≤i∧i < 14):NlA N i (getItem (NL N) (.int i)):=by
 have hl:i.toNat < N.length:=by rw[H.len];exact Fw h
 refine⟨N[i.toNat],List.getElem_mem hl,List.getElem?_eq_getElem hl,lP h.1 ?_⟩;rw[List.getElem?_map,List.getElem?_eq_getElem hl];rfl
theorem Ui:∀ {fs:List Str} {i:Int} {d:PyData},d∈dK i (fs.map .str)→∃ j f,d=.tuple [.int j,.str f]∧f∈fs:=by
 intro v0
 induction v0 with
 |nil =>
  intro _ _ h;exact cL h
 |cons x r ih =>
  intro i d h;rcases List.mem_cons.mp (show d∈.tuple [.int i,.str x]::dK (i+1) (r.map .str) from h) with rfl | h
  ·exact⟨i,x,rfl,by simp⟩
  ·obtain⟨j,f,e,hf⟩:=ih h;exact⟨j,f,e,by simp[hf]⟩
theorem Co{q r l:List PyData}{x:PyData}(h:[]++l=q++x::r):x∈l:=by
 have:x∈q++x::r:=by simp
 rw[← h] at this;simpa using this
noncomputable def tS(s:List Int)(k:Int)(N fs:List Str)(c:LP)(j:PyData)(row:Option V)(o:Option V×Option V×Option V):aA:=cH (ζ (Li s)) (ζ (.int k)) (ζ (NL N)) (ζ (.list (fs.map .str))) (some (.own (.dict (mkd c)))) (ζ j) row o.1 o.2.1 o.2.2
theorem Uj(H:Wld N)(n:Nat)(s:List Int)(k j:Int){fs:List Str}(hf:∀ x∈fs,x∈N)(c:LP)(o:Option V×Option V×Option V):∃ r o',BT N 1 r∧∀ kn kr,aQ (kH (n+2)) kI (dK 0 (fs.map .str)) (tS s k N fs c (.int j) (some (.own (.dict []))) o) kn kr=kn (tS s k N fs c (.int j) (some (.own (.dict (mkd r)))) o'):=by
 have L:=iZ (S:=fun (r:LP) (o:Option V×Option V×Option V)=>tS s k N fs c (.int j) (some (.own (.dict (mkd r)))) o) (b:=kH (n+2)) (t:=kI) (l:=dK 0 (fs.map .str)) (p:=[]) (a:=[]) (j:=o) (I:=fun _ r=>BT N 1 r) (E:=fun _=>False) (Q:=fun _=>False) (fun q d r a o hq hi=>by
  obtain⟨i,f,rfl,hff⟩:=Ui (Co hq);obtain⟨x0,hx0,_,hg0⟩:=c7 H (i:=0) (by decide);have hb:∀ kn kr,(rb (ofP (aR kI (.tuple [.int i,.str f]) (tS s k N fs c (.int j) (some (.own (.dict (mkd a)))) o))) fun σ=>kH (n+2) σ kn kr)=if decide (0 < (bG s (k+10*j+i+1)).fmod 4)=true then rb (rn (n+2) "_law_number" [.fz (.int ((bG s (k+10*j+i+1)).fdiv 4))]) (fun v=>rb (ofP (Mine.setItem (.dict (mkd a)) (.str f) (dOf v))) fun o2=>kn (tS s k N fs c (.int j) (some (.own o2)) (some (.fz (.int i)),some (.fz (.str f)),some (.fz (.int (bG s (k+10*j+i+1))))))) else if ((bG s (k+10*j+i+1)).fmod 12==0)=true then rb (ofP (Mine.setItem (.dict (mkd a)) (.str f) (.dict (mkd [(x0,.int (((bG s (k+10*j+i+1)).fdiv 12).fmod 5))])))) fun o2=>kn (tS s k N fs c (.int j) (some (.own o2)) (some (.fz (.int i)),some (.fz (.str f)),some (.fz (.int (bG s (k+10*j+i+1)))))) else kn (tS s k N fs c (.int j) (some (.own (.dict (mkd a)))) (some (.fz (.int i)),some (.fz (.str f)),some (.fz (.int (bG s (k+10*j+i+1)))))):=fun kn kr=>by
   unfold tS;rw[Qc,aJ,aF,Qd,hg0];simp(decide:=true) only [aB,unS,aM,orS,ifS,cM,aC,e7,aI,bX,eH,aK,kE,aE,plI,rgI,enI,rvI,e8,bD,kF,
  aF,tD,aJ,dQ,fD,fE,bY,cY,k7,tE,fQ,k9,bZ,iA,dE,cO,oH,tF,tG,tH,oJ,tI,tJ,tK,tL,tM,tN,tO,lA,tP,tQ,tR,lC,oM,tT,tU,tV,tW,uS,uT,iD,lO,pD,gK,uU,uV,uW,gL,dY,nO]
   rfl
  have h0:0≤((bG s (k+10*j+i+1)).fdiv 12).fmod 5∧((bG s (k+10*j+i+1)).fdiv 12).fmod 5 < 5:=aU _ (by decide);obtain⟨v,hv1,hv2⟩:=uP (n+1) ((bG s (k+10*j+i+1)).fdiv 4);cases c1:decide (0 < (bG s (k+10*j+i+1)).fmod 4) with
  |true =>
   refine Out.kn (st a f (.int v)) (some (.fz (.int i)),some (.fz (.str f)),some (.fz (.int (bG s (k+10*j+i+1))))) (hi.set (hf f hff) (.int hv2)) fun kn kr=>(hb kn kr).trans ?_;rw[c1,bY,hv1,aF,fQ,cB f _ (hi.lt H (by decide))];rfl
  |false =>
   cases c2:((bG s (k+10*j+i+1)).fmod 12==0) with
   |true =>
    refine Out.kn (st a f (.dict (mkd [(x0,.int (((bG s (k+10*j+i+1)).fdiv 12).fmod 5))]))) (some (.fz (.int i)),some (.fz (.str f)),some (.fz (.int (bG s (k+10*j+i+1))))) (hi.set (hf f hff) ((BT.nil (m:=0)).set hx0 (.int (i:=((bG s (k+10*j+i+1)).fdiv 12).fmod 5) (by unfold big;omega))).toTr) fun kn kr=>(hb kn kr).trans ?_;rw[c1,cY,c2,bY,cB f _ (hi.lt H (by decide))];rfl
   |false =>
    refine Out.kn a (some (.fz (.int i)),some (.fz (.str f)),some (.fz (.int (bG s (k+10*j+i+1))))) hi fun kn kr=>(hb kn kr).trans ?_;rw[c1,cY,c2,cY]) BT.nil
 obtain⟨r,o',h1,h2⟩ | ⟨_,hx,_⟩ | ⟨_,hv,_⟩:=L
 ·exact⟨r,o',h1,h2⟩
 ·exact hx.elim
 ·exact hv.elim
inductive TabR(N:List Str)(r:R V):Prop where
 |mk (l:LP) (B:BT N 2 l) (e:r=.ok (.own (.dict (mkd l)))):TabR N r
theorem uX(H:Wld N)(n:Nat)(s:List Int)(k:Int){fs:List Str}(hf:∀ x∈fs,x∈N):TabR N (rn (n+3) "_law_table" [.fz (Li s),.fz (.int k),.fz (NL N),.fz (.list (fs.map .str))]):=by
 have L:=iZ (S:=fun (c:LP) (o:Option V×Option V×Option V×Option V×Option V)=>cH (ζ (Li s)) (ζ (.int k)) (ζ (NL N)) (ζ (.list (fs.map .str))) (some (.own (.dict (mkd c)))) o.1 o.2.1 o.2.2.1 o.2.2.2.1 o.2.2.2.2) (b:=n6 (n+2)) (t:=n7) (l:=[.int 0,.int 1,.int 2,.int 3]) (p:=[]) (a:=[]) (j:=(none,none,none,none,none)) (I:=fun _ r=>BT N 2 r) (E:=fun _=>False) (Q:=fun _=>False) (fun q d r c o hq hi=>by
  have hd:=Co hq;obtain⟨j,hj,rfl⟩:∃ j:Int,(0≤j∧j < 4)∧d=.int j:=by
   simp only[List.mem_cons,List.not_mem_nil,or_false] at hd;rcases hd with rfl | rfl | rfl | rfl
   ·exact⟨0,by decide,rfl⟩
   ·exact⟨1,by decide,rfl⟩
   ·exact⟨2,by decide,rfl⟩
   ·exact⟨3,by decide,rfl⟩
  obtain⟨x,hx,_,hg⟩:=c7 H (i:=9+j) (by exact Fx hj);obtain⟨r',o',hr,L2⟩:=Uj H n s k j hf c (o.2.2.1,o.2.2.2.1,o.2.2.2.2);have hb:∀ kn kr,(rb (ofP (aR n7 (.int j) (cH (ζ (Li s)) (ζ (.int k)) (ζ (NL N)) (ζ (.list (fs.map .str))) (some (.own (.dict (mkd c)))) o.1 o.2.1 o.2.2.1 o.2.2.2.1 o.2.2.2.2))) fun σ=>n6 (n+2) σ kn kr)=if decide (0 < (bG s (k+10*j)).fmod 3)=true then rb (ofP (Mine.setItem (.dict (mkd c)) (.str x) (.dict (mkd r')))) (fun o1=>kn (cH (ζ (Li s)) (ζ (.int k)) (ζ (NL N)) (ζ (.list (fs.map .str))) (some (.own o1)) (ζ (.int j)) (ζ (.dict (mkd r'))) o'.1 o'.2.1 o'.2.2)) else kn (cH (ζ (Li s)) (ζ (.int k)) (ζ (NL N)) (ζ (.list (fs.map .str))) (some (.own (.dict (mkd c)))) (ζ (.int j)) o.2.1 o.2.2.1 o.2.2.2.1 o.2.2.2.2):=fun kn kr=>by
   rw[P9,aJ,aF,Qa,show enI (.ok (.fz (.list (fs.map .str))))=.ok (dK 0 (fs.map .str)) from rfl,aF];have:=L2 (fun σ=>sQ (n+2) σ (fun σ=>stm BB (so "_law_table") (n+2) 23 (List.drop 1 (bM (List.drop 1 (aL BB (so "_law_table"))))) σ kn kr) kr) kr;unfold tS at this;rw[this,Qe];simp(decide:=true) only [aB,unS,aM,orS,ifS,cM,aC,e7,aI,bX,eH,aK,kE,aE,plI,rgI,enI,rvI,e8,bD,kF,
  aF,tD,aJ,dQ,fD,fE,bY,cY,k7,tE,fQ,k9,bZ,iA,dE,cO,oH,tF,tG,tH,oJ,tI,tJ,tK,tL,tM,tN,tO,lA,tP,tQ,tR,lC,oM,tT,tU,tV,tW,uS,uT,iD,lO,pD,gK,uU,uV,uW,gL,hg]
   rfl
  cases c1:decide (0 < (bG s (k+10*j)).fmod 3) with
  |true =>
   refine Out.kn (st c x (.dict (mkd r'))) (some (.fz (.int j)),some (.fz (.dict (mkd r'))),o'.1,o'.2.1,o'.2.2) (hi.set hx hr.toTr) fun kn kr=>(hb kn kr).trans ?_;rw[c1,bY,cB x _ (hi.lt H (by decide))];rfl
  |false =>
   refine Out.kn c (some (.fz (.int j)),o.2.1,o.2.2.1,o.2.2.2.1,o.2.2.2.2) hi fun kn kr=>(hb kn kr).trans ?_;rw[c1,cY]) BT.nil
 obtain⟨l,o',h1,h2⟩ | ⟨_,hx,_⟩ | ⟨_,hv,_⟩:=L
 ·refine⟨l,h1,?_⟩;rw[P8,show rgI (.ok (.fz (.int 4)))=.ok [.int 0,.int 1,.int 2,.int 3] from by kernel_rfl];exact(h2 _ _).trans (Qb ..)
 ·exact hx.elim
 ·exact hv.elim
end Mine
namespace Mine
open PySem
variable {N:List Str} {m:Nat}
theorem Cp(ps:LP):iK (mkd ps)=.ok (.own (.dict (mkd (sts ps [])))):=by
 show((ofO (keys? (mkd ps))).bind fun l=>own (.dict (cS l (mkd []))))=_;rw[mk_keys?,fE,fD,tA];rfl
theorem Cq(a:Str){r:R V}{v:V}{d:PyData}(hr:r=.ok v)(hv:v.clear=.fz d):dY [(.ok (.fz (.str a)),r)]=.ok (.own (.dict (mkd (sts [(a,d)] [])))):=by
 rw[hr,← eK hv];exact congrArg ofP (Cp [(a,dOf v)])
theorem Cr(a b:Str){r1 r2:R V}{v1 v2:V}{d1 d2:PyData}(hr1:r1=.ok v1)(hv1:v1.clear=.fz d1)(hr2:r2=.ok v2)(hv2:v2.clear=.fz d2):dY [(.ok (.fz (.str a)),r1),(.ok (.fz (.str b)),r2)]=.ok (.own (.dict (mkd (sts [(a,d1),(b,d2)] [])))):=by
 rw[hr1,hr2,← eK hv1,← eK hv2];exact congrArg ofP (Cp [(a,dOf v1),(b,dOf v2)])
theorem uY(lo hi:Option Int):iG (NL N) lo hi=.ok (.own (.list ((slice N lo hi).map .str))):=by
 show P.ok (V.own (.list (slice (N.map PyData.str) lo hi)))=_;unfold slice;rw[List.length_map,List.map_take,List.map_drop]
theorem pE{α:Type}{l:List α}{lo hi:Option Int}{x:α}(h:x∈slice l lo hi):x∈l:=List.mem_of_mem_drop (List.mem_of_mem_take h)
theorem Uk{a b c:PyData}{i:Int}(h:0≤i∧i < 3):∃ d,getItem (.list [a,b,c]) (.int i)=.ok (.fz d)∧(d=a∨d=b∨d=c):=by
 have:i=0∨i=1∨i=2:=by exact Fy h
 rcases this with rfl | rfl | rfl
 ·exact⟨a,rfl,.inl rfl⟩
 ·exact⟨b,rfl,.inr (.inl rfl)⟩
 ·exact⟨c,rfl,.inr (.inr rfl)⟩
theorem Cs(l:LP)(x:Str)(d:PyData):eU (.dict (mkd l)) [.str x,d]=.ok (.fz ((lk l x).getD d)):=by
 refine(if_neg (by rw[i7];decide)).trans ?_;show fz ((cC (mkd l) x).getD d)=_;rw[kX];rfl
theorem BT.get{l:LP}(B:BT N m l){x:Str}{d:PyData}(hd:Tr N m d):Tr N m ((lk l x).getD d):=by
 obtain⟨f,B⟩:=B;refine ocs (lk l x) (fun e=>?_) fun u e=>?_
 ·try rewrite[e]
  exact hd
 ·try rewrite[e]
  obtain⟨t,_,h⟩:=B.get' e;exact⟨t,h⟩
theorem Ul(H:Wld N)(n:Nat)(s:List Int){l:LP}(B:BT N m l)(hl:∀ i x,i < 5→N[i]?=some x→(lk l x).isSome=true) :
  ∃ l' o,BT N m l'∧∀ kn kr,aQ (kJ (n+2)) kK [.int 0,.int 1,.int 2,.int 3,.int 4] (dC (ζ (Li s)) (ζ (NL N)) (some (.own (.dict (mkd l)))) none) kn kr=kn (dC (ζ (Li s)) (ζ (NL N)) (some (.own (.dict (mkd l')))) o):=by
 have L:=iZ (S:=fun (c:LP) (o:Option V)=>dC (ζ (Li s)) (ζ (NL N)) (some (.own (.dict (mkd c)))) o) (b:=kJ (n+2)) (t:=kK) (l:=[.int 0,.int 1,.int 2,.int 3,.int 4]) (p:=[]) (a:=l) (j:=none) (I:=fun p c=>BT N m c∧∀ i x,p.length≤i→i < 5→N[i]?=some x→(lk c x).isSome=true) (E:=fun _=>False) (Q:=fun _=>False) (fun q d r c o hq hi=>by
  have hg:([.int 0,.int 1,.int 2,.int 3,.int 4]:List PyData)[q.length]?=some d:=by
   rw[show([.int 0,.int 1,.int 2,.int 3,.int 4]:List PyData)=q++d::r from hq];simp
  have hlt:q.length < 5:=(List.getElem?_eq_some_iff.mp hg).1;have hd:d=.int q.length:=by
   generalize q.length=k at hg hlt;have:k=0∨k=1∨k=2∨k=3∨k=4:=by exact vQ hlt
   rcases this with rfl | rfl | rfl | rfl | rfl<;>simpa using hg.symm
  subst hd;obtain⟨x,hx,hN,hgx⟩:=c7 H (i:=(q.length:Int)) (by exact Fz hlt);have hN:N[q.length]?=some x:=by simpa using hN
  obtain⟨dx,hdx⟩:=fF (hi.2 q.length x (Nat.le_refl _) hlt hN);have hb:∀ kn kr,(rb (ofP (aR kK (.int q.length) (dC (ζ (Li s)) (ζ (NL N)) (some (.own (.dict (mkd c)))) o))) fun σ=>kJ (n+2) σ kn kr)=if ((bG s (200+q.length)).fmod 9==0)=true then kn (dC (ζ (Li s)) (ζ (NL N)) (some (.own (.dict (mkd (dl c x))))) (ζ (.int q.length))) else kn (dC (ζ (Li s)) (ζ (NL N)) (some (.own (.dict (mkd c)))) (ζ (.int q.length))):=fun kn kr=>by
   rw[Qg,aJ,aF,Qh,hgx];have e:gY (.ok (.dict (mkd c))) (so "pop") [ofP (.ok (.fz (.str x)))] (fun o1=>kn (dC (ζ (Li s)) (ζ (NL N)) (some (.own o1)) (ζ (.int q.length))))=kn (dC (ζ (Li s)) (ζ (NL N)) (some (.own (.dict (mkd (dl c x))))) (ζ (.int q.length))):=by
    show rb (ofP (if (cC (mkd c) x).isSome then P.ok (PyData.dict (eR (mkd c) x)) else .no)) _=_;rw[kX,hdx,Rj];rfl
   rw[e];simp(decide:=true) only [aB,unS,aM,orS,ifS,cM,aC,e7,aI,bX,eH,aK,kE,aE,plI,rgI,enI,rvI,e8,bD,kF,
  aF,tD,aJ,dQ,fD,fE,bY,cY,k7,tE,fQ,k9,bZ,iA,dE,cO,oH,tF,tG,tH,oJ,tI,tJ,tK,tL,tM,tN,tO,lA,tP,tQ,tR,lC,oM,tT,tU,tV,tW,uS,uT,iD,lO,pD,gK,uU,uV,uW,gL]
  cases c1:((bG s (200+q.length)).fmod 9==0) with
  |true =>
   obtain⟨⟨f,Bf⟩,h2⟩:=hi;refine Out.kn (dl c x) (ζ (.int q.length)) ⟨⟨_,Bf.del x⟩,fun i y h3 h4 h5=>?_⟩ fun kn kr=>(hb kn kr).trans (by rw[c1,bY]);rw[List.length_append,List.length_singleton] at h3;rw[(A9 x Bf.nd).2.2,if_neg]
   ·exact h2 i y (by exact vR h3) h4 h5
   ·intro e;subst e;have h6:=List.getElem?_eq_some_iff.mp h5;have h7:=List.getElem?_eq_some_iff.mp hN;have:=(List.getElem_inj (h₀:=h6.1) (h₁:=h7.1) H.nd).mp (h6.2.trans h7.2.symm);lia
  |false =>
   refine Out.kn c (ζ (.int q.length)) ⟨hi.1,fun i y h3 h4 h5=>?_⟩ fun kn kr=>(hb kn kr).trans (by rw[c1,cY]);rw[List.length_append,List.length_singleton] at h3;exact hi.2 i y (by exact vR h3) h4 h5) ⟨B,fun i x _ h1 h2=>hl i x h1 h2⟩
 obtain⟨l',o',h1,h2⟩ | ⟨_,hx,_⟩ | ⟨_,hv,_⟩:=L
 ·exact⟨l',o',h1.1,h2⟩
 ·exact hx.elim
 ·exact hv.elim
theorem Um(H:Wld N)(n:Nat)(s:List Int):Gives (rn (n+4) "_law_house" [.fz (Li s),.fz (NL N)]) fun d=>Tr N 5 d:=by
 obtain⟨x0,m0,i0,g0⟩:=c7 H (i:=0) (by decide);obtain⟨x1,m1,i1,g1⟩:=c7 H (i:=1) (by decide);obtain⟨x2,m2,i2,g2⟩:=c7 H (i:=2) (by decide);obtain⟨x3,m3,i3,g3⟩:=c7 H (i:=3) (by decide);obtain⟨x4,m4,i4,g4⟩:=c7 H (i:=4) (by decide);obtain⟨x5,m5,_,g5⟩:=c7 H (i:=5) (by decide);obtain⟨x6,m6,_,g6⟩:=c7 H (i:=6) (by decide);obtain⟨v1,a1,b1⟩:=uP (n+2) (bG s 1);obtain⟨v2,a2,b2⟩:=uP (n+2) (bG s 2);obtain⟨l2,t2,e2⟩:=uX H n s 20 (fs:=slice N (some 5) (some 7)) fun x hx=>pE hx;obtain⟨l3,t3,e3⟩:=uX H n s 70 (fs:=slice N (some 7) (some 9)) fun x hx=>pE hx;obtain⟨l4,t4,e4⟩:=uX H n s 120 (fs:=slice N (some 5) (some 9)) fun x hx=>pE hx;have q1:aE (rn (n+3) "_law_number") [rn (n+3) "_law_mixed" [.fz (Li s),.fz (.int 1)]]=.ok (.fz (.int v1)):=by rw[gL (n+1)];exact a1
 have q2:aE (rn (n+3) "_law_number") [rn (n+3) "_law_mixed" [.fz (Li s),.fz (.int 2)]]=.ok (.fz (.int v2)):=by rw[gL (n+1)];exact a2
 have tt:∀ (k:Int) lo hi {l:LP},rn (n+3) "_law_table" [.fz (Li s),.fz (.int k),.fz (NL N),.fz (.list ((slice N (some lo) (some hi)).map .str))]=.ok (.own (.dict (mkd l)))→aE (rn (n+3) "_law_table") [.ok (.fz (Li s)),.ok (.fz (.int k)),.ok (.fz (NL N)),bX (.ok (NL N)) (some (.ok (.fz (.int lo)))) (some (.ok (.fz (.int hi))))]=.ok (.own (.dict (mkd l))):=fun k lo hi l h=>by
  rw[show bX (.ok (NL N)) (some (.ok (.fz (.int lo)))) (some (.ok (.fz (.int hi))))=.ok (.own (.list ((slice N (some lo) (some hi)).map .str))) from congrArg ofP (uY _ _)];exact h
 have sl:∀ (l:LP) (x:Str) (r:R V) (v:V) (d:PyData) (k:PyData→R V),r=.ok v→v.clear=.fz d→l.length < aX→bD r (.ok (.dict (mkd l))) (.ok (.fz (.str x))) k=k (.dict (mkd (st l x d))):=fun l x r v d k h1 h2 h3=>by
  rw[h1];show rb (ofP (Mine.setItem (.dict (mkd l)) (.str x) (dOf v))) k=_;rw[eK h2,cB x d h3];rfl
 have B0:BT N 4 (sts [(x0,.int v1)] []):=BT.nil.set m0 (.int b1);have T1:Tr N 4 (.dict (mkd (sts [(x5,.int v2),(x6,.dict (mkd (sts [(x0,.int 3)] [])))] []))) :=
  Tr.mono (BT.toTr (m:=1) ((BT.nil.set m5 (.int b2)).set m6 (BT.toTr (m:=0) (BT.nil.set m0 (.int (by decide)))))) (by decide)
 have B1:=B0.set m1 T1;have B2:=B1.set m2 (t2.toTr.mono (by decide));have B3:=B2.set m3 (t3.toTr.mono (by decide));have T4:Tr N 4 (.dict (mkd (sts [(x2,.dict (mkd l4)),(x0,.int 1)] []))):=BT.toTr (m:=3) ((BT.nil.set m2 t4.toTr).set m0 (.int (by decide)));have B4:=B3.set m4 T4;obtain⟨l',o,hB,hL⟩:=Ul H (n+1) s B4 fun i x hi hx=>by
  have h1:∀ {y z:Str} {d:PyData} {l:LP},(lk l y).isSome=true→(lk (st l z d) y).isSome=true:=fun {y z d l} h=>by
   rw[kY];split
   ·rfl
   ·exact h
  have h2:∀ {y:Str} {d:PyData} {l:LP},(lk (st l y d) y).isSome=true:=fun {y d l}=>by rw[kY,if_pos rfl];rfl
  have:i=0∨i=1∨i=2∨i=3∨i=4:=by exact vQ hi
  rcases this with rfl | rfl | rfl | rfl | rfl
  ·rw[show N[0]?=some x0 from i0] at hx;obtain rfl:=si hx;exact h1 (h1 (h1 (h1 h2)))
  ·rw[show N[1]?=some x1 from i1] at hx;obtain rfl:=si hx;exact h1 (h1 (h1 h2))
  ·rw[show N[2]?=some x2 from i2] at hx;obtain rfl:=si hx;exact h1 (h1 h2)
  ·rw[show N[3]?=some x3 from i3] at hx;obtain rfl:=si hx;exact h1 h2
  ·rw[show N[4]?=some x4 from i4] at hx;obtain rfl:=si hx;exact h2
 obtain⟨d,hd1,hd2⟩:=Uk (a:=.dict (mkd l')) (b:=(lk l' x2).getD (.dict [])) (c:=(lk l' x4).getD (.int 5)) (aU ((dH s 1).fmod 5) (n:=3) (by decide));refine⟨.fz d,d,?_,rfl,?_⟩
 ·rw[Qf,g0,g1,g2,g3,g4,g5,g6];simp only[aJ];rw[Cq x0 q1 rfl,aF,Cq x0 (r:=.ok (.fz (.int 3))) rfl rfl,Cr x5 x6 q2 rfl rfl rfl,oJ,aJ,sl _ _ _ _ _ _ rfl rfl (B0.lt H (by decide)),
   sl _ _ _ _ _ _ (tt 20 5 7 e2) rfl (B1.lt H (by decide)),sl _ _ _ _ _ _ (tt 70 7 9 e3) rfl (B2.lt H (by decide)),Cr x2 x0 (tt 120 5 9 e4) rfl rfl rfl,sl _ _ _ _ _ _ rfl rfl (B3.lt H (by decide)),
   show rgI (.ok (.fz (.int 5)))=.ok [.int 0,.int 1,.int 2,.int 3,.int 4] from by kernel_rfl,aF]
  refine(hL _ _).trans ((Qi ..).trans ?_);rw[g2,g4,aJ,aJ,uO (n+2) s (by decide)];have h1:bJ (so "get") (.ok (.fz (.dict (mkd l')))) [.ok (.fz (.str x2)),.ok (.own (.dict []))]=.ok (.fz ((lk l' x2).getD (.dict []))):=congrArg ofP (Cs l' x2 (.dict []));have h2:bJ (so "get") (.ok (.fz (.dict (mkd l')))) [.ok (.fz (.str x4)),.ok (.fz (.int 5))]=.ok (.fz ((lk l' x4).getD (.int 5))):=congrArg ofP (Cs l' x4 (.int 5));rw[h1,h2];refine Eq.trans (b:=rb (ofP (getItem (.list [.dict (mkd l'),(lk l' x2).getD (.dict []),(lk l' x4).getD (.int 5)]) (.int (((dH s 1).fmod 5).fmod 3)))) R.ok) (by kernel_rfl) ?_;rw[hd1];rfl
 ·rcases hd2 with rfl | rfl | rfl
  ·exact hB.toTr
  ·exact Tr.mono (hB.get ((BT.nil (m:=3)).toTr)) (by decide)
  ·exact Tr.mono (hB.get (.int (by decide))) (by decide)
end Mine
namespace Mine
open PySem
variable {N:List Str} {m:Nat}
theorem Ct{t:PyData→R Bool}{e:PyData→R V}{Q:PyData→Prop}:∀ {l:List PyData},(∀ d∈l,t d=.ok false∨t d=.ok true∧∃ v,e d=.ok v∧Q (dOf v))→∃ xs,aT t e l=.ok xs∧∀ x∈xs,Q x:=by
 intro v0
 induction v0 with
 |nil =>
  intro _;exact⟨[],rfl,by simp⟩
 |cons d r ih =>
  intro h;obtain⟨xs,e1,e2⟩:=ih fun d hd=>h d (List.mem_cons_of_mem _ hd);have hs:aT t e (d::r)=rb (nx (t d)) (fun b=>if b then rb (nx (e d)) fun v=>rb (aT t e r) fun xs=>.ok (dOf v::xs) else aT t e r):=rfl;rcases h d (by simp) with h1 | ⟨h1,v,h2,h3⟩
  ·exact⟨xs,by rw[hs,h1,dQ,aF,cY,e1],e2⟩
  ·refine⟨dOf v::xs,by rw[hs,h1,dQ,aF,bY,h2,dQ,aF,e1,aF],fun x hx=>?_⟩;rcases List.mem_cons.mp hx with rfl | hx
   ·exact h3
   ·exact e2 x hx
theorem pF(H:Wld N){l:LP}{f:Str→Option TT}(B:Bld N m l f):aK cP (ofP (dR (.dict (mkd l))))=.ok (.own (.list ((a8 (ks l)).map .str))):=by
 rw[list_dict];show ofP (eS ((ks l).map .str))=_;rw[lL (by rw[eA];exact B.lt H (by decide))];rfl
theorem Cu{xs:List PyData}(h:xs≠[])(a:Int):∃ x,x∈xs∧rb (ofP (aD .Mod (.int a) (.int xs.length))) (fun i=>ofP (getItem (.list xs) (dOf i)))=.ok (.fz x):=by
 have hl:0 < xs.length:=List.length_pos_iff.mpr h;have hr:=aU a (n:=(xs.length:Int)) (by exact pP hl);have hk:(a.fmod xs.length).toNat < xs.length:=by exact F0 hr
 refine⟨xs[(a.fmod xs.length).toNat],List.getElem_mem hk,?_⟩;rw[gK _ (by exact vT hl),aJ,aF,fQ,lP hr.1 (List.getElem?_eq_getElem hk)];rfl
theorem uZ{S:List Str}(h:S≠[])(a:Int):∃ x,x∈S∧rb (ofP (aD .Mod (.int a) (.int (S.map PyData.str).length))) (fun i=>ofP (getItem (.list (S.map .str)) (dOf i)))=.ok (.fz (.str x)):=by
 obtain⟨d,hd,e⟩:=Cu (xs:=S.map PyData.str) (by simpa using h) a;obtain⟨x,hx,rfl⟩:=List.mem_map.mp hd;exact⟨x,hx,e⟩
theorem Cv(H:Wld N)(n:Nat)(c:Int){l:LP}{f:Str→Option TT}(B:Bld N m l f)(fl:Str):RInt (rn (n+1) "_law_least" [.fz (.int c),.fz (.dict (mkd l)),.fz (.str fl)]) (10 ^ 30):=by
 obtain⟨rows,e1,h1⟩:=Ct (l:=(a8 (ks l)).map .str) (t:=fun d1=>tst (eH (so "dict") (ofP (getItem (.dict (mkd l)) d1)))) (e:=fun d1=>ofP (getItem (.dict (mkd l)) d1)) (Q:=fun d=>∃ m' lr g,d=.dict (mkd lr)∧Bld N m' lr g) fun d hd=>by
  obtain⟨k,hk,rfl⟩:=List.mem_map.mp hd;obtain⟨d,t,q1,q2,q3⟩:=B.key (cV.mp hk);rw[aZ q1];obtain⟨i,rfl,rfl,_⟩ | ⟨m',lr,g,_,rfl,rfl,C⟩:=q3.inv'
  ·exact .inl rfl
  ·exact .inr ⟨rfl,_,rfl,m',lr,g,rfl,C⟩
 obtain⟨xs,e2,h2⟩:=Ct (l:=rows) (t:=fun d3=>tst (eH (so "int") (bJ (so "get") (.ok (.fz d3)) [.ok (.fz (.str fl))]))) (e:=fun d3=>ofP (getItem d3 (.str fl))) (Q:=fun d=>∃ i:Int,d=.int i∧i.natAbs < big) fun d hd=>by
  obtain⟨m',lr,g,rfl,C⟩:=h1 d hd;rw[lN];refine ocs (lk lr fl) (fun e=>?_) fun d e=>?_
  ·try rewrite[e]
   exact .inl rfl
  ·try rewrite[e]
   obtain⟨t,q1,q2⟩:=C.get' e;obtain⟨i,rfl,rfl,hi⟩ | ⟨_,lr,g,_,rfl,rfl,_⟩:=q2.inv'
   ·exact .inr ⟨rfl,.fz (.int i),by rw[aZ e];rfl,i,rfl,hi⟩
   ·exact .inl rfl
 have hr1:=aU (c.fdiv 3) (n:=7) (by decide);have hr2:=aU (c.fdiv 12) (n:=3) (by decide);rw[Qv,pF H B];have E:∀ X:R V,X=(if (xs.isEmpty||c.fmod 3==0)=true then .ok (.fz (.int ((c.fdiv 3).fmod 7 - 3))) else rb (aB .Sub (aB .Add (rb (ofP (aD .Mod (.int (c.fdiv 3)) (.int xs.length))) (fun i=>ofP (getItem (.list xs) (dOf i)))) (aB .Mod (ofP (aD .FloorDiv (.int c) (.int 12))) (.ok (.fz (.int 3))))) (.ok (.fz (.int 1)))) R.ok)→RInt X (10 ^ 30):=by
  rintro _ rfl
  refine bcs ((xs.isEmpty||c.fmod 3==0)) (fun hc=>?_) fun hc=>?_
  ·try rewrite[hc]
   have hne:xs≠[]:=fun e=>by rw[e] at hc;simp at hc
   obtain⟨x,hx,e⟩:=Cu hne (c.fdiv 3);obtain⟨i,rfl,hi⟩:=h2 x hx;refine⟨i+(c.fdiv 12).fmod 3 - 1,by rw[cY,e];kernel_rfl,?_⟩;unfold big at hi;omega
  ·try rewrite[hc]
   exact⟨_,by rw[bY],by omega⟩
 refine E _ ?_;show rb (rb (aT _ _ ((a8 (ks l)).map .str)) fun r=>ofP (own (.list r))) (fun v2=>rb (aN (plI (ofP (rdv (V.clear v2)))) _ _) _)=_;rw[e1];show rb (rb (aT _ _ rows) fun r=>ofP (own (.list r))) (fun v4=>_)=_;rw[e2];have hb:aC (ofP (rdv (V.clear (.own (.list xs))))) .Eq (.ok (.own (.list [])))=.ok (.fz (.bool xs.isEmpty)):=by
  show aP (ofP (eqO (.list xs) (.list [])))=_;rw[B8];rfl
 show ifS (orS (aC (ofP (rdv (V.clear (.own (.list xs))))) .Eq (.ok (.own (.list [])))) _) _ _=_;rw[hb];cases xs.isEmpty with
 |true=>kernel_rfl
 |false =>
  show(if (c.fmod 3==0)=true then _ else _)=_;cases (c.fmod 3==0) with
  |true=>kernel_rfl
  |false =>
   rw[cY];generalize hZ:rb (ofP (aD .Mod (.int (c.fdiv 3)) (.int xs.length))) (fun i=>ofP (getItem (.list xs) (dOf i)))=Z;have hz:aI (a9 (V.clear (V.clear (.own (.list xs))))) (aB .Mod (ofP (aD .FloorDiv (.int c) (.int 3))) (aK bH (ofP (rdv (V.clear (V.clear (.own (.list xs))))))))=Z:=hZ▸by kernel_rfl
   rw[hz];rfl
inductive IsV(N:List Str)(h g:Nat)(r:R V):Prop where
 |mk (w:WW) (e:r=.ok (.fz (enc w))) (o:okW N w) (i:w.isRows=false) (a:w.hgt≤h) (b:w.grow≤g):IsV N h g r
theorem IsV.whole{h g:Nat}:IsV N h g (.ok (.fz (.tuple [.str (so "whole")]))):=⟨.whole,rfl,trivial,rfl,Nat.zero_le _,Nat.zero_le _⟩
theorem IsV.ite{h g:Nat}{c a b:R V}{t:Bool}(hc:c=.ok (.fz (.bool t)))(ha:t=true→IsV N h g a)(hb:t=false→IsV N h g b):IsV N h g (ifS c a b):=by
 rw[hc];cases t with
 |true=>exact ha rfl
 |false=>exact hb rfl
theorem Un(a b c:PyData):aO [.ok (.fz a),.ok (.fz b),.ok (.fz c)]=.ok (.fz (.tuple [a,b,c])):=rfl
theorem Cw(H:Wld N)(n:Nat)(c:Int){l:LP}{f:Str→Option TT}(B:Bld N m l f):IsV N 0 1 (ifS (rn (n+1) "_law_is_table" [.fz (.dict (mkd l))]) (rb (aI (.ok (NL N)) (aB .Add (.ok (.fz (.int 5))) (aB .Mod (ofP (aD .FloorDiv (.int c) (.int 4))) (.ok (.fz (.int 4)))))) fun v3=>(rb (aO [(.ok (.fz (.str (so "sift")))),(ofP (rdv (V.clear v3))),(aE (rn (n+1) "_law_least") [(ofP (aD .FloorDiv (.int c) (.int 16))),(.ok (.fz (.dict (mkd l)))),(aY (V.clear v3))])]) R.ok)) (R.ok (.fz (.tuple [(.str (so "whole"))])))):=by
 refine IsV.ite (uK n B.toSem) (fun _=>?_) fun _=>IsV.whole;have hr:=aU (c.fdiv 4) (n:=4) (by decide);obtain⟨x,hx,_,hg⟩:=c7 H (i:=5+(c.fdiv 4).fmod 4) (by exact vU hr);obtain⟨i,hi,hb⟩:=Cv H n (c.fdiv 16) B x;rw[show aI (.ok (NL N)) (aB .Add (.ok (.fz (.int 5))) (aB .Mod (ofP (aD .FloorDiv (.int c) (.int 4))) (.ok (.fz (.int 4)))))=.ok (.fz (.str x)) from (by kernel_rfl:_=ofP (getItem (NL N) (.int (5+(c.fdiv 4).fmod 4)))).trans (by rw[hg];rfl),aF,
  show aE (rn (n+1) "_law_least") [(ofP (aD .FloorDiv (.int c) (.int 16))),(.ok (.fz (.dict (mkd l)))),(aY (V.clear (.fz (.str x))))]=.ok (.fz (.int i)) from (by kernel_rfl:_=rn (n+1) "_law_least" [.fz (.int (c.fdiv 16)),.fz (.dict (mkd l)),.fz (.str x)]).trans hi]
 exact⟨.sift x i,rfl,⟨hx,hb⟩,rfl,Nat.le_refl _,Nat.zero_le _⟩
theorem Cx(n:Nat)(c:Int){d nl:PyData}(h:bR d=false):rn (n+1) "_law_simple" [.fz (.int c),.fz d,.fz nl]=.ok (.fz (.tuple [.str (so "whole")])):=by
 rw[A0,h];rfl
theorem Uo(H:Wld N)(n:Nat)(c:Int){l:LP}{f:Str→Option TT}(B:Bld N m l f):IsV N 0 1 (rn (n+2) "_law_simple" [.fz (.int c),.fz (.dict (mkd l)),.fz (NL N)]):=by
 rw[A0];refine IsV.ite (t:=c.fmod 4==0) (by kernel_rfl) (fun _=>IsV.whole) fun _=>?_;rw[pF H B,aF];have hmem:∀ x∈a8 (ks l),x∈ks l:=fun x hx=>cV.mp hx;generalize a8 (ks l)=S at hmem;have hc:aM (aC (ofP (rdv (V.clear (.own (.list (S.map .str)))))) .NotEq (.ok (.own (.list [])))) (aC (ofP (aD .Mod (.int c) (.int 4))) .Lt (.ok (.fz (.int 3))))=.ok (.fz (.bool (!S.isEmpty&&decide (c.fmod 4 < 3)))):=by
  rw[show aC (ofP (rdv (V.clear (.own (.list (S.map .str)))))) .NotEq (.ok (.own (.list [])))=.ok (.fz (.bool (!S.isEmpty))) from (congrArg (fun p=>aP (ofP (bK p))) (lE S)).trans rfl];cases S.isEmpty<;>kernel_rfl
 refine IsV.ite hc (fun ht=>?_) fun _=>Cw H n c B;have hS:S≠[]:=fun e=>by rw[e] at ht;simp at ht
 obtain⟨x,hx,hix⟩:=uZ hS (c.fdiv 4);have hix':aI (a9 (V.clear (V.clear (.own (.list (S.map .str)))))) (aB .Mod (ofP (aD .FloorDiv (.int c) (.int 4))) (aK bH (ofP (rdv (V.clear (V.clear (.own (.list (S.map .str)))))))) )=.ok (.fz (.str x)):=(by kernel_rfl:_=rb (ofP (aD .Mod (.int (c.fdiv 4)) (.int (S.map PyData.str).length))) (fun i=>ofP (getItem (.list (S.map .str)) (dOf i)))).trans hix;rw[hix'];refine IsV.ite (t:=c.fmod 4==1) (by kernel_rfl) (fun _=>⟨.pick x,rfl,B.sub x (hmem x hx),rfl,Nat.le_refl _,Nat.le_refl _⟩) fun _=>?_;have hr:=aU (c.fdiv 16) (n:=14) (by decide);obtain⟨y,hy,_,hg⟩:=c7 H (i:=(c.fdiv 16).fmod 14) hr;rw[show aI (.ok (NL N)) (aB .Mod (ofP (aD .FloorDiv (.int c) (.int 16))) (.ok (.fz (.int 14))))=.ok (.fz (.str y)) from (by kernel_rfl:_=ofP (getItem (NL N) (.int ((c.fdiv 16).fmod 14)))).trans (by rw[hg];rfl),aF];refine IsV.ite (t:=!(lk l y).isSome) ((congrArg (fun p=>aP (ofP (bK p))) (cZ l y)).trans rfl) (fun hn=>?_) fun _=>Cw H n c B;refine⟨.call x y,rfl,⟨B.sub x (hmem x hx),hy,fun e=>?_⟩,rfl,Nat.le_refl _,Nat.zero_le _⟩;subst e;rw[kZ.mpr (hmem x hx)] at hn;exact bft hn
end Mine
namespace Mine
open PySem
variable {N:List Str} {m:Nat}
theorem u0(H:Wld N)(n:Nat)(c:Int){d:PyData}(h:(∃ m t,Sem N m d t)∨d=.none):IsV N 0 1 (rn (n+2) "_law_simple" [.fz (.int c),.fz d,.fz (NL N)]):=by
 rcases h with ⟨m,t,h⟩ | rfl
 ·obtain⟨i,_⟩ | ⟨m,l,f,B⟩:=h.inv
  ·rw[Cx (n+1) c rfl];exact IsV.whole
  ·exact Uo H n c B
 ·rw[Cx (n+1) c rfl];exact IsV.whole
inductive SeenA(N:List Str)(m:Nat)(o:Option TT)(r:R V):Prop where
 |mk (v:V) (d':PyData) (e:r=.ok v) (c:v.clear=.fz d') (h:(∃ s,o=some s∧Sem N m d' s)∨o=none∧d'=.none):SeenA N m o r
theorem u1(H:Wld N){w:WW}(ho:okW N w)(hr:w.isRows=false){n:Nat}{d:PyData}{t:TT}(hn:w.hgt+m+3≤n)(hd:Sem N m d t):SeenA N m (aG w t) (rn n "_law_seen" [.fz (enc w),.fz d]):=by
 have h:=(pB H ho).1 hr hn hd;cases hs:aG w t with
 |none=>rw[hs] at h;exact⟨_,_,h,rfl,.inr ⟨rfl,rfl⟩⟩
 |some s=>rw[hs] at h;obtain⟨v,d',a,b,c⟩:=h;exact⟨v,d',a,b,.inl ⟨s,rfl,c⟩⟩
theorem Up(H:Wld N){h g:Nat}{w w1:WW}(ho:okW N w)(hr:w.isRows=false)(hh:w.hgt≤h)(hg:w.grow≤g)(ho1:okW N w1)(hr1:w1.isRows=false)(hh1:w1.hgt≤h)(hg1:w1.grow≤g){n:Nat}{d:PyData}{t:TT}(hn:w.hgt+m+3≤n)(hd:Sem N m d t) :
  IsV N h g (rb (cM (aC (aE (rn n "_law_seen") [.ok (.fz (enc w)),.ok (.fz d)]) .Is (.ok (.fz .none))) (.ok (.fz (enc w1))) (.ok (.fz (enc w)))) R.ok):=by
 obtain⟨v,d',e1,e2,e3⟩:=u1 H ho hr hn hd;rw[show aE (rn n "_law_seen") [.ok (.fz (enc w)),.ok (.fz d)]=.ok v from e1];show IsV N h g (rb (if c8 (dOf v)=true then _ else _) R.ok);cases c8 (dOf v) with
 |true=>exact⟨w1,rfl,ho1,hr1,hh1,hg1⟩
 |false=>exact⟨w,rfl,ho,hr,hh,hg⟩
theorem Uq{l:List Str}{a b:Int}(h0:0≤a)(h1:a≤b)(h2:b≤l.length):(slice l (some a) (some b)).length=b.toNat - a.toNat:=by
 show((l.drop (clipAt l.length a)).take (clipAt l.length b - clipAt l.length a)).length=_;rw[pC h0 (Int.le_trans h1 h2),pC (Int.le_trans h0 h1) h2,List.length_take,List.length_drop,Nat.min_eq_left];have:=Int.toNat_le_toNat h2;rw[Int.toNat_natCast] at this;exact Nat.sub_le_sub_right this _
theorem Ur{l:List Str}{lo hi:Option Int}(h:l.Nodup):(slice l lo hi).Nodup:=((List.take_sublist _ _).trans (List.drop_sublist _ _)).nodup h
theorem Us(lo hi:Int):aK eT (bX (.ok (NL N)) (some (.ok (.fz (.int lo)))) (some (.ok (.fz (.int hi)))))=.ok (.fz (.tuple ((slice N (some lo) (some hi)).map .str))):=by
 rw[show bX (.ok (NL N)) (some (.ok (.fz (.int lo)))) (some (.ok (.fz (.int hi))))=.ok (.own (.list ((slice N (some lo) (some hi)).map .str))) from congrArg ofP (uY _ _)];rfl
theorem u3(H:Wld N){i j:Nat}{a b:Str}(ha:N[i]?=some a)(hb:N[j]?=some b)(hij:i≠j){lo hi:Int}(h0:0≤lo)(h1:lo < hi)(h2:hi≤lo+6)(h3:hi≤14):okW N (.join a b (slice N (some lo) (some hi))):=by
 have hl:=Uq (l:=N) h0 (Int.le_of_lt h1) (by rw[H.len];exact h3);obtain⟨p1,p2⟩:=List.getElem?_eq_some_iff.mp ha;obtain⟨q1,q2⟩:=List.getElem?_eq_some_iff.mp hb;refine⟨⟨p2▸List.getElem_mem p1,q2▸List.getElem_mem q1,fun e=>hij ?_⟩,⟨by exact F1 h0 h1 hl,by exact F2 h2 hl⟩,Ur H.nd,fun f hf=>pE hf⟩;exact(List.getElem_inj (h₀:=p1) (h₁:=q1) H.nd).mp (p2.trans (e.trans q2.symm))
theorem u4(a b:WW):aO [.ok (.fz (.str (so "then"))),.ok (.fz (enc a)),.ok (.fz (enc b))]=.ok (.fz (enc (.andThen a b))):=rfl
theorem Ut(a:WW):aO [.ok (.fz (.str (so "each"))),.ok (.fz (enc a))]=.ok (.fz (enc (.each a))):=rfl
theorem u5(a b:Str)(fs:List Str):aO [.ok (.fz (.str (so "join"))),.ok (.fz (.str a)),.ok (.fz (.str b)),.ok (.fz (.tuple (fs.map .str)))]=.ok (.fz (enc (.join a b fs))):=rfl
theorem Uu(a:Str):aO [.ok (.fz (.str (so "pick"))),.ok (.fz (.str a))]=.ok (.fz (enc (.pick a))):=rfl
theorem Uv(a b:Str):aO [.ok (.fz (.str (so "call"))),.ok (.fz (.str a)),.ok (.fz (.str b))]=.ok (.fz (enc (.call a b))):=rfl
theorem Uw(a:Str)(i:Int):aO [.ok (.fz (.str (so "sift"))),.ok (.fz (.str a)),.ok (.fz (.int i))]=.ok (.fz (enc (.sift a i))):=rfl
theorem Cy(H:Wld N)(n:Nat)(c:Int){d:PyData}{t:TT}(hd:Sem N m d t)(hn:m+4≤n):IsV N 1 2 (rn (n+1) "_law_small" [.fz (.int c),.fz d,.fz (NL N)]):=by
 refine exnE (c:=2) n hn hn fun n hn=>?_;obtain⟨w1,e1,o1,r1,h1,g1⟩:=u0 H n (c.fdiv 6) (.inl ⟨m,t,hd⟩);rw[Qw,show aE (rn (n+2) "_law_simple") [(ofP (aD .FloorDiv (.int c) (.int 6))),(.ok (.fz d)),(.ok (.fz (NL N)))]=.ok (.fz (enc w1)) from (by kernel_rfl:_=rn (n+2) "_law_simple" [.fz (.int (c.fdiv 6)),.fz d,.fz (NL N)]).trans e1,aF];have hone:IsV N 1 2 (R.ok (.fz (enc w1))):=⟨w1,rfl,o1,r1,Nat.le_trans h1 (by decide),Nat.le_trans g1 (by decide)⟩
 obtain⟨i,_⟩ | ⟨m,l,f,B⟩:=hd.inv
 ·refine IsV.ite (t:=true) ?_ (fun _=>hone) fun h=>by exact btf h
  show orS (.ok (.fz (.bool (decide (c.fmod 6 < 2))))) (.ok (.fz (.bool true)))=_;cases decide (c.fmod 6 < 2)<;>rfl
 refine IsV.ite (t:=decide (c.fmod 6 < 2)) (by
  show orS (.ok (.fz (.bool (decide (c.fmod 6 < 2))))) (.ok (.fz (.bool false)))=_;cases decide (c.fmod 6 < 2)<;>rfl) (fun _=>hone) fun _=>?_
 rw[pF H B,aF];have hmem:∀ x∈a8 (ks l),x∈ks l:=fun x hx=>cV.mp hx;generalize a8 (ks l)=S at hmem;rw[bZ,dE,cO,aJ];obtain⟨v,d',s1,s2,s3⟩:=u1 H o1 r1 (n:=n+2) (by exact F3 h1 hn) hd;obtain⟨w2,e2,o2,r2,h2,g2⟩:=u0 H n (c.fdiv 7) (d:=d') (s3.elim (fun hh=>by obtain⟨s,_,h⟩:=hh;exact .inl ⟨_,s,h⟩) fun h=>.inr h.2);rw[show aE (rn (n+2) "_law_simple") [(ofP (aD .FloorDiv (.int c) (.int 7))),(aE (rn (n+2) "_law_seen") [.ok (.fz (enc w1)),(.ok (.fz (.dict (mkd l))))]),(.ok (.fz (NL N)))]=.ok (.fz (enc w2)) from by
  rw[show aE (rn (n+2) "_law_seen") [.ok (.fz (enc w1)),(.ok (.fz (.dict (mkd l))))]=.ok v from s1];refine Eq.trans (b:=rn (n+2) "_law_simple" [.fz (.int (c.fdiv 7)),v.clear,.fz (NL N)]) (by kernel_rfl) ?_;rw[s2,e2],u4,aF]
 have o3:okW N (.andThen w1 w2):=⟨⟨o1,r1⟩,o2,r2⟩
 have h3:(W.andThen w1 w2).hgt≤1:=by show max w1.hgt w2.hgt+1≤1;exact F4 h1 h2
 have g3:(W.andThen w1 w2).grow≤2:=by show w1.grow+w2.grow≤2;exact F5 g1 g2
 obtain⟨n2,m2,i2,gg2⟩:=c7 H (i:=2) (by decide);obtain⟨n3,m3,i3,gg3⟩:=c7 H (i:=3) (by decide);have o4:okW N (.join n2 n3 (slice N (some 5) (some 7))):=u3 H i2 i3 (by decide) (by decide) (by decide) (by decide) (by decide);have hw1:w1.hgt≤1∧w1.grow≤2:=⟨by exact F6 h1,by exact vV g1⟩
 have fin:=fun {w:WW} (ho:okW N w) (hr:w.isRows=false) (hh:w.hgt≤1) (hg:w.grow≤2)=>Up H (h:=1) (g:=2) ho hr hh hg o1 r1 hw1.1 hw1.2 (n:=n+2) (by exact F7 hn hh) hd;rw[gg2,gg3,Us];simp only[aJ,u5,aF,bZ,dE,cO];have hc:aM (aC (ofP (aD .Mod (.int c) (.int 6))) .Gt (.ok (.fz (.int 2)))) (aC (ofP (rdv (V.clear (.own (.list (S.map .str)))))) .NotEq (.ok (.own (.list []))))=.ok (.fz (.bool (decide (2 < c.fmod 6)&&!S.isEmpty))):=by
  rw[show aC (ofP (rdv (V.clear (.own (.list (S.map .str)))))) .NotEq (.ok (.own (.list [])))=.ok (.fz (.bool (!S.isEmpty))) from (congrArg (fun p=>aP (ofP (bK p))) (lE S)).trans rfl,show aC (ofP (aD .Mod (.int c) (.int 6))) .Gt (.ok (.fz (.int 2)))=.ok (.fz (.bool (decide (2 < c.fmod 6)))) from by kernel_rfl];cases decide (2 < c.fmod 6)<;>rfl
 have hc2:aM (aC (ofP (aD .Mod (.int c) (.int 6))) .Eq (.ok (.fz (.int 5)))) (aC (aB .Mod (ofP (aD .FloorDiv (.int c) (.int 6))) (.ok (.fz (.int 3)))) .Eq (.ok (.fz (.int 0))))=.ok (.fz (.bool (c.fmod 6==5&&(c.fdiv 6).fmod 3==0))):=by
  rw[show aC (ofP (aD .Mod (.int c) (.int 6))) .Eq (.ok (.fz (.int 5)))=.ok (.fz (.bool (c.fmod 6==5))) from by kernel_rfl];cases (c.fmod 6==5)<;>kernel_rfl
 refine IsV.ite hc (fun ht=>?_) fun _=>IsV.ite hc2 (fun _=>fin o4 rfl (Nat.zero_le _) (Nat.le_succ _)) fun _=>fin o3 rfl h3 g3;have hS:S≠[]:=fun e=>by rw[e] at ht;simp at ht
 obtain⟨x,hx,hix⟩:=uZ hS (c.fdiv 6);have hix':aI (a9 (V.clear (V.clear (.own (.list (S.map .str)))))) (aB .Mod (ofP (aD .FloorDiv (.int c) (.int 6))) (aK bH (ofP (rdv (V.clear (V.clear (.own (.list (S.map .str)))))))) )=.ok (.fz (.str x)):=(by kernel_rfl:_=rb (ofP (aD .Mod (.int (c.fdiv 6)) (.int (S.map PyData.str).length))) (fun i=>ofP (getItem (.list (S.map .str)) (dOf i)))).trans hix;obtain⟨dx,tx,q1,q2,q3⟩:=B.key (hmem x hx);obtain⟨w5,e5,o5,r5,h5,g5⟩:=u0 H n (c.fdiv 11) (.inl ⟨m,tx,q3⟩);have hr:=aU (c.fdiv 36) (n:=14) (by decide);obtain⟨y,hy,_,hgy⟩:=c7 H (i:=(c.fdiv 36).fmod 14) hr;rw[hix',aF];simp only[aJ,bZ,cO];rw[show aE (rn (n+2) "_law_simple") [(ofP (aD .FloorDiv (.int c) (.int 11))),(aI (.ok (.dict (mkd l))) (.ok (.fz (.str x)))),(.ok (.fz (NL N)))]=.ok (.fz (enc w5)) from by
  rw[show aI (.ok (.dict (mkd l))) (.ok (.fz (.str x)))=.ok (.fz dx) from congrArg ofP (aZ q1)];exact(by kernel_rfl:_=rn (n+2) "_law_simple" [.fz (.int (c.fdiv 11)),.fz dx,.fz (NL N)]).trans e5,aF,
  show aI (.ok (NL N)) (aB .Mod (ofP (aD .FloorDiv (.int c) (.int 36))) (.ok (.fz (.int 14))))=.ok (.fz (.str y)) from (by kernel_rfl:_=ofP (getItem (NL N) (.int ((c.fdiv 36).fmod 14)))).trans (by rw[hgy];rfl)]
 have o6:okW N (.each w5):=⟨o5,r5⟩
 have o7:okW N (.beside (.bcons y x w5 .bnil)):=⟨⟨⟨⟨hy,B.sub x (hmem x hx)⟩,⟨o5,r5⟩,⟨trivial,rfl⟩,by simp[kU,kW],by simp[A3,A4]⟩,rfl⟩,Nat.le_refl _,Nat.succ_le_succ (Nat.zero_le _)⟩
 have hv6:∃ w6:WW,aI (e8 (cG [(aO [(.ok (.fz (.str (so "each")))),.ok (.fz (enc w5))]),(aO [(.ok (.fz (.str (so "beside")))),(aO [(aO [.ok (.fz (.str y)),.ok (.fz (.str x)),.ok (.fz (enc w5))])])])])) (ofP (aD .Mod (.int c) (.int 2)))=.ok (.fz (enc w6))∧okW N w6∧w6.isRows=false∧w6.hgt≤1∧w6.grow≤2:=by
  have h2:=aU c (n:=2) (by decide);have:c.fmod 2=0∨c.fmod 2=1:=by exact vN h2
  rw[show aD .Mod (.int c) (.int 2)=.ok (.fz (.int (c.fmod 2))) from gK _ (by decide)];rcases this with h | h
  ·rw[h];exact⟨.each w5,by kernel_rfl,o6,rfl,by show w5.hgt+1≤1;exact F8 h5,by show w5.grow≤2;exact vV g5⟩
  ·rw[h];exact⟨.beside (.bcons y x w5 .bnil),by kernel_rfl,o7,rfl,by show max w5.hgt 0+1≤1;exact F9 h5,by show max w5.grow 0≤2;exact Ga g5⟩
 obtain⟨w6,e6,ow6,rw6,hw6,gw6⟩:=hv6;simp only[aJ,bZ,cO];rw[e6];simp only[aJ,aF,bZ,dE,cO];exact IsV.ite hc2 (fun _=>fin o4 rfl (Nat.zero_le _) (Nat.le_succ _)) fun _=>fin ow6 rw6 hw6 gw6
end Mine
namespace Mine
open PySem
variable {N:List Str} {m:Nat}
noncomputable def eO:List (Str×Str×WW)→WW
 | []=>.bnil
 |x::r=>.bcons x.1 x.2.1 x.2.2 (eO r)
noncomputable def fT(x:Str×Str×WW):PyData:=.tuple [.str x.1,.str x.2.1,enc x.2.2]
theorem u6:∀ L:List (Str×Str×WW),(eO L).isRows=true
 | []=>rfl
 |_::_=>rfl
theorem Cz:∀ L:List (Str×Str×WW),aS (eO L)=L.map fT
 | []=>rfl
 |x::r=>by
  show .tuple [.str x.1,.str x.2.1,enc x.2.2]::aS (eO r)=_;rw[Cz r];rfl
theorem jE:∀ L:List (Str×Str×WW),(eO L).names=L.map (·.1)∧(eO L).parts=L.map (·.2.1)
 | []=>⟨rfl,rfl⟩
 |x::r=>⟨congrArg (x.1::·) (jE r).1,congrArg (x.2.1::·) (jE r).2⟩
theorem Ux{h g:Nat}:∀ {L:List (Str×Str×WW)},(∀ x∈L,x.1∈N∧x.2.1∈N∧okW N x.2.2∧x.2.2.isRows=false∧x.2.2.hgt≤h∧x.2.2.grow≤g)→(L.map (·.1)).Nodup→(L.map (·.2.1)).Nodup→okW N (eO L)∧(eO L).hgt≤h∧(eO L).grow≤g:=by
 intro v0
 induction v0 with
 |nil =>
  intro _ _ _;exact⟨trivial,Nat.zero_le _,Nat.zero_le _⟩
 |cons x r ih =>
  intro hx h1 h2;obtain⟨a1,a2⟩:=List.nodup_cons.mp h1;obtain⟨b1,b2⟩:=List.nodup_cons.mp h2;obtain⟨i1,i2,i3⟩:=ih (fun y hy=>hx y (List.mem_cons_of_mem _ hy)) a2 b2;obtain⟨c1,c2,c3,c4,c5,c6⟩:=hx x (by simp);refine⟨⟨⟨c1,c2⟩,⟨c3,c4⟩,⟨i1,u6 r⟩,?_,?_⟩,Nat.max_le.mpr ⟨c5,i2⟩,Nat.max_le.mpr ⟨c6,i3⟩⟩
  ·rw[(jE r).1];exact a1
  ·rw[(jE r).2];exact b1
theorem u7:∀ {k:Nat} {i:Int} {q r:List PyData} {d:PyData},cW i k=q++d::r→d=.int (i+q.length)∧q.length < k
 |0,i,q,r,d,h=>by cases q<;>cases h
 |k+1,i,[],r,d,h=>by
  have h:PyData.int i::cW (i+1) k=d::r:=h;cases h;exact⟨by simp,by simp⟩
 |k+1,i,x::q,r,d,h=>by
  have h:PyData.int i::cW (i+1) k=x::(q++d::r):=h;obtain⟨h1,h2⟩:=u7 (List.cons.inj h).2;refine⟨?_,by simpa using h2⟩;rw[h1,List.length_cons];congr 1;exact Gb
theorem C0:∀ (k:Nat) (i:Int),(cW i k).length=k:=by
 intro v0
 induction v0 with
 |zero =>
  intro _;exact rfl
 |succ k ih =>
  intro i;exact congrArg (·+1) (ih (i+1))
theorem C1{xs:List Str}{a:Int}{n:Int}(hn:n=xs.length)(h:0 < n):∃ x,x∈xs∧xs[(a.fmod n).toNat]?=some x∧getItem (.list (xs.map .str)) (.int (a.fmod n))=.ok (.fz (.str x)):=by
 have hr:=aU a h;have hk:(a.fmod n).toNat < xs.length:=by exact Gc hn hr
 refine⟨xs[(a.fmod n).toNat],List.getElem_mem hk,List.getElem?_eq_getElem hk,lP hr.1 ?_⟩;rw[List.getElem?_map,List.getElem?_eq_getElem hk];rfl
theorem Uy{a n:Int}{i j:Nat}(hn:0 < n)(hj:(j:Int) < n)(hij:i < j):(a+i).fmod n≠(a+j).fmod n:=by
 rw[Int.fmod_eq_emod_of_nonneg _ (by exact pO hn),Int.fmod_eq_emod_of_nonneg _ (by exact pO hn)];intro e;have:=Int.emod_emod_of_dvd (a+j - (a+i)) (Int.dvd_refl n);have h1:(a+j - (a+i)) % n=0:=by rw[Int.sub_emod,e,Int.sub_self,Int.zero_emod]
 have h2:a+j - (a+i)=(j:Int) - i:=by exact Gd
 rw[h2,Int.emod_eq_of_lt (by exact Ge hij) (by exact Gf hj)] at h1;lia
theorem C2{xs ys:List Str}{n a:Int}(hx:xs.Nodup)(hn:n=xs.length)(hn0:0 < n)(hl:(ys.length:Int)≤n)(h:∀ (i:Nat) y,ys[i]?=some y→xs[((a+i).fmod n).toNat]?=some y):ys.Nodup:=by
 refine List.pairwise_iff_getElem.mpr fun i j hi hj hij e=>?_;have h1:=h i _ (List.getElem?_eq_getElem hi);have h2:=h j _ (List.getElem?_eq_getElem hj);rw[← e] at h2;obtain⟨p1,p2⟩:=List.getElem?_eq_some_iff.mp h1;obtain⟨q1,q2⟩:=List.getElem?_eq_some_iff.mp h2;have e2:=(List.getElem_inj (h₀:=p1) (h₁:=q1) hx).mp (p2.trans q2.symm);have r1:=aU (a+i) hn0;have r2:=aU (a+j) hn0;exact Uy (a:=a) hn0 (by exact Gg hl hj) hij (by exact Gh e2 r1 r2)
theorem Uz(H:Wld N)(n:Nat)(c:Int){l:LP}{f:Str→Option TT}(B:Bld N m l f)(hn:m+4≤n)(hS:a8 (ks l)≠[]):IsV N 2 2 (rn (n+2) "_law_wide" [.fz (.int c),.fz (.dict (mkd l)),.fz (.list ((a8 (ks l)).map .str)),.fz (NL N)]):=by
 have hnd:=B5 B.nd;have hmem:∀ x∈a8 (ks l),x∈ks l:=fun x hx=>cV.mp hx;have hlen:(a8 (ks l)).length≤14:=by rw[Sk B.nd,eA];have:=B.len;rw[H.len] at this;exact this
 generalize a8 (ks l)=S at hS hnd hmem hlen;have hpos:0 < S.length:=List.length_pos_iff.mpr hS;have hr6:=aU (c.fdiv 16) (n:=6) (by decide);rw[Qx];obtain⟨K,hK1,hK2,hK3,hK⟩:∃ K:Nat,1≤K∧K≤6∧K≤S.length∧rgI (kE [ofP (bH (.list (S.map .str))),aB .Add (.ok (.fz (.int 1))) (aB .Mod (ofP (aD .FloorDiv (.int c) (.int 16))) (.ok (.fz (.int 6))))])=.ok (cW 0 K):=by
  refine⟨(if 1+(c.fdiv 16).fmod 6 < (S.length:Int) then 1+(c.fdiv 16).fmod 6 else (S.length:Int)).toNat,?_,?_,?_,?_⟩
  ·split<;>lia
  ·split<;>lia
  ·split<;>lia
  ·refine Eq.trans (b:=ofP (mD (.int (if 1+(c.fdiv 16).fmod 6 < ((S.map PyData.str).length:Int) then 1+(c.fdiv 16).fmod 6 else ((S.map PyData.str).length:Int))))) (by kernel_rfl) ?_;rw[List.length_map];show ofP (if _ then _ else _)=_;rw[if_pos]
   ·rfl
   ·split<;>lia
 rw[hK,aF];have L:=iZ (S:=fun (a:List (Str×Str×WW)) (o:Option V×Option V)=>hX (ζ (.int c)) (ζ (.dict (mkd l))) (ζ (.list (S.map .str))) (ζ (NL N)) (some (.own (.list (a.map fT)))) o.1 o.2) (b:=sW (n+1)) (t:=sX) (l:=cW 0 K) (p:=[]) (a:=[]) (j:=(none,none))
  (I:=fun p a=>a.length=p.length∧(∀ x∈a,x.1∈N∧x.2.1∈N∧okW N x.2.2∧x.2.2.isRows=false∧x.2.2.hgt≤1∧x.2.2.grow≤2)∧(∀ (i:Nat) y,(a.map (·.1))[i]?=some y→N[((c.fdiv 64+i).fmod 14).toNat]?=some y)∧∀ (i:Nat) y,(a.map (·.2.1))[i]?=some y→S[((c+i).fmod S.length).toNat]?=some y) (E:=fun _=>False) (Q:=fun _=>False) (fun q d r a o hq hi=>by
   obtain⟨hd,hqk⟩:=u7 (show cW 0 K=q++d::r from hq);rw[Int.zero_add] at hd;subst hd;obtain⟨h1,h2,h3,h4⟩:=hi;obtain⟨x,hx,ix,gx⟩:=C1 (xs:=S) (a:=c+q.length) (n:=S.length) rfl (by exact pP hpos);obtain⟨y,hy,iy,gy⟩:=C1 (xs:=N) (a:=c.fdiv 64+q.length) (n:=14) (by rw[H.len];rfl) (by decide);obtain⟨dx,tx,q1,q2,q3⟩:=B.key (hmem x hx);obtain⟨w,e,ow,rw',hw,gw⟩:=Cy H n (c.fdiv 7+5*q.length) q3 hn;refine Out.kn (a++[(y,x,w)]) (some (.fz (.int q.length)),some (.fz (.str x))) ⟨by simp[h1],fun z hz=>?_,fun i z hz=>?_,fun i z hz=>?_⟩ fun kn kr=>?_
   ·rcases List.mem_append.mp hz with hz | hz
    ·exact h2 z hz
    ·rw[List.mem_singleton.mp hz];exact⟨hy,B.sub x (hmem x hx),ow,rw',hw,gw⟩
   ·rw[List.map_append,List.getElem?_append] at hz
    split at hz
    ·exact h3 i z hz
    ·rename_i hlt;rw[List.length_map,h1] at hlt hz;have hi:i - q.length=0:=by
      rcases Nat.eq_zero_or_pos (i - q.length) with h | h
      ·exact h
      ·rw[List.getElem?_eq_none (by simp;exact vW h)] at hz;exact ns hz
     have:i=q.length:=by exact vX hlt hi
     subst this;rw[hi] at hz;obtain rfl:=si hz;exact iy
   ·rw[List.map_append,List.getElem?_append] at hz
    split at hz
    ·exact h4 i z hz
    ·rename_i hlt;rw[List.length_map,h1] at hlt hz;have hi:i - q.length=0:=by
      rcases Nat.eq_zero_or_pos (i - q.length) with h | h
      ·exact h
      ·rw[List.getElem?_eq_none (by simp;exact vW h)] at hz;exact ns hz
     have:i=q.length:=by exact vX hlt hi
     subst this;rw[hi] at hz;obtain rfl:=si hz;exact ix
   ·rw[Qy,aJ,aF,Qz];have z1:aI (.ok (.list (S.map .str))) (aB .Mod (ofP (aD .Add (.int c) (.int q.length))) (ofP (bH (.list (S.map .str)))))=.ok (.fz (.str x)):=by
     refine Eq.trans (b:=rb (ofP (aD .Mod (.int (c+q.length)) (.int (S.map PyData.str).length))) (fun i=>ofP (getItem (.list (S.map .str)) (dOf i)))) (by kernel_rfl) ?_;rw[List.length_map,gK _ (by exact vT hpos),aJ,aF,fQ,gx];rfl
    have z2:aI (.ok (NL N)) (aB .Mod (aB .Add (ofP (aD .FloorDiv (.int c) (.int 64))) (.ok (.fz (.int q.length)))) (.ok (.fz (.int 14))))=.ok (.fz (.str y)):=by
     refine Eq.trans (b:=ofP (getItem (NL N) (.int ((c.fdiv 64+q.length).fmod 14)))) (by kernel_rfl) ?_;rw[show getItem (NL N) (.int ((c.fdiv 64+q.length).fmod 14))=_ from gy];rfl
    have z3:aE (rn (n+1) "_law_small") [(aB .Add (ofP (aD .FloorDiv (.int c) (.int 7))) (ofP (aD .Mult (.int 5) (.int q.length)))),(aI (.ok (.dict (mkd l))) (.ok (.fz (.str x)))),(.ok (.fz (NL N)))]=.ok (.fz (enc w)):=by
     rw[show aI (.ok (.dict (mkd l))) (.ok (.fz (.str x)))=.ok (.fz dx) from congrArg ofP (aZ q1)];exact(by kernel_rfl:_=rn (n+1) "_law_small" [.fz (.int (c.fdiv 7+5*q.length)),.fz dx,.fz (NL N)]).trans e
    rw[z1,aF,bZ,cO,aJ,z2,z3,Un];show rb (ofP (if (a.map fT).length < aX then P.ok (PyData.list (a.map fT++[fT (y,x,w)])) else .no)) _=_;rw[if_pos (by rw[List.length_map,h1];have:aX=16777216:=rfl;exact Gi hK2 hqk this),show a.map fT++[fT (y,x,w)]=(a++[(y,x,w)]).map fT from by simp];rfl) ⟨rfl,fun x hx=>(by cases hx),fun i y h=>(by cases i<;>cases h),fun i y h=>(by cases i<;>cases h)⟩
 obtain⟨a,o,⟨h1,h2,h3,h4⟩,e⟩ | ⟨_,hx,_⟩ | ⟨_,hv,_⟩:=L
 ·rw[List.nil_append,C0] at h1;obtain⟨k1,k2,k3⟩:=Ux h2 (C2 (xs:=N) (n:=14) H.nd (by rw[H.len];rfl) (by decide) (by rw[List.length_map];exact Gj hK2 h1) h3) (C2 (xs:=S) (n:=S.length) hnd rfl (by exact pP hpos) (by rw[List.length_map];exact Gk hK3 h1) h4);refine⟨.beside (eO a),?_,⟨⟨k1,u6 a⟩,?_,?_⟩,rfl,Nat.succ_le_succ k2,k3⟩
  ·refine(e _ _).trans ((Q0 ..).trans ?_);show R.ok (V.fz (.tuple [.str (so "beside"),.tuple (a.map fT)]))=R.ok (V.fz (.tuple [.str (so "beside"),enc (eO a)]));rw[iB (u6 a),Cz]
  ·rw[(jE a).1,List.length_map];lia
  ·rw[(jE a).1,List.length_map];lia
 ·exact hx.elim
 ·exact hv.elim
end Mine
namespace Mine
open PySem
variable {N:List Str} {m:Nat}
theorem U0(S:List Str):aC (.ok (.fz (.list (S.map .str)))) .NotEq (.ok (.own (.list [])))=.ok (.fz (.bool (!S.isEmpty))):=(congrArg (fun p=>aP (ofP (bK p))) (lE S)).trans rfl
inductive NlR(N:List Str)(i:Int)(r:R V):Prop where
 |mk (x:Str) (h:x∈N) (g:N[i.toNat]?=some x) (e:r=.ok (.fz (.str x))):NlR N i r
theorem lQ(H:Wld N){e:R V}{i:Int}(he:e=.ok (.fz (.int i)))(h:0≤i∧i < 14):NlR N i (aI (.ok (NL N)) e):=by
 obtain⟨x,hx,ix,gx⟩:=c7 H h;exact⟨x,hx,ix,by rw[he];exact congrArg ofP gx⟩
theorem u8{S:List Str}(h:S≠[])(M:Int):∃ x,x∈S∧aI (.ok (.list (S.map .str))) (aB .Mod (.ok (.fz (.int M))) (aK bH (.ok (.fz (.list (S.map .str))))))=.ok (.fz (.str x)):=by
 obtain⟨x,hx,e⟩:=uZ h M;exact⟨x,hx,(by kernel_rfl:_=rb (ofP (aD .Mod (.int M) (.int (S.map PyData.str).length))) (fun i=>ofP (getItem (.list (S.map .str)) (dOf i)))).trans e⟩
theorem C3{lo hi:R V}{a b:Int}(h1:lo=.ok (.fz (.int a)))(h2:hi=.ok (.fz (.int b))):bX (.ok (NL N)) (some lo) (some hi)=.ok (.own (.list ((slice N (some a) (some b)).map .str))):=by
 rw[h1,h2];exact congrArg ofP (uY _ _)
set_option maxHeartbeats 1000000 in
theorem U1(H:Wld N)(n:Nat)(c:Int){d:PyData}{t:TT}(hd:Sem N m d t)(hn:m+4≤n):IsV N 2 2 (rn (n+3) "_law_piece" [.fz (.int c),.fz d,.fz (NL N)]):=by
 rw[Q1,show aD .Mod (.int c) (.int 10)=.ok (.fz (.int (c.fmod 10))) from gK _ (by decide),show aD .FloorDiv (.int c) (.int 10)=.ok (.fz (.int (c.fdiv 10))) from pD _ (by decide)];simp only[aJ,aF,bZ,cO,dE];generalize c.fmod 10=K;generalize c.fdiv 10=M;obtain⟨i,_⟩ | ⟨m,l,f,B⟩:=hd.inv
 ·exact IsV.whole
 refine IsV.ite (t:=K==0) (by kernel_rfl) (fun _=>IsV.whole) fun _=>?_;rw[pF H B];simp only[aF,iA,bZ,cO,aJ,dE,oH];have hwide:=Uz H n M B (by exact Gl hn);have hmem:∀ x∈a8 (ks l),x∈ks l:=fun x hx=>cV.mp hx;generalize a8 (ks l)=S at hmem hwide;have r4:=aU M (n:=4) (by decide);obtain⟨x4,m4,_,g4⟩:=lQ H (e:=aB .Add (.ok (.fz (.int 5))) (aB .Mod (.ok (.fz (.int M))) (.ok (.fz (.int 4))))) (i:=5+M.fmod 4) (by kernel_rfl) (by exact vU r4);obtain⟨i5,hi5,hb5⟩:=Cv H (n+1) (M.fdiv 4) B x4;rw[g4];simp only[aF,bZ,cO,aJ,dE];rw[show aE (rn (n+2) "_law_least") [(aB .FloorDiv (.ok (.fz (.int M))) (.ok (.fz (.int 4)))),(.ok (.fz (.dict (mkd l)))),.ok (.fz (.str x4))]=.ok (.fz (.int i5)) from (by kernel_rfl:_=rn (n+2) "_law_least" [.fz (.int (M.fdiv 4)),.fz (.dict (mkd l)),.fz (.str x4)]).trans hi5,Uw,U0];simp only[aF];refine IsV.ite (t:=decide (K < 3)&&!S.isEmpty) (by
  rw[show aC (R.ok (V.fz (.int K))) .Lt (.ok (.fz (.int 3)))=.ok (.fz (.bool (decide (K < 3)))) from by kernel_rfl];cases decide (K < 3)<;>rfl) (fun ht=>?_) fun _=>?_
 ·have hS:S≠[]:=fun e=>by rw[e] at ht;simp at ht
  obtain⟨x,hx,e⟩:=u8 hS M;rw[e,Uu];exact⟨.pick x,rfl,B.sub x (hmem x hx),rfl,Nat.zero_le _,Nat.le_succ _⟩
 have r14:=aU (M.fdiv 16) (n:=14) (by decide);obtain⟨y,hy,_,gy⟩:=lQ H (e:=aB .Mod (aB .FloorDiv (.ok (.fz (.int M))) (.ok (.fz (.int 16)))) (.ok (.fz (.int 14)))) (i:=(M.fdiv 16).fmod 14) (by kernel_rfl) r14;rw[gy,show aC (R.ok (V.fz (.str y))) .NotIn (R.ok (V.fz (.list (S.map .str))))=.ok (.fz (.bool !(S.contains y))) from by
  show aP (ofP (bK ((ofO (strs? (S.map .str))).bind fun ss=>P.ok (ss.contains y))))=_;rw[fR];rfl]
 refine IsV.ite (t:=K==3&&(!S.isEmpty&&!(S.contains y))) (by
  rw[show aC (R.ok (V.fz (.int K))) .Eq (.ok (.fz (.int 3)))=.ok (.fz (.bool (K==3))) from by kernel_rfl];cases (K==3)<;>cases S.isEmpty<;>rfl) (fun ht=>?_) fun _=>?_
 ·have hS:S≠[]:=fun e=>by rw[e] at ht;simp at ht
  have hyS:y∉S:=fun h=>by simp[h] at ht
  obtain⟨x,hx,e⟩:=u8 hS M;rw[e,Uv];exact⟨.call x y,rfl,⟨B.sub x (hmem x hx),hy,fun e=>hyS (e▸hx)⟩,rfl,Nat.zero_le _,Nat.zero_le _⟩
 refine IsV.ite (t:=K==4&&!S.isEmpty) (by
  rw[show aC (R.ok (V.fz (.int K))) .Eq (.ok (.fz (.int 4)))=.ok (.fz (.bool (K==4))) from by kernel_rfl];cases (K==4)<;>rfl) (fun ht=>?_) fun _=>?_
 ·have hS:S≠[]:=fun e=>by rw[e] at ht;simp at ht
  obtain⟨w,e,a1,a2,a3,a4⟩:=hwide hS;rw[show aE (rn (n+2) "_law_wide") [.ok (.fz (.int M)),(.ok (.fz (.dict (mkd l)))),.ok (.fz (.list (S.map .str))),(.ok (.fz (NL N)))]=.ok (.fz (enc w)) from e];exact⟨w,rfl,a1,a2,a3,a4⟩
 refine IsV.ite (t:=K==7||K==8) (by
  rw[show aC (R.ok (V.fz (.int K))) .Eq (.ok (.fz (.int 7)))=.ok (.fz (.bool (K==7))) from by kernel_rfl];cases (K==7)<;>kernel_rfl) (fun _=>?_) fun _=>?_
 ·have r2:=aU M (n:=2) (by decide);have r8:=aU (M.fdiv 8) (n:=4) (by decide);have r32:=aU (M.fdiv 32) (n:=6) (by decide);obtain⟨a,ma,ia,ga⟩:=lQ H (e:=aB .Add (.ok (.fz (.int 2))) (aB .Mod (.ok (.fz (.int M))) (.ok (.fz (.int 2))))) (i:=2+M.fmod 2) (by kernel_rfl) (by exact Gm r2);obtain⟨b,mb,ib,gb⟩:=lQ H (e:=aB .Sub (.ok (.fz (.int 3))) (aB .Mod (.ok (.fz (.int M))) (.ok (.fz (.int 2))))) (i:=3 - M.fmod 2) (by kernel_rfl) (by exact Gn r2);have hab:(2+M.fmod 2).toNat≠(3 - M.fmod 2).toNat:=by exact Gp
  rw[ga,gb,show aB .Add (R.ok (V.fz (.int 5))) (aB .Mult (.ok (.fz (.int 2))) (aB .Mod (.ok (.fz (.int M))) (.ok (.fz (.int 2)))))=.ok (.fz (.int (5+2*M.fmod 2))) from by kernel_rfl];simp only[aF,bZ,cO,aJ];rw[C3 (a:=5+2*M.fmod 2) (b:=5+2*M.fmod 2+2) rfl (by kernel_rfl)];simp only[aF,iA,cO,aJ];refine IsV.ite (t:=(M.fdiv 2).fmod 4==1) (by kernel_rfl) (fun _=>?_) fun _=>?_
  ·rw[show aB .Add (R.ok (V.fz (.int 4))) (aB .Mod (aB .FloorDiv (.ok (.fz (.int M))) (.ok (.fz (.int 8)))) (.ok (.fz (.int 4))))=.ok (.fz (.int (4+(M.fdiv 8).fmod 4))) from by kernel_rfl];simp only[aF,bZ,cO,aJ];rw[C3 (a:=4+(M.fdiv 8).fmod 4) (b:=4+(M.fdiv 8).fmod 4+1+(M.fdiv 32).fmod 6) rfl (by kernel_rfl)];simp only[aF,iA,cO,aJ];rw[show aK eT (R.ok (V.fz (.list ((slice N (some (4+(M.fdiv 8).fmod 4)) (some (4+(M.fdiv 8).fmod 4+1+(M.fdiv 32).fmod 6))).map .str))))=.ok (.fz (.tuple ((slice N (some (4+(M.fdiv 8).fmod 4)) (some (4+(M.fdiv 8).fmod 4+1+(M.fdiv 32).fmod 6))).map .str))) from rfl,u5];exact⟨.join a b _,rfl,u3 H ia ib hab (by exact Gq r8) (by exact Gr r32) (by exact Gs r32) (by exact Gu r8 r32),rfl,Nat.zero_le _,Nat.le_succ _⟩
  ·rw[show aK eT (R.ok (V.fz (.list ((slice N (some (5+2*M.fmod 2)) (some (5+2*M.fmod 2+2))).map .str))))=.ok (.fz (.tuple ((slice N (some (5+2*M.fmod 2)) (some (5+2*M.fmod 2+2))).map .str))) from rfl,u5];exact⟨.join a b _,rfl,u3 H ia ib hab (by exact Gv r2) (by exact Gy) (by exact Gz) (by exact G0 r2),rfl,Nat.zero_le _,Nat.le_succ _⟩
 refine IsV.ite (t:=K==9) (by kernel_rfl) (fun _=>?_) fun _=>⟨.sift x4 i5,rfl,⟨m4,hb5⟩,rfl,Nat.zero_le _,Nat.zero_le _⟩
 obtain⟨dx,hdx,tx,hx⟩:∃ dx,cM (.ok (.fz (.bool (!S.isEmpty)))) (aI (.ok (.dict (mkd l))) (aI (.ok (.list (S.map .str))) (aB .Mod (.ok (.fz (.int M))) (aK bH (.ok (.fz (.list (S.map .str)))))))) (.ok (.fz (.int 0)))=.ok (.fz dx)∧∃ tx,Sem N m dx tx:=by
  cases hE:S.isEmpty with
  |true=>exact⟨.int 0,rfl,_,.num (by decide)⟩
  |false =>
   have hS:S≠[]:=fun e=>by rw[e] at hE;exact btf hE
   obtain⟨x,hx,e⟩:=u8 hS M;obtain⟨dx,tx,q1,q2,q3⟩:=B.key (hmem x hx);refine⟨dx,?_,tx,q3⟩;rw[e];exact congrArg ofP (aZ q1)
 obtain⟨w,e,ow,rw',hw,gw⟩:=Cy H (n+1) (M.fdiv 5) hx (by exact G1 hn);rw[hdx,show aE (rn (n+2) "_law_small") [(aB .FloorDiv (.ok (.fz (.int M))) (.ok (.fz (.int 5)))),.ok (.fz dx),(.ok (.fz (NL N)))]=.ok (.fz (enc w)) from (by kernel_rfl:_=rn (n+2) "_law_small" [.fz (.int (M.fdiv 5)),.fz dx,.fz (NL N)]).trans e,Ut];exact⟨.each w,rfl,⟨ow,rw'⟩,rfl,Nat.succ_le_succ hw,gw⟩
inductive FitV(N:List Str)(h g:Nat)(t:TT)(r:R V):Prop where
 |mk (w:WW) (e:r=.ok (.fz (enc w))) (o:okW N w∧w.isRows=false) (a:w.hgt≤h∧w.grow≤g) (s:TT) (i:aG w t=some s):FitV N h g t r
theorem U2(H:Wld N)(n:Nat)(c:Int){d:PyData}{t:TT}(hd:Sem N m d t)(hn:m+4≤n):FitV N 2 2 t (rn (n+4) "_law_fitting" [.fz (.int c),.fz d,.fz (NL N)]):=by
 obtain⟨w,e,ow,rw',hw,gw⟩:=U1 H n c hd hn;obtain⟨v,d',s1,s2,s3⟩:=u1 H ow rw' (n:=n+3) (by exact G2 hn hw) hd;rw[Q2,e];simp only[aF,bZ,dE,cO,aJ];rw[show aE (rn (n+3) "_law_seen") [.ok (.fz (enc w)),.ok (.fz d)]=.ok v from s1];show FitV N 2 2 t (rb (if c8 (dOf v)=true then _ else _) R.ok);rw[eK s2];rcases s3 with ⟨s,h1,h2⟩ | ⟨h1,h2⟩
 ·rw[h2.notNone];exact⟨w,rfl,⟨ow,rw'⟩,⟨hw,gw⟩,s,h1⟩
 ·rw[h2];exact⟨.whole,rfl,⟨trivial,rfl⟩,⟨Nat.zero_le _,Nat.zero_le _⟩,t,rfl⟩
end Mine
namespace Mine
open PySem
variable {N:List Str} {m:Nat}
noncomputable def bS:List WW→TT→Option TT
 | [],t=>some t
 |w::r,t=>(aG w t).bind (bS r)
theorem U3:∀ (a:List WW) (w:WW) (t:TT),bS (a++[w]) t=(bS a t).bind (aG w):=by
 intro v0
 induction v0 with
 |nil =>
  intro w t;show(aG w t).bind some=aG w t;cases aG w t<;>rfl
 |cons x r ih =>
  intro w t;show(aG x t).bind (bS (r++[w]))=((aG x t).bind (bS r)).bind (aG w);cases aG x t with
  |none=>rfl
  |some u=>exact ih w u
noncomputable def gw(N:List Str)(h g:Nat)(w:WW):Prop:=(okW N w∧w.isRows=false)∧w.hgt≤h∧w.grow≤g
theorem C4{h g h' g':Nat}{a b:WW}(ha:gw N h g a)(hb:gw N h' g' b):gw N (max h h'+1) (g+g') (.andThen a b):=by
 refine⟨⟨⟨ha.1,hb.1⟩,rfl⟩,?_,Nat.add_le_add ha.2.2 hb.2.2⟩;have:=ha.2.1;have:=hb.2.1;show max a.hgt b.hgt+1≤_;lia
theorem C5:∀ {r:List WW} {a:WW} {h g:Nat},2≤h→gw N h g a→(∀ w∈r,gw N 2 2 w)→gw N (h+r.length) (g+2*r.length) (r.foldl .andThen a)∧∀ t,aG (r.foldl .andThen a) t=(aG a t).bind (bS r)
 | [],a,h,g,_,ha,_=>⟨ha,fun t=>by show aG a t=(aG a t).bind some;cases aG a t<;>rfl⟩
 |w::r,a,h,g,h2,ha,hr=>by
  have hw:=C4 ha (hr w (by simp));rw[Nat.max_eq_left h2] at hw;obtain⟨i1,i2⟩:=C5 (r:=r) (Nat.le_succ_of_le h2) hw fun x hx=>hr x (List.mem_cons_of_mem _ hx);refine⟨⟨i1.1,Nat.le_trans i1.2.1 ?_,Nat.le_trans i1.2.2 ?_⟩,fun t=>?_⟩
  ·rw[List.length_cons];exact G3
  ·rw[List.length_cons];exact G4
  ·refine(i2 t).trans ?_;show((aG a t).bind (aG w)).bind (bS r)=(aG a t).bind fun u=>(aG w u).bind (bS r);cases aG a t<;>rfl
theorem C6:∀ {r:List WW} {a:WW},gw N 2 2 a→(∀ w∈r,gw N 2 2 w)→gw N (2+r.length) (2+2*r.length) (r.foldr .andThen a)∧∀ t,aG (r.foldr .andThen a) t=bS (r++[a]) t
 | [],a,ha,_=>⟨ha,fun t=>by show aG a t=(aG a t).bind some;cases aG a t<;>rfl⟩
 |w::r,a,ha,hr=>by
  obtain⟨i1,i2⟩:=C6 (r:=r) ha fun x hx=>hr x (List.mem_cons_of_mem _ hx);have hw:=C4 (hr w (by simp)) i1;rw[Nat.max_eq_right (Nat.le_add_right _ _)] at hw;refine⟨⟨hw.1,Nat.le_trans hw.2.1 ?_,Nat.le_trans hw.2.2 ?_⟩,fun t=>?_⟩
  ·rw[List.length_cons];exact G5
  ·rw[List.length_cons];exact G6
  ·show(aG w t).bind (aG (r.foldr .andThen a))=(aG w t).bind (bS (r++[a]));cases aG w t with
   |none=>rfl
   |some u=>exact i2 u
noncomputable def vS(s:List Int)(f:Int)(tr:PyData)(N:List Str)(ws:List WW)(v:V)(k x p:Option V):aA:=cN (ζ (Li s)) (ζ (.int f)) (ζ tr) (ζ (NL N)) (some (.own (.list (ws.map enc)))) (some v) k x p
theorem U4(n:Nat){s:List Int}{f:Int}{tr:PyData}{ws:List WW}{v:V}{k:Option V}:∀ (r:List WW) (a:WW) (p:Option V),∃ p',∀ kn kr,aQ (kN n) kO (r.map enc) (vS s f tr N ws v k (ζ (enc a)) p) kn kr=kn (vS s f tr N ws v k (ζ (enc (r.foldl .andThen a))) p'):=by
 intro v0
 induction v0 with
 |nil =>
  intro a p;exact⟨p,fun _ _=>rfl⟩
 |cons w r ih =>
  intro a p;obtain⟨p',e⟩:=ih (.andThen a w) (ζ (enc w));refine⟨p',fun kn kr=>(?_:_=_).trans (e kn kr)⟩;show rb (ofP (aR kO (enc w) (vS s f tr N ws v k (ζ (enc a)) p))) (fun σ=>kN n σ (fun σ=>aQ (kN n) kO (r.map enc) σ kn kr) kr)=_;unfold vS;rw[Q7,aJ,aF,Q8,bZ,cO,aJ,u4];rfl
theorem U5(n:Nat){s:List Int}{f:Int}{tr:PyData}{ws:List WW}{v:V}{k:Option V}:∀ (r:List WW) (a:WW) (p:Option V),∃ p',∀ kn kr,aQ (kP n) kQ (r.map enc) (vS s f tr N ws v k (ζ (enc a)) p) kn kr=kn (vS s f tr N ws v k (ζ (enc (r.foldl (fun a w=>.andThen w a) a))) p'):=by
 intro v0
 induction v0 with
 |nil =>
  intro a p;exact⟨p,fun _ _=>rfl⟩
 |cons w r ih =>
  intro a p;obtain⟨p',e⟩:=ih (.andThen w a) (ζ (enc w));refine⟨p',fun kn kr=>(?_:_=_).trans (e kn kr)⟩;show rb (ofP (aR kQ (enc w) (vS s f tr N ws v k (ζ (enc a)) p))) (fun σ=>kP n σ (fun σ=>aQ (kP n) kQ (r.map enc) σ kn kr) kr)=_;unfold vS;rw[Ra,aJ,aF,Rb,bZ,cO,aJ,u4];rfl
theorem C7(a:List PyData)(d:PyData):aI (.ok (.list (a++[d]))) (unS .USub (.ok (.fz (.int 1))))=.ok (.fz d):=by
 refine Eq.trans (b:=ofP (if (-1:Int) < 0∧-((a++[d]).length:Int)≤-1 then frz (a++[d])[(-1+((a++[d]).length:Int)).toNat]? else .no)) (by kernel_rfl) ?_;rw[if_pos ⟨by decide,by rw[List.length_append,List.length_singleton];exact G7⟩,show(-1+((a++[d]).length:Int)).toNat=a.length from by rw[List.length_append,List.length_singleton];exact G8];simp[frz,ofP]
theorem U6(x:PyData)(r:List PyData):slice (x::r) (some 1) none=r:=by
 unfold slice;simp only[Option.elim];rw[pC (by decide) (by rw[List.length_cons];exact G9)];simp
theorem U7(a:List PyData)(d:PyData):slice (a++[d]) none (some (-1))=a:=by
 unfold slice clipAt;simp only[Option.elim,List.drop_zero,Nat.sub_zero];rw[if_pos (by decide),show(max 0 (min (-1+((a++[d]).length:Int)) ((a++[d]).length:Int))).toNat=a.length from by simp;exact Ha];simp
theorem U8(H:Wld N)(n:Nat)(s:List Int)(fi:Int){d:PyData}{t:TT}(hd:Sem N m d t)(hn:m+4≤n):FitV N 5 8 t (rn (n+5) "_law_view" [.fz (Li s),.fz (.int fi),.fz d,.fz (NL N)]):=by
 rw[Q3,gL (n+2) s fi];have r4:=aU (bG s fi) (n:=4) (by decide);obtain⟨K,hK1,hK2,hK⟩:∃ K:Nat,1≤K∧K≤4∧rgI (aB .Add (.ok (.fz (.int 1))) (aB .Mod (.ok (.fz (.int (bG s fi)))) (.ok (.fz (.int 4)))))=.ok (cW 0 K):=by
  refine⟨(1+(bG s fi).fmod 4).toNat,by exact Hb r4,by exact Hc r4,?_⟩;refine Eq.trans (b:=ofP (mD (.int (1+(bG s fi).fmod 4)))) (by kernel_rfl) ?_;show ofP (if _ then _ else _)=_;rw[if_pos (by exact Hd r4)];rfl
 rw[hK,aF];have L:=iZ (S:=fun (a:List WW×V) (o:Option V)=>vS s fi d N a.1 a.2 o none none) (b:=sY (n+4)) (t:=sZ) (l:=cW 0 K) (p:=[]) (a:=([],.fz d)) (j:=none)
  (I:=fun p a=>a.1.length=p.length∧(∀ w∈a.1,gw N 2 2 w)∧∃ dn tn,a.2.clear=.fz dn∧Sem N m dn tn∧bS a.1 t=some tn) (E:=fun _=>False) (Q:=fun _=>False) (fun q x r a o hq hi=>by
   obtain⟨hx,hqk⟩:=u7 (show cW 0 K=q++x::r from hq);rw[Int.zero_add] at hx;subst hx;obtain⟨h1,h2,dn,tn,h3,h4,h5⟩:=hi;obtain⟨w,e,ow,hw,sn,hs⟩:=U2 H n (bG s (fi+1+q.length)) h4 hn;have hsn:=(pB H ow.1).1 ow.2 (n:=n+4) (by exact He hn hw) h4;rw[hs] at hsn;obtain⟨v,d',g1,g2,g3⟩:=hsn;refine Out.kn (a.1++[w],v) (ζ (.int q.length)) ⟨by simp[h1],fun z hz=>?_,d',sn,g2,g3,by rw[U3,h5];exact hs⟩ fun kn kr=>?_
   ·rcases List.mem_append.mp hz with hz | hz
    ·exact h2 z hz
    ·rw[List.mem_singleton.mp hz];exact⟨ow,hw⟩
   ·unfold vS;rw[Q4,aJ,aF,Q5,h3,bZ,dE,
     show aE (rn (n+4) "_law_mixed") [(.ok (.fz (Li s))),(aB .Add (ofP (aD .Add (.int fi) (.int 1))) (.ok (.fz (.int q.length))))]=.ok (.fz (.int (bG s (fi+1+q.length)))) from gL (n+2) s (fi+1+q.length),
     show aE (rn (n+4) "_law_fitting") [.ok (.fz (.int (bG s (fi+1+q.length)))),.ok (.fz dn),.ok (.fz (NL N))]=.ok (.fz (enc w)) from e]
    show rb (ofP (if (a.1.map enc).length < aX then P.ok (PyData.list (a.1.map enc++[enc w])) else .no)) _=_;rw[if_pos (by rw[List.length_map,h1];have:aX=16777216:=rfl;exact Hf hK2 hqk this),aJ,aF,C7,show aE (rn (n+4) "_law_seen") [.ok (.fz (enc w)),.ok (.fz dn)]=.ok v from g1,aF,show a.1.map enc++[enc w]=(a.1++[w]).map enc from by simp]) ⟨rfl,fun w hw=>(by exact cL hw),d,t,rfl,hd,rfl⟩
 obtain⟨⟨ws,v⟩,o,⟨h1,h2,dn,tn,_,_,h5⟩,e⟩ | ⟨_,hx,_⟩ | ⟨_,hv,_⟩:=L
 ·rw[List.nil_append,C0] at h1;have h1:ws.length=K:=h1;refine(e _ _).symm▸?_;show FitV N 5 8 t (s5 (n+4) (vS s fi d N ws v o none none) _ _);cases ws with
  |nil=>simp at h1;lia
  |cons w0 r =>
   have hl:r.length≤3:=by simp at h1;exact Hg hK2 h1
   unfold vS;rw[Q6,gL (n+2) s fi,show getItem (.list ((w0::r).map enc)) (.int 0)=.ok (.fz (enc w0)) from lP (by decide) rfl,aJ,aF];refine bcs (((bG s fi).fdiv 4).fmod 2==0) (fun hc=>?_) fun hc=>?_
   ·try rewrite[hc]
    rw[show aC (aB .Mod (aB .FloorDiv (.ok (.fz (.int (bG s fi)))) (.ok (.fz (.int 4)))) (.ok (.fz (.int 2)))) .Eq (.ok (.fz (.int 0)))=.ok (.fz (.bool false)) from hc▸by kernel_rfl];obtain⟨ini,la,hil⟩:∃ ini la,w0::r=ini++[la]:=⟨(w0::r).dropLast,(w0::r).getLast (by simp),(List.dropLast_concat_getLast (by simp)).symm⟩
    rw[hil] at h2 h5 ⊢;have hli:ini.length≤3:=by
     have:=congrArg List.length hil;rw[List.length_append,List.length_cons,List.length_singleton] at this;exact Hh hl this
    rw[List.map_append,show[la].map enc=[enc la] from rfl,C7,
     show rvI (bX (.ok (.list (ini.map enc++[enc la]))) none (some (unS .USub (.ok (.fz (.int 1))))))=.ok (slice (ini.map enc++[enc la]) none (some (-1))).reverse from rfl,U7,← List.map_reverse]
    obtain⟨p,e3⟩:=U5 (N:=N) (n+4) (s:=s) (f:=fi) (tr:=d) (ws:=ini++[la]) (v:=v) (k:=o) ini.reverse la none;rw[List.foldl_reverse] at e3;obtain⟨i1,i2⟩:=C6 (h2 la (by simp)) fun x hx=>h2 x (List.mem_append_left _ hx);refine⟨ini.foldr .andThen la,?_,i1.1,⟨Nat.le_trans i1.2.1 (by exact vY hli),Nat.le_trans i1.2.2 (by exact vZ hli)⟩,tn,(i2 t).trans h5⟩;have:=e3 (fun σ=>s6 (n+4) σ (fun _=>R.ok (.fz .none)) R.ok) R.ok;unfold vS at this;rw[List.map_append,show[la].map enc=[enc la] from rfl] at this;refine Eq.trans this ?_;exact Rc ..
   ·try rewrite[hc]
    rw[show aC (aB .Mod (aB .FloorDiv (.ok (.fz (.int (bG s fi)))) (.ok (.fz (.int 4)))) (.ok (.fz (.int 2)))) .Eq (.ok (.fz (.int 0)))=.ok (.fz (.bool true)) from hc▸by kernel_rfl,
     show plI (bX (.ok (.list ((w0::r).map enc))) (some (.ok (.fz (.int 1)))) none)=.ok (slice ((w0::r).map enc) (some 1) none) from rfl,List.map_cons,U6]
    obtain⟨p,e2⟩:=U4 (N:=N) (n+4) (s:=s) (f:=fi) (tr:=d) (ws:=w0::r) (v:=v) (k:=o) r w0 none;obtain⟨i1,i2⟩:=C5 (Nat.le_refl 2) (h2 w0 (by simp)) fun x hx=>h2 x (List.mem_cons_of_mem _ hx);refine⟨r.foldl .andThen w0,?_,i1.1,⟨Nat.le_trans i1.2.1 (by exact vY hl),Nat.le_trans i1.2.2 (by exact vZ hl)⟩,tn,(i2 t).trans h5⟩;refine(e2 _ _).trans ?_;unfold vS;exact Q9 ..
 ·exact hx.elim
 ·exact hv.elim
end Mine
namespace Mine
open PySem
variable {N:List Str}
inductive Tx(k:Nat)(r:R V):Prop where
 |mk (s:Str) (e:r=.ok (.fz (.str s))) (l:s.length≤k):Tx k r
theorem Tx.mono{a b:Nat}{r:R V}(h:Tx a r)(hl:a≤b):Tx b r:=by
 obtain⟨s,e,l⟩:=h;exact⟨s,e,Nat.le_trans l hl⟩
theorem Tx.rb{a:Nat}{r:R V}(h:Tx a r):Tx a (rb r R.ok):=by
 obtain⟨s,rfl,l⟩:=h;exact⟨s,rfl,l⟩
theorem Tx.add{a b:Nat}{r r':R V}(h:Tx a r)(g:Tx b r')(hl:a+b≤aX):Tx (a+b) (aB .Add r r'):=by
 obtain⟨s,rfl,l⟩:=h;obtain⟨s',rfl,l'⟩:=g;have hz:=Nat.add_le_add l l';refine⟨s++s',(congrArg ofP (if_pos ⟨rfl,Nat.le_trans hz hl⟩)).trans rfl,?_⟩;rw[Str.length_append];exact hz
theorem U9{k:Nat}:∀ {l:List Str},(∀ s∈l,s.length≤k)→(l.map (·.length)).sum≤l.length*k:=by
 intro l
 induction l with
 |nil=>exact fun _=>Nat.zero_le _
 |cons x l ih =>
  intro h;rw[List.map_cons,List.sum_cons,List.length_cons,Nat.succ_mul,Nat.add_comm];exact Nat.add_le_add (ih fun s hs=>h s (List.mem_cons_of_mem _ hs)) (h x List.mem_cons_self)
theorem Tx.join{k c:Nat}{l:List Str}{v:V}(hc:l.length≤c)(hk:∀ s∈l,s.length≤k)(hl:c*(k+1)≤aX)(hv:v=.own (.list (l.map .str))∨v=.fz (.list (l.map .str))∨v=.fz (.tuple (l.map .str))) :
  Tx (c*(k+1)) (bJ (so "join") (.ok (.fz (.str (so " ")))) [.ok v]):=by
 have e:bJ (so "join") (.ok (.fz (.str (so " ")))) [.ok v]=ofP ((ofO (strs? (l.map .str))).bind fun l=>if JoinOk (so " ") l then fz (.str (Txt.join (so " ") l)) else .no):=by
  rcases hv with rfl | rfl | rfl<;>rfl
 have hz:l.length*(k+1)≤c*(k+1):=Nat.mul_le_mul_right _ hc;have hs:(so " ").length=1:=rfl;have hj:JoinOk (so " ") l=true:=by
  unfold JoinOk;rw[StrLaws.joinFits hk (by rw[hs,Nat.mul_one,← Nat.mul_succ];exact Nat.le_trans hz hl)];rfl
 rw[e,fR];refine⟨_,(congrArg ofP (if_pos hj)).trans rfl,?_⟩;rw[show Txt.join (so " ") l=Str.join (so " ") l from StrLaws.glued_eq_join _ _];refine Nat.le_trans (StrLaws.join_length_le _ l) (Nat.le_trans ?_ hz);rw[hs,Nat.mul_one,Nat.mul_succ];exact Nat.add_le_add_right (U9 hk) _
noncomputable def Bh(h:Nat):Nat:=130*6 ^ h
theorem pG(h:Nat):Bh (h+1)=6*Bh h:=by
 show 130*6 ^ (h+1)=6*(130*6 ^ h);rw[Nat.pow_succ];lia
theorem jF{a b:Nat}(h:a≤b):Bh a≤Bh b:=Nat.mul_le_mul_left _ (Nat.pow_le_pow_right (by decide) h)
theorem jG(h:Nat):130≤Bh h:=jF (Nat.zero_le h)
theorem u9{h:Nat}(hh:h≤5):Bh h≤aX:=Nat.le_trans (jF hh) (by decide)
theorem le2{a n:Nat}(h:2*(a+1)+2≤n+1):2*a+2≤n:=Nat.le_trans (Nat.le_succ _) (Nat.le_of_succ_le_succ h)
theorem C8{a b n:Nat}(h:2*max a b+2≤n):2*a+2≤n:=Nat.le_trans (Nat.add_le_add_right (Nat.mul_le_mul_left 2 (Nat.le_max_left a b)) 2) h
theorem C9{a b n:Nat}(h:2*max a b+2≤n):2*b+2≤n:=Nat.le_trans (Nat.add_le_add_right (Nat.mul_le_mul_left 2 (Nat.le_max_right a b)) 2) h
theorem m5l{a b c:Nat}(h:max a b≤c):a≤c:=Nat.le_trans (Nat.le_max_left a b) h
theorem m5r{a b c:Nat}(h:max a b≤c):b≤c:=Nat.le_trans (Nat.le_max_right a b) h
theorem s7{a b c:Nat}(h:a+7≤c):a≤c - 7:=Nat.le_sub_of_add_le h
theorem a7{a c:Nat}(h:a≤c - 7)(hc:130≤c):a+7≤c:=Nat.le_trans (Nat.add_le_add_right h 7) (Nat.le_of_eq (Nat.sub_add_cancel (Nat.le_trans (by decide) hc)))
theorem bd{B S p c:Nat}(h1:130≤B)(h5:6*B≤S)(hp:p≤8)(hc:c≤6*(B - 6)):p+c≤S∧p+c+1≤S∧p+c+1≤6*B - 27∧c≤S:=by omega
theorem bd6{B:Nat}(h1:130≤B):6*(B - 7+1)≤6*(B - 6):=Nat.mul_le_mul_left 6 (by omega)
theorem bd2{B c:Nat}(hc:c≤2)(h1:130≤B):c*(B - 27+1)≤6*(B - 6):=Nat.le_trans (Nat.mul_le_mul_right _ hc) (by omega)
theorem Va(n:Nat):rn (n+1) "note_of" [.fz (enc .whole)]=rb (aB .Add (aB .Add (.ok (.fz (.str (so "(")))) (bJ (so "join") (.ok (.fz (.str (so " ")))) [.ok (.own (.list [.str (so "whole")]))])) (.ok (.fz (.str (so ")"))))) R.ok:=by kernel_rfl
theorem Vb(n:Nat)(x:Str):rn (n+1) "note_of" [.fz (enc (.pick x))]=rb (aB .Add (aB .Add (.ok (.fz (.str (so "(")))) (bJ (so "join") (.ok (.fz (.str (so " ")))) [.ok (.own (.list [.str (so "pick"),.str x]))])) (.ok (.fz (.str (so ")"))))) R.ok:=by kernel_rfl
theorem Vc(n:Nat)(x y:Str):rn (n+1) "note_of" [.fz (enc (.call x y))]=rb (aB .Add (aB .Add (.ok (.fz (.str (so "(")))) (bJ (so "join") (.ok (.fz (.str (so " ")))) [.ok (.own (.list [.str (so "call"),.str x,.str y]))])) (.ok (.fz (.str (so ")"))))) R.ok:=by kernel_rfl
theorem Vd(n:Nat)(x:Str)(l:Int):rn (n+1) "note_of" [.fz (enc (.sift x l))]=rb (aB .Add (aB .Add (.ok (.fz (.str (so "(")))) (bJ (so "join") (.ok (.fz (.str (so " ")))) [aN (.ok [.str (so "sift"),.str x,.int l]) (fun _=>.ok true) (fun d=>ofP (l5 d))])) (.ok (.fz (.str (so ")"))))) R.ok:=by kernel_rfl
theorem Ve(n:Nat)(x y:Str)(fs:List Str):rn (n+1) "note_of" [.fz (enc (.join x y fs))]=rb (aB .Add (aB .Add (aB .Add (aB .Add (aB .Add (aB .Add (.ok (.fz (.str (so "(join ")))) (.ok (.fz (.str x)))) (.ok (.fz (.str (so " "))))) (.ok (.fz (.str y)))) (.ok (.fz (.str (so " ("))))) (bJ (so "join") (.ok (.fz (.str (so " ")))) [.ok (.fz (.tuple (fs.map .str)))])) (.ok (.fz (.str (so "))"))))) R.ok:=by kernel_rfl
theorem Vf(n:Nat)(v:WW):rn (n+1) "note_of" [.fz (enc (.each v))]=rb (aB .Add (aB .Add (aB .Add (aB .Add (.ok (.fz (.str (so "(")))) (.ok (.fz (.str (so "each"))))) (.ok (.fz (.str (so " "))))) (bJ (so "join") (.ok (.fz (.str (so " ")))) [aN (.ok [enc v]) (fun _=>.ok true) (fun d=>rn n "note_of" [.fz d])])) (.ok (.fz (.str (so ")"))))) R.ok:=by kernel_rfl
theorem Vg(n:Nat)(a b:WW):rn (n+1) "note_of" [.fz (enc (.andThen a b))]=rb (aB .Add (aB .Add (aB .Add (aB .Add (.ok (.fz (.str (so "(")))) (.ok (.fz (.str (so "then"))))) (.ok (.fz (.str (so " "))))) (bJ (so "join") (.ok (.fz (.str (so " ")))) [aN (.ok [enc a,enc b]) (fun _=>.ok true) (fun d=>rn n "note_of" [.fz d])])) (.ok (.fz (.str (so ")"))))) R.ok:=by kernel_rfl
noncomputable def noR(n:Nat)(d2:PyData):R V:=aB .Add (aB .Add (aB .Add (aB .Add (aB .Add (aB .Add (.ok (.fz (.str (so "(")))) (ofP (getItem d2 (.int 0)))) (.ok (.fz (.str (so " "))))) (ofP (getItem d2 (.int 1)))) (.ok (.fz (.str (so " "))))) (aE (rn n "note_of") [ofP (getItem d2 (.int 2))])) (.ok (.fz (.str (so ")"))))
theorem Vh(n:Nat)(r:WW):rn (n+1) "note_of" [.fz (enc (.beside r))]=rb (aN (plI (.ok (.fz (enc r)))) (fun _=>.ok true) (noR n)) fun v3=>rb (aB .Add (aB .Add (.ok (.fz (.str (so "(beside ")))) (bJ (so "join") (.ok (.fz (.str (so " ")))) [ofP (rdv (V.clear v3))])) (.ok (.fz (.str (so ")"))))) R.ok:=by kernel_rfl
theorem Tx.lit(x:String){k:Nat}(h:(so x).length≤k:=by decide):Tx k (.ok (.fz (.str (so x)))):=⟨_,rfl,h⟩
theorem Tx.nm(H:Wld N){x:Str}(h:x∈N):Tx 8 (.ok (.fz (.str x))):=⟨_,rfl,(H.ok x h).hi⟩
theorem Tx.lit1(x:String)(h:(so x).length=1:=by rfl):Tx 1 (.ok (.fz (.str (so x)))):=⟨_,rfl,Nat.le_of_eq h⟩
noncomputable def NoA(w:WW):Prop:=∀ n,2*w.hgt+2≤n→w.hgt≤5→Tx (Bh w.hgt - 27) (rn n "note_of" [.fz (enc w)])
inductive NoL(k c:Nat)(r:R (List PyData)):Prop where
 |mk (l:List Str) (e:r=.ok (l.map .str)) (h:l.length=c) (s:∀ s∈l,s.length+7≤k):NoL k c r
noncomputable def NoB(w:WW):Prop:=∀ n,2*w.hgt+2≤n→w.hgt≤5→NoL (Bh w.hgt) w.names.length (aT (fun _=>.ok true) (noR n) (aS w))
structure NoS(w:WW):Prop where
 a:w.isRows=false→NoA w
 b:w.isRows=true→NoB w
theorem pH{l:List Str}{r:R V}(hr:r=.ok (.own (.list (l.map .str))))(hc:l.length≤3)(hk:∀ s∈l,s.length≤31):Tx (Bh 0 - 27) (rb (aB .Add (aB .Add (.ok (.fz (.str (so "(")))) (bJ (so "join") (.ok (.fz (.str (so " ")))) [r])) (.ok (.fz (.str (so ")"))))) R.ok):=by
 rw[hr];exact(((Tx.lit1 "(").add (.join (c:=3) (k:=31) hc hk (by decide) (.inl rfl)) (by decide)).add (.lit1 ")") (by decide)).rb.mono (by decide)
theorem Da{k:String}{c h:Nat}{l:List Str}{r:R V}(hk4:(so k).length=4)(hh:h+1≤5)(hc:c≤2)(hr:r=.ok (.own (.list (l.map .str))))(hl:l.length≤c)(hk:∀ s∈l,s.length≤Bh h - 27) :
  Tx (Bh (h+1) - 27) (rb (aB .Add (aB .Add (aB .Add (aB .Add (.ok (.fz (.str (so "(")))) (.ok (.fz (.str (so k))))) (.ok (.fz (.str (so " "))))) (bJ (so "join") (.ok (.fz (.str (so " ")))) [r])) (.ok (.fz (.str (so ")"))))) R.ok):=by
 rw[hr];obtain⟨q1,q2,q3,q4⟩:=bd (p:=6) (jG h) (pG h▸u9 hh) (by decide) (bd2 hc (jG h));exact(((((((Tx.lit1 "(").add ⟨_,rfl,Nat.le_of_eq hk4⟩ (by decide)).add (.lit1 " ") (by decide)).add (.join hl hk q4 (.inl rfl)) q1).add (.lit1 ")") q2).rb)).mono (pG h▸q3)
theorem Vi(H:Wld N)(n:Nat){x p:Str}{v:WW}(hx:x∈N)(hp:p∈N)(hh:v.hgt≤5)(h:Tx (Bh v.hgt - 27) (rn n "note_of" [.fz (enc v)])):Tx (Bh v.hgt - 7) (noR n (.tuple [.str x,.str p,enc v])):=by
 show Tx _ (aB .Add (aB .Add (aB .Add (aB .Add (aB .Add (aB .Add (.ok (.fz (.str (so "(")))) (.ok (.fz (.str x)))) (.ok (.fz (.str (so " "))))) (.ok (.fz (.str p)))) (.ok (.fz (.str (so " "))))) (rn n "note_of" [.fz (enc v)])) (.ok (.fz (.str (so ")")))));have b1:=jG v.hgt;have e:19+(Bh v.hgt - 27)+1=Bh v.hgt - 7:=by omega
 have b5:19+(Bh v.hgt - 27)+1≤aX:=e▸Nat.le_trans (Nat.sub_le _ _) (u9 hh);exact e▸(((((((Tx.lit1 "(").add (.nm H hx) (by decide)).add (.lit1 " ") (by decide)).add (.nm H hp) (by decide)).add (.lit1 " ") (by decide)).add h (Nat.le_of_succ_le b5)).add (.lit1 ")") b5)
theorem pI{a b:Str}{k:Nat}(ha:a.length≤k)(hb:b.length≤k):∀ s∈[a,b],s.length≤k:=fun s hs=>by
 rcases List.mem_cons.mp hs with rfl | hs
 ·exact ha
 ·obtain rfl:=List.mem_singleton.mp hs;exact hb
theorem Vj{n:Nat}(h:n < 10 ^ 30):n.log2 < 1920:=by
 by_cases h0:n=0
 ·rw[h0];decide
 ·exact(Nat.log2_lt h0).mpr (Nat.lt_of_lt_of_le h (by decide +kernel))
theorem Vk(H:Wld N):∀ {w:WW},okW N w→NoS w:=by
 have n31:∀ {x:Str},x∈N→x.length≤31:=fun h=>Nat.le_trans (H.ok _ h).hi (by decide);intro w
 induction w with
 |whole=>exact fun _=>⟨fun _ n hn _=>exnE (c:=1) n hn hn fun n _=>(Va n).symm▸pH (l:=[so "whole"]) rfl (by decide) fun s hs=>by obtain rfl:=List.mem_singleton.mp hs;decide,fun h=>bft h⟩
 |pick x=>exact fun o=>⟨fun _ n hn _=>exnE (c:=1) n hn hn fun n _=>(Vb n x).symm▸pH (l:=[so "pick", x]) rfl (Nat.le_of_ble_eq_true rfl) (pI (by decide) (n31 o)),fun h=>bft h⟩
 |call a b=>exact fun o=>⟨fun _ n hn _=>exnE (c:=1) n hn hn fun n _=>(Vc n a b).symm▸pH (l:=[so "call", a,b]) rfl (Nat.le_of_ble_eq_true rfl) fun s hs=>by
   rcases List.mem_cons.mp hs with rfl | hs
   ·decide
   ·exact pI (n31 o.1) (n31 o.2.1) s hs,fun h=>bft h⟩
 |sift f l=>exact fun o=>⟨fun _ n hn _=>exnE (c:=1) n hn hn fun n _=>(Vd n f l).symm▸pH (l:=[so "sift", f,lZ l]) (by
   rw[uN,lD (g:=fun d=>if eB d=true then .str (lZ l) else d) fun d hd=>by
    simp only[List.mem_cons,List.not_mem_nil,or_false] at hd;rcases hd with rfl | rfl | rfl
    ·exact⟨rfl,_,rfl,rfl⟩
    ·exact⟨rfl,_,rfl,rfl⟩
    ·exact⟨rfl,_,congrArg ofP (if_pos (Vj o.2)),rfl⟩];rfl) (Nat.le_of_ble_eq_true rfl) fun s hs=>by
   rcases List.mem_cons.mp hs with rfl | hs
   ·decide
   ·exact pI (n31 o.1) (by
     have:=int_text_length_le10 (a:=l) (k:=30) (by decide) o.2;rw[show(lZ l).length=(toString l).length from ofString_length _];exact this) s hs,fun h=>bft h⟩
 |join a b fs =>
  intro o;refine⟨fun _ n hn _=>exnE (c:=1) n hn hn fun n _=>(Ve n a b fs).symm▸?_,fun h=>bft h⟩;exact((((((Tx.lit "(join " (k:=6)).add (.nm H o.1.1) (by decide)).add (.lit1 " ") (by decide)).add (.nm H o.1.2.1) (by decide)).add (.lit " (" (k:=2)) (by decide)).add (.join (c:=6) (k:=8) o.2.1.2 (fun s hs=>(H.ok s (o.2.2.2 s hs)).hi) (by decide) (.inr (.inr rfl))) (by decide)).add (.lit "))" (k:=2)) (by decide) |>.rb.mono (show _≤Bh 0 - 27 by decide)
 |each v ih =>
  intro o;refine⟨fun _ n hn h5=>exnE (c:=1) n hn hn fun n hn=>(Vf n v).symm▸?_,fun h=>bft h⟩;have hn:2*(v.hgt+1)+2≤n+1:=hn;have h5:v.hgt+1≤5:=h5;obtain⟨s,e,hs⟩:=(ih o.1).a o.2 n (le2 hn) (Nat.le_of_succ_le h5);refine Da (c:=1) (l:=[s]) rfl h5 (by decide) ?_ (Nat.le_refl _) fun x hx=>by obtain rfl:=List.mem_singleton.mp hx;exact hs
  show rb (rb (nx (rn n "note_of" [.fz (enc v)])) fun v=>_) _=_;rw[e];rfl
 |andThen a b iha ihb =>
  intro o;refine⟨fun _ n hn h5=>exnE (c:=1) n hn hn fun n hn=>(Vg n a b).symm▸?_,fun h=>bft h⟩;have hn:2*(max a.hgt b.hgt+1)+2≤n+1:=hn;have h5:max a.hgt b.hgt+1≤5:=h5;obtain⟨s,e,hs⟩:=(iha o.1.1).a o.1.2 n (C8 (le2 hn)) (m5l (Nat.le_of_succ_le h5));obtain⟨s',e',hs'⟩:=(ihb o.2.1).a o.2.2 n (C9 (le2 hn)) (m5r (Nat.le_of_succ_le h5));have m1:=jF (Nat.le_max_left a.hgt b.hgt);have m2:=jF (Nat.le_max_right a.hgt b.hgt);refine Da (c:=2) (h:=max a.hgt b.hgt) (l:=[s,s']) rfl h5 (by decide) ?_ (Nat.le_refl _) (pI (Nat.le_trans hs (Nat.sub_le_sub_right m1 _)) (Nat.le_trans hs' (Nat.sub_le_sub_right m2 _)));show rb (rb (nx (rn n "note_of" [.fz (enc a)])) fun v=>rb (rb (nx (rn n "note_of" [.fz (enc b)])) fun v=>_) _) _=_;rw[e,e'];rfl
 |beside r ih =>
  intro o;refine⟨fun _ n hn h5=>exnE (c:=1) n hn hn fun n hn=>(Vh n r).symm▸?_,fun h=>bft h⟩;have hn:2*(r.hgt+1)+2≤n+1:=hn;have h5:r.hgt+1≤5:=h5;obtain⟨l,e,hl,hs⟩:=(ih o.1.1).b o.1.2 n (le2 hn) (Nat.le_of_succ_le h5);obtain⟨q1,q2,q3,q4⟩:=bd (p:=8) (jG r.hgt) (pG r.hgt▸u9 h5) (by decide) (bd6 (jG r.hgt));rw[iB o.1.2,show aN (plI (.ok (.fz (.tuple (aS r))))) (fun _=>.ok true) (noR n)=rb (aT (fun _=>.ok true) (noR n) (aS r)) fun r=>ofP (own (.list r)) from rfl,e];exact(((Tx.lit "(beside " (k:=8)).add (.join (c:=6) (k:=Bh r.hgt - 7) (hl▸o.2.2) (fun s h=>s7 (b:=0) (hs s h)) q4 (.inr (.inl rfl))) q1).add (.lit1 ")") q2).rb.mono (show _≤Bh (r.hgt+1) - 27 from pG r.hgt▸q3)
 |bnil=>exact fun _=>⟨fun h=>btf h,fun _ n hn _=>⟨[],rfl,rfl,fun s hs=>by exact cL hs⟩⟩
 |bcons x p v r ihv ihr =>
  intro o;obtain⟨⟨hx,hp⟩,⟨hv,rv⟩,⟨hr,rr⟩,_,_⟩:=o;refine⟨fun h=>btf h,fun _ n hn h5=>?_⟩;have hn:2*max v.hgt r.hgt+2≤n:=hn;have h5:max v.hgt r.hgt≤5:=h5;obtain⟨s,e1,hs⟩:=Vi H n hx hp (m5l h5) ((ihv hv).a rv n (C8 hn) (m5l h5));obtain⟨l,e2,hl,hss⟩:=(ihr hr).b rr n (C9 hn) (m5r h5);have m1:=jF (Nat.le_max_left v.hgt r.hgt);have m2:=jF (Nat.le_max_right v.hgt r.hgt);have b1:=jG v.hgt;refine⟨s::l,?_,congrArg Nat.succ hl,fun y hy=>?_⟩
  ·show rb (nx (noR n (.tuple [.str x,.str p,enc v]))) (fun v=>rb (aT _ (noR n) (aS r)) fun xs=>_)=_;rw[e1,e2];rfl
  ·show _≤Bh (max v.hgt r.hgt);rcases List.mem_cons.mp hy with rfl | hy
   ·exact Nat.le_trans (a7 hs b1) m1
   ·exact Nat.le_trans (hss y hy) m2
theorem Vl(H:Wld N){w:WW}(ho:okW N w)(hr:w.isRows=false)(hh:w.hgt≤5){n:Nat}(hn:3*w.hgt+4≤n):∃ v,rn (n+1) "written" [.fz (enc w)]=.ok v:=by
 obtain⟨n⟩:=exn (c:=1) hn;obtain⟨s,e,_⟩:=(Vk H ho).a hr (n+1) (Nat.le_trans (Nat.add_le_add (Nat.mul_le_mul_right _ (by decide)) (by decide)) hn) hh;refine⟨.fz (.str s),?_⟩;rw[Aw];rw[oX _ _ ((oQ H ho).1 hr n (Nat.le_of_succ_le_succ hn)),aF,e];rfl
end Mine
namespace Mine
open PySem
variable {N:List Str} {m:Nat}
theorem Db{L:List PyData}{i:Int}{j:Nat}(h:0≤i∧i < j)(hj:j=L.length):∃ d,d∈L∧getItem (.list L) (.int i)=.ok (.fz d):=by
 have hl:i.toNat < L.length:=by omega
 refine⟨L[i.toNat],List.getElem_mem hl,?_⟩;show(if 0≤i then (if 0≤i∧i < L.length then frz L[i.toNat]? else .no) else _)=_;rw[if_pos h.1,if_pos ⟨h.1,by omega⟩,List.getElem?_eq_getElem hl];rfl
noncomputable def gM(d:PyData):Prop:=∀ n,rn (n+12) "is_view" [.fz d]=.ok (.fz (.bool false))
theorem Vm(n:Nat)(a b:PyData):rn (n+1) "is_view" [.fz (.tuple [.str (so "call"),a,b])]=rb (rn n "are_two_names" [.fz a,.fz b]) R.ok:=by kernel_rfl
theorem Vn(n:Nat)(a b:PyData):rn (n+1) "is_view" [.fz (.tuple [.str (so "sift"),a,b])]=rb (aM (rn n "is_name" [.fz a]) (rn n "is_least" [.fz b])) R.ok:=by kernel_rfl
theorem Vo(n:Nat)(a b c:PyData):rn (n+1) "is_view" [.fz (.tuple [.str (so "join"),a,b,c])]=rb (aM (rn n "are_two_names" [.fz a,.fz b]) (rn n "are_fields" [.fz c])) R.ok:=by kernel_rfl
theorem Dc(x y:Str):aP (ofP (cmp .NotEq (.str x) (.str y)))=.ok (.fz (.bool !(x==y))):=rfl
theorem Vp{x:Str}(hx:okN x):gM (.tuple [.str (so "call"),.str x,.str x]):=fun n=>by
 rw[Vm,sA,d8 _ hx,lM,lM,Dc,beq_self_eq_true];rfl
theorem Vq{x:Str}(hx:okN x):gM (.tuple [.str (so "sift"),.str x,.bool true]):=fun n=>by
 rw[Vn,d8 _ hx,lM];kernel_rfl
theorem Vr(n:Nat)(x:Str):∃ b,rn (n+1) "is_name" [.fz (.str x)]=.ok (.fz (.bool b)):=by
 rw[Ad];have e:=tX (l:=x.cps.toList.map bO) (e:=fun d1=>aP (ofP (cmp .In d1 (.str (so "abcdefghijklmnopqrstuvwxyz"))))) (g:=fun d=>match d with | .str s=>Txt.contains (so "abcdefghijklmnopqrstuvwxyz") s | _=>false) fun d hd=>by
  obtain⟨c,_,rfl⟩:=List.mem_map.mp hd;rfl
 rw[show ofP (items (.str x))=.ok (x.cps.toList.map bO) from rfl,e];refine bcs (decide ((1:Int)≤x.cps.size)) (fun h=>⟨false,?_⟩) fun h=>bcs (decide ((x.cps.size:Int)≤8)) (fun g=>⟨false,?_⟩) fun g=>⟨(x.cps.toList.map bO).all fun d=>match d with | .str s=>Txt.contains (so "abcdefghijklmnopqrstuvwxyz") s | _=>false,?_⟩
 all_goals
  rw[show e7 (.ok (.fz (.int 1))) .LtE (ofP (bH (.str x))) .LtE (.ok (.fz (.int 8)))=aP (if decide ((1:Int)≤x.cps.size)=true then R.ok (decide ((x.cps.size:Int)≤8)) else R.ok false) from rfl,h]
  first | rfl | (rw[g];rfl)
theorem Vs{x:Str}(hx:okN x)(y:Str):gM (.tuple [.str (so "join"),.str x,.str y,.tuple []]):=fun n=>by
 obtain⟨b,hb⟩:=Vr (n+9) y;rw[Vo,sA,d8 _ hx,lM,hb,Dc,show rn (n+11) "are_fields" [.fz (.tuple [])]=.ok (.fz (.bool false)) from by kernel_rfl];cases b
 ·rfl
 ·cases (x==y)<;>rfl
noncomputable def noV(x:Str):List PyData:=[.none,.str (so "whole"),.tuple [.str (so "whole"),.int 1],.tuple [.str (so "pick"),.str (so "A")],.tuple [.str (so "call"),.str x,.str x],.tuple [.str (so "sift"),.str x,.bool true],.list [.str (so "whole")],.tuple [],
 .tuple [.str (so "then"),.tuple [.str (so "whole")],.tuple [.str (so "pick")]],.tuple [.str (so "each"),.tuple [.str (so "beside"),.tuple []]],.tuple [.str (so "join"),.str x,.str (x++so "x"),.tuple []]]
theorem Vt{x:Str}(hx:okN x):∀ d∈noV x,gM d:=by
 intro d hd;simp only[noV,List.mem_cons,List.not_mem_nil,or_false] at hd;rcases hd with rfl | rfl | rfl | rfl | rfl | rfl | rfl | rfl | rfl | rfl | rfl
 ·exact fun n=>by kernel_rfl
 ·exact fun n=>by kernel_rfl
 ·exact fun n=>by kernel_rfl
 ·exact fun n=>by kernel_rfl
 ·exact Vp hx
 ·exact Vq hx
 ·exact fun n=>by kernel_rfl
 ·exact fun n=>by kernel_rfl
 ·exact fun n=>by kernel_rfl
 ·exact fun n=>by kernel_rfl
 ·exact Vs hx _
theorem Vu{x:Str}(hx:okN x)(n:Nat)(c:Int):∃ d,rn (n+1) "_law_no_view" [.fz (.int c),.fz (.str x)]=.ok (.fz d)∧gM d:=by
 have r:=aU c (n:=11) (by decide);obtain⟨d,hd,e⟩:=Db (L:=noV x) (j:=11) r rfl;refine⟨d,?_,Vt hx d hd⟩;have hx8:=hx.hi;rw[Rd,show aD .Add (.str x) (.str (so "x"))=.ok (.fz (.str (x++so "x"))) from if_pos ⟨rfl,Nat.le_trans (Nat.add_le_add_right (show x.length≤8 from hx8) _) (by decide)⟩,show aD .Mod (.int c) (.int 11)=.ok (.fz (.int (c.fmod 11))) from rfl];exact(show _=rb (ofP (getItem (.list (noV x)) (.int (c.fmod 11)))) R.ok from by kernel_rfl).trans (by rw[e];rfl)
noncomputable def Dd(d:PyData):Prop:=∀ n,rn (n+5) "is_tree" [.fz d]=.ok (.fz (.bool false))
theorem De{n:Nat}{l:LP}{g:Str→Bool}(hN:∀ k∈ks l,okN k)(h:∀ k∈ks l,∃ d,lk l k=some d∧rn (n+2) "is_tree" [.fz d]=.ok (.fz (.bool (g k)))):rn (n+3) "is_tree" [.fz (.dict (mkd l))]=.ok (.fz (.bool ((ks l).all g))):=by
 simp only[nQ,jA,bN];have:=i8 (xs:=ks l) (g:=g) (e:=fun d1=>(aM (rn (n+2) "is_name" [.fz d1]) (aE (rn (n+2) "is_tree") [(ofP (getItem (.dict (mkd l)) d1))]))) fun x hx=>by
  obtain⟨d,h1,h2⟩:=h x hx;simp only[d8 (n+1) (hN x hx),aZ h1];exact h2
 simp only[aJ,this];simp[ifS,unS,eB,bR,k7,aF,ofP,lA]
theorem vA{x:Str}(hx:okN x){d:PyData}{n:Nat}{b:Bool}(h:rn (n+2) "is_tree" [.fz d]=.ok (.fz (.bool b))):rn (n+3) "is_tree" [.fz (.dict [(.str x,d)])]=.ok (.fz (.bool b)):=by
 refine(De (l:=[(x,d)]) (g:=fun _=>b) (fun k hk=>by obtain rfl:=List.mem_singleton.mp hk;exact hx) fun k hk=>⟨d,if_pos (List.mem_singleton.mp hk),h⟩).trans ?_;cases b<;>rfl
noncomputable def noT(x:Str):List PyData:=[.none,.bool true,.str (so "a"),.list [],.dict [(.str x,.bool true)],.dict [(.str (so "A"),.int 1)],.dict [(.str x,.dict [(.str x,.none)])],.tuple [],.dict [(.int 1,.int 2)]]
theorem Vv{x:Str}(hx:okN x):∀ d∈noT x,Dd d:=by
 intro d hd;simp only[noT,List.mem_cons,List.not_mem_nil,or_false] at hd;rcases hd with rfl | rfl | rfl | rfl | rfl | rfl | rfl | rfl | rfl
 ·exact fun n=>by kernel_rfl
 ·exact fun n=>by kernel_rfl
 ·exact fun n=>by kernel_rfl
 ·exact fun n=>by kernel_rfl
 ·exact fun n=>vA hx (n:=n+2) (by kernel_rfl)
 ·exact fun n=>by kernel_rfl
 ·exact fun n=>vA hx (n:=n+2) (vA hx (n:=n+1) (by kernel_rfl))
 ·exact fun n=>by kernel_rfl
 ·exact fun n=>by kernel_rfl
theorem Vx(H:Wld N){l:LP}{f:Str→Option TT}(B:Bld N m l f){x:Str}(hx:x∈N){d:PyData}(hd:Dd d):∀ n,m+5≤n→rn (n+1) "is_tree" [.fz (.dict (mkd (st l x d)))]=.ok (.fz (.bool false)):=by
 intro n hn;obtain⟨n,rfl⟩:∃ k,n=k+5:=⟨n - 5,by omega⟩
 have hk0:=(A8 x d B.nd).2;have hg:∀ k,lk (st l x d) k=if k=x then some d else lk l k:=kY l x d;refine(De (n:=n+3) (l:=st l x d) (g:=fun k=>k != x) (fun k hk=>?_) fun k hk=>?_).trans ?_
 ·rcases(hk0 k).mp hk with rfl | hk
  ·exact H.ok _ hx
  ·exact H.ok k (B.sub k hk)
 ·rw[hg]
  by_cases e:k=x
  ·subst e;exact⟨d,if_pos rfl,(hd n).trans (by rw[bne_self_eq_false])⟩
  ·obtain⟨d',t,h1,h2,h3⟩:=B.key (((hk0 k).mp hk).resolve_left e);exact⟨d',(if_neg e).trans h1,(jB H h3 (by omega)).trans (by rw[bne_iff_ne.mpr e])⟩
 ·rw[show(ks (st l x d)).all (fun k=>k != x)=false from List.all_eq_false.mpr ⟨x,(hk0 x).mpr (.inl rfl),by rw[bne_self_eq_false];exact Bool.false_ne_true⟩]
theorem Df(H:Wld N){x:Str}(hx:x∈N){d:PyData}{t:TT}(hd:Sem N m d t)(n:Nat)(c:Int):∃ v b,rn (n+1) "_law_no_tree" [.fz (.int c),.fz (.str x),.fz d]=.ok v∧v.clear=.fz b∧∀ n,m+5≤n→rn (n+1) "is_tree" [.fz b]=.ok (.fz (.bool false)):=by
 have r:=aU c (n:=9) (by decide);obtain⟨b,hb,e⟩:=Db (L:=noT x) (j:=9) r rfl;have bad:=Vv (H.ok x hx) b hb;have e1:rn (n+1) "_law_no_tree" [.fz (.int c),.fz (.str x),.fz d]=ifS (aM (.ok (.fz (.bool (bR d)))) (.ok (.fz (.bool ((c.fdiv 9).fmod 2==1))))) (rb (ofP (bE d)) fun v2=>bD (.ok (.fz b)) (ofP (c9 v2)) (.ok (.fz (.str x))) fun o3=>R.ok (.own o3)) (.ok (.fz b)):=by
  rw[Re];have:aI (a9 (.own (.list (noT x)))) (ofP (aD .Mod (.int c) (.int 9)))=.ok (.fz b):=congrArg ofP e;refine Eq.trans ?_ (congrArg (fun z=>ifS (aM (.ok (.fz (.bool (bR d)))) (.ok (.fz (.bool ((c.fdiv 9).fmod 2==1))))) (rb (ofP (bE d)) fun v2=>bD z (ofP (c9 v2)) (.ok (.fz (.str x))) fun o3=>R.ok (.own o3)) (rb z R.ok)) this)
  kernel_rfl
 have old:∀ n,m+5≤n→rn (n+1) "is_tree" [.fz b]=.ok (.fz (.bool false)):=fun n hn=>by
  obtain⟨n,rfl⟩:∃ k,n=k+4:=⟨n - 4,by omega⟩
  exact bad n
 rw[e1];obtain⟨j,rfl,rfl,hi⟩ | ⟨m',l,f,rfl,rfl,rfl,B⟩:=hd.inv'
 ·exact⟨.fz b,b,rfl,rfl,old⟩
 ·rw[lB];refine bcs ((c.fdiv 9).fmod 2==1) (fun h=>⟨.fz b,b,by rw[h];rfl,rfl,old⟩) fun h=>⟨.own (.dict (mkd (st l x b))),.dict (mkd (st l x b)),?_,rfl,fun n hn=>Vx H B hx bad n (by omega)⟩
  rw[h,← s9];show rb (ofP (mP (mkd l) b (.str x))) _=_;rw[show mP (mkd l) b (.str x)=.ok (.dict (dJ (mkd l) x b)) from if_pos (by rw[mkd,List.length_map];exact B.lt H (by decide))];rfl
end Mine
namespace Mine
open PySem
variable {N:List Str} {m:Nat}
theorem Vy(s:List Int)(lo hi:Option Int):slice (s.map PyData.int) lo hi=(slice s lo hi).map .int:=by
 unfold slice;rw[List.length_map,List.map_take,List.map_drop]
theorem Z4(f:List V→R V)(a:PyData):aE f [.ok (.fz a)]=f [.fz a]:=rfl
theorem vB(f:List V→R V)(a b:PyData):aE f [.ok (.fz a),.ok (.fz b)]=f [.fz a,.fz b]:=rfl
theorem Dg(f:List V→R V)(a b c:PyData):aE f [.ok (.fz a),.ok (.fz b),.ok (.fz c)]=f [.fz a,.fz b,.fz c]:=rfl
theorem Vz{p:Prop}(h:false=true):p:=bft h
theorem rbk{α β:Type}{r:R α}{k:α→R β}{v:α}{z:R β}(h:r=.ok v)(g:k v=z):rb r k=z:=by rw[h];exact g
theorem Z5(a b:R V):ifS (.ok (.fz (.bool false))) a b=b:=rfl
theorem Z6(a b:R V):ifS (.ok (.fz (.bool true))) a b=a:=rfl
noncomputable def rf(k:String):PyData:=.tuple [.str (so "refused"),.str (so k)]
noncomputable def XV:X:=⟨so "BadView", []⟩
noncomputable def TD(n:Nat)(r:R V):R V:=Ac BB (so "ViewError") r (fun y1=>run BB n true (so "_law_word") [.ex y1]) (.ok (.fz (.tuple [.str (so "refused"),.str (so "nothing")]))) R.ok
theorem vC(n:Nat):TD (n+1) (.exc XV)=.ok (.fz (rf "view")):=by kernel_rfl
theorem lR(n:Nat):TD (n+1) (.exc XT)=.ok (.fz (rf "tree")):=by kernel_rfl
theorem V0(n:Nat):TD (n+1) (.exc BP)=.ok (.fz (rf "put")):=by kernel_rfl
theorem V1(n:Nat)(v:V):TD n (.ok v)=.ok (.fz (rf "nothing")):=rfl
theorem pJ(n:Nat)(a b c:PyData):rn (n+1) "_law_told" [.fz (.int 0),.fz a,.fz b,.fz c]=TD n (rn n "show" [.fz a,.fz b]):=by rw[s8];rfl
theorem lT(n:Nat)(a b c:PyData):rn (n+1) "_law_told" [.fz (.int 1),.fz a,.fz b,.fz c]=TD n (rn n "put" [.fz a,.fz b,.fz c]):=by rw[s8];rfl
theorem Dh(n:Nat)(a b c:PyData):rn (n+1) "_law_told" [.fz (.int 2),.fz a,.fz b,.fz c]=TD n (rn n "written" [.fz a]):=by rw[s8];rfl
theorem vD{d:PyData}(h:gM d)(n:Nat):rn (n+13) "need_view" [.fz d]=.exc XV:=by rw[Af,h];rfl
theorem Di{d:PyData}{n:Nat}(h:rn n "is_tree" [.fz d]=.ok (.fz (.bool false))):rn (n+1) "need_tree" [.fz d]=.exc XT:=by rw[Aq,h];rfl
noncomputable def NoT(m:Nat)(b:PyData):Prop:=∀ n,m+5≤n→rn (n+1) "is_tree" [.fz b]=.ok (.fz (.bool false))
structure GoodV(N:List Str)(w:WW):Prop where
 o:okW N w
 r:w.isRows=false
 h:w.hgt≤5
 g:w.grow≤8
section
variable (H:Wld N)
theorem V2{d:PyData}(h:gM d)(o c:PyData)(n:Nat):rn (n+15) "_law_told" [.fz (.int 0),.fz d,.fz o,.fz c]=.ok (.fz (rf "view"))∧rn (n+15) "_law_told" [.fz (.int 1),.fz d,.fz o,.fz c]=.ok (.fz (rf "view"))∧rn (n+15) "_law_told" [.fz (.int 2),.fz d,.fz o,.fz c]=.ok (.fz (rf "view")):=by
 refine⟨?_,?_,?_⟩
 ·rw[pJ,sJ,vD h];exact vC _
 ·rw[lT,kG,vD h];exact vC _
 ·rw[Dh,Aw,vD h];exact vC _
include H
theorem V3{w:WW}(G:GoodV N w){dv:PyData}(ev:dv=enc w)(a b:PyData)(n:Nat):rn (n+40) "_law_told" [.fz (.int 2),.fz dv,.fz a,.fz b]=.ok (.fz (rf "nothing")):=by
 subst ev;obtain⟨v,e⟩:=Vl H G.o G.r G.h (n:=n+38) (by have:=G.h;omega);rw[Dh,e,V1]
theorem pK{w:WW}(G:GoodV N w)(n:Nat):rn (n+38) "need_view" [.fz (enc w)]=.ok (.fz .none):=oX _ _ ((oQ H G.o).1 G.r _ (by have:=G.h;omega))
theorem V4{w:WW}(G:GoodV N w){dv:PyData}(ev:dv=enc w){b:PyData}(h:NoT 5 b)(c:PyData)(n:Nat):rn (n+40) "_law_told" [.fz (.int 0),.fz dv,.fz b,.fz c]=.ok (.fz (rf "tree"))∧rn (n+40) "_law_told" [.fz (.int 1),.fz dv,.fz b,.fz c]=.ok (.fz (rf "tree")):=by
 subst ev;have h1:=Di (h (n+36) (by omega));refine⟨?_,?_⟩
 ·rw[pJ,sJ,pK H G,aF,h1];exact lR _
 ·rw[lT,kG,pK H G,aF,h1];exact lR _
theorem V5{w:WW}(G:GoodV N w){dv:PyData}(ev:dv=enc w){d:PyData}{t:TT}(hd:Sem N 5 d t)(hs:aG w t=none)(c:PyData)(n:Nat):rn (n+40) "_law_told" [.fz (.int 0),.fz dv,.fz d,.fz c]=.ok (.fz (rf "tree"))∧rn (n+40) "_law_told" [.fz (.int 1),.fz dv,.fz d,.fz c]=.ok (.fz (rf "tree")):=by
 subst ev;have hh:=G.h;have h1:=Bx H G.o G.r (n:=n+39) (by omega) hd;have h2:=(uD H G.o).a G.r (n:=n+38) (by omega) hd;rw[hs] at h1 h2;have h1:rn (n+39) "show" [.fz (enc w),.fz d]=.exc XT:=h1;have h2:rn (n+38) "shown" [.fz (enc w),.fz d]=.exc XT:=h2;refine⟨?_,?_⟩
 ·rw[pJ,h1];exact lR _
 ·rw[lT,kG,pK H G,aF,lK _ _ (jB H hd (n:=n+36) (by omega)),aF,h2];exact lR _
theorem V6{w:WW}(G:GoodV N w){dv:PyData}(ev:dv=enc w){d:PyData}{t s:TT}(hd:Sem N 5 d t)(hs:aG w t=some s)(c:PyData)(n:Nat):rn (n+40) "_law_told" [.fz (.int 0),.fz dv,.fz d,.fz c]=.ok (.fz (rf "nothing")):=by
 subst ev;have hh:=G.h;have h1:=Bx H G.o G.r (n:=n+39) (by omega) hd;rw[hs] at h1;obtain⟨v,_,e,_,_⟩:=h1;rw[pJ,e];rfl
theorem V7{w:WW}(G:GoodV N w){dv:PyData}(ev:dv=enc w){d:PyData}{t s:TT}(hd:Sem N 5 d t)(hs:aG w t=some s){c:PyData}(hc:NoT 5 c)(n:Nat):rn (n+40) "_law_told" [.fz (.int 1),.fz dv,.fz d,.fz c]=.ok (.fz (rf "tree")):=by
 subst ev;have hh:=G.h;obtain⟨v,_,e,_,_⟩:=uJ H G.o G.r (n:=n+38) (by omega) hd hs;rw[lT,kG,pK H G,aF,lK _ _ (jB H hd (n:=n+36) (by omega)),aF,e,aF,Di (hc (n+36) (by omega))];exact lR _
theorem V8{w:WW}(G:GoodV N w){dv:PyData}(ev:dv=enc w){d:PyData}{t s:TT}(hd:Sem N 5 d t)(hs:aG w t=some s){c:PyData}{tn:TT}(hc:Sem N 5 c tn)(n:Nat):rn (n+40) "_law_told" [.fz (.int 1),.fz dv,.fz d,.fz c]=.ok (.fz (rf (if (aW w t tn).isSome then "nothing" else "put"))):=by
 subst ev;have hh:=G.h;have hg:=G.g;have h1:=S9 H G.o G.r (n:=n+39) (by omega) (by omega) hd hc hs;rw[lT];refine ocs (aW w t tn) (fun e=>?_) fun r e=>?_
 ·rw[e] at h1 ⊢;have h1:rn (n+39) "put" [.fz (enc w),.fz d,.fz c]=.exc BP:=h1;rw[h1];exact V0 _
 ·rw[e] at h1 ⊢;obtain⟨v,_,e1,_,_⟩:=h1;rw[e1];rfl
end
theorem Z7(k:String):aC (.ok (.fz (rf k))) .NotEq (.ok (.fz (rf k)))=.ok (.fz (.bool false)):=by
 show R.ok (V.fz (.bool !([so "refused", so k]==[so "refused", so k])))=_;rw[beq_self_eq_true];rfl
abbrev J13:=Option V×Option V×Option V×Option V×Option V×Option V×Option V×Option V×Option V×Option V×Option V×Option V×Option V×Option V×Option V
noncomputable def lS(s:List Int)(N:List Str)(a:V)(j:J13):aA:=dG (ζ (Li s)) (ζ (NL N)) (some a) j.1 j.2.1 j.2.2.1 j.2.2.2.1 j.2.2.2.2.1 j.2.2.2.2.2.1 j.2.2.2.2.2.2.1 j.2.2.2.2.2.2.2.1 j.2.2.2.2.2.2.2.2.1 j.2.2.2.2.2.2.2.2.2.1 j.2.2.2.2.2.2.2.2.2.2.1 j.2.2.2.2.2.2.2.2.2.2.2.1 j.2.2.2.2.2.2.2.2.2.2.2.2.1 j.2.2.2.2.2.2.2.2.2.2.2.2.2.1 j.2.2.2.2.2.2.2.2.2.2.2.2.2.2
inductive Go(d:PyData)(r:KN→R V)(S:J13→aA):Prop where
 |mk (j:J13) (e:∀ kn,r kn=kn (S j)):Go d r S
theorem V9{i:Int}{p:Prop}(h:0≤i∧i < 4)(h0:i=0→p)(h1:i=1→p)(h2:i=2→p)(h3:i=3→p):p:=by
 obtain⟨n,rfl⟩:=Int.eq_ofNat_of_zero_le h.1
 match n,h.2 with
 |0,_=>exact h0 rfl
 |1,_=>exact h1 rfl
 |2,_=>exact h2 rfl
 |3,_=>exact h3 rfl
 |n+4,h=>exact absurd h (Int.not_lt.mpr (Int.ofNat_le.mpr (Nat.le_add_left 4 n)))
theorem at4{P:Int→PyData→Prop}{a b c d:PyData}(h0:P 0 a)(h1:P 1 b)(h2:P 2 c)(h3:P 3 d){e:R V}{i:Int}(he:e=.ok (.fz (.int i)))(h:0≤i∧i < 4):∃ x,aI (a9 (.own (.list [a,b,c,d]))) e=.ok (.fz x)∧P i x:=by
 rw[he];refine V9 h (fun e=>?_) (fun e=>?_) (fun e=>?_) fun e=>?_<;>subst e
 ·exact⟨a,rfl,h0⟩
 ·exact⟨b,rfl,h1⟩
 ·exact⟨c,rfl,h2⟩
 ·exact⟨d,rfl,h3⟩
noncomputable def PV(N:List Str)(w:WW)(i:Int)(x:PyData):Prop:=(i=1∧gM x)∨(i≠1∧∃ w',x=enc w'∧GoodV N w'∧(i≠2→w'=w))
noncomputable def PO(d:PyData)(i:Int)(x:PyData):Prop:=(i=1∧NoT 5 x)∨(i≠1∧x=d)
noncomputable def PN(N:List Str)(s:TT)(i:Int)(x:PyData):Prop:=(i=1∧NoT 5 x)∨(i≠1∧∃ t,Sem N 5 x t∧(i=3→t=s))
theorem Dj{a:R V}{v:V}{x y z u:PyData}(ha:a=.ok v)(hv:v.clear=.fz x):cG [.ok (.fz y),a,.ok (.fz z),.ok (.fz u)]=.ok (.own (.list [y,x,z,u])):=by
 rw[ha];show R.ok (V.own (.list [y,dOf v.clear,z,u]))=_;rw[hv];rfl
theorem Wa{a b:R V}{v v':V}{x x' y z:PyData}(ha:a=.ok v)(hv:v.clear=.fz x)(hb:b=.ok v')(hv':v'.clear=.fz x'):cG [.ok (.fz y),a,.ok (.fz z),b]=.ok (.own (.list [y,x,z,x'])):=by
 rw[ha,hb];show R.ok (V.own (.list [y,dOf v.clear,z,dOf v'.clear]))=_;rw[hv,hv'];rfl
noncomputable def TL(s:List Int)(N:List Str)(k c:Int)(x:Str)(d dv dd dn:PyData)(b1 b2:Bool)(v4 v5 v6:V)(Sn T0 T1 T2 K1 K3 I2:R V)(kn:KN)(kr:KR):R V:=(rb (aM (unS .Not (.ok (.fz (.bool b1)))) (aM (unS .Not (.ok (.fz (.bool b2)))) (aC Sn .Is (.ok (.fz .none))))) fun v12=>(rb (cM (.ok (.fz (.bool b1))) (.ok (.fz (.str (so "view")))) (cM (orS (.ok (.fz (.bool b2))) (ofP (rdv (V.clear v12)))) (.ok (.fz (.str (so "tree")))) (.ok (.fz (.str (so "nothing")))))) fun v13=>(ifS (aC T0 .NotEq (aO [(.ok (.fz (.str (so "refused")))),(ofP (rdv (V.clear v13)))])) (kr (.fz (.bool false))) (ifS (aC T2 .NotEq (aO [(.ok (.fz (.str (so "refused")))),(cM (.ok (.fz (.bool b1))) (.ok (.fz (.str (so "view")))) (.ok (.fz (.str (so "nothing")))))])) (kr (.fz (.bool false))) (ifS (aM (aC (ofP (rdv (V.clear (V.clear v13)))) .Eq (.ok (.fz (.str (so "nothing"))))) K1) (rb T1 fun v14=>(ifS (aP (ofP (cmp .Eq (.str (so "tree")) (.str (so "nothing"))))) (ifS (orS (aC (aI (a9 v14) (.ok (.fz (.int 1)))) .NotIn (.ok (.fz (.tuple [(.str (so "nothing")),(.str (so "put"))])))) (aM K3 (aM I2 (aC (aI (a9 v14) (.ok (.fz (.int 1)))) .NotEq (.ok (.fz (.str (so "nothing")))))))) (kr (.fz (.bool false))) (kn (dG (ζ (Li s)) (ζ (NL N)) (ζ d) (ζ (.int k)) (ζ (.int c)) (ζ (.str x)) (ζ dv) (ζ (enc (.pick x))) (some v4) (some v5) (some v6) (ζ dd) (ζ dn) (ζ (.bool b1)) (ζ (.bool b2)) (some (V.clear v12)) (ζ (.str (so "tree"))) (some v14)))) (ifS (aC (ofP (rdv (V.clear v14))) .NotEq (.ok (.fz (.tuple [(.str (so "refused")),(.str (so "tree"))])))) (kr (.fz (.bool false))) (kn (dG (ζ (Li s)) (ζ (NL N)) (ζ d) (ζ (.int k)) (ζ (.int c)) (ζ (.str x)) (ζ dv) (ζ (enc (.pick x))) (some v4) (some v5) (some v6) (ζ dd) (ζ dn) (ζ (.bool b1)) (ζ (.bool b2)) (some (V.clear v12)) (ζ (.str (so "tree"))) (some (V.clear v14))))))) (rb T1 fun v15=>(ifS (aC (ofP (rdv (V.clear (V.clear (V.clear v13))))) .Eq (.ok (.fz (.str (so "nothing"))))) (ifS (orS (aC (aI (a9 v15) (.ok (.fz (.int 1)))) .NotIn (.ok (.fz (.tuple [(.str (so "nothing")),(.str (so "put"))])))) (aM K3 (aM I2 (aC (aI (a9 v15) (.ok (.fz (.int 1)))) .NotEq (.ok (.fz (.str (so "nothing")))))))) (kr (.fz (.bool false))) (kn (dG (ζ (Li s)) (ζ (NL N)) (ζ d) (ζ (.int k)) (ζ (.int c)) (ζ (.str x)) (ζ dv) (ζ (enc (.pick x))) (some v4) (some v5) (some v6) (ζ dd) (ζ dn) (ζ (.bool b1)) (ζ (.bool b2)) (some (V.clear v12)) (some (V.clear (V.clear (V.clear v13)))) (some v15)))) (ifS (aC (ofP (rdv (V.clear v15))) .NotEq (aO [(.ok (.fz (.str (so "refused")))),(ofP (rdv (V.clear (V.clear (V.clear (V.clear v13))))))])) (kr (.fz (.bool false))) (kn (dG (ζ (Li s)) (ζ (NL N)) (ζ d) (ζ (.int k)) (ζ (.int c)) (ζ (.str x)) (ζ dv) (ζ (enc (.pick x))) (some v4) (some v5) (some v6) (ζ dd) (ζ dn) (ζ (.bool b1)) (ζ (.bool b2)) (some (V.clear v12)) (some (V.clear (V.clear (V.clear (V.clear v13))))) (some (V.clear v15))))))))))))
noncomputable def TLV(x1 d0 d1:PyData)(w2 w3 v1 v2 v3 v4 v5 v6 v7 v8 v9 v10 v11:V)(kn:KN)(kr:KR):R V:=(rb (aM (unS .Not (ofP (rdv (V.clear v10)))) (aM (unS .Not (ofP (rdv (V.clear v11)))) (aC (aE (rn 399 "_law_seen") [(aY (V.clear v7)),(aY (V.clear v8))]) .Is (.ok (.fz .none))))) fun v12=>(rb (cM (ofP (rdv (V.clear (V.clear v10)))) (.ok (.fz (.str (so "view")))) (cM (orS (ofP (rdv (V.clear (V.clear v11)))) (ofP (rdv (V.clear v12)))) (.ok (.fz (.str (so "tree")))) (.ok (.fz (.str (so "nothing")))))) fun v13=>(ifS (aC (aE (rn 399 "_law_told") [(.ok (.fz (.int 0))),(aY (V.clear (V.clear v7))),(aY (V.clear (V.clear v8))),(aY (V.clear v9))]) .NotEq (aO [(.ok (.fz (.str (so "refused")))),(ofP (rdv (V.clear v13)))])) (kr (.fz (.bool false))) (ifS (aC (aE (rn 399 "_law_told") [(.ok (.fz (.int 2))),(aY (V.clear (V.clear (V.clear v7)))),(aY (V.clear (V.clear (V.clear v8)))),(aY (V.clear (V.clear v9)))]) .NotEq (aO [(.ok (.fz (.str (so "refused")))),(cM (ofP (rdv (V.clear (V.clear (V.clear v10))))) (.ok (.fz (.str (so "view")))) (.ok (.fz (.str (so "nothing")))))])) (kr (.fz (.bool false))) (ifS (aM (aC (ofP (rdv (V.clear (V.clear v13)))) .Eq (.ok (.fz (.str (so "nothing"))))) (aC (aB .Mod (ofP (aD .FloorDiv d1 (.int 16))) (.ok (.fz (.int 4)))) .Eq (.ok (.fz (.int 1))))) (rb (aE (rn 399 "_law_told") [(.ok (.fz (.int 1))),(aY (V.clear (V.clear (V.clear (V.clear v7))))),(aY (V.clear (V.clear (V.clear (V.clear v8))))),(aY (V.clear (V.clear (V.clear v9))))]) fun v14=>(ifS (aP (ofP (cmp .Eq (.str (so "tree")) (.str (so "nothing"))))) (ifS (orS (aC (aI (a9 v14) (.ok (.fz (.int 1)))) .NotIn (.ok (.fz (.tuple [(.str (so "nothing")),(.str (so "put"))])))) (aM (aC (aB .Mod (ofP (aD .FloorDiv d1 (.int 16))) (.ok (.fz (.int 4)))) .Eq (.ok (.fz (.int 3)))) (aM (aC (ofP (aD .Mod d1 (.int 4))) .NotEq (.ok (.fz (.int 2)))) (aC (aI (a9 v14) (.ok (.fz (.int 1)))) .NotEq (.ok (.fz (.str (so "nothing")))))))) (kr (.fz (.bool false))) (kn (dG (ζ x1) (some (V.clear w2)) (some (V.clear (V.clear w3))) (ζ d0) (ζ d1) (some (V.clear (V.clear (V.clear (V.clear v1))))) (some (V.clear (V.clear (V.clear (V.clear v7))))) (some (V.clear v3)) (some v4) (some v5) (some v6) (some (V.clear (V.clear (V.clear (V.clear v8))))) (some (V.clear (V.clear (V.clear v9)))) (some (V.clear (V.clear (V.clear v10)))) (some (V.clear (V.clear v11))) (some (V.clear v12)) (ζ (.str (so "tree"))) (some v14)))) (ifS (aC (ofP (rdv (V.clear v14))) .NotEq (.ok (.fz (.tuple [(.str (so "refused")),(.str (so "tree"))])))) (kr (.fz (.bool false))) (kn (dG (ζ x1) (some (V.clear w2)) (some (V.clear (V.clear w3))) (ζ d0) (ζ d1) (some (V.clear (V.clear (V.clear (V.clear v1))))) (some (V.clear (V.clear (V.clear (V.clear v7))))) (some (V.clear v3)) (some v4) (some v5) (some v6) (some (V.clear (V.clear (V.clear (V.clear v8))))) (some (V.clear (V.clear (V.clear v9)))) (some (V.clear (V.clear (V.clear v10)))) (some (V.clear (V.clear v11))) (some (V.clear v12)) (ζ (.str (so "tree"))) (some (V.clear v14))))))) (rb (aE (rn 399 "_law_told") [(.ok (.fz (.int 1))),(aY (V.clear (V.clear (V.clear (V.clear v7))))),(aY (V.clear (V.clear (V.clear (V.clear v8))))),(aY (V.clear (V.clear (V.clear v9))))]) fun v15=>(ifS (aC (ofP (rdv (V.clear (V.clear (V.clear v13))))) .Eq (.ok (.fz (.str (so "nothing"))))) (ifS (orS (aC (aI (a9 v15) (.ok (.fz (.int 1)))) .NotIn (.ok (.fz (.tuple [(.str (so "nothing")),(.str (so "put"))])))) (aM (aC (aB .Mod (ofP (aD .FloorDiv d1 (.int 16))) (.ok (.fz (.int 4)))) .Eq (.ok (.fz (.int 3)))) (aM (aC (ofP (aD .Mod d1 (.int 4))) .NotEq (.ok (.fz (.int 2)))) (aC (aI (a9 v15) (.ok (.fz (.int 1)))) .NotEq (.ok (.fz (.str (so "nothing")))))))) (kr (.fz (.bool false))) (kn (dG (ζ x1) (some (V.clear w2)) (some (V.clear (V.clear w3))) (ζ d0) (ζ d1) (some (V.clear (V.clear (V.clear (V.clear v1))))) (some (V.clear (V.clear (V.clear (V.clear v7))))) (some (V.clear v3)) (some v4) (some v5) (some v6) (some (V.clear (V.clear (V.clear (V.clear v8))))) (some (V.clear (V.clear (V.clear v9)))) (some (V.clear (V.clear (V.clear v10)))) (some (V.clear (V.clear v11))) (some (V.clear v12)) (some (V.clear (V.clear (V.clear v13)))) (some v15)))) (ifS (aC (ofP (rdv (V.clear v15))) .NotEq (aO [(.ok (.fz (.str (so "refused")))),(ofP (rdv (V.clear (V.clear (V.clear (V.clear v13))))))])) (kr (.fz (.bool false))) (kn (dG (ζ x1) (some (V.clear w2)) (some (V.clear (V.clear w3))) (ζ d0) (ζ d1) (some (V.clear (V.clear (V.clear (V.clear v1))))) (some (V.clear (V.clear (V.clear (V.clear v7))))) (some (V.clear v3)) (some v4) (some v5) (some v6) (some (V.clear (V.clear (V.clear (V.clear v8))))) (some (V.clear (V.clear (V.clear v9)))) (some (V.clear (V.clear (V.clear v10)))) (some (V.clear (V.clear v11))) (some (V.clear v12)) (some (V.clear (V.clear (V.clear (V.clear v13))))) (some (V.clear v15))))))))))))
theorem eb7(x1 d0 d1:PyData)(w2 w3:V)(o6 o7 o8 o9 o10 o11 o12 o13 o14 o15 o16 o17 o18:Option V)(kn:KN)(kr:KR):kR 399 (dG (ζ x1) (some w2) (some w3) (ζ d0) (ζ d1) o6 o7 o8 o9 o10 o11 o12 o13 o14 o15 o16 o17 o18) kn kr=(rb (aI (a9 w2) (aB .Mod (ofP (aD .FloorDiv d1 (.int 5))) (.ok (.fz (.int 14))))) fun v1=>(rb (aE (rn 399 "_law_view") [(.ok (.fz x1)),(aB .Add (.ok (.fz (.int 300))) (ofP (aD .Mult (.int 7) d0))),(aY (V.clear w3)),(aY (V.clear w2))]) fun v2=>(rb (aO [(.ok (.fz (.str (so "pick")))),(ofP (rdv (V.clear v1)))]) fun v3=>(rb (cG [(ofP (rdv (V.clear v2))),(aE (rn 399 "_law_no_view") [(ofP (aD .FloorDiv d1 (.int 3))),(aY (V.clear (V.clear v1)))]),(ofP (rdv (V.clear v3))),(ofP (rdv (V.clear v2)))]) fun v4=>(rb (cG [(ofP (rdv (V.clear (V.clear w3)))),(aE (rn 399 "_law_no_tree") [(ofP (aD .FloorDiv d1 (.int 7))),(aY (V.clear (V.clear (V.clear v1)))),(aY (V.clear (V.clear w3)))]),(ofP (rdv (V.clear (V.clear w3)))),(ofP (rdv (V.clear (V.clear w3))))]) fun v5=>(rb (cG [(ofP (rdv (V.clear (V.clear (V.clear w3))))),(aE (rn 399 "_law_no_tree") [(ofP (aD .FloorDiv d1 (.int 11))),(aY (V.clear (V.clear (V.clear (V.clear v1))))),(aY (V.clear (V.clear (V.clear w3))))]),(.ok (.fz (.int 5))),(aE (rn 399 "_law_seen") [(aY (V.clear (V.clear v2))),(aY (V.clear (V.clear (V.clear w3))))])]) fun v6=>(rb (aI (a9 v4) (ofP (aD .Mod d1 (.int 4)))) fun v7=>(rb (aI (a9 v5) (aB .Mod (ofP (aD .FloorDiv d1 (.int 4))) (.ok (.fz (.int 4))))) fun v8=>(rb (aI (a9 v6) (aB .Mod (ofP (aD .FloorDiv d1 (.int 16))) (.ok (.fz (.int 4))))) fun v9=>(rb (aC (ofP (aD .Mod d1 (.int 4))) .Eq (.ok (.fz (.int 1)))) fun v10=>(rb (aC (aB .Mod (ofP (aD .FloorDiv d1 (.int 4))) (.ok (.fz (.int 4)))) .Eq (.ok (.fz (.int 1)))) fun v11=>TLV x1 d0 d1 w2 (V.clear w3) v1 v2 v3 v4 v5 v6 v7 v8 v9 v10 v11 kn kr))))))))))):=by kernel_rfl
noncomputable def J7(k c:Int)(x:Str)(dv dd dn:PyData)(b1 b2:Bool)(v4 v5 v6:V)(v12:Bool)(u y:String):J13:=(some (.fz (.int k)),some (.fz (.int c)),some (.fz (.str x)),some (.fz dv),some (.fz (enc (.pick x))),some v4,some v5,some v6,some (.fz dd),some (.fz dn),some (.fz (.bool b1)),some (.fz (.bool b2)),some (.fz (.bool v12)),some (.fz (.str (so u))),some (.fz (rf y)))
section
variable {s:List Int} {k c:Int} {x:Str} {d dv dd dn:PyData} {v4 v5 v6:V} {K1 K3 I2:R V} {kn:KN} {kr:KR} {b1 b2:Bool} {Sn T0 T1 T2:R V}
theorem Wb(hb:b1=true)(h0:T0=.ok (.fz (rf "view")))(h1:T1=.ok (.fz (rf "view")))(h2:T2=.ok (.fz (rf "view"))):TL s N k c x d dv dd dn b1 b2 v4 v5 v6 Sn T0 T1 T2 K1 K3 I2 kn kr=kn (lS s N (.fz d) (J7 k c x dv dd dn true b2 v4 v5 v6 false "view" "view")):=by
 subst hb h0 h1 h2;kernel_rfl
theorem Wc(hb:b1=false)(hc:b2=true)(h0:T0=.ok (.fz (rf "tree")))(h1:T1=.ok (.fz (rf "tree")))(h2:T2=.ok (.fz (rf "nothing"))):TL s N k c x d dv dd dn b1 b2 v4 v5 v6 Sn T0 T1 T2 K1 K3 I2 kn kr=kn (lS s N (.fz d) (J7 k c x dv dd dn false true v4 v5 v6 false "tree" "tree")):=by
 subst hb hc h0 h1 h2;kernel_rfl
theorem Wd(hb:b1=false)(hc:b2=false)(hs:Sn=.ok (.fz .none))(h0:T0=.ok (.fz (rf "tree")))(h1:T1=.ok (.fz (rf "tree")))(h2:T2=.ok (.fz (rf "nothing"))):TL s N k c x d dv dd dn b1 b2 v4 v5 v6 Sn T0 T1 T2 K1 K3 I2 kn kr=kn (lS s N (.fz d) (J7 k c x dv dd dn false false v4 v5 v6 true "tree" "tree")):=by
 subst hb hc hs h0 h1 h2;kernel_rfl
theorem We{v:V}{e:PyData}(hs:Sn=.ok v)(hv:v.clear=.fz e)(he:c8 e=false):aC Sn .Is (.ok (.fz .none))=.ok (.fz (.bool false)):=by
 rw[hs];show R.ok (V.fz (.bool (c8 (dOf v))))=_;rw[eK hv,he]
theorem Wf(hb:b1=false)(hc:b2=false)(hz:aC Sn .Is (.ok (.fz .none))=.ok (.fz (.bool false)))(h0:T0=.ok (.fz (rf "nothing")))(h1:T1=.ok (.fz (rf "tree")))(h2:T2=.ok (.fz (rf "nothing"))){b:Bool}(hk:b=true):TL s N k c x d dv dd dn b1 b2 v4 v5 v6 Sn T0 T1 T2 (.ok (.fz (.bool b))) K3 I2 kn kr=kn (lS s N (.fz d) (J7 k c x dv dd dn false false v4 v5 v6 false "tree" "tree")):=by
 subst hb hc h0 h1 h2 hk;unfold TL;rw[hz];kernel_rfl
theorem Wg(hb:b1=false)(hc:b2=false)(hz:aC Sn .Is (.ok (.fz .none))=.ok (.fz (.bool false)))(h0:T0=.ok (.fz (rf "nothing"))){q:Bool}(h1:T1=.ok (.fz (rf (if q then "nothing" else "put"))))(h2:T2=.ok (.fz (rf "nothing"))){b K I:Bool}(hk:b=false)(hq:q=true∨K=false∨I=false):TL s N k c x d dv dd dn b1 b2 v4 v5 v6 Sn T0 T1 T2 (.ok (.fz (.bool b))) (.ok (.fz (.bool K))) (.ok (.fz (.bool I))) kn kr=kn (lS s N (.fz d) (J7 k c x dv dd dn false false v4 v5 v6 false "nothing" (if q then "nothing" else "put"))):=by
 subst hb hc h0 h1 h2 hk;unfold TL;rw[hz]
 revert hq
 cases q<;>cases K<;>cases I<;>first | exact fun h=>h.elim Vz fun h=>h.elim btf btf | exact fun _=>by kernel_rfl
end
theorem Dk{a:Nat}(h:a≤5):a+5+3≤399:=Nat.le_trans (Nat.add_le_add_right h 8) (by decide)
theorem Wh(H:Wld N)(s:List Int){a:V}{d:PyData}{t:TT}(ha:a.clear=.fz d)(hd:Sem N 5 d t)(k c:Int)(j:J13)(kr:KR) :
  Go d (fun kn=>rb (ofP (aR kS (.tuple [.int k,.int c]) (lS s N a j))) fun σ=>kR 399 σ kn kr) (fun j=>lS s N (.fz d) j):=by
 have r14:=aU (c.fdiv 5) (n:=14) (by decide);obtain⟨x,hx,_,f1⟩:=lQ H (e:=aB .Mod (ofP (aD .FloorDiv (.int c) (.int 5))) (.ok (.fz (.int 14)))) (i:=(c.fdiv 5).fmod 14) (by kernel_rfl) r14;obtain⟨w,f2,⟨ow,rw'⟩,⟨hw,gw⟩,s0,hs0⟩:=U8 H 394 s (300+7*k) hd (by decide);have Gw:GoodV N w:=⟨ow,rw',hw,gw⟩
 have Gx:GoodV N (.pick x):=⟨hx,rfl,Nat.zero_le _,Nat.le_of_ble_eq_true rfl⟩
 obtain⟨bv,f4,hbv⟩:=Vu (H.ok x hx) 398 (c.fdiv 3);obtain⟨vo,bo,f5,co,hbo⟩:=Df H hx hd 398 (c.fdiv 7);obtain⟨vn,bn,f6,cn,hbn⟩:=Df H hx hd 398 (c.fdiv 11);have S0:=(pB H ow).a rw' (n:=399) (Dk hw) hd;rw[hs0] at S0;obtain⟨vs,ds,f7,cs,hds⟩:=S0;obtain⟨dv,f8,pv⟩:=at4 (P:=PV N w) (a:=enc w) (b:=bv) (c:=enc (.pick x)) (d:=enc w) (.inr ⟨by decide,w,rfl,Gw,fun _=>rfl⟩) (.inl ⟨rfl,hbv⟩) (.inr ⟨by decide,.pick x,rfl,Gx,fun h=>absurd rfl h⟩) (.inr ⟨by decide,w,rfl,Gw,fun _=>rfl⟩) (e:=ofP (aD .Mod (.int c) (.int 4))) (i:=c.fmod 4) rfl (aU c (by decide));obtain⟨dd,f9,po⟩:=at4 (P:=PO d) (a:=d) (b:=bo) (c:=d) (d:=d) (.inr ⟨by decide,rfl⟩) (.inl ⟨rfl,hbo⟩) (.inr ⟨by decide,rfl⟩) (.inr ⟨by decide,rfl⟩) (e:=aB .Mod (ofP (aD .FloorDiv (.int c) (.int 4))) (.ok (.fz (.int 4)))) (i:=(c.fdiv 4).fmod 4) (by kernel_rfl) (aU _ (by decide));obtain⟨dn,f10,pn⟩:=at4 (P:=PN N s0) (a:=d) (b:=bn) (c:=.int 5) (d:=ds) (.inr ⟨by decide,t,hd,fun h=>absurd h (by decide)⟩) (.inl ⟨rfl,hbn⟩) (.inr ⟨by decide,.num 5,.num (by decide),fun h=>absurd h (by decide)⟩) (.inr ⟨by decide,s0,hds,fun _=>rfl⟩) (e:=aB .Mod (ofP (aD .FloorDiv (.int c) (.int 16))) (.ok (.fz (.int 4)))) (i:=(c.fdiv 16).fmod 4) (by kernel_rfl) (aU _ (by decide));have e1:∀ kn,(rb (ofP (aR kS (.tuple [.int k,.int c]) (lS s N a j))) fun σ=>kR 399 σ kn kr)=TL s N k c x d dv dd dn (c.fmod 4==1) ((c.fdiv 4).fmod 4==1) (.own (.list [enc w,bv,enc (.pick x),enc w])) (.own (.list [d,bo,d,d])) (.own (.list [d,bn,.int 5,ds]))
   (rn 399 "_law_seen" [.fz dv,.fz dd]) (rn 399 "_law_told" [.fz (.int 0),.fz dv,.fz dd,.fz dn]) (rn 399 "_law_told" [.fz (.int 1),.fz dv,.fz dd,.fz dn]) (rn 399 "_law_told" [.fz (.int 2),.fz dv,.fz dd,.fz dn])
   (.ok (.fz (.bool ((c.fdiv 16).fmod 4==1)))) (.ok (.fz (.bool ((c.fdiv 16).fmod 4==3)))) (.ok (.fz (.bool !(c.fmod 4==2)))) kn kr:=fun kn=>by
  unfold lS;rw[Rg,aJ,aF,eb7,ha];refine rbk f1 ?_;refine rbk (r:=aE (rn 399 "_law_view") [.ok (.fz (Li s)),aB .Add (.ok (.fz (.int 300))) (ofP (aD .Mult (.int 7) (.int k))),.ok (.fz d),.ok (.fz (NL N))]) (v:=V.fz (enc w)) (by
   rw[show aD .Mult (.int 7) (.int k)=.ok (.fz (.int (7*k))) from lO _ (by decide)];exact(iC _ _ _ _ _).trans f2) ?_
  refine rbk (v:=V.fz (enc (.pick x))) rfl ?_;refine rbk (Dj (y:=enc w) (z:=enc (.pick x)) (u:=enc w) (a:=aE (rn 399 "_law_no_view") [.ok (.fz (.int (c.fdiv 3))),.ok (.fz (.str x))]) ((vB _ _ _).trans f4) rfl) ?_;refine rbk (Dj (y:=d) (z:=d) (u:=d) (a:=aE (rn 399 "_law_no_tree") [.ok (.fz (.int (c.fdiv 7))),.ok (.fz (.str x)),.ok (.fz d)]) ((Dg _ _ _ _).trans f5) co) ?_;refine rbk (Wa (y:=d) (z:=.int 5) (a:=aE (rn 399 "_law_no_tree") [.ok (.fz (.int (c.fdiv 11))),.ok (.fz (.str x)),.ok (.fz d)]) (b:=aE (rn 399 "_law_seen") [.ok (.fz (enc w)),.ok (.fz d)]) ((Dg _ _ _ _).trans f6) cn ((vB _ _ _).trans f7) cs) ?_;refine rbk f8 (rbk f9 (rbk f10 ?_));exact rbk (v:=V.fz (.bool (c.fmod 4==1))) rfl (rbk (v:=V.fz (.bool ((c.fdiv 4).fmod 4==1))) (by kernel_rfl) (by kernel_rfl))
 clear f1 f2 f4 f5 f6 f7 f8 f9 f10 hbv hbo hbn co cn cs ha;generalize (.own (.list [enc w,bv,enc (.pick x),enc w]):V)=v4 at e1;generalize (.own (.list [d,bo,d,d]):V)=v5 at e1;generalize (.own (.list [d,bn,.int 5,ds]):V)=v6 at e1;rcases pv with ⟨i1,hv⟩ | ⟨i1,w',ev,G,hi⟩
 ·obtain⟨t0,t1,t2⟩:=V2 hv dd dn 384;exact⟨_,fun kn=>(e1 kn).trans (Wb (beq_iff_eq.mpr i1) t0 t1 t2)⟩
 replace i1:=beq_false_of_ne i1;have t2:=V3 H G ev dd dn 359;rcases po with ⟨j1,ho⟩ | ⟨j1,eo⟩
 ·obtain⟨t0,t1⟩:=V4 H G ev ho dn 359;exact⟨_,fun kn=>(e1 kn).trans (Wc i1 (beq_iff_eq.mpr j1) t0 t1 t2)⟩
 replace j1:=beq_false_of_ne j1;have hd':Sem N 5 dd t:=eo▸hd;have S1:bV N 5 (aG w' t) (rn 399 "_law_seen" [.fz dv,.fz dd]):=ev▸(pB H G.o).a G.r (n:=399) (Dk G.h) hd';refine ocs (aG w' t) (fun hs=>?_) fun s1 hs=>?_
 ·rw[hs] at S1;obtain⟨t0,t1⟩:=V5 H G ev hd' hs dn 359;exact⟨_,fun kn=>(e1 kn).trans (Wd i1 j1 S1 t0 t1 t2)⟩
 rw[hs] at S1;obtain⟨v1,e2,S1,S2,S3⟩:=S1;have hz:=We S1 S2 S3.notNone;have t0:=V6 H G ev hd' hs dn 359;rcases pn with ⟨k1,hn⟩ | ⟨k1,tn,hn,h3⟩
 ·exact⟨_,fun kn=>(e1 kn).trans (Wf i1 j1 hz t0 (V7 H G ev hd' hs hn 359) t2 (beq_iff_eq.mpr k1))⟩
 ·refine⟨_,fun kn=>(e1 kn).trans (Wg i1 j1 hz t0 (V8 H G ev hd' hs hn 359) t2 (beq_false_of_ne k1) ?_)⟩
  by_cases h4:(c.fdiv 16).fmod 4=3
  ·by_cases h5:c.fmod 4=2
   ·exact .inr (.inr (by rw[h5];rfl))
   ·exact .inl (by rw[hi h5,h3 h4,Ri ow.wf rw' hs0];rfl)
  ·exact .inr (.inl (beq_false_of_ne h4))
theorem Wi(s:List Int):rn 400 "law" [.fz (Li s)]=.ok (.fz (.bool true)):=by
 have H:=Ug (dH s 0);obtain⟨v2,d0,e1,e2,t,e3⟩:=Um H 395 s;rw[Rf,Uh 397 s,aF,iA,dE,show aE (rn 399 "_law_house") [.ok (.fz (Li s)),.ok (.fz (NL (nms (dH s 0))))]=.ok v2 from (vB _ _ _).trans e1,aF,
  show enI (bX (.ok (Li s)) (some (.ok (.fz (.int 2)))) (some (.ok (.fz (.int 26)))))=.ok (dK 0 (slice (s.map PyData.int) (some 2) (some 26))) from rfl,Vy,aF]
 have L:∀ (cs:List Int) (k:Int) (a:V) (j:J13),a.clear=.fz d0→∃ a' j',aQ (kR 399) kS (dK k (cs.map .int)) (lS s (nms (dH s 0)) a j) (fun σ=>oE 399 σ (fun _=>R.ok (.fz .none)) R.ok) R.ok=oE 399 (lS s (nms (dH s 0)) a' j') (fun _=>R.ok (.fz .none)) R.ok:=by
  intro cs
  induction cs with
  |nil=>exact fun k a j _=>⟨a,j,rfl⟩
  |cons c cs ih =>
   intro k a j ha;obtain⟨j1,h1⟩:=Wh H s ha e3 k c j R.ok;obtain⟨a2,j2,h2⟩:=ih (k+1) (.fz d0) j1 rfl;exact⟨a2,j2,Eq.trans (h1 _) h2⟩
 obtain⟨a,j,e⟩:=L _ 0 v2 (none,none,none,none,none,none,none,none,none,none,none,none,none,none,none) e2;exact e.trans (Rh ..)
end Mine
set_option Elab.async false
namespace Mine
open PySem PySem.W PyProof.Rows
set_option maxRecDepth 100000 in
set_option maxHeartbeats 8000000 in
theorem Wj:PySem.Challenge.rw_uf010037_07.wellSaid=true:=by
 unfold OpenLaw.wellSaid OpenRow.wellSaid OpenRow.partSaid looksOpen
 with_reducible repeat' (refine look_both ?_ ?_)
 all_goals decide +kernel
set_option maxRecDepth 100000 in
theorem Wk:z9 PySem.Challenge.rw_uf010037_07.row.prog.main.body:=fun c b ps h p hp=>by
 have hc:=rX h;rw[show jX PySem.Challenge.rw_uf010037_07.row.prog.main.body=[Str.ofString "ViewError", Str.ofString "BadTree", Str.ofString "BadView", Str.ofString "BadText", Str.ofString "BadPut"] from by kernel_rfl] at hc;simp only[List.mem_cons,List.not_mem_nil,or_false] at hc;rcases hc with rfl | rfl | rfl | rfl | rfl
 ·rw[show bF (Str.ofString "ViewError") PySem.Challenge.rw_uf010037_07.row.prog.main.body=some (Str.ofString "ValueError", none) from by kernel_rfl] at h;cases h
 ·rw[show bF (Str.ofString "BadTree") PySem.Challenge.rw_uf010037_07.row.prog.main.body=some (Str.ofString "ViewError", none) from by kernel_rfl] at h;cases h
 ·rw[show bF (Str.ofString "BadView") PySem.Challenge.rw_uf010037_07.row.prog.main.body=some (Str.ofString "ViewError", none) from by kernel_rfl] at h;cases h
 ·rw[show bF (Str.ofString "BadText") PySem.Challenge.rw_uf010037_07.row.prog.main.body=some (Str.ofString "ViewError", none) from by kernel_rfl] at h;cases h
 ·rw[show bF (Str.ofString "BadPut") PySem.Challenge.rw_uf010037_07.row.prog.main.body=some (Str.ofString "ViewError", some [Str.ofString "way", Str.ofString "kind", Str.ofString "part"]) from by kernel_rfl] at h;cases h;simp only[List.mem_cons,List.not_mem_nil,or_false] at hp;rcases hp with rfl | rfl | rfl<;>(rw[typeLookup_type,builtinLookup_eq_fast];kernel_rfl)
end Mine
open PySem PySem.W PyProof.Rows Mine
set_option maxRecDepth 100000 in
set_option maxHeartbeats 8000000 in
theorem PySem.Challenge.cw_uf010037_07_holds : PySem.Challenge.rw_uf010037_07.Holds := by
 refine holds_law Mine.Wj fun said=>?_;refine holds_open (q:=Mine.V07) (loose:=[]) (Xt:=fun s=>(xlAt Mine.V07 [] s&&recOk (RowW.records PySem.Challenge.rw_uf010037_07.row.toRowW) s)&&Mine.m9 s.heap PySem.Challenge.rw_uf010037_07.row.prog.main.body) (XP:=fun mg h=>XL Mine.V07 [] mg h∧Mine.iX PySem.Challenge.rw_uf010037_07.row.prog.main.body mg h) (Yf:=Hook.obs Hook.none) (Ya:=Hook.val Hook.none) (YP:=Hook.says Hook.none) (N:=6080)
  Mine.Ih (Hook.of Hook.none) (Hook.keeps Hook.none) (fun s e=>⟨xl_of s (Bool.and_eq_true_iff.mp (Bool.and_eq_true_iff.mp e).1).1,Mine.N8 (Bool.and_eq_true_iff.mp e).2⟩) (fun mg h h' x k=>⟨XL.keeps mg h h' x.1 k,x.2.keeps k⟩) (by rfl) (by rfl) (by rfl) (fun s e=>recFacts_of (Bool.and_eq_true_iff.mp (Bool.and_eq_true_iff.mp e).1).2) (by rfl) said (by decide +kernel) ⟨rfl,rfl,rfl,rfl,rfl,by decide +kernel⟩ ?hw ?hc
 case hw=>w_witness2
 intro w s₀ s₁ mg mb G Y fa o pm cd doc dV kV ho hd hcd hD hmg hg args vals as hpre hlay hrd hwl hlo;have GL:Mine.Glo PySem.Challenge.rw_uf010037_07.row.prog w mg mb s₁.heap:=Mine.Of G.T G.X.2 Mine.Wk (fun f=>by kernel_rfl) (by kernel_rfl) (by kernel_rfl) (by kernel_rfl);replace hmg:mg (Str.ofString "law")=some (.ref fa):=hmg;clear ho hd hcd hD G Y
 wrow_args hpre hlay hrd hwl hlo
 rename_i ns _ _ _ _ _ _ _ l _ _ _ _ hw _ _ _ hn _;refine Mine.Oh GL hmg hw (by omega) (by kernel_rfl) (N:=400) (by decide) (Mine.Wi ns) fun s' k=>?_;obtain⟨h',tk,rfl,hk⟩:=k;exact GoodW.toG ⟨.inl ⟨_,.bool true,[],rfl,fun _=>by kernel_rfl,.bool true,by kernel_rfl,fun _=>⟨List.nodup_nil,by simp⟩⟩,hk,rfl,hg⟩
