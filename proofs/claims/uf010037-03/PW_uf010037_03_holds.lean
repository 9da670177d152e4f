import PyProof.Rows.All
import Wide.All
import OpenK.AllK
import Wide.FinOn
import KE.FramesApart
import KE.IntText
import KE.KDictList
import KE.KDictOf
import KE.KDictSum
import KE.KIntText
import KE.KItemsList
import KE.KRevIter
import Open.Pieces
import PyProof.AssignAttr
import PyProof.AttrMiss
import PyProof.CallStr
import PyProof.CallTypeRange
import PyProof.Cells
import PyProof.CompFree
import PyProof.CompIC
import PyProof.CompMap
import PyProof.ConsumeWalk
import PyProof.DictCalls
import PyProof.DictDisplay
import PyProof.DictItems
import PyProof.DictRoads
import PyProof.DictStraight
import PyProof.DictTruth
import PyProof.DictUpdate
import PyProof.DictWalks
import PyProof.Ends
import PyProof.EnumMake
import PyProof.EqKinds
import PyProof.ExcAttrAll.ValueError
import PyProof.ExcBaseAll.ValueError
import PyProof.ExcClass2
import PyProof.ExcClsAt2
import PyProof.ForAny
import PyProof.ForRange
import PyProof.InstStoreFacts
import PyProof.IsInstance
import PyProof.IsiH_list
import PyProof.IsiHeapPairs
import PyProof.IsiNone
import PyProof.IsiPairs
import PyProof.IsiSeqPairs
import PyProof.IsiTuple
import PyProof.LetGo
import PyProof.ListCopy
import PyProof.ListIndex
import PyProof.ListIndexNeg
import PyProof.ListOps
import PyProof.MeetsDictList
import PyProof.MeetsStr2
import PyProof.Methods
import PyProof.NeKinds
import PyProof.NsMap
import PyProof.P3Eq
import PyProof.P3Statements
import PyProof.PassesOwn
import PyProof.PureInt
import PyProof.PureStr
import PyProof.Raises
import PyProof.ReprReads
import PyProof.Rows.CountFlat
import PyProof.Rows.IntRules
import PyProof.Rows.RuleB_floordiv
import PyProof.Rows.RuleB_mod
import PyProof.Rows.RuleB_pow
import PyProof.Rows.RuleB_small
import PyProof.Rows.RuleN_abs
import PyProof.Rows.SeqMore
import PyProof.Rows.SetFrom
import PyProof.Rows.SortShellK
import PyProof.Rows.SortStr
import PyProof.Rows.SortWalk
import PyProof.Rows.StrRules
import PyProof.Rows.StrTemp
import PyProof.Rows.Top
import PyProof.Rows.TupMore
import PyProof.Rows.Walk
import PyProof.Rules2
import PyProof.Rules3
import PyProof.RulesAs
import PyProof.SeqInW
import PyProof.SetRoads
import PyProof.SliceMore
import PyProof.SliceStr2
import PyProof.StationsW
import PyProof.StrBlock
import PyProof.StrBlock2
import PyProof.StrBlockI
import PyProof.StrBlockL
import PyProof.StrCalls3
import PyProof.StrOps2
import PyProof.StrWalks
import PyProof.TableCode
import PyProof.TupleOfSeq
import PyProof.TupleOps
import PyProof.WalkInts
import PyProof.WalksEnum
import PyProof.WalksMore
import PySem.PyData
import PySem.Syntax
import Wide.Seal
import Wide.Well
import PySem.Challenge.RW_uf010037_03
set_option Elab.async false
set_option linter.all false
set_option maxRecDepth 100000
namespace Mine
theorem pB{x y:Int}(hx:0≤x)(hy:0≤y)(h:x.toNat=y.toNat):x=y:=by rw[← Int.toNat_of_nonneg hx,h,Int.toNat_of_nonneg hy]
theorem pC{a:Int}{n:Nat}(h:a < n):(1+a).toNat≤n:=Int.toNat_le.mpr (by rw[Int.add_comm];exact h)
theorem p1{a:Int}(h:0≤a):0≤1+a:=Int.add_nonneg (by decide) h
theorem ax0{a b c:Nat}(h:a+16*b+300 < c):a+70 < c:=Nat.lt_of_le_of_lt (Nat.add_le_add (Nat.le_add_right a (16*b)) (by decide:70≤300)) h
theorem ax1{a b c:Nat}(h:a+(b+1) < c):a+1+b < c:=(Nat.add_right_comm a 1 b).symm▸h
theorem ax3{a b:Nat}(h:a+70 < b):a+1+24 < b:=Nat.lt_of_le_of_lt (Nat.add_le_add_left (by decide:25≤70) a) h
theorem ax2{a b:Nat}(h:a+70 < b):a < b:=Nat.lt_of_le_of_lt (Nat.le_add_right _ _) h
theorem ax4{a b:Nat}(h:¬a < b):b≤a:=Nat.le_of_not_lt h
theorem ax5{a b c:Nat}(h:a=b)(h1:¬c < a):b≤c:=h▸Nat.le_of_not_lt h1
theorem ax6:0≤300:=by decide
theorem ax7{a:Nat}(h:a < 63):a / 30+1≤300:=Nat.succ_le_succ (Nat.le_trans (Nat.div_le_self _ _) (Nat.le_trans (Nat.le_of_lt h) (by decide)))
theorem ax8{a:Nat}(h:a≤300):¬a > 300:=Nat.not_lt.mpr h
theorem ax9{a:Nat}(h:a≤1024):a≤16777216:=Nat.le_trans h (by decide)
theorem D4{a b c:Nat}:a+b+c*b=a+(c*b+b):=by first | lia | omega
theorem D7{a:Int}(h:a≤1024):a.toNat≤1024:=Int.toNat_le.mpr h
theorem Ea{b:Nat}{a:Int}(h:a.toNat*b≤1024*1024):a.toNat*b≤16777216:=Nat.le_trans h (by decide)
theorem Eb{c:Nat}{a b:Int}(h:0≤a∧a≤1000∧b.natAbs < c):a≤1000000:=Int.le_trans h.2.1 (by decide)
theorem Ec{a:Int}(h:1≤a):0 < a:=h
theorem Ed{a:Int}(h:1≤a):0≤a:=Int.le_trans (by decide) h
theorem Ee{a:Int}(h:¬a < 1):1≤a:=Int.not_lt.mp h
theorem Ef{a:Nat}{b c:Int}(h:(↑a:Int)≤(b - 1) / c):¬(↑a:Int) > (b - 1) / c:=Int.not_lt.mpr h
theorem Eg{b:Nat}{a:Int}(h:-100≤a∧a≤1024∧b≤1024):a.toNat≤1024:=Int.toNat_le.mpr h.2.1
theorem Eh{a b c:Nat}:min (a - b) (c - b)≤c:=Nat.le_trans (Nat.min_le_right _ _) (Nat.sub_le _ _)
theorem vB{a b:Nat}(h:a - b=0)(h1:b≤a):b=a:=Nat.le_antisymm h1 (Nat.le_of_sub_eq_zero h)
theorem vC{a b c:Nat}(h:a - b=c+1):b < a:=Nat.lt_of_sub_pos (by rw[h];exact Nat.succ_pos c)
theorem Ei{a b c:Nat}(h:a≤b):min c a≤b:=Nat.le_trans (Nat.min_le_right _ _) h
theorem vD{a b c:Nat}(h:a - b=c+1):a - (b+1)=c:=congrArg Nat.pred h
theorem Ej{a b:Nat}:min a b≤b:=Nat.min_le_right _ _
theorem Ek:0 < 4096:=by decide
theorem vE{a:Nat}(h:a < 64):a+1 < 4096:=Nat.lt_of_le_of_lt h (by decide)
theorem El{a:Nat}(h:a≤3):a < 30:=Nat.lt_of_le_of_lt h (by decide)
theorem vF{b:Nat}{a:Int}:a+1+(↑b:Int)=a+((↑b:Int)+1):=by rw[Int.add_assoc,Int.add_comm 1]
theorem Em{a:Int}(h:-10000≤a):-10000≤a+(1 - 1):=by rw[Int.sub_self,Int.add_zero];exact h
theorem En{a:Int}(h:a≤4096):a+(1 - 1)≤10000:=by rw[Int.sub_self,Int.add_zero];exact Int.le_trans h (by decide)
theorem Eo{a:Int}(h:a≤4096):a.toNat≤16777216:=Int.toNat_le.mpr (Int.le_trans h (by decide))
theorem Ep{a:Int}(h:-4096≤a∧a≤4096):-10000≤a:=Int.le_trans (by decide) h.1
theorem lR{a b c:Nat}(h:a+b=c)(h1:¬a=c):a < c:=Nat.lt_of_le_of_ne (h▸Nat.le_add_right a b) h1
theorem jS{a b c:Nat}(h:a+b=c)(h1:¬a=c):b - 1 < b:=by
 cases b with
 |zero=>exact absurd h h1
 |succ b=>exact Nat.lt_succ_self b
theorem jT{a b c:Nat}(h:a+b=c)(h1:¬a=c):a+1+(b - 1)=c:=by
 cases b with
 |zero=>exact absurd h h1
 |succ b=>exact(Nat.add_right_comm a 1 b).trans h
theorem Er{a b:Nat}(h:a≤b):a≤b+1:=Nat.le_succ_of_le h
theorem Es{a b c d e f:Nat}(h:a≤b)(h1:c+d=a)(h2:e≤c)(h3:f=e):f≤b:=by rw[h3];exact Nat.le_trans h2 (Nat.le_trans (Nat.le_trans (Nat.le_add_right c d) (Nat.le_of_eq h1)) h)
theorem Et{a b:Nat}(h:a≤b):a≤b:=h
theorem Eu{a b c d e:Nat}(h:a+b < 4096)(h1:c=a)(h2:d=b)(h3:e=16777216):c+d≤e:=by rw[h1,h2,h3];exact Nat.le_trans (Nat.le_of_lt h) (by decide)
theorem Ev{a b:Nat}(h:(↑a:Int) < (↑b:Int)):a < b:=Int.ofNat_lt.mp h
theorem Ew{a b c d e:Nat}(h:a < b)(h1:c=a)(h2:d≤c+1)(h3:b=e):d≤e:=by rw[← h3];exact Nat.le_trans h2 (by rw[h1];exact h)
theorem Ex{b c:Nat}{a:Int}(h:0≤a∧a < (↑b:Int))(h1:c=b):a < (↑c:Int):=by rw[h1];exact h.2
theorem U7{a:Nat}(h:a < 100):a+1≤16777216+1:=Nat.succ_le_succ (Nat.le_trans (Nat.le_of_lt h) (by decide))
theorem Ey{a b c:Nat}(h:a=b)(h1:c < a):c < b:=h▸h1
theorem U8{a b:Nat}(h:a+(b+1) < 100):a < 100:=Nat.lt_of_le_of_lt (Nat.le_add_right _ _) h
theorem U9{a b:Nat}(h:a+(b+1) < 100):a+1+b < 100:=(Nat.add_right_comm a 1 b).symm▸h
theorem Va{a:Nat}(h:a < 50):a < 100:=Nat.lt_trans h (by decide)
theorem Vb{a b c:Nat}(h:a=b)(h1:a < 50)(h2:c=16777216):b≤c:=by rw[← h,h2];exact Nat.le_trans (Nat.le_of_lt h1) (by decide)
theorem Ez{a b:Nat}(h:a=1)(h1:b=16777216):a≤b:=by rw[h,h1];decide
theorem E0{a:Nat}(h:1 < a):0 < a:=Nat.lt_trans Nat.zero_lt_one h
theorem E1{a b c:Nat}(h:a+b+1 < c):a+1 < c:=Nat.lt_of_le_of_lt (Nat.succ_le_succ (Nat.le_add_right _ _)) h
theorem E2{a b c:Nat}(h:a+(b+1)+1 < c):a+1+b+1 < c:=by rw[Nat.add_right_comm a 1 b];exact h
theorem E3{a b c:Nat}(h:a+16*(b+1)+300 < c):a+3+16*b+300 < c:=by rw[Nat.add_right_comm a 3];exact Nat.lt_of_le_of_lt (by rw[Nat.mul_succ,← Nat.add_assoc];exact Nat.add_le_add_right (Nat.add_le_add_left (by decide) _) 300) h
theorem vG{a b c:Nat}(h:a+(b+1)+1 < c):a < c:=Nat.lt_of_le_of_lt (Nat.le_trans (Nat.le_add_right _ _) (Nat.le_add_right _ _)) h
theorem E4{a b c:Nat}(h:a≤63)(h1:b=a)(h2:c=16777216):b≤c:=by rw[h1,h2];exact Nat.le_trans h (by decide)
theorem E5{a b c:Nat}(h:a≤400)(h1:b+400+1 < c):b+a+1 < c:=Nat.lt_of_le_of_lt (Nat.succ_le_succ (Nat.add_le_add_left h b)) h1
theorem E6{a b c:Nat}(h:a≤400)(h1:b+16*400+300 < c):b+16*a+300 < c:=Nat.lt_of_le_of_lt (Nat.add_le_add_right (Nat.add_le_add_left (Nat.mul_le_mul_left 16 h) b) 300) h1
theorem E7{a b:Nat}(h:a≤b - 1)(h1:0 < b):a+1≤b:=Nat.le_trans (Nat.succ_le_succ h) (Nat.le_of_eq (Nat.sub_add_cancel h1))
theorem vH{a:Nat}(h:1≤a):1≤(↑a:Int):=Int.ofNat_le.mpr h
theorem E8{a:Nat}(h:a≤8):(↑a:Int)≤8:=Int.ofNat_le.mpr h
theorem E9{a b:Nat}(h:14 < a)(h1:b≤14):b < a:=Nat.lt_of_le_of_lt h1 h
theorem Fa{a b:Nat}(h:a+1+1≤b+1):a+1≤b:=Nat.le_of_succ_le_succ h
theorem Fb{a:Nat}(h:a≤6):(↑a:Int)≤6:=Int.ofNat_le.mpr h
theorem vI{a:Nat}(h:a≤6):a < 64:=Nat.lt_of_le_of_lt h (by decide)
theorem Fc{a b:Nat}(h:1≤a)(h1:b=a):1≤b:=h1▸h
theorem Fd{a b:Nat}(h:a≤6)(h1:b=a):b≤6:=h1▸h
theorem Fe{a b:Nat}(h:a≤6)(h1:b=a):b < 64:=h1▸Nat.lt_of_le_of_lt h (by decide)
theorem Ff{a b c:Nat}(h:a=b)(h1:c=b):a=c:=h.trans h1.symm
theorem Fg{a b c:Nat}(h:a≤b)(h1:c≤b)(h2:b=14):a+c < 4096:=by rw[h2] at h h1;exact Nat.lt_of_le_of_lt (Nat.add_le_add h h1) (by decide)
theorem Fh{a b c d:Nat}(h:a≤b)(h1:c≤b)(h2:b=14)(h3:d=16777216):a+c≤d:=by rw[h3];rw[h2] at h h1;exact Nat.le_trans (Nat.add_le_add h h1) (by decide)
theorem Fi{a b c:Nat}(h:a+b+3≤c+2):b≤c:=Nat.le_of_add_le_add_right (Nat.le_trans (Nat.add_le_add (Nat.le_add_left b a) (by decide:2≤3)) h)
theorem lT{a b c:Nat}(h:a+(b+1)+3≤c+2):b≤c:=Nat.le_of_add_le_add_right (Nat.le_trans (Nat.add_le_add (Nat.le_trans (Nat.le_succ b) (Nat.le_add_left _ a)) (by decide:2≤3)) h)
theorem Fj{a b c:Nat}(h:a≤b)(h1:b < 1000)(h2:c=16777216):a+1≤c:=by rw[h2];exact Nat.le_trans (Nat.succ_le_of_lt (Nat.lt_of_le_of_lt h h1)) (by decide)
theorem Fk{a b:Nat}(h:a≤b)(h1:b < 1000):a+1 < 4096:=Nat.lt_of_le_of_lt (Nat.succ_le_of_lt (Nat.lt_of_le_of_lt h h1)) (by decide)
theorem Fl{a b c:Nat}(h:a+(b+1)+3≤c+3):b≤c:=Nat.le_of_add_le_add_right (Nat.le_trans (Nat.add_le_add_right (Nat.le_trans (Nat.le_succ b) (Nat.le_add_left _ a)) 3) h)
theorem vJ{a b c:Nat}(h:a+1+(b+1)+3≤c+2):a+b+3≤c+1:=Nat.le_of_succ_le_succ (show a+b+4≤c+2 from Nat.le_trans (by rw[Nat.add_right_comm a 1 (b+1)];exact Nat.add_le_add_left (by decide:4≤5) (a+b)) h)
theorem Fm{a b c d:Nat}(h:max a b+1+c+3≤d+1):a+c+3≤d:=Nat.le_of_succ_le_succ (Nat.le_trans (Nat.add_le_add_right (Nat.add_le_add_right (Nat.le_max_left a b) c) 4) ((Nat.add_right_comm (max a b) 1 c)▸h:max a b+c+1+3≤d+1))
theorem Fn{a b c d:Nat}(h:max a b+1+c+3≤d+1):b+c+3≤d:=Nat.le_of_succ_le_succ (Nat.le_trans (Nat.add_le_add_right (Nat.add_le_add_right (Nat.le_max_right a b) c) 4) ((Nat.add_right_comm (max a b) 1 c)▸h:max a b+c+1+3≤d+1))
theorem Fo{a b c d:Nat}(h:max a b+c+3≤d):b+c+3≤d:=Nat.le_trans (Nat.add_le_add_right (Nat.add_le_add_right (Nat.le_max_right a b) c) 3) h
theorem Fp{a b c d:Nat}(h:max a b+c+3≤d):a+c+3≤d:=Nat.le_trans (Nat.add_le_add_right (Nat.add_le_add_right (Nat.le_max_left a b) c) 3) h
theorem pD{a:Int}(h:0 < a):0≤a:=Int.le_of_lt h
theorem Fq{a:Int}(h:0 < a):a≠0:=fun e=>Int.lt_irrefl 0 (e▸h)
theorem Fs{b:Nat}{a:Int}(h:a.toNat < b):a < (↑b:Int):=Int.lt_of_le_of_lt (Int.self_le_toNat a) (Int.ofNat_lt.mpr h)
theorem Ft{b:Nat}{a:Int}(h:0≤a)(h1:a < (↑b:Int)):a.toNat < b:=(Int.toNat_lt h).mpr h1
theorem Fu{a:Int}(h:0≤a):0≤2+a:=Int.add_nonneg (by decide) h
theorem vK{a:Int}(h:0≤a∧a < 2):a=0∨a=1:=by first | lia | omega
theorem Fv{a b:Nat}:a+1+b=a+(b+1):=Nat.add_right_comm a 1 b
theorem Fw{a:Nat}(h:a≤1000):a≤16777216:=Nat.le_trans h (by decide)
theorem Fx{a:Int}(h:0≤a∧a < 26):a < (↑26:Int):=h.2
theorem lU{a:Int}(h:0≤a∧a < 26):a.toNat < 26:=(Int.toNat_lt h.1).mpr h.2
theorem Fy{a b:Int}(h:0≤a∧a < 26)(h1:0≤b∧b < 26)(h2:a.toNat=b.toNat):a=b:=pB h.1 h1.1 h2
theorem Fz{a:Int}(h:0≤a∧a < 8):0 < 1+a:=Int.lt_of_lt_of_le Int.zero_lt_one (Int.le_add_of_nonneg_right h.1)
theorem vM{a:Int}(h:0≤a∧a < 8):0≤1+a:=Int.add_nonneg (by decide) h.1
theorem vN{a:Int}:min (1+a).toNat 8≤1000:=Nat.le_trans (Nat.min_le_right _ _) (by decide)
theorem F0{a:Int}(h:0≤a∧a < 8):1+a≠0:=fun e=>absurd (Int.le_add_of_nonneg_right h.1:(1:Int)≤1+a) (by rw[e];decide)
theorem F1{a b:Int}(h:0≤a∧a < 8)(h1:0≤b∧b < 1+a):0≤b∧b < 8:=⟨h1.1,Int.lt_of_lt_of_le h1.2 (by rw[Int.add_comm];exact h.2)⟩
theorem F2{a b c:Int}(h:0≤a∧a < 26)(h1:0≤b∧b < 26)(h2:(c+a) % 26=(c+b) % 26):a=b:=by
 have:=Int.emod_add_cancel_left.mp h2
 rwa [Int.emod_eq_of_lt h.1 h.2,Int.emod_eq_of_lt h1.1 h1.2] at this
theorem F3{a:Int}(h:0≤a∧a < 14):0≤a / 8∧a / 8 < 26:=⟨Int.ediv_nonneg h.1 (by decide),Int.lt_of_le_of_lt (Int.ediv_le_self 8 h.1) (Int.lt_trans h.2 (by decide))⟩
theorem F4{a b:Int}(h:0≤a∧a < 8)(h1:0≤b∧b < 8)(h2:min (1+a).toNat 8=min (1+b).toNat 8):a=b:=by
 rw[Nat.min_eq_left (pC h.2),Nat.min_eq_left (pC h1.2)] at h2;exact Int.add_left_cancel (pB (p1 h.1) (p1 h1.1) h2)
theorem F5{a:Int}(h:0≤a∧a < 8):0 < (1+a).toNat:=(Int.lt_toNat).mpr (Int.lt_of_lt_of_le Int.zero_lt_one (Int.le_add_of_nonneg_right h.1))
theorem F6{a b:Int}(h:0≤a∧a < 8)(h1:0≤b∧b < 1+a):b.toNat < 8∧b.toNat < (1+a).toNat:=⟨(Int.toNat_lt h1.1).mpr (Int.lt_of_lt_of_le h1.2 (by rw[Int.add_comm];exact h.2)),(Int.toNat_lt h1.1).mpr (Int.lt_of_lt_of_le h1.2 (Int.self_le_toNat _))⟩
theorem F7{a:Int}(h:0≤a∧a < 14):a.toNat < 14:=(Int.toNat_lt h.1).mpr h.2
theorem F8{a:Int}(h:0≤a∧a < 4):0≤9+a∧9+a < 14:=⟨Int.add_nonneg (by decide) h.1,Int.lt_of_lt_of_le (Int.add_lt_add_left h.2 9) (by decide)⟩
theorem F9{a:Int}(h:0≤a∧a < 3):a=0∨a=1∨a=2:=by first | lia | omega
theorem vO{a:Nat}(h:a < 5):a=0∨a=1∨a=2∨a=3∨a=4:=by first | lia | omega
theorem Ga{a:Nat}(h:a < 5):0≤(↑a:Int)∧(↑a:Int) < 14:=⟨Int.natCast_nonneg a,Int.lt_trans (Int.ofNat_lt.mpr h) (by decide)⟩
theorem vQ{a b:Nat}(h:a+1≤b):a≤b:=Nat.le_of_succ_le h
theorem pE{a:Nat}(h:0 < a):0 < (↑a:Int):=Int.ofNat_lt.mpr h
theorem Gb{b:Nat}{a:Int}(h:0≤a∧a < (↑b:Int)):a.toNat < b:=(Int.toNat_lt h.1).mpr h.2
theorem vR{a:Nat}(h:0 < a):(↑a:Int)≠0:=fun e=>Nat.ne_of_gt h (Int.ofNat.inj e)
theorem vS{a:Int}(h:0≤a∧a < 4):0≤5+a∧5+a < 14:=⟨Int.add_nonneg (by decide) h.1,Int.lt_of_lt_of_le (Int.add_lt_add_left h.2 5) (by decide)⟩
theorem Gc{c:Nat}{a b:Int}(h:0≤a)(h1:a < b)(h2:c=b.toNat - a.toNat):1≤c:=by rw[h2];exact Nat.sub_pos_of_lt ((Int.toNat_lt h).mpr (Int.lt_of_lt_of_le h1 (Int.self_le_toNat b)))
theorem Gd{c:Nat}{a b:Int}(h:a≤b+6)(h1:c=a.toNat - b.toNat):c≤6:=by
 rw[h1];exact Nat.sub_le_of_le_add (Int.toNat_le.mpr (Int.le_trans h (by rw[Int.natCast_add,Int.add_comm];exact Int.add_le_add_left (Int.self_le_toNat b) 6)))
theorem Ge{a b c:Nat}(h:a≤0)(h1:b+1+4≤c+2):a+(b+1)+3≤c+2:=Nat.le_trans (Nat.add_le_add_right (Nat.add_le_add_right h (b+1)) 3) (by rw[Nat.zero_add];exact Nat.le_trans (Nat.le_succ _) h1)
theorem Gf{a b:Nat}(h:a≤0)(h1:b≤0):max a b+1≤1:=Nat.succ_le_succ (Nat.max_le.mpr ⟨h,h1⟩)
theorem Gg{a b:Nat}(h:a≤1)(h1:b≤1):a+b≤2:=Nat.add_le_add h h1
theorem Gh{a:Nat}(h:a≤0):a≤1:=Nat.le_succ_of_le h
theorem vT{a:Nat}(h:a≤1):a≤2:=Nat.le_succ_of_le h
theorem Gi{a b c:Nat}(h:a+1+4≤b+2)(h1:c≤1):c+(a+1)+3≤b+2:=Nat.le_trans (Nat.add_le_add_right (Nat.add_le_add_right h1 (a+1)) 3) (by rw[Nat.add_comm 1];exact Nat.le_trans (Nat.le_refl _) h)
theorem Gj{a:Nat}(h:a≤0):a+1≤1:=Nat.succ_le_succ h
theorem Gk{a:Nat}(h:a≤0):max a 0+1≤1:=by rw[Nat.max_eq_left (Nat.zero_le a)];exact Nat.succ_le_succ h
theorem Gl{a:Nat}(h:a≤1):max a 0≤2:=by rw[Nat.max_eq_left (Nat.zero_le a)];exact Nat.le_succ_of_le h
theorem Gm{b:Nat}{a:Int}:a+1+(↑b:Int)=a+(↑(b+1):Int):=by rw[Int.natCast_add,Int.add_assoc,Int.natCast_one,Int.add_comm 1]
theorem Gn{b:Nat}{a c:Int}(h:a=(↑b:Int))(h1:0≤c∧c < a):c.toNat < b:=(Int.toNat_lt h1.1).mpr (h▸h1.2)
theorem Go{b c:Nat}{a:Int}:a+(↑b:Int) - (a+(↑c:Int))=(↑b:Int) - (↑c:Int):=by first | lia | omega
theorem Gp{a b:Nat}(h:a < b):0≤(↑b:Int) - (↑a:Int):=Int.sub_nonneg.mpr (Int.ofNat_le.mpr (Nat.le_of_lt h))
theorem Gq{a c:Nat}{b:Int}(h:(↑a:Int) < b):(↑a:Int) - (↑c:Int) < b:=Int.lt_of_le_of_lt (Int.sub_le_self _ (Int.natCast_nonneg c)) h
theorem Gr{a c:Nat}{b:Int}(h:(↑a:Int)≤b)(h1:c < a):(↑c:Int) < b:=Int.lt_of_lt_of_le (Int.ofNat_lt.mpr h1) h
theorem Gs{a b c:Int}(h:a.toNat=b.toNat)(h1:0≤a∧a < c)(h2:0≤b∧b < c):a=b:=pB h1.1 h2.1 h
theorem vU{a b:Nat}(h:a - b > 0):1≤a - b:=h
theorem vV{a b:Nat}(h:¬a < b)(h1:a - b=0):a=b:=Nat.le_antisymm (Nat.le_of_sub_eq_zero h1) (Nat.le_of_not_lt h)
theorem Gu{a b c:Nat}(h:a≤6)(h1:b < a)(h2:c=16777216):b < c:=by rw[h2];exact Nat.lt_of_lt_of_le h1 (Nat.le_trans h (by decide))
theorem Gv{a b:Nat}(h:a≤6)(h1:b=a):(↑b:Int)≤14:=h1▸Int.le_trans (Int.ofNat_le.mpr h) (by decide)
theorem Gw{a b c:Nat}(h:a≤b)(h1:c=a):(↑c:Int)≤(↑b:Int):=h1▸Int.ofNat_le.mpr h
theorem Gx{a b:Nat}(h:a+1+4≤b):a+4≤b:=Nat.le_trans (Nat.le_succ _) (Nat.le_trans (Nat.le_of_eq (Nat.add_right_comm a 4 1)) h)
theorem Gy{a:Int}(h:0≤a∧a < 2):0≤2+a∧2+a < 14:=⟨Int.add_nonneg (by decide) h.1,Int.lt_trans (Int.add_lt_add_left h.2 2) (by decide)⟩
theorem Gz{a:Int}(h:0≤a∧a < 2):0≤3 - a∧3 - a < 14:=⟨Int.sub_nonneg.mpr (Int.le_trans (Int.le_of_lt h.2) (by decide)),Int.lt_of_le_of_lt (Int.sub_le_self 3 h.1) (by decide)⟩
theorem G0{a:Int}:(2+a).toNat≠(3 - a).toNat:=by first | lia | omega
theorem G1{a:Int}(h:0≤a∧a < 4):0≤4+a:=Int.add_nonneg (by decide) h.1
theorem G2{a b:Int}(h:0≤a∧a < 6):4+b < 4+b+1+a:=Int.lt_add_of_pos_right _ (Int.lt_of_lt_of_le Int.zero_lt_one (Int.le_add_of_nonneg_right h.1)) |> fun z=>by rw[Int.add_assoc (4+b)];exact z
theorem G3{a b:Int}(h:0≤a∧a < 6):4+b+1+a≤4+b+6:=by rw[Int.add_assoc (4+b),Int.add_comm 1 a];exact Int.add_le_add_left h.2 _
theorem G4{a b:Int}(h:0≤a∧a < 4)(h1:0≤b∧b < 6):4+a+1+b≤14:=by
 have e1:a≤3:=Int.le_of_lt_add_one h.2;have e2:b≤5:=Int.le_of_lt_add_one h1.2;exact Int.le_trans (Int.add_le_add (Int.add_le_add_right (Int.add_le_add_left e1 4) 1) e2) (by decide)
theorem G5{a:Int}(h:0≤a∧a < 2):0≤5+2*a:=Int.add_nonneg (by decide) (Int.mul_nonneg (by decide) h.1)
theorem G6{a:Int}:5+2*a < 5+2*a+2:=by first | lia | omega
theorem G7{a:Int}:5+2*a+2≤5+2*a+6:=by first | lia | omega
theorem G8{a:Int}(h:0≤a∧a < 2):5+2*a+2≤14:=Int.le_trans (Int.add_le_add_right (Int.add_le_add_left (Int.mul_le_mul_of_nonneg_left (Int.le_of_lt h.2) (by decide)) 5) 2) (by decide)
theorem G9{a b:Nat}(h:a+1+4≤b):a+4≤b+1:=Nat.le_trans (Nat.le_succ _) (Nat.le_succ_of_le (Nat.le_trans (Nat.le_of_eq (Nat.add_right_comm a 4 1)) h))
theorem Ha{a b c:Nat}(h:a+4≤b)(h1:c≤2):c+a+3≤b+3:=Nat.le_trans (Nat.add_le_add_right (Nat.add_le_add_right h1 a) 3) (by rw[Nat.add_comm 2 a];exact Nat.add_le_add_right (Nat.le_trans (Nat.add_le_add_left (by decide:2≤4) a) h) 3)
theorem Vc{a b:Nat}:a.succ+b≤a+(b+1):=Nat.le_of_eq (Nat.succ_add a b)
theorem Vd{a b:Nat}:a+2+2*b≤a+2*(b+1):=by first | lia | omega
theorem Ve{a:Nat}:2+a+1≤2+(a+1):=Nat.le_refl _
theorem Vf{a:Nat}:2+(2+2*a)≤2+2*(a+1):=by first | lia | omega
theorem Vg{a:Nat}:-(↑(a+1):Int)≤-1:=Int.neg_le_neg (Int.ofNat_le.mpr (Nat.succ_pos a))
theorem Vh{a:Nat}:(-1+(↑(a+1):Int)).toNat=a:=by rw[Int.natCast_add,Int.add_comm,Int.natCast_one,Int.add_neg_cancel_right,Int.toNat_natCast]
theorem Vi{a:Nat}:1≤(↑(a+1):Int):=Int.ofNat_le.mpr (Nat.succ_pos a)
theorem Vj{a:Nat}:(max 0 (min (-1+((↑a:Int)+1)) ((↑a:Int)+1))).toNat=a:=by rw[(Int.add_comm _ _).trans (Int.add_neg_cancel_right (↑a:Int) 1),Int.min_eq_left (Int.le_add_one (Int.le_refl _)),Int.max_eq_right (Int.natCast_nonneg a),Int.toNat_natCast]
theorem Vk{a:Int}(h:0≤a∧a < 4):1≤(1+a).toNat:=(Int.lt_toNat).mpr (Int.lt_of_lt_of_le Int.zero_lt_one (Int.le_add_of_nonneg_right h.1))
theorem Vl{a:Int}(h:0≤a∧a < 4):(1+a).toNat≤4:=pC h.2
theorem Vm{a:Int}(h:0≤a∧a < 4):-4096≤1+a∧1+a≤4096:=⟨Int.le_trans (by decide) (Int.add_nonneg (by decide:(0:Int)≤1) h.1),Int.le_trans (Int.add_le_add_left (Int.le_of_lt h.2) 1) (by decide)⟩
theorem Vn{a b c d:Nat}(h:a+4≤b)(h1:c≤2∧d≤2):c+a+3≤b+4:=Nat.le_trans (Nat.add_le_add_right (Nat.add_le_add_right h1.1 a) 3) (by rw[Nat.add_comm 2 a];exact Nat.add_le_add_right (Nat.le_trans (Nat.add_le_add_left (by decide:1≤4) a) h) 4)
theorem Vo{a b c:Nat}(h:a≤4)(h1:b < a)(h2:c=16777216):b < c:=by rw[h2];exact Nat.lt_of_lt_of_le h1 (Nat.le_trans h (by decide))
theorem Vp{a b:Nat}(h:a≤4)(h1:b+1=a):b≤3:=by rw[← h1] at h;exact Nat.le_of_succ_le_succ h
theorem Vq{a b:Nat}(h:a≤3)(h1:a+1=b+1):b≤3:=Nat.succ.inj h1▸h
theorem Vr{a:Nat}(h:a≤3):2+a≤5:=Nat.add_le_add_left h 2
theorem Vs{a:Nat}(h:a≤3):2+2*a≤8:=Nat.add_le_add_left (Nat.mul_le_mul_left 2 h) 2
theorem Hb{a b c:Nat}(h:3*a+b+6≤c+3):2*a+4≤c+2:=Nat.le_of_succ_le_succ (show 2*a+5≤c+3 from Nat.le_trans (Nat.add_le_add (Nat.le_trans (Nat.mul_le_mul_right a (by decide:2≤3)) (Nat.le_add_right _ b)) (by decide:5≤6)) h)
theorem Hc{a b c:Nat}(h:3*a+b+6≤c+3):3*a+3≤c+1:=Nat.le_of_add_le_add_right (b:=2) (show 3*a+5≤c+3 from Nat.le_trans (Nat.add_le_add (Nat.le_add_right (3*a) b) (by decide:5≤6)) h)
theorem Hd{a b c:Nat}(h:3*a+b+6≤c+3):b+1≤c:=Nat.le_of_add_le_add_right (b:=3) (show b+4≤c+3 from Nat.le_trans (Nat.add_le_add (Nat.le_add_left b (3*a)) (by decide:4≤6)) h)
theorem He{a b c:Nat}(h:3*a+b+6≤c+3):b≤c+1:=Nat.le_of_add_le_add_right (Nat.le_trans (Nat.add_le_add (Nat.le_add_left b _) (by decide:2≤6)) h)
end Mine
namespace Mine
open PySem
inductive P(α:Type) where
 |no
 |ok (a:α)
theorem bft{p:Prop}(h:false=true):p:=Bool.noConfusion h
theorem btf{p:Prop}(h:true=false):p:=Bool.noConfusion h
theorem ns{α:Type}{a:α}{p:Prop}(h:none=some a):p:=nomatch h
theorem sn{α:Type}{a:α}{p:Prop}(h:some a=none):p:=nomatch h
theorem si{α:Type}{a b:α}(h:some a=some b):a=b:=Option.some.inj h
theorem pno{α:Type}{a:α}{p:Prop}(h:P.no=.ok a):p:=nomatch h
theorem pi{α:Type}{a b:α}(h:P.ok a=.ok b):a=b:=P.ok.inj h
theorem cD{α:Type}{a:α}{p:Prop}(h:a∈([]:List α)):p:=nomatch h
theorem ocs{α:Type}{p:Prop}(o:Option α)(h:o=none→p)(g:∀ x,o=some x→p):p:=by cases o with | none=>exact h rfl | some x=>exact g x rfl
theorem bcs{p:Prop}(b:Bool)(h:b=false→p)(g:b=true→p):p:=by cases b with | false=>exact h rfl | true=>exact g rfl
theorem pcs{α:Type}{p:Prop}(o:P α)(h:o=.no→p)(g:∀ x,o=.ok x→p):p:=by cases o with | no=>exact h rfl | ok x=>exact g x rfl
noncomputable def P.bind{α β:Type}(x:P α)(f:α→P β):P β :=
 match x with
 | .no=>.no
 | .ok a=>f a
structure X where
 cls:Str
 fields:List (Str×PyData)
inductive V where
 |fz (d:PyData)
 |own (d:PyData)
 |ex (x:X)
 |dp (d:PyData)
abbrev aA:=List (Str×Option V)
noncomputable def aA.get:aA→Str→Option (Option V)
 | [],_=>none
 | (y,v)::r,x=>if x=y then some v else aA.get r x
noncomputable def aA.set:aA→Str→V→aA
 | [],_,_=>[]
 | (y,v)::r,x,u=>if x=y then (y,some u)::r else (y,v)::aA.set r x u
noncomputable def V.clear:V→V
 | .own d=>.fz d
 | .dp d=>.fz d
 |v=>v
noncomputable def aA.clear:aA→List Str→aA
 | [],_=>[]
 | (y,v)::r,xs=>(y,if xs.contains y then v.map V.clear else v)::aA.clear r xs
noncomputable def dOf:V→PyData
 | .fz d=>d
 | .own d=>d
 | .ex _=>.none
 | .dp d=>d
inductive R(α:Type) where
 |no
 |ok (a:α)
 |exc (x:X)
noncomputable def rb{α β:Type}(r:R α)(k:α→R β):R β :=
 match r with
 | .no=>.no
 | .ok a=>k a
 | .exc x=>.exc x
noncomputable def ofP{α:Type}:P α→R α
 | .no=>.no
 | .ok a=>.ok a
noncomputable def nx{α:Type}:R α→R α
 | .ok a=>.ok a
 |_=>.no
noncomputable def ofO{α:Type}:Option α→P α
 |some a=>.ok a
 |none=>.no
noncomputable def Hf:PyData→P Bool
 | .bool b=>.ok b
 |_=>.no
noncomputable def cJ:V→P Bool
 | .fz d=>Hf d
 |_=>.no
noncomputable def aX:Nat:=16777216
noncomputable def mkS(s:Str):P V:=if s.length≤aX then .ok (.fz (.str s)) else .no
noncomputable def jU(x:Str)(n:Int):Str :=
 if n < 1 then Str.empty else if (n==1||x.length==0)=true then x else ⟨(List.replicate n.toNat x.cps).foldl (·++·) #[]⟩
noncomputable def vW(op:Operator)(x y:Int):P V :=
 match op with
 | .Add=>.ok (.fz (.int (x+y)))
 | .Sub=>.ok (.fz (.int (x - y)))
 | .Mult=>if x.natAbs < 2 ^ 63∨y.natAbs < 2 ^ 63 then .ok (.fz (.int (x*y))) else .no
 | .FloorDiv=>if y≠0∧y.natAbs < 2 ^ 63 then .ok (.fz (.int (x.fdiv y))) else .no
 | .Mod=>if y≠0 then .ok (.fz (.int (x.fmod y))) else .no
 | .Pow=>if 0≤y∧y≤1000∧x.natAbs < 2 ^ 63 then .ok (.fz (.int (x ^ y.toNat))) else .no
 |_=>.no
noncomputable def jV:Operator→Bool
 | .Add=>true
 |_=>false
noncomputable def vX:Operator→Bool
 | .Mult=>true
 |_=>false
noncomputable def Hg(op:Operator)(x:Int):PyData→P V
 | .int y=>vW op x y
 |_=>.no
noncomputable def Hh(op:Operator)(x:Str):PyData→P V
 | .str y=>if jV op=true∧x.length+y.length≤aX then .ok (.fz (.str (x++y))) else .no
 | .int y=>if vX op=true∧-100≤y∧y≤1024∧x.length≤1024 then .ok (.fz (.str (jU x y))) else .no
 |_=>.no
noncomputable def jW(op:Operator)(x:List PyData):PyData→P V
 | .list y=>if jV op=true∧x.length+y.length≤aX then .ok (.own (.list (x++y))) else .no
 |_=>.no
noncomputable def aC(op:Operator)(a b:PyData):P V :=
 match a with
 | .int x=>Hg op x b
 | .str x=>Hh op x b
 | .list x=>jW op x b
 |_=>.no
noncomputable def eqI(x:Int):PyData→P Bool
 | .int y=>.ok (x==y)
 |_=>.no
noncomputable def eqS(x:Str):PyData→P Bool
 | .str y=>.ok (x==y)
 |_=>.no
noncomputable def eqB(x:Bool):PyData→P Bool
 | .bool y=>.ok (x==y)
 |_=>.no
noncomputable def strs?:List PyData→Option (List Str)
 | []=>some []
 |d::r=>match d with
  | .str s=>(strs? r).map (s::·)
  |_=>none
noncomputable def eN(x y:List PyData):P Bool :=
 match strs? x with
 |none=>.no
 |some a=>match strs? y with
  |none=>.no
  |some b=>.ok (a==b)
noncomputable def eqL(x:List PyData):PyData→P Bool
 | .list y=>if x.length=y.length then eN x y else .ok false
 |_=>.no
noncomputable def eqT(x:List PyData):PyData→P Bool
 | .tuple y=>if x.length=y.length then eN x y else .no
 |_=>.no
noncomputable def eqZ:PyData→P Bool
 | .list _=>.ok false
 |_=>.no
noncomputable def eqO(a b:PyData):P Bool :=
 match a with
 | .none=>eqZ b
 | .int x=>eqI x b
 | .str x=>eqS x b
 | .bool x=>eqB x b
 | .list x=>eqL x b
 | .tuple x=>eqT x b
 |_=>.no
noncomputable def dJ(a:Str):List Str→List Str
 | []=>[a]
 |b::r=>if b.cps.toList < a.cps.toList then b::dJ a r else a::b::r
noncomputable def bC:List Str→List Str
 | []=>[]
 |a::r=>dJ a (bC r)
noncomputable def bM:List (PyData×PyData)→Str→Option PyData
 | [],_=>none
 | (.str y,v)::r,x=>if x=y then some v else bM r x
 |_::r,x=>bM r x
noncomputable def dT:List (PyData×PyData)→Str→PyData→List (PyData×PyData)
 | [],x,u=>[(.str x,u)]
 | (.str y,v)::r,x,u=>if x=y then (.str y,u)::r else (.str y,v)::dT r x u
 |p::r,x,u=>p::dT r x u
noncomputable def eO:List (PyData×PyData)→Str→List (PyData×PyData)
 | [],_=>[]
 | (.str y,v)::r,x=>if x=y then r else (.str y,v)::eO r x
 |p::r,x=>p::eO r x
noncomputable def slice{α:Type}(l:List α)(lo hi:Option Int):List α:=(l.drop (lo.elim 0 (clipAt l.length))).take (hi.elim l.length (clipAt l.length) - lo.elim 0 (clipAt l.length))
noncomputable def bP(c:Nat):PyData:=.str ⟨#[c]⟩
noncomputable def frz:Option PyData→P V
 |some d=>.ok (.fz d)
 |none=>.no
noncomputable def atP(l:List PyData)(k:Int):P V:=if 0≤k∧k < l.length then frz l[k.toNat]? else .no
noncomputable def atN(l:List PyData)(k:Int):P V:=if k < 0∧-(l.length:Int)≤k then frz l[(k+l.length).toNat]? else .no
noncomputable def atS(s:Str)(k:Int):P V:=if 0≤k∧k < s.cps.size then frz (s.cps[k.toNat]?.map bP) else .no
noncomputable def Hi(k:Int):PyData→P V
 | .list l=>if 0≤k then atP l k else atN l k
 | .tuple l=>atP l k
 | .str s=>atS s k
 |_=>.no
noncomputable def Hj(x:Str):PyData→P V
 | .dict l=>frz (bM l x)
 |_=>.no
noncomputable def getItem(a i:PyData):P V :=
 match i with
 | .int k=>Hi k a
 | .str x=>Hj x a
 |_=>.no
noncomputable def iL(a:PyData)(lo hi:Option Int):P V :=
 match a with
 | .list l=>.ok (.own (.list (slice l lo hi)))
 |_=>.no
noncomputable def lV(x:Str)(l:List PyData):P Bool:=(ofO (strs? l)).bind fun ss=>.ok (ss.contains x)
noncomputable def inS(x:Str):PyData→P Bool
 | .str y=>.ok (Txt.contains y x)
 | .dict l=>.ok (bM l x).isSome
 | .list l=>lV x l
 | .tuple l=>lV x l
 |_=>.no
noncomputable def contains(a b:PyData):P Bool :=
 match a with
 | .str x=>inS x b
 |_=>.no
noncomputable def b5(p:P Bool):P Bool:=p.bind fun b=>.ok (!b)
noncomputable def cS:PyData→Bool
 | .none=>true
 |_=>false
noncomputable def lW(a b:PyData):P Bool :=
 match b with
 | .none=>.ok (cS a)
 |_=>.no
noncomputable def jX(f:Int→Int→Bool)(a b:PyData):P Bool :=
 match a with
 | .int x=>(match b with | .int y=>.ok (f x y) | _=>.no)
 |_=>.no
noncomputable def cmp(op:CmpOp)(a b:PyData):P Bool :=
 match op with
 | .Eq=>eqO a b
 | .NotEq=>b5 (eqO a b)
 | .Lt=>jX (fun x y=>decide (x < y)) a b
 | .LtE=>jX (fun x y=>decide (x≤y)) a b
 | .Gt=>jX (fun x y=>decide (y < x)) a b
 | .GtE=>jX (fun x y=>decide (y≤x)) a b
 | .In=>contains a b
 | .NotIn=>b5 (contains a b)
 | .Is=>lW a b
 | .IsNot=>b5 (lW a b)
noncomputable def items:PyData→P (List PyData)
 | .list l=>.ok l
 | .tuple l=>.ok l
 | .dict l=>.ok (l.map (·.1))
 | .str s=>.ok (s.cps.toList.map bP)
 |_=>.no
noncomputable def vY:PyData→P (List PyData)
 | .list l=>.ok l
 | .tuple l=>.ok l
 |_=>.no
noncomputable def dB(i:Int):List PyData→List PyData
 | []=>[]
 |x::r=>.tuple [.int i,x]::dB (i+1) r
noncomputable def dK(i:Int):Nat→List PyData
 |0=>[]
 |n+1=>.int i::dK (i+1) n
noncomputable def bools?:List PyData→Option (List Bool)
 | []=>some []
 | .bool b::r=>(bools? r).map (b::·)
 |_::_=>none
noncomputable def Hk(l:List PyData):P Bool:=(ofO (bools? l)).bind fun bs=>.ok (bs.all id)
noncomputable def bY:List Str→List Str
 | []=>[]
 |a::r=>if r.contains a then bY r else a::bY r
noncomputable def Hl:List PyData→Option (PyData×PyData)
 | []=>none
 |a::r=>match r with
  | []=>none
  |b::r=>match r with
   | []=>some (a,b)
   |_::_=>none
noncomputable def two:PyData→Option (PyData×PyData)
 | .tuple l=>Hl l
 |_=>none
noncomputable def keys?:List (PyData×PyData)→Option (List (Str×PyData))
 | []=>some []
 |p::r=>match p.1 with
  | .str k=>(keys? r).map ((k,p.2)::·)
  |_=>none
noncomputable def twos?:List PyData→Option (List (PyData×PyData))
 | []=>some []
 |x::r=>(two x).bind fun p=>(twos? r).map (p::·)
noncomputable def cK:List (Str×PyData)→List (PyData×PyData)→List (PyData×PyData)
 | [],acc=>acc
 |p::r,acc=>cK r (dT acc p.1 p.2)
noncomputable def Hm(i:Int):Str:=Str.ofString (toString i)
noncomputable def bE:PyData→Bool
 | .dict _=>true
 |_=>false
noncomputable def fC:PyData→Bool
 | .int _=>true
 | .bool _=>true
 |_=>false
noncomputable def fQ:PyData→Bool
 | .bool _=>true
 |_=>false
noncomputable def pF:PyData→Bool
 | .str _=>true
 |_=>false
noncomputable def vZ:PyData→Bool
 | .list _=>true
 |_=>false
noncomputable def lY:PyData→Bool
 | .tuple _=>true
 |_=>false
noncomputable def fz(d:PyData):P V:=.ok (.fz d)
noncomputable def own(d:PyData):P V:=.ok (.own d)
noncomputable def fzb(b:P Bool):P V:=b.bind fun b=>.ok (.fz (.bool b))
noncomputable def a8:PyData→P V
 | .list l=>fz (.int l.length)
 | .tuple l=>fz (.int l.length)
 | .str s=>fz (.int s.cps.size)
 | .dict l=>fz (.int l.length)
 |_=>.no
noncomputable def cE:PyData→P V
 | .list l=>fzb (Hk l)
 |_=>.no
noncomputable def fR(l:List PyData):P V:=(ofO (strs? l)).bind fun l=>if l.length < 64 then own (.list ((bC l).map .str)) else .no
noncomputable def dC:PyData→P V
 | .list l=>fR l
 | .dict l=>fR (l.map (·.1))
 |_=>.no
noncomputable def cF:PyData→P V
 | .dict l=>own (.list (l.map (·.1)))
 | .list l=>own (.list l)
 |_=>.no
noncomputable def eQ:PyData→P V
 | .list l=>fz (.tuple l)
 |_=>.no
noncomputable def b6:PyData→P V
 | .list l=>(ofO (twos? l)).bind fun l=>(ofO (keys? l)).bind fun l=>if l.length < 4096 then own (.dict (cK l [])) else .no
 | .dict l=>own (.dict l)
 |_=>.no
noncomputable def iM:PyData→P V
 | .bool b=>fz (.int (if b then 1 else 0))
 | .str s=>if s.length≤640 then (ofO (PySem.intText? s)).bind fun i=>fz (.int i) else .no
 |_=>.no
noncomputable def wA:PyData→P V
 | .str s=>fz (.str s)
 | .int i=>if i.natAbs.log2 < 1920 then fz (.str (Hm i)) else .no
 |_=>.no
noncomputable def pG:PyData→P V
 | .int i=>fz (.int (if i < 0 then -i else i))
 |_=>.no
noncomputable def pH(f:Str)(d:PyData):P V :=
 if f = "len" then a8 d
 else if f = "all" then cE d
 else if f = "sorted" then dC d
 else if f = "list" then cF d
 else if f = "tuple" then eQ d
 else if f = "dict" then b6 d
 else if f = "int" then iM d
 else if f = "str" then wA d
 else if f = "abs" then pG d
 else .no
noncomputable def dY(f:Str):Bool:=f == "len" || f == "all" || f == "sorted" || f == "list" || f == "tuple" || f == "dict" || f == "int" || f == "str" || f == "abs"
noncomputable def Hn:List PyData→Option PyData
 | []=>some .none
 |d::r=>match r with
  | []=>some d
  |_::_=>none
noncomputable def wB(l:List (PyData×PyData))(r:List PyData):PyData→P V
 | .str k=>(ofO (Hn r)).bind fun d=>fz ((bM l k).getD d)
 |_=>.no
noncomputable def wC:PyData→P (List PyData)
 | .list l=>.ok l
 |_=>.no
noncomputable def wD(sep:Str)(r:List PyData)(d:PyData):P V :=
 match r with
 | []=>(vY d).bind fun l=>(ofO (strs? l)).bind fun l=>if JoinOk sep l then fz (.str (Txt.join sep l)) else .no
 |_::_=>.no
noncomputable def wE(m:Str)(l:List PyData)(as:List PyData):P V:=match as with
 | []=>.no
 |d::r=>match r with
  | []=>(match d with
   | .bool k=>(ofO (bools? l)).bind fun bs=>if m = "count" then fz (.int (bs.countP (·==k))) else (ofO (bs.findIdx? (·==k))).bind fun j=>if j < aX then fz (.int j) else .no
   |_=>.no)
  |_::_=>.no
noncomputable def mOk(m:Str)(o:PyData):Bool :=
 match o with
 | .list _=>decide (m = "count")||decide (m = "index")
 | .dict _=>decide (m = "get")
 | .str _=>decide (m = "join")
 |_=>false
noncomputable def eR(o:PyData)(as:List PyData):P V :=
 match as with
 | []=>.no
 |k::r=>match o with
  | .dict l=>wB l r k
  | .str sep=>wD sep r k
  |_=>.no
noncomputable def pI(m:Str)(o:PyData)(as:List PyData):P V:=match o with
 | .list l=>wE m l as
 |_=>eR o as
inductive EW where
 |name (x:Str)
 |tup (es:List Expr)
 |star
 |call (f:Expr) (as:List Expr) (kws:List Keyword) (q:Pos)
 |attr (o:Expr) (m:Str) (p:Pos)
 |sub (o i:Expr)
 |slice (a b c:Option Expr)
 |comp
 |setd
 |other
noncomputable def vw:Expr→EW
 | .Name x _=>.name x
 | .Tuple es _ _=>.tup es
 | .Starred _ _=>.star
 | .Call f as kws q=>.call f as kws q
 | .Attribute o m p=>.attr o m p
 | .Subscript o i _=>.sub o i
 | .Slice a b c _=>.slice a b c
 | .ListComp _ _ _ _=>.comp
 | .SetComp _ _ _ _=>.comp
 | .DictComp _ _ _ _ _=>.comp
 | .Set _ _ _=>.setd
 |_=>.other
noncomputable def bD(e:Expr):Option Str:=match vw e with | .name x=>some x | _=>none
noncomputable def pJ(e:Expr):Bool:=match vw e with | .call _ _ _ _=>true | _=>false
noncomputable def iN(e:Expr):Bool:=match vw e with | .comp=>true | _=>false
noncomputable def Ho(e:Expr):Bool:=match vw e with | .slice _ _ _=>true | _=>false
noncomputable def jY(e:Expr):Bool:=match vw e with | .tup _=>true | _=>false
noncomputable def gO(e:Expr):Option (Expr×List Expr×List Keyword×Pos):=match vw e with | .call f as kws q=>some (f,as,kws,q) | _=>none
noncomputable def lZ(e:Expr):Option (Expr×Str×Pos):=match vw e with | .attr o m p=>some (o,m,p) | _=>none
noncomputable def pK{α:Type}(kws:List Keyword)(a:α):Option α:=match kws with | []=>some a | _::_=>none
noncomputable def bad(e:Expr):Bool:=match vw e with | .star=>true | .setd=>true | .slice _ _ _=>true | _=>false
noncomputable def bJ:Nat→PyData→Bool
 |0,_=>false
 |n+1,d=>match d with
  | .dict m=>m.all fun p=>bJ n p.2
  | .int _=>true
  |_=>false
structure Ctx where
 call:Str→List V→R V
 has:Str→Bool
 const:Str→Option PyData
 hd:Bool
 sub:Str→Str→Option Bool
 init:Str→Option (Option (List Str))
 emp:Str→Bool
 fu:Nat
noncomputable def evs(rec:Expr→R V):List Expr→R (List V)
 | []=>.ok []
 |e::r=>rb (rec e) fun v=>rb (evs rec r) fun vs=>.ok (v.clear::vs)
noncomputable def bZ(l:List V):List PyData:=l.map dOf
noncomputable def isG(sc:Scope)(x:Str):Bool:=sc.names.lookup x==some .globalImplicit
noncomputable def isL(sc:Scope)(x:Str):Bool :=
 match sc.names.lookup x with
 |some .local=>true
 |some .cell=>true
 |some .free=>true
 |_=>false
noncomputable def tst(r:R V):R Bool:=rb r fun v=>ofP (cJ v)
noncomputable def jZ(rec:Expr→R V):List Expr→R V
 | []=>.no
 |e::r=>match r with
  | []=>rec e
  |r=>rb (rec e) fun v=>rb (ofP (cJ v)) fun b=>if b then jZ rec r else .ok v
noncomputable def j0(rec:Expr→R V):List Expr→R V
 | []=>.no
 |e::r=>match r with
  | []=>rec e
  |r=>rb (rec e) fun v=>rb (ofP (cJ v)) fun b=>if b then .ok v else j0 rec r
noncomputable def aZ(b:R Bool):R V:=rb b fun b=>.ok (.fz (.bool b))
noncomputable def pL(rec:Expr→R V)(a:PyData)(op:CmpOp)(e:Expr):R Bool:=rb (rec e) fun v=>ofP (cmp op a (dOf v))
noncomputable def Hp(rec:Expr→R V)(a:PyData)(op op':CmpOp)(e e':Expr):R Bool:=rb (rec e) fun v=>rb (ofP (cmp op a (dOf v))) fun t=>if t then pL rec (dOf v) op' e' else .ok false
noncomputable def l0(rec:Expr→R V)(a:PyData)(ops:List CmpOp)(es:List Expr):R Bool :=
 match ops with
 | []=>.no
 |op::ops=>match es with
  | []=>.no
  |e::es=>match ops with
   | []=>(match es with | []=>pL rec a op e | _::_=>.no)
   |op'::ops=>match es with
    | []=>.no
    |e'::es=>match ops with
     | []=>(match es with | []=>Hp rec a op op' e e' | _::_=>.no)
     |_::_=>.no
noncomputable def l5(rec:Expr→R V):List (Option Expr)→List Expr→R (List (PyData×PyData))
 | [],[]=>.ok []
 |some k::ks,e::es=>rb (rec k) fun k=>rb (rec e) fun v=>rb (l5 rec ks es) fun r=>.ok ((dOf k,dOf v)::r)
 |_,_=>.no
noncomputable def j5(l:List (PyData×PyData)):P V:=(ofO (keys? l)).bind fun l=>own (.dict (cK l []))
noncomputable def dZ:List Expr→Option (List Str)
 | []=>some []
 |e::r=>(bD e).bind fun x=>(dZ r).map (x::·)
noncomputable def iO(rec:Expr→R V)(e:Expr):R (List PyData):=rb (rec e) fun v=>ofP (items (dOf v))
noncomputable def pM(n:PyData):P (List PyData) :=
 match n with
 | .int n=>if -4096≤n∧n≤4096 then .ok (dK 0 n.toNat) else .no
 |_=>.no
noncomputable def gQ:V→P PyData
 | .fz d=>.ok d
 |_=>.no
noncomputable def pN(rec:Expr→R V)(a:Expr):R (List PyData):=rb (rec a) fun v=>ofP ((gQ v).bind pM)
noncomputable def pO(rec:Expr→R V)(a:Expr):R (List PyData):=rb (rec a) fun v=>ofP ((wC (dOf v)).bind fun l=>.ok (dB 0 l))
noncomputable def wF:PyData→P (List PyData)
 | .tuple l=>.ok l
 |_=>.no
noncomputable def fD(e:Expr):Option (Str×List Expr):=(gO e).bind fun c=>(bD c.1).bind fun x=>pK c.2.2.1 (x,c.2.1)
noncomputable def d6(rec:Expr→R V)(hd:Bool)(sc:Scope)(target:Expr)(e:Expr):R (List PyData) :=
 if hd then .no else
 match fD e with
 |none=>iO rec e
 |some c =>
  if c.1 = "range" ∨ c.1 = "enumerate" ∨ c.1 = "reversed" ∨ c.1 = "zip" then
   if isG sc c.1 then match c.2 with
    | []=>.no
    |a::r=>match r with
     | []=>if c.1 = "range" then pN rec a else if c.1 = "enumerate" ∧ jY target=true then pO rec a else .no
     |_::_=>.no
   else .no
  else iO rec e
noncomputable def bnd(x:Str)(d:PyData)(σ:aA):aA:=(".0", none)::(x,some (.fz d))::σ
noncomputable def aU(test:PyData→R Bool)(elt:PyData→R V):List PyData→R (List PyData)
 | []=>.ok []
 |d::r=>rb (nx (test d)) fun b =>
  if b then rb (nx (elt d)) fun v=>rb (aU test elt r) fun xs=>.ok (dOf v::xs)
  else aU test elt r
inductive Tg where
 |one (x:Str)
noncomputable def gR(e:Expr):Option Tg:=match vw e with
 | .name x=>some (.one x)
 |_=>none
noncomputable def Tg.ns:Tg→List Str
 | .one x=>[x]
noncomputable def fS(t:Tg)(d:PyData)(σ:aA):Option aA:=match t with
 | .one x=>some (bnd x d σ)
noncomputable def j6{α:Type}(t:Tg)(d:PyData)(σ:aA)(k:aA→R α):R α:=match t with
 | .one x=>k (bnd x d σ)
noncomputable def fT(test:aA→R Bool)(elt:aA→R V)(t:Tg)(σ:aA)(l:List PyData):R (List PyData):=aU (fun d=>j6 t d σ test) (fun d=>j6 t d σ elt) l
noncomputable def gS(sc:Scope)(σ:aA)(x:Str):Option PyData :=
 match aA.get σ x with
 |some o=>(match o with
  |some v=>(match v with | .own d=>if isL sc x then some d else none | _=>none)
  |none=>none)
 |none=>none
noncomputable def j7(sc:Scope)(σ:aA)(e:Expr):Option PyData:=match bD e with | some x=>gS sc σ x | none=>none
noncomputable def l7(sc:Scope)(σ:aA)(x:Str):Option X :=
 match aA.get σ x with
 |some o=>(match o with
  |some v=>(match v with | .ex d=>if isL sc x then some d else none | _=>none)
  |none=>none)
 |none=>none
noncomputable def eS(sc:Scope)(σ:aA)(e:Expr):Option X:=match bD e with | some x=>l7 sc σ x | none=>none
noncomputable def iP(rec:Expr→R V)(sc:Scope)(σ:aA)(o:Expr):R PyData :=
 match j7 sc σ o with
 |some d=>.ok d
 |none=>rb (rec o) fun v=>.ok (dOf v)
noncomputable def l8:Option NameKind→Bool
 |some .cell=>true
 |some .free=>true
 |_=>false
noncomputable def gT(sc sc':Scope)(t:Tg):Bool :=
 sc'.kind==.function&&(sc'.names.all fun p=>match p.2 with
  | .local=>(p.1 == ".0" || t.ns.contains p.1)&&sc'.names.lookup p.1==some .local
  | .cell=>false
  | .free=>l8 (sc.names.lookup p.1)
  |_=>true)&&(t.ns.all fun x=>x != ".0" && sc'.names.lookup x==some .local)&&(sc'.names.lookup (Str.ofString "__debug__")).isNone&&(sc'.names.lookup (Str.ofString "__classdict__")).isNone
noncomputable def Hq(a b:PyData):P V :=
 match a with
 | .int x=>(match b with | .int y=>fz (.int (if y < x then y else x)) | _=>.no)
 |_=>.no
noncomputable def l9:List V→P V
 | []=>.no
 |a::r=>match r with
  | []=>.no
  |b::r=>(match r with | []=>(gQ a).bind fun a=>(gQ b).bind fun b=>Hq a b | _::_=>.no)
noncomputable def iQ(t:Str)(d:PyData):P V :=
 if t = "dict" then fz (.bool (bE d))
 else if t = "int" then fz (.bool (fC d))
 else if t = "bool" then fz (.bool (fQ d))
 else if t = "str" then fz (.bool (pF d))
 else if t = "list" then fz (.bool (vZ d))
 else if t = "tuple" then fz (.bool (lY d))
 else .no
noncomputable def mB(e:Expr):Bool:=match vw e with | .call f _ _ _=>(bD f).isNone | _=>true
noncomputable def dU(d:PyData):P V:=(vY d).bind fun l=>(ofO (strs? l)).bind fun ss=>if ss.length < 64 then fz (.int (bY ss.reverse).length) else .no
noncomputable def eT:PyData→P V
 | .dict l=>own (.list (l.map fun p=>.tuple [p.1,p.2]))
 |_=>.no
noncomputable def wG(rec:Expr→R V)(sc:Scope)(as:List Expr):R V :=
 match as with
 | []=>.no
 |x::r=>match r with
  | []=>if isG sc "set" = true then rb (rec x) fun v=>ofP (dU (dOf v)) else .no
  |_::_=>.no
noncomputable def wH(rec:Expr→R V)(o:Expr)(ap cp:Pos)(as:List Expr):R V :=
 match as with
 | []=>if mB o=true∧(ap.endLine==cp.line)=true then rb (rec o) fun v=>ofP (eT (dOf v)) else .no
 |_::_=>.no
noncomputable def pP(f:Str):Bool:=f == "all" || f == "list" || f == "dict" || f == "set" || f == "sorted"
noncomputable def fU(rec:Expr→R V)(hd:Bool)(f:Str)(a:Expr):R V:=if hd&&pP f then .no else rb (rec a) fun v=>ofP (pH f (dOf v))
noncomputable def wI(rec:Expr→R V)(hd:Bool)(sc:Scope)(f:Str)(as:List Expr)(kws:List Keyword):R V :=
 if f = "len" ∧ hd=false then (match kws with | []=>wG rec sc as | _::_=>.no) else .no
noncomputable def wJ(rec:Expr→R V)(hd:Bool)(f:Str)(o:Expr)(ap cp:Pos)(as:List Expr)(kws:List Keyword):R V :=
 if f = "list" ∧ hd=false then (match kws with | []=>wH rec o ap cp as | _::_=>.no) else .no
noncomputable def wK(rec:Expr→R V)(hd:Bool)(sc:Scope)(f:Str)(a:Expr)(as:List Expr)(kws:List Keyword)(cp:Pos):EW→R V
 | .name g=>if g = "set" then wI rec hd sc f as kws else fU rec hd f a
 | .attr o m ap=>if m = "items" then wJ rec hd f o ap cp as kws else fU rec hd f a
 |_=>fU rec hd f a
noncomputable def pQ(rec:Expr→R V)(hd:Bool)(sc:Scope)(f:Str)(a:Expr):R V :=
 match gO a with
 |some c=>wK rec hd sc f a c.2.1 c.2.2.1 c.2.2.2 (vw c.1)
 |none=>fU rec hd f a
noncomputable def isX(K:Ctx)(c t:Str):P V:=(ofO (K.sub c t)).bind fun b=>if t = "ValueError" then (if b=true then fz (.bool true) else .no) else fz (.bool b)
noncomputable def wL(rec:Expr→R V)(K:Ctx)(sc:Scope)(σ:aA)(a:Expr)(r:List Expr):Option Str→R V
 |some t=>(match r with
  | []=>if isG sc t then (match eS sc σ a with
   |some x=>ofP (isX K x.cls t)
   |none=>rb (rec a) fun v=>ofP (iQ t (dOf v))) else .no
  |_::_=>.no)
 |none=>.no
noncomputable def wM(rec:Expr→R V)(K:Ctx)(sc:Scope)(σ:aA)(as:List Expr):R V :=
 match as with
 | []=>.no
 |a::r=>match r with
  | []=>.no
  |b::r=>wL rec K sc σ a r (bD b)
noncomputable def Hr(rec:Expr→R V)(hd:Bool)(sc:Scope)(f:Str)(as:List Expr):R V :=
 match as with
 | []=>.no
 |a::r=>(match r with | []=>pQ rec hd sc f a | _::_=>.no)
noncomputable def iR(rec:Expr→R V)(sc:Scope)(σ:aA)(e:Expr):R V :=
 match eS sc σ e with
 |some x=>.ok (.ex x)
 |none=>rec e
noncomputable def fV(rec:Expr→R V)(K:Ctx)(sc:Scope)(σ:aA)(f:Str)(as:List Expr):R V :=
 if isG sc f then
  if f = "isinstance" then wM rec K sc σ as
  else if f = "min" then (if as.any bad=true∨K.hd=true then .no else rb (evs rec as) fun vs=>ofP (l9 vs))
  else if dY f then Hr rec K.hd sc f as
  else if as.any bad=true∨K.has f=false then .no else rb (evs (iR rec sc σ) as) fun vs=>K.call f vs
 else .no
noncomputable def pR(rec:Scope→aA→Expr→R V)(sc':Scope):List Expr→Option (aA→R Bool)
 | []=>some fun _=>.ok true
 | [c]=>some fun σ'=>tst (rec sc' σ' c)
 |_=>none
noncomputable def iS(rec:Scope→aA→Expr→R V)(hd:Bool)(sc:Scope)(σ:aA)(elt:Expr)(g:Comprehension)(sc':Scope):R V :=
 match gR g.target with
 |none=>.no
 |some x=>if gT sc sc' x&&g.is_async==0 then match pR rec sc' g.ifs with
  |none=>.no
  |some t=>rb (rb (d6 (rec sc σ) hd sc g.target g.iter) fun l=>fT t (fun σ'=>rec sc' σ' elt) x σ l) fun r=>ofP (own (.list r))
 else .no
noncomputable def rdv:V→P V
 | .fz d=>.ok (.fz d)
 | .dp d=>.ok (.fz d)
 |_=>.no
noncomputable def pS(K:Ctx)(sc:Scope)(σ:aA)(x:Str):P V :=
 if isL sc x then match aA.get σ x with
  |some o=>(match o with | some v=>rdv v | none=>.no)
  |none=>.no
 else if isG sc x then (ofO (K.const x)).bind fz
 else .no
noncomputable def pT:Const→P V
 | .none=>fz .none
 | .bool b=>fz (.bool b)
 | .int i=>fz (.int i)
 | .str s=>mkS s
 |_=>.no
noncomputable def wN:PyData→P V
 | .int i=>fz (.int (-i))
 |_=>.no
noncomputable def d8(op:UnaryOp)(v:V):P V :=
 match op with
 | .Not=>(cJ v).bind fun b=>fz (.bool !b)
 | .USub=>wN (dOf v)
 |_=>.no
noncomputable def pU(rec:Expr→R V)(a:PyData)(i:Expr):R V:=rb (rec i) fun i=>ofP (getItem a (dOf i))
noncomputable def toI:V→P (Option Int)
 | .fz d=>(match d with | .int i=>.ok (some i) | _=>.no)
 |_=>.no
noncomputable def pV(rec:Expr→R V):Option Expr→R (Option Int)
 |none=>.ok none
 |some e=>rb (rec e) fun v=>ofP (toI v)
noncomputable def j8(e:Expr):Option (Option Expr×Option Expr×Option Expr):=match vw e with | .slice a b c=>some (a,b,c) | _=>none
noncomputable def pW(rec:Expr→R V)(sc:Scope)(σ:aA)(o i:Expr):R V :=
 match j8 i with
 |some c=>(match c.2.2 with
  |none=>rb (iP rec sc σ o) fun a=>rb (pV rec c.1) fun lo=>rb (pV rec c.2.1) fun hi=>ofP (iL a lo hi)
  |some _=>.no)
 |none=>if bad i then .no else rb (iP rec sc σ o) fun a=>pU rec a i
noncomputable def j9(rec:Expr→R V)(o:Expr)(m:Str)(ap:Pos)(as:List Expr)(cp:Pos):R V :=
 if m = "items" ∨ mB o=false∨(ap.endLine==cp.line)=false∨as.any bad=true∨3 < as.length then .no else
  rb (rec o) fun o=>if mOk m (dOf o) then rb (evs rec as) fun as=>ofP (pI m (dOf o) (bZ as)) else .no
noncomputable def pX:List (Str×PyData)→Str→Option PyData
 | [],_=>none
 | (y,d)::r,x=>if x=y then some d else pX r x
noncomputable def Hs:Option (Option V)→Option X
 |some (some (.ex x))=>some x
 |_=>none
noncomputable def fW(rec:Scope→aA→Expr→R V)(K:Ctx)(sc:Scope)(σ:aA)(e:Expr):R V :=
 match e with
 | .Constant c _ _=>ofP (pT c)
 | .Name x _=>ofP (pS K sc σ x)
 | .BoolOp op vs _=>match op with | .And=>jZ (rec sc σ) vs | .Or=>j0 (rec sc σ) vs
 | .BinOp l op r _=>rb (rec sc σ l) fun a=>rb (rec sc σ r) fun b=>ofP (aC op (dOf a) (dOf b))
 | .UnaryOp op x _=>rb (rec sc σ x) fun v=>ofP (d8 op v)
 | .IfExp t b o _=>rb (tst (rec sc σ t)) fun c=>if c then rec sc σ b else rec sc σ o
 | .Dict ks vs _=>if ks.all Option.isSome=true∧ks.length=vs.length∧vs.length≤15 then rb (l5 (rec sc σ) ks vs) fun l=>ofP (j5 l) else .no
 | .List es _=>rb (evs (rec sc σ) es) fun l=>if l.length≤aX then .ok (.own (.list (bZ l))) else .no
 | .Tuple es _ _=>rb (evs (rec sc σ) es) fun l=>if l.length≤aX then .ok (.fz (.tuple (bZ l))) else .no
 | .ListComp elt gens sc' _=>match gens with
  | []=>.no
  |g::gs=>(match gs with | []=>iS rec K.hd sc σ elt g sc' | _::_=>.no)
 | .Compare l ops es _=>rb (rec sc σ l) fun a=>aZ (l0 (rec sc σ) (dOf a) ops es)
 | .Subscript o i _=>pW (rec sc σ) sc σ o i
 | .Call f as kws cp=>match kws with
  | []=>(match vw f with
   | .attr o m ap=>j9 (rec sc σ) o m ap as cp
   | .name f=>fV (rec sc σ) K sc σ f as
   |_=>.no)
  |_::_=>.no
 |_=>.no
noncomputable def evE(K:Ctx):Nat→Scope→aA→Expr→R V
 |0=>fun _ _ _=>.no
 |k+1=>fW (evE K k) K
inductive SV where
 |fn (n:Str) (a:Arguments) (b:List Stmt) (sc:Scope)
 |cls (n:Str) (bs:List Expr) (b:List Stmt)
 |asg (ts:List Expr) (e:Expr)
 |other
noncomputable def sv:Stmt→SV
 | .FunctionDef n a b _ _ _ sc _ _ _=>.fn n a b sc
 | .ClassDef n bs _ b _ _ _ _ _ _ _=>.cls n bs b
 | .Assign ts e _=>.asg ts e
 |_=>.other
noncomputable def Ht:Expr→Option Const
 | .Constant c _ _=>some c
 |_=>none
noncomputable def b4(f:Str):List Stmt→Option (Arguments×List Stmt×Scope)
 | []=>none
 |s::r=>match sv s with
  | .fn n a b sc=>if f=n then some (a,b,sc) else b4 f r
  |_=>b4 f r
noncomputable def wO(s:Stmt):Option (Str×Const):=match sv s with
 | .asg ts e=>(match ts with
  | []=>none
  |t::r=>(match r with
   | []=>(bD t).bind fun x=>(Ht e).bind fun c=>some (x,c)
   |_::_=>none))
 |_=>none
noncomputable def Hu:Const→Option PyData
 | .int i=>some (.int i)
 | .str s=>if s.length≤aX then some (.str s) else none
 |_=>none
noncomputable def fX(body:List Stmt)(x:Str):Option PyData :=
 if x = "__name__" then none else body.findSome? fun s=>(wO s).bind fun p=>if x=p.1 then Hu p.2 else none
noncomputable def wP(b:List Stmt):Option (List Str):=match b with
 | []=>none
 |s::r=>(match r with
  | []=>(match sv s with | .fn _ a _ _=>some (a.args.drop 1 |>.map (·.arg)) | _=>none)
  |_::_=>none)
noncomputable def bF(c:Str):List Stmt→Option (Str×Option (List Str))
 | []=>none
 |s::r=>match sv s with
  | .cls n bs b=>if c=n then (match dZ bs with | some [y]=>some (y,wP b) | _=>none) else bF c r
  |_=>bF c r
noncomputable def fY(body:List Stmt):Nat→Str→Str→Bool
 |0,_,_=>false
 |n+1,c,d=>c==d||(match bF c body with | some p=>fY body n p.1 d | none=>false)
noncomputable def dW(body:List Stmt)(c d:Str):Option Bool :=
 if ((bF d body).isSome||d == "ValueError")&&(bF c body).isSome then some (fY body 4 c d) else none
end Mine
namespace Mine
open PySem
noncomputable def esc:Nat→Expr→List Str
 |0,_=>[]
 |k+1,e =>
  match e with
  | .Name x _=>[x]
  | .BoolOp _ vs _=>vs.flatMap (esc k)
  | .BinOp l _ r _=>esc k l++esc k r
  | .UnaryOp _ x _=>esc k x
  | .IfExp a b c _=>esc k a++esc k b++esc k c
  | .Dict ks vs _=>ks.flatMap (fun o=>o.elim [] (esc k))++vs.flatMap (esc k)
  | .List es _=>es.flatMap (esc k)
  | .Tuple es _ _=>es.flatMap (esc k)
  | .ListComp elt gens _ _=>esc k elt++gens.flatMap fun g=>esc k g.iter++g.ifs.flatMap (esc k)
  | .Compare l _ es _=>esc k l++es.flatMap (esc k)
  | .Subscript o i _=>if (bD o).isSome then esc k i else esc k o++esc k i
  | .Slice a b _ _=>a.elim [] (esc k)++b.elim [] (esc k)
  | .Attribute o _ _=>esc k o
  | .Call f as _ _=>(lZ f).elim [] (fun c=>esc k c.1)++as.flatMap (esc k)
  |_=>[]
noncomputable def dL(x:Str)(v:V)(σ:aA):P aA :=
 match aA.get σ x with
 |some _=>.ok (aA.set σ x v)
 |none=>.no
noncomputable def mD:List Str→List PyData→aA→P aA
 | [],[],σ=>.ok σ
 |x::xs,d::ds,σ=>(dL x (.fz d) σ).bind fun σ=>mD xs ds σ
 |_,_,_=>.no
noncomputable def aW(target:Expr)(d:PyData)(σ:aA):P aA :=
 match vw target with
 | .name x=>dL x (.fz d) σ
 | .tup es=>(wF d).bind fun ds=>(ofO (dZ es)).bind fun xs=>mD xs ds σ
 |_=>.no
abbrev KN:=aA→R V
abbrev KR:=V→R V
noncomputable def aS(body:aA→KN→KR→R V)(target:Expr):List PyData→aA→KN→KR→R V
 | [],σ,kn,_=>kn σ
 |d::r,σ,kn,kr=>rb (ofP (aW target d σ)) fun σ=>body σ (fun σ=>aS body target r σ kn kr) kr
noncomputable def wQ(l:List (PyData×PyData))(d:PyData):PyData→P PyData
 | .str k=>if l.length < aX then .ok (.dict (dT l k d)) else .no
 |_=>.no
noncomputable def wR(l:List PyData)(d:PyData):PyData→P PyData
 | .int k=>if 0≤k∧k < l.length then .ok (.list (l.set k.toNat d)) else .no
 |_=>.no
noncomputable def setItem(o:PyData)(i d:PyData):P PyData :=
 match o with
 | .dict l=>wQ l d i
 | .list l=>wR l d i
 |_=>.no
noncomputable def gU:V→P PyData
 | .own d=>.ok d
 |_=>.no
noncomputable def fZ(σ:aA)(x:Str):P PyData :=
 match aA.get σ x with
 |some o=>(match o with | some v=>gU v | none=>.no)
 |none=>.no
noncomputable def blk(rec:Stmt→aA→KN→KR→R V):List Stmt→aA→KN→KR→R V
 | [],σ,kn,_=>kn σ
 |s::r,σ,kn,kr=>rec s σ (fun σ=>blk rec r σ kn kr) kr
noncomputable def mE(m:Str):PyData→Bool
 | .list _=>decide (m = "append")
 | .dict _=>decide (m = "pop")||decide (m = "update")
 |_=>false
noncomputable def wS(l:List (PyData×PyData)):PyData→P PyData
 | .str k=>if (bM l k).isSome then .ok (.dict (eO l k)) else .no
 |_=>.no
noncomputable def wT(l:List (PyData×PyData)):PyData→P PyData
 | .dict m=>(ofO (keys? m)).bind fun m=>if l.length+m.length < 4096 then .ok (.dict (cK m l)) else .no
 |_=>.no
noncomputable def gV(m:Str)(o:PyData)(as:List PyData):P PyData :=
 match as with
 | []=>.no
 |d::r=>match r with
  | []=>(match o with
   | .list l=>if l.length < aX then .ok (.list (l++[d])) else .no
   | .dict l=>if m = "pop" then wS l d else wT l d
   |_=>.no)
  |_::_=>.no
noncomputable def mF(e:Expr):Option (Str×Str×Pos×List Expr×Pos) :=
 (gO e).bind fun c=>(lZ c.1).bind fun a=>(bD a.1).bind fun x=>pK c.2.2.1 (x,a.2.1,a.2.2,c.2.1,c.2.2.2)
abbrev EV:=aA→Expr→R V
noncomputable def pY(ev:EV)(F:Nat)(sc:Scope)(σ:aA)(e:Expr)(kr:KR):R V :=
 match bD e with
 |some x=>(match gS sc σ x with
  |some d=>kr (.own d)
  |none=>rb (ev σ e) kr)
 |none=>rb (ev (aA.clear σ (esc F e)) e) kr
noncomputable def wU(ev:EV)(σ:aA)(x:Str)(i e:Expr)(kn:KN):R V :=
 if Ho i then .no else
 rb (ev σ e) fun v=>rb (ofP (fZ σ x)) fun o=>rb (ev σ i) fun iv=>rb (ofP (setItem o (dOf iv) (dOf v))) fun o=>rb (ofP (dL x (.own o) σ)) kn
noncomputable def wV(ev:EV)(hd:Bool)(σ:aA)(t e:Expr)(kn:KN):R V :=
 if pJ e=true∧hd=false then rb (ev σ e) fun v=>rb (ofP (aW t (dOf v) σ)) kn else .no
noncomputable def Hv:PyData→P (List (PyData×PyData))
 | .dict l=>.ok l
 |_=>.no
noncomputable def mG(ev:EV)(F:Nat)(σ:aA)(x:Str)(i e:Expr)(kn:KN):R V:=wU ev (aA.clear σ (esc F e)) x i e kn
noncomputable def pZ(ev:EV)(F:Nat)(hd:Bool)(σ:aA)(t e:Expr)(kn:KN):R V :=
 match vw t with
 | .name x=>rb (ev (aA.clear σ (esc F e)) e) fun v=>rb (ofP (dL x v (aA.clear σ (esc F e)))) kn
 | .sub o i=>(match bD o with | some x=>mG ev F σ x i e kn | none=>.no)
 | .tup _=>wV ev hd (aA.clear σ (esc F e)) t e kn
 |_=>.no
noncomputable def mH(ev:EV)(σ:aA)(x m:Str)(ap:Pos)(as:List Expr)(cp:Pos)(kn:KN):R V :=
 if (ap.endLine==cp.line)=false∨as.any bad=true∨3 < as.length then .no else
 rb (ofP (fZ σ x)) fun o=>if mE m o then rb (evs (ev σ) as) fun as'=>rb (ofP (gV m o (bZ as'))) fun o=>rb (ofP (dL x (.own o) σ)) kn else .no
noncomputable def qA(ev:EV)(F:Nat)(σ:aA)(e:Expr)(kn:KN):R V :=
 match mF e with
 |some (x,m,ap,as,cp)=>mH ev (aA.clear σ (as.flatMap (esc F))) x m ap as cp kn
 |none=>if iN e then .no else rb (ev (aA.clear σ (esc F e)) e) fun _=>kn (aA.clear σ (esc F e))
noncomputable def mI(ev:EV)(F:Nat)(K:Ctx)(sc:Scope)(σ:aA)(e:Expr):R V :=
 match fD e with
 |some (c,as)=>if isG sc c=true∧as.any bad=false∧K.hd=false then
   (match K.init c with
   |some (some _)=>.no
   |some none=>rb (evs (ev (aA.clear σ (as.flatMap (esc F)))) as) fun vs=>if vs.length=1 then .exc ⟨c,[]⟩ else .no
   |none=>.no) else .no
 |none=>.no
noncomputable def f0:List Stmt→Option Expr
 | []=>none
 |s::r=>match r with
  | []=>(match s with | .Return o _=>o | _=>none)
  |_::_=>none
noncomputable def mJ:List ExceptHandler→Option (Str×Option Str×Expr)
 | []=>none
 |h::r=>match r with
  | []=>(match h with
   | .ExceptHandler t x b _=>match t with
    |some t=>(match bD t with
     |some c=>(match f0 b with | some e=>some (c,x,e) | none=>none)
     |none=>none)
    |none=>none)
  |_::_=>none
noncomputable def mK(ev ev':EV)(F:Nat)(K:Ctx)(sc:Scope)(σ:aA)(e:Expr)(c:Str)(x:Option Str)(e':Expr)(kr:KR):R V :=
 if isG sc c=true∧(K.init c).isSome=true then match ev (aA.clear σ (esc F e)) e with
  | .no=>.no
  | .ok v=>kr v
  | .exc y=>match K.sub y.cls c with
   |some true=>(match x with
    |none=>.no
    |some z=>if sc.names.lookup z=some .local then rb (ofP (dL z (.ex y) (aA.clear σ (esc F e)))) fun σ=>rb (nx (ev' (aA.clear σ (esc F e')) e')) kr else .no)
   |_=>.no
 else .no
noncomputable def hide(σ:aA)(x:Str):aA:=σ.map fun p=>if x=p.1 then (p.1,none) else p
noncomputable def qB(s:Stmt):Option (Str×Expr):=match s with
 | .Assign ts e _=>(match ts with
  | []=>none
  |t::r=>(match r with | []=>(bD t).map fun x=>(x,e) | _::_=>none))
 |_=>none
noncomputable def qC(s:Stmt):Option (Expr×Stmt):=match s with
 | .If c b o _=>(match b with
  | []=>none
  |s::r=>(match r with
   | []=>(match o with | []=>some (c,s) | _::_=>none)
   |_::_=>none))
 |_=>none
noncomputable def gW{α:Type}(l:List α):Option α:=match l with
 | []=>none
 |a::r=>match r with | []=>some a | _::_=>none
noncomputable def wW(s:Stmt):Option Expr:=match s with
 | .Return o _=>o
 |_=>none
noncomputable def mM{α:Type}(l:List α):Option (α×α):=match l with
 | []=>none
 |a::r=>(gW r).map fun b=>(a,b)
noncomputable def qD(e:Expr):Option (List Expr):=match vw e with | .tup es=>some es | _=>none
noncomputable def qE(s:Stmt):Option Expr:=match s with
 | .Expr e _=>some e
 |_=>none
noncomputable def wX(s:Stmt):Option (Expr×List Stmt×List Stmt):=match s with
 | .If c b o _=>some (c,b,o)
 |_=>none
noncomputable def wY(e:Expr):Option Str:=(fD e).bind fun c=>(mM c.2).bind fun a=>(bD a.1).bind fun x=>(bD a.2).bind fun d=>if c.1 = "isinstance" ∧ d = "dict" then some x else none
noncomputable def qF(s:Stmt):Option (Str×Str):=(qC s).bind fun i=>(wY i.1).bind fun x=>(qE i.2).bind fun e=>(fD e).bind fun c=>(gW c.2).bind fun a=>(bD a).bind fun x'=>if x=x' then some (x,c.1) else none
noncomputable def qG{α:Type}(l:List α):Option (α×α×α×List α):=match l with
 | []=>none
 |a::r=>match r with
  | []=>none
  |b::r=>match r with
   | []=>none
   |c::r=>some (a,b,c,r)
structure Unt where
 x:Str
 f:Str
 t:Expr
 y:Str
 e2:Expr
 c0:Expr
 c1:Expr
 e1:Expr
 c2:Expr
 r2:Expr
 h:Str
 ap:Pos
 cp:Pos
 g:Expr
 d:Expr
 m:Str
 c3:Expr
 r3:Expr
 rest:List Stmt
noncomputable def wZ(s:Stmt):Option (Str×Str×Expr):=(qB s).bind fun a=>(fD a.2).bind fun c=>(gW c.2).bind fun t=>some (a.1,c.1,t)
noncomputable def iT(s:Stmt):Option (Expr×Expr):=(qC s).bind fun i=>(wW i.2).bind fun e=>some (i.1,e)
noncomputable def qH(s:Stmt):Option (Str×Pos×Pos×Expr×Expr):=(qE s).bind fun x=>(mF x).bind fun m=>(gW m.2.2.2.1).bind fun tu=>(qD tu).bind fun ts=>(mM ts).bind fun gd=>if m.2.1 = "append" then some (m.1,m.2.2.1,m.2.2.2.2,gd) else none
noncomputable def w0(b:List Stmt):Option ((Expr×Expr)×(Str×Pos×Pos×Expr×Expr)×(Str×Str)×(Expr×Expr)×Str):=(qG b).bind fun o=>(mM o.2.2.2).bind fun o'=>(iT o.1).bind fun j1=>(qH o.2.1).bind fun m2=>(qF o.2.2.1).bind fun m3=>(iT o'.1).bind fun j4=>(qF o'.2).bind fun m5=>if m3.2=m5.2 then some (j1,m2,m3,j4,m5.1) else none
noncomputable def mO(b:List Stmt):Option Unt:=(qG b).bind fun s=>(wZ s.1).bind fun a1=>(qB s.2.1).bind fun a2=>(wX s.2.2.1).bind fun i3=>(gW i3.2.1).bind fun s4=>(iT s4).bind fun i4=>(w0 i3.2.2).bind fun l =>
  if l.2.2.1.1=a1.1∧l.2.2.2.2=a2.1∧a1.1≠a2.1∧l.2.1.1≠a1.1∧l.2.1.1≠a2.1 then some ⟨a1.1,a1.2.1,a1.2.2,a2.1,a2.2,i3.1,i4.1,i4.2,l.1.1,l.1.2,l.2.1.1,l.2.1.2.1,l.2.1.2.2.1,l.2.1.2.2.2.1,l.2.1.2.2.2.2,l.2.2.1.2,l.2.2.2.1.1,l.2.2.2.1.2,s.2.2.2⟩ else none
noncomputable def dpD:V→P PyData
 | .dp d=>.ok d
 |_=>.no
noncomputable def xA:PyData→P (List PyData)
 | .list l=>.ok l
 |_=>.no
noncomputable def mP(σ:aA)(x:Str):P (List PyData):=(fZ σ x).bind xA
noncomputable def qI(ev:EV)(fu:Nat)(σ:aA)(q:Unt)(d:PyData)(u2:V)(kn:KN)(kr:KR):R V :=
 rb (tst (ev σ q.c0)) fun b0=>if b0 then
  rb (tst (ev (aA.set (aA.set σ q.x (.fz d)) q.y (.fz (dOf u2))) q.c1)) fun b1=>if b1 then rb (ev σ q.e1) kr else kn σ
 else rb (ofP (dpD u2)) fun d2=>if bJ fu d=true∧bJ fu d2=true then
  rb (tst (ev (aA.set (aA.set σ q.x (.fz d)) q.y (.fz d2)) q.c2)) fun b2=>if b2 then rb (ev σ q.r2) kr else
  rb (ofP (mP σ q.h)) fun l=>rb (ev (aA.set (aA.set σ q.x (.fz d)) q.y (.fz d2)) q.g) fun u3=>rb (ofP (dpD u3)) fun d3=>rb (ev σ q.d) fun dv=>if l.length < aX then
  rb (tst (ev (aA.set (aA.set σ q.h (.own (.list (l++[.tuple [d3,dOf dv]])))) q.y (.fz d2)) q.c3)) fun b3=>if b3 then rb (ev (aA.set σ q.h (.own (.list (l++[.tuple [d3,dOf dv]])))) q.r3) kr else kn (aA.set σ q.h (.own (.list (l++[.tuple [d3,dOf dv]]))))
  else .no
 else .no
noncomputable def gY(F:Nat)(q:Unt):List Str:=esc F q.t++esc F q.e2++esc F q.c0++esc F q.c1++esc F q.c2++esc F q.g++esc F q.d++esc F q.c3
noncomputable def qJ(ev:EV)(F:Nat)(K:Ctx)(sc:Scope)(σ:aA)(q:Unt)(kn:KN)(kr:KR):R V :=
 if (isG sc q.f=true∧K.has q.f=true∧isG sc q.m=true∧K.emp q.m=true∧K.hd=false)∧(isG sc "isinstance" = true∧isG sc "dict" = true)∧(bad q.t=false∧bad q.g=false∧bad q.d=false∧iN q.e2=false∧(q.ap.endLine==q.cp.line)=true)∧(aA.get σ q.x).isSome=true∧(aA.get σ q.y).isSome=true then
  rb (ev (aA.clear σ (gY F q)) q.t) fun tv=>rb (K.call q.f [.fz (dOf tv)]) fun u1=>rb (ofP (dpD u1)) fun d =>
  rb (ev (aA.set (hide (hide (aA.clear σ (gY F q)) q.x) q.y) q.x (.fz d)) q.e2) fun u2=>qI ev K.fu (hide (hide (aA.clear σ (gY F q)) q.x) q.y) q d u2 kn kr
 else .no
noncomputable def kB(ev:EV)(F:Nat)(K:Ctx)(sc:Scope)(rec:Stmt→aA→KN→KR→R V):List Stmt→aA→KN→KR→R V
 | [],σ,kn,_=>kn σ
 |s::r,σ,kn,kr=>match mO (s::r) with
  |some q=>qJ ev F K sc σ q (fun σ=>blk rec q.rest σ kn kr) kr
  |none=>rec s σ (fun σ=>kB ev F K sc rec r σ kn kr) kr
noncomputable def xB(ev ev':EV)(F:Nat)(K:Ctx)(sc:Scope)(rec:Stmt→aA→KN→KR→R V)(s:Stmt)(σ:aA)(kn:KN)(kr:KR):R V :=
 match s with
 | .Return o _=>(match o with | none=>kr (.fz .none) | some e=>pY ev F sc σ e kr)
 | .Assign ts e _=>match ts with
  | []=>.no
  |t::r=>(match r with | []=>pZ ev F K.hd σ t e kn | _::_=>.no)
 | .Expr e _=>qA ev F σ e kn
 | .If t b o _=>rb (tst (ev (aA.clear σ (esc F t)) t)) fun c=>if c then blk rec b (aA.clear σ (esc F t)) kn kr else blk rec o (aA.clear σ (esc F t)) kn kr
 | .For t it b o _=>match o with
  | []=>rb (d6 (ev (aA.clear σ (esc F it))) K.hd sc t it) fun l=>aS (kB ev F K sc rec b) t l (aA.clear σ (esc F it)) kn kr
  |_::_=>.no
 | .Raise o c _=>match o with
  |some e=>(match c with | none=>mI ev F K sc σ e | some _=>.no)
  |none=>.no
 | .Try b hs o f _=>match o with
  | []=>(match f with
   | []=>(match f0 b with
    |some e=>(match mJ hs with | some (c,x,e')=>if K.hd then .no else mK ev ev' F K sc σ e c x e' kr | none=>.no)
    |none=>.no)
   |_::_=>.no)
  |_::_=>.no
 | .Pass _=>kn σ
 |_=>.no
noncomputable def evS(ev ev':EV)(F:Nat)(K:Ctx)(sc:Scope):Nat→Stmt→aA→KN→KR→R V
 |0=>fun _ _ _ _=>.no
 |k+1=>xB ev ev' F K sc (evS ev ev' F K sc k)
noncomputable def dD(ps:List Str)(vs:List V):List (Str×NameKind)→aA
 | []=>[]
 | (x,k)::r=>match k with
  | .local=>(x,(ps.zip vs).lookup x)::dD ps vs r
  | .cell=>(x,(ps.zip vs).lookup x)::dD ps vs r
  |_=>dD ps vs r
noncomputable def cG:Nat:=24
noncomputable def kC:List Str→Bool
 | []=>true
 |x::r=>!r.contains x&&kC r
noncomputable def f9(a:Arguments)(sc:Scope):Bool :=
 a.posonlyargs.isEmpty&&a.vararg.isNone&&a.kwonlyargs.isEmpty&&a.kwarg.isNone&&a.defaults.isEmpty&&a.kw_defaults.isEmpty &&
 sc.kind==.function&&!sc.isGenerator&&!sc.isCoroutine&&kC (sc.names.map (·.1))&&kC (a.args.map (·.arg)) &&
 (sc.names.all fun p=>p.2 != .free)&&(a.args.all fun x=>match sc.names.lookup x.arg with | some .local=>true | some .cell=>true | _=>false) &&
 (sc.names.lookup (Str.ofString "__debug__")).isNone&&(sc.names.lookup (Str.ofString "__classdict__")).isNone
noncomputable def lcl(sc:Scope)(x:Str):Bool:=sc.names.lookup x==some .local||sc.names.lookup x==some .cell
noncomputable def iU:List V→Option PyData
 | []=>none
 |u::r=>match r with
  | []=>(match u with | .fz d=>some d | _=>none)
  |_::_=>none
noncomputable def mQ(f:Str):Bool:=f == "_law_copy" || f == "copied"
noncomputable def kD(n:Nat)(hd:Bool)(f:Str)(vs:List V):Option PyData:=if hd=false∧mQ f=true then (iU vs).bind fun d=>if bJ n d=true then some d else none else none
noncomputable def cL(body:List Stmt)(n:Nat)(call:Str→List V→R V)(hd:Bool):Ctx :=
 ⟨call,fun f=>(b4 f body).isSome,fX body,hd,dW body,fun c=>(bF c body).map (·.2),fun m=>m == "_law_emptied", n⟩
noncomputable def run(body:List Stmt):Nat→Bool→Str→List V→R V
 |0,_,_,_=>.no
 |n+1,hd,f,vs=>match kD (n+1) hd f vs with
  |some d=>.ok (.dp d)
  |none=>match b4 f body with
   |none=>.no
   |some (a,b,sc) =>
    if a.args.length=vs.length∧f9 a sc=true then
     blk (evS (evE (cL body n (run body n hd) hd) cG sc) (evE (cL body n (run body n true) true) cG sc) cG (cL body n (run body n hd) hd) sc cG) b (dD (a.args.map (·.arg)) vs sc.names) (fun _=>.ok (.fz .none)) .ok
    else .no
end Mine
namespace Mine
open PySem
noncomputable def bmV:List Value:=[.type "ValueError", .type "Exception", .type "BaseException", .type "object"]
noncomputable def mR(body:List Stmt):Nat→Str→List Str
 |0,_=>[]
 |n+1,c=>match bF c body with
  |some p=>(match bF p.1 body with | some _=>p.1::mR body n p.1 | none=>[])
  |none=>[]
noncomputable def qK(h:Heap)(n:Str):Value:=(h.nsMap mainGlobals n).getD .none
noncomputable def kE(h:Heap)(chain:List Str):List Value:=chain.map (qK h)++bmV
noncomputable def mS(h:Heap)(ns:Addr)(l:List Str):Bool:=l.all fun n=>(h.nsMap ns n).isNone
noncomputable def mT(h:Heap)(l:List Str)(chain:List Str):Bool:=chain.all fun n=>match h.clsAt mainGlobals n with
 |some x=>h.isNs x.2.2.ns&&mS h x.2.2.ns l
 |none=>false
noncomputable def hid:List Str:=[Str.ofString "__getattribute__", Str.ofString "__getattr__", Str.ofString "__class__"]
noncomputable def Hw(h:Heap)(cd:ClassData)(chain:List Str):Option (List Str)→Bool
 |none=>(h.nsMap cd.ns "__init__").isNone&&mS h cd.ns hid&&mT h (Str.ofString "__init__" :: hid) chain
 |some _=>mS h cd.ns hid&&mT h (Str.ofString "__init__" :: hid) chain
noncomputable def mU(h:Heap)(chain:List Str)(ini:Option (List Str))(x:Addr×Obj×ClassData):Bool :=
 decide (x.2.1.cls=.type "type")&&decide (x.2.2.mro=.ref x.1::kE h chain)&&!x.2.2.hasDel&&decide (x.2.1.slots.size=6)&&decide (x.2.1.slots[4]?=some (some (.builtin "ValueError.__new__")))&&h.isNs x.2.2.ns&&Hw h x.2.2 chain ini
noncomputable def Hx(s:Stmt):Option Str:=match sv s with
 | .cls n _ _=>some n
 |_=>none
noncomputable def mV(body:List Stmt):List Str:=body.filterMap Hx
noncomputable def xC(h:Heap)(body:List Stmt)(c:Str)(C:Addr):Bool:=(mV body).all fun d=>match h.nsMap mainGlobals d with
 |some (.ref D)=>decide ((Value.ref C::kE h (mR body 4 c)).contains (.ref D)=fY body 4 c d)
 |_=>true
noncomputable def Hy(h:Heap)(body:List Stmt)(c:Str)(p:Str×Option (List Str)):Bool:=(h.clsAt mainGlobals c).any fun x=>mU h (mR body 4 c) p.2 x&&xC h body c x.1
noncomputable def qL(h:Heap)(body:List Stmt):Bool:=(mV body).all fun c=>match bF c body with
 |none=>true
 |some p=>Hy h body c p
end Mine
namespace Mine
open PySem PySem.W PyProof.Rows
noncomputable def Hz(s:Stmt):Bool:=match sv s with
 | .asg ts _=>(match ts with
  | []=>true
  |t::r=>(match r with
   | []=>(bD t).elim true fun x=>!(x == "__name__")
   |_::_=>true))
 |_=>true
noncomputable def H0(p:Program):Program:={ p with main:={ p.main with body:=p.main.body.filter Hz } }
end Mine
namespace Mine
open PySem PySem.W
noncomputable def mW(tb:String→Option Builtin)(p:Program)(w:World)(n₀:Nat)(ann:Option Value):Nat→SharedT→Thread→Option SharedT
 |0,_,_=>none
 |n+1,s,t=>match through t with
  |true=>some s
  |false=>match stepOk n₀ ann t with
   |false=>none
   |true=>match stepT (denote tb) p w s t with
    |some r=>mW tb p w n₀ ann n r.1 r.2
    |none=>none
theorem H1{tb:String→Option Builtin}{p:Program}{w:World}{n₀:Nat}{ann:Option Value}:∀ {n:Nat} {s s':SharedT} {t:Thread},mW tb p w n₀ ann n s t=some s'→topRun tb p w n₀ ann n s.abs t=some s'.abs:=by
 intro v0
 induction v0 with
 |zero =>
  intro _ _ _ h;cases h
 |succ n ih =>
  intro s s' t h;unfold mW at h;unfold topRun;cases he:through t with
  |true=>rw[he] at h;cases h;rfl
  |false =>
   rw[he] at h;cases hk:stepOk n₀ ann t with
   |false=>rw[hk] at h;cases h
   |true =>
    rw[hk] at h;cases hs:stepT (denote tb) p w s t with
    |none=>rw[hs] at h;cases h
    |some r=>obtain⟨s₂,t₂⟩:=r;rw[hs] at h;rw[stepT_spec hs];exact ih h
noncomputable def xD(l:List Obj):BT×Nat:=l.foldl (fun x o=>(x.1.ins x.2 o,x.2+1)) (.nil,0)
noncomputable def mX(w:World)(os:OsState):SharedT:=⟨(xD (boot_heap w.params).objs.toList).1,(xD (boot_heap w.params).objs.toList).2,(boot_heap w.params).life,Array.mk [],boot_drawn,boot_toks,os⟩
noncomputable def xE{α:Type}(p q:Program)(loose:List Str)(Xt:Shared→Bool)(Yf:Shared→α)(g0:Bool)(w:World)(S:SharedT) :=
 (staticsOk (importedModules p.main.body) (boot_heap w.params) S.abs.heap&&namesBound p S.abs.heap&&gensDone S.abs&&laidKept (boot_heap w.params) S.abs.heap,openSeen q loose (importedModules p.main.body) Xt g0 S.abs,Yf S.abs)
theorem H4{p q:Program}{loose:List Str}{Xt:Shared→Bool}{α:Type}{Yf:Shared→α}{Ya:World→α}{N:Nat}{g0:Bool}
  (ho:∀ w:World,(fencedOpening treeTable p w N).map (fun s=>(s.heap,s.gens,s.drawn,s.toks))=some (boot_heap w.params,Array.mk [],boot_drawn,boot_toks))
  (hb:∀ w os,(mX w os).abs=⟨boot_heap w.params,Array.mk [],boot_drawn,boot_toks,os⟩) (hns:∀ w:World,(boot_heap w.params).isNs mainGlobals=true)
  (hr:∀ (w:World) (os:OsState),(mW treeTable p w (boot_heap w.params).objs.size ((boot_heap w.params).nsMap mainGlobals "__annotations__") N (mX w os) (topStub p)).map (xE p q loose Xt Yf g0 w)=some (true,openGood q loose,Ya w)):LeftO p q loose Xt Yf Ya N g0:=fun w=>by
 obtain⟨s,hs,hv⟩:=Option.map_eq_some_iff.mp (ho w);obtain⟨S,h1,h2⟩:=Option.map_eq_some_iff.mp (hr w s.os);have e:s=(mX w s.os).abs:=by
  rw[hb];obtain⟨h,g,d,t,os⟩:=s;cases hv;rfl
 have h3:=H1 h1;rw[← e] at h3;have eh:s.heap=boot_heap w.params:=congrArg (·.1) hv;have eg:s.gens=Array.mk []:=congrArg (·.2.1) hv;unfold openEnds;rw[hs];show(topFrom treeTable p w N s).map _=_;unfold topFrom;rw[eh,eg,hns w];unfold xE at h2;obtain⟨k1,k2⟩:=Prod.mk.inj h2;show((topRun treeTable p w (boot_heap w.params).objs.size ((boot_heap w.params).nsMap mainGlobals "__annotations__") N s (topStub p)).bind _).map _=_;rw[h3];show(match (staticsOk (importedModules p.main.body) (boot_heap w.params) S.abs.heap&&namesBound p S.abs.heap&&gensDone S.abs&&laidKept (boot_heap w.params) S.abs.heap) with | true=>some S.abs | false=>none).map _=_;rw[k1];exact congrArg some k2
end Mine
set_option Elab.async false
namespace Mine
open PySem PySem.W PyProof.Rows
noncomputable def V03:Program:=H0 PySem.Challenge.rw_uf010037_03.prog
set_option maxRecDepth 100000 in
set_option maxHeartbeats 8000000 in
theorem Ia:∀ w os,(mX w os).abs=⟨boot_heap w.params,Array.mk [],boot_drawn,boot_toks,os⟩:=fun w os=>by kernel_rfl
set_option maxRecDepth 100000 in
theorem Ib:∀ w:World,(boot_heap w.params).isNs mainGlobals=true:=fun w=>by kernel_rfl
set_option maxRecDepth 100000 in
theorem Ic:∀ w:World,(fencedOpening treeTable PySem.Challenge.rw_uf010037_03.row.prog w 5664).map (fun s=>(s.heap,s.gens,s.drawn,s.toks))=some (boot_heap w.params,Array.mk [],boot_drawn,boot_toks) :=
 boot_open (by kernel_rfl) (by kernel_rfl) fun s=>by kernel_rfl
end Mine
set_option Elab.async false
namespace Mine
open PySem PySem.W PyProof.Rows
set_option maxRecDepth 100000 in
set_option maxHeartbeats 8000000 in
theorem Id:LeftO PySem.Challenge.rw_uf010037_03.row.prog V03 [] (fun s=>(xlAt V03 [] s&&recOk (RowW.records PySem.Challenge.rw_uf010037_03.row.toRowW) s)&&qL s.heap PySem.Challenge.rw_uf010037_03.row.prog.main.body) (Hook.obs Hook.none) (Hook.val Hook.none) 5664 :=
 H4 Ic Ia Ib fun w os=>by kernel_rfl
end Mine
namespace Mine
open PySem
noncomputable def Vw(e:Expr):EW→Prop
 | .name x=>∃ p,e=.Name x p
 | .tup es=>∃ k p,e=.Tuple es k p
 | .call f as kws q=>e=.Call f as kws q
 | .attr o m p=>e=.Attribute o m p
 | .sub o i=>∃ p,e=.Subscript o i p
 | .slice a b c=>∃ p,e=.Slice a b c p
 |_=>True
theorem Ie(e:Expr):Vw e (vw e):=by
 cases e<;>first | exact trivial | exact⟨_,rfl⟩ | exact⟨_,_,rfl⟩ | exact rfl
theorem cM{e:Expr}{v:EW}(h:vw e=v):Vw e v:=h▸Ie e
theorem ob{α β:Type}{o:Option α}{f:α→Option β}{b:β}(h:o.bind f=some b):∃ a,o=some a∧f a=some b:=by
 cases o with
 |none=>cases h
 |some a=>exact⟨a,rfl,h⟩
theorem Ig{α:Type}{kws:List Keyword}{a b:α}(h:pK kws a=some b):kws=[]∧a=b:=by
 cases kws with
 |nil=>cases h;exact⟨rfl,rfl⟩
 |cons=>cases h
theorem dE{e:Expr}{x:Str}(h:bD e=some x):∃ p,e=.Name x p:=by
 unfold bD at h;generalize hv:vw e=v at h;cases v with
 |name y=>cases h;exact cM hv
 |_=>cases h
theorem qM{e:Expr}{c:Expr×List Expr×List Keyword×Pos}(h:gO e=some c):e=.Call c.1 c.2.1 c.2.2.1 c.2.2.2:=by
 unfold gO at h;generalize hv:vw e=v at h;cases v with
 |call f as kws q=>cases h;exact cM hv
 |_=>cases h
theorem Ih{e:Expr}{c:Expr×Str×Pos}(h:lZ e=some c):e=.Attribute c.1 c.2.1 c.2.2:=by
 unfold lZ at h;generalize hv:vw e=v at h;cases v with
 |attr o m p=>cases h;exact cM hv
 |_=>cases h
theorem Ii{e:Expr}{c:Option Expr×Option Expr×Option Expr}(h:j8 e=some c):∃ p,e=.Slice c.1 c.2.1 c.2.2 p:=by
 unfold j8 at h;generalize hv:vw e=v at h;cases v with
 |slice=>cases h;exact cM hv
 |_=>cases h
theorem qN{e:Expr}{env:Env}(h:bad e=false)(x:Value):foldedSetIterable e env x=pure x:=by
 unfold foldedSetIterable;cases e<;>first | rfl | cases h
theorem eA{e:Expr}{env:Env}{es:List Expr}(h:bad e=false):starEach (e::es) env=(false,eval e env)::starEach es env:=by
 cases e<;>first | rfl | cases h
theorem Ij{op:CmpOp}{e:Expr}{t:Sem Value}(h:bad e=false):markedBehindIn op e t=t:=by
 refine markedBehindIn_of_false ?_;cases e<;>first | rfl | cases h
theorem xF{e:Expr}{o i:Value}(h:bad e=false):subscripted e false o i=operate [o,i] (PySem.getItem o i):=by
 cases e<;>first | rfl | cases h
theorem eU{α:Type}{e:Expr}{r:R α}(hb:bad e=true→r=.no)(h:r≠.no):bad e=false:=by
 cases e':bad e with
 |false=>rfl
 |true=>exact absurd (hb e') h
theorem kF{e:Expr}{c:Str×List Expr}(h:fD e=some c):∃ p q,e=.Call (.Name c.1 p) c.2 [] q:=by
 obtain⟨⟨f,as,kws,q⟩,h1,h⟩:=ob h;obtain⟨x,h2,h⟩:=ob h;obtain⟨rfl,rfl⟩:=Ig h;obtain⟨p,rfl⟩:=dE h2;exact⟨p,q,qM h1⟩
end Mine
namespace Mine
open PySem
inductive CpDef(f:Str)(a:Arguments)(b:List Stmt)(sc:Scope):Prop where
 |mk (P X:Str) (sc':Scope) (p1 p2 p3 p4 p5 p6 p7 p8 p9 p10 q1 q2 q3 q4 q5 q6:Pos) (q7:Nat) (q8 q9 q10 q11:Pos) (ha:a.args.map (·.arg)=[P]) (fn:f9 a sc=true) (g1:isG sc "isinstance" = true) (g2:isG sc "dict" = true) (lP:isL sc P=true) (cok:gT sc sc' (.one X)=true) (gf:isG sc' f=true) (lP':isL sc' P=true) (lX:isL sc' X=true) (ne:P≠X∧P ≠ ".0" ∧ X ≠ ".0") (nf:f ≠ "isinstance" ∧ f ≠ "min" ∧ dY f=false)
  (e:b=[.If (.Call (.Name "isinstance" p1) [.Name P p2,.Name "dict" p3] [] p4) [.Return (some (.Call (.Name "dict" p5) [.ListComp (.Tuple [.Name X q1,.Call (.Name f q2) [.Subscript (.Name P q3) (.Name X q4) q5] [] q6] q7 q8) [⟨.Name X q9,.Name P q10,[],0⟩] sc' q11] [] p6)) p7] [] p8,.Return (some (.Name P p9)) p10]):CpDef f a b sc
theorem xG{s:Stmt}{f:Expr×Stmt}(h:qC s=some f):∃ pos,s=.If f.1 [f.2] [] pos:=by
 cases s with
 |If c b o pos =>
  cases b with
  |nil=>exact ns h
  |cons s r =>
   cases r with
   |cons=>exact ns h
   |nil =>
    cases o with
    |cons=>exact ns h
    |nil=>obtain rfl:=si h;exact⟨pos,rfl⟩
 |_=>exact ns h
theorem Ik{e:Expr}{h:List Expr}(q:qD e=some h):∃ k p,e=.Tuple h k p:=by
 unfold qD at q;cases hv:vw e with
 |tup es =>
  rw[hv] at q;obtain rfl:=si q;exact cM hv
 |_=>rw[hv] at q;exact ns q
theorem Il{s:Stmt}{e:Expr}(h:wW s=some e):∃ pos,s=.Return (some e) pos:=by
 cases s with
 |Return o pos=>exact⟨pos,by rw[show o=some e from h]⟩
 |_=>exact ns h
theorem kG{α:Type}{l:List α}{a:α}(h:gW l=some a):l=[a]:=by
 cases l with
 |nil=>exact ns h
 |cons b r =>
  cases r with
  |nil=>rw[Option.some.inj h]
  |cons=>exact ns h
theorem qO{α:Type}{l:List α}{p:α×α}(h:mM l=some p):l=[p.1,p.2]:=by
 cases l with
 |nil=>exact ns h
 |cons b r =>
  obtain⟨c,h1,rfl⟩:=Option.map_eq_some_iff.mp (show(gW r).map (fun c=>(b,c))=some p from h);rw[kG h1]
theorem xH{s:Stmt}{a:Str×Expr}(h:qB s=some a):∃ p pos,s=.Assign [.Name a.1 p] a.2 pos:=by
 cases s with
 |Assign ts e pos =>
  cases ts with
  |nil=>exact ns h
  |cons t r =>
   cases r with
   |cons=>exact ns h
   |nil =>
    obtain⟨x,h1,rfl⟩:=Option.map_eq_some_iff.mp (show(bD t).map (fun x=>(x,e))=some a from h);obtain⟨p,rfl⟩:=dE h1;exact⟨p,pos,rfl⟩
 |_=>exact ns h
theorem xI{e:Expr}{c:Str×Str×Pos×List Expr×Pos}(h:mF e=some c):∃ p,e=.Call (.Attribute (.Name c.1 p) c.2.1 c.2.2.1) c.2.2.2.1 [] c.2.2.2.2:=by
 obtain⟨c1,h1,h⟩:=ob h;obtain⟨a,h2,h⟩:=ob h;obtain⟨x,h3,h⟩:=ob h;have e1:=qM h1;have e2:=Ih h2;obtain⟨p,e3⟩:=dE h3;obtain⟨f,as,kws,q⟩:=c1;obtain⟨o,m,ap⟩:=a;cases kws with
 |cons=>exact ns h
 |nil =>
  obtain rfl:=si h;exact⟨p,by rw[e1,show f=_ from e2,show o=_ from e3]⟩
theorem xJ{s:Stmt}{e:Expr}(h:qE s=some e):∃ pos,s=.Expr e pos:=by
 cases s with
 |Expr e' pos=>obtain rfl:=si h;exact⟨pos,rfl⟩
 |_=>exact ns h
theorem Im{s:Stmt}{i:Expr×List Stmt×List Stmt}(h:wX s=some i):∃ pos,s=.If i.1 i.2.1 i.2.2 pos:=by
 cases s with
 |If c b o pos=>obtain rfl:=si h;exact⟨pos,rfl⟩
 |_=>exact ns h
theorem xK{α:Type}{l:List α}{t:α×α×α×List α}(h:qG l=some t):l=t.1::t.2.1::t.2.2.1::t.2.2.2:=by
 cases l with
 |nil=>exact ns h
 |cons a r =>
  cases r with
  |nil=>exact ns h
  |cons b r =>
   cases r with
   |nil=>exact ns h
   |cons c r=>obtain rfl:=si h;rfl
theorem Io{e:Expr}{x:Str}(h:wY e=some x):∃ p1 p2 p3 p4,e=.Call (.Name "isinstance" p1) [.Name x p2,.Name "dict" p3] [] p4:=by
 obtain⟨c,h1,h⟩:=ob h;obtain⟨a,h2,h⟩:=ob h;obtain⟨x',h3,h⟩:=ob h;obtain⟨d,h4,h⟩:=ob h
 by_cases hc:c.1 = "isinstance" ∧ d = "dict"
 ·have hx:=si ((if_pos hc).symm.trans h);obtain⟨p1,p4,e1⟩:=kF h1;obtain⟨p2,e3⟩:=dE h3;obtain⟨p3,e4⟩:=dE h4;exact⟨p1,p2,p3,p4,by rw[e1,hc.1,qO h2,e3,e4,hc.2,hx]⟩
 ·exact ns ((if_neg hc).symm.trans h)
inductive EmS(s:Stmt)(x m:Str):Prop where
 |mk (p1 p2 p3 p4 p5 p6 p7 p8 p9:Pos) (e:s=.If (.Call (.Name "isinstance" p1) [.Name x p2,.Name "dict" p3] [] p4) [.Expr (.Call (.Name m p5) [.Name x p6] [] p7) p8] [] p9):EmS s x m
theorem xL{s:Stmt}{r:Str×Str}(h:qF s=some r):EmS s r.1 r.2:=by
 obtain⟨c,h1,h⟩:=ob h;obtain⟨x,h2,h⟩:=ob h;obtain⟨e,h3,h⟩:=ob h;obtain⟨m,h4,h⟩:=ob h;obtain⟨a,h5,h⟩:=ob h;obtain⟨x',h6,h⟩:=ob h
 by_cases hc:x=x'
 ·have hr:=si ((if_pos hc).symm.trans h);obtain⟨p9,e1⟩:=xG h1;obtain⟨p1,p2,p3,p4,e2⟩:=Io h2;obtain⟨p8,e3⟩:=xJ h3;obtain⟨p5,p7,e4⟩:=kF h4;obtain⟨p6,e6⟩:=dE h6;exact⟨p1,p2,p3,p4,p5,p6,p7,p8,p9,by rw[e1,e2,e3,e4,kG h5,e6,← hc,← hr]⟩
 ·exact ns ((if_neg hc).symm.trans h)
inductive UnitB(b:List Stmt)(q:Unt):Prop where
 |mk (p1 p2 p3 p4 p5 p6 p7 p8 p9 p10 p11:Pos) (k:Nat) (p12 p13 p14 p15 p16:Pos) (s5 s7:Stmt) (h5:EmS s5 q.x q.m) (h7:EmS s7 q.y q.m) (ne:q.x≠q.y∧q.h≠q.x∧q.h≠q.y)
  (e:b=.Assign [.Name q.x p1] (.Call (.Name q.f p2) [q.t] [] p3) p4::.Assign [.Name q.y p5] q.e2 p6::.If q.c0 [.If q.c1 [.Return (some q.e1) p7] [] p8] [.If q.c2 [.Return (some q.r2) p9] [] p10,.Expr (.Call (.Attribute (.Name q.h p11) "append" q.ap) [.Tuple [q.g,q.d] k p12] [] q.cp) p13,s5,.If q.c3 [.Return (some q.r3) p14] [] p15,s7] p16::q.rest):UnitB b q
theorem Ip{s:Stmt}{a:Str×Str×Expr}(h:wZ s=some a):∃ p1 p2 p3 p4,s=.Assign [.Name a.1 p1] (.Call (.Name a.2.1 p2) [a.2.2] [] p3) p4:=by
 obtain⟨a1,h1,h⟩:=ob h;obtain⟨c1,h2,h⟩:=ob h;obtain⟨t,h3,h⟩:=ob h;obtain⟨p1,p4,e1⟩:=xH h1;obtain⟨p2,p3,e3⟩:=kF h2;exact⟨p1,p2,p3,p4,by rw[e1,e3,kG h3,← Option.some.inj h]⟩
theorem qP{s:Stmt}{a:Expr×Expr}(h:iT s=some a):∃ p1 p2,s=.If a.1 [.Return (some a.2) p1] [] p2:=by
 obtain⟨i,h1,h⟩:=ob h;obtain⟨e,h2,h⟩:=ob h;obtain⟨p2,e1⟩:=xG h1;obtain⟨p1,e2⟩:=Il h2;exact⟨p1,p2,by rw[e1,e2,← Option.some.inj h]⟩
theorem Iq{s:Stmt}{a:Str×Pos×Pos×Expr×Expr}(h:qH s=some a):∃ p1 k p2 p3,s=.Expr (.Call (.Attribute (.Name a.1 p1) "append" a.2.1) [.Tuple [a.2.2.2.1,a.2.2.2.2] k p2] [] a.2.2.1) p3:=by
 obtain⟨x,h1,h⟩:=ob h;obtain⟨m,h2,h⟩:=ob h;obtain⟨tu,h3,h⟩:=ob h;obtain⟨ts,h4,h⟩:=ob h;obtain⟨gd,h5,h⟩:=ob h
 by_cases hc:m.2.1 = "append"
 ·have hq:=si ((if_pos hc).symm.trans h);obtain⟨p3,e1⟩:=xJ h1;obtain⟨p1,e2⟩:=xI h2;obtain⟨k,p2,e4⟩:=Ik h4;exact⟨p1,k,p2,p3,by rw[e1,e2,kG h3,e4,qO h5,hc,← hq]⟩
 ·exact ns ((if_neg hc).symm.trans h)
inductive ElB(b:List Stmt)(l:(Expr×Expr)×(Str×Pos×Pos×Expr×Expr)×(Str×Str)×(Expr×Expr)×Str):Prop where
 |mk (s1 s2 s3 s4 s5:Stmt) (e:b=[s1,s2,s3,s4,s5]) (h1:iT s1=some l.1) (h2:qH s2=some l.2.1) (h3:EmS s3 l.2.2.1.1 l.2.2.1.2) (h4:iT s4=some l.2.2.2.1) (h5:EmS s5 l.2.2.2.2 l.2.2.1.2):ElB b l
theorem Ir{b:List Stmt}{l:(Expr×Expr)×(Str×Pos×Pos×Expr×Expr)×(Str×Str)×(Expr×Expr)×Str}(h:w0 b=some l):ElB b l:=by
 obtain⟨o,h1,h⟩:=ob h;obtain⟨o',h2,h⟩:=ob h;obtain⟨j1,h3,h⟩:=ob h;obtain⟨m2,h4,h⟩:=ob h;obtain⟨m3,h5,h⟩:=ob h;obtain⟨j4,h6,h⟩:=ob h;obtain⟨m5,h7,h⟩:=ob h
 by_cases hc:m3.2=m5.2
 ·rw[← si ((if_pos hc).symm.trans h)];exact⟨_,_,_,_,_,by rw[xK h1,qO h2],h3,h4,xL h5,h6,hc▸xL h7⟩
 ·exact ns ((if_neg hc).symm.trans h)
theorem It{b:List Stmt}{q:Unt}(h:mO b=some q):UnitB b q:=by
 obtain⟨s,h1,h⟩:=ob h;obtain⟨a1,h2,h⟩:=ob h;obtain⟨a2,h5,h⟩:=ob h;obtain⟨i3,h6,h⟩:=ob h;obtain⟨s4,h7,h⟩:=ob h;obtain⟨i4,h8,h⟩:=ob h;obtain⟨l,h9,h⟩:=ob h
 by_cases hc:l.2.2.1.1=a1.1∧l.2.2.2.2=a2.1∧a1.1≠a2.1∧l.2.1.1≠a1.1∧l.2.1.1≠a2.1
 ·rw[← si ((if_pos hc).symm.trans h)];obtain⟨k3,k5,n⟩:=hc;obtain⟨p1,p2,p3,p4,f2⟩:=Ip h2;obtain⟨p5,p6,f5⟩:=xH h5;obtain⟨p16,f6⟩:=Im h6;obtain⟨p7,p8,f8⟩:=qP h8;obtain⟨s1,s2,s3,s4,s5,g0,g1,g2,g3,g4,g5⟩:=Ir h9;obtain⟨p9,p10,f12⟩:=qP g1;obtain⟨p11,k,p12,p13,f14⟩:=Iq g2;obtain⟨p14,p15,f20⟩:=qP g4;exact⟨p1,p2,p3,p4,p5,p6,p7,p8,p9,p10,p11,k,p12,p13,p14,p15,p16,s3,s5,k3▸g3,k5▸g5,n,by rw[xK h1,f2,f5,f6,kG h7,f8,g0,f12,f14,f20]⟩
 ·exact ns ((if_neg hc).symm.trans h)
inductive CdDef(f:Str)(a:Arguments)(b:List Stmt)(sc:Scope):Prop where
 |mk (P X F:Str) (p1 p2 p3 p4 p5 p6 p7 p8 p9 p10 p11 q1 q2 q3 q4 q5 q6 q7 q8 q9 q10 q11 q12 q13 q14:Pos) (ha:a.args.map (·.arg)=[P]) (fn:f9 a sc=true) (g1:isG sc "isinstance" = true) (g2:isG sc "dict" = true) (gf:isG sc f=true) (lX:lcl sc X=true) (lF:lcl sc F=true) (ne:P≠X∧P≠F∧X≠F) (nf:f ≠ "isinstance" ∧ f ≠ "min" ∧ dY f=false)
  (e:b=[.If (.UnaryOp .Not (.Call (.Name "isinstance" p1) [.Name P p2,.Name "dict" p3] [] p4) p5) [.Return (some (.Name P p6)) p7] [] p8,.Assign [.Name F p9] (.Dict [] [] p10) p11,.For (.Name X q1) (.Name P q2) [.Assign [.Subscript (.Name F q3) (.Name X q4) q5] (.Call (.Name f q6) [.Subscript (.Name P q7) (.Name X q8) q9] [] q10) q11] [] q12,.Return (some (.Name F q13)) q14]):CdDef f a b sc
inductive EmDef(m:Str)(a:Arguments)(b:List Stmt)(sc:Scope):Prop where
 |mk (P X:Str) (p1 p2 p3 p4 p5 p6 p7 p8 p9 p10 q1 q2 q3 q4 q5 q6 q7 q8 q9 q10 ap cp:Pos) (hl:(ap.endLine==cp.line)=true) (ha:a.args.map (·.arg)=[P]) (fn:f9 a sc=true) (g1:isG sc "isinstance" = true) (g2:isG sc "dict" = true) (g3:isG sc "list" = true) (gm:isG sc m=true) (lX:lcl sc X=true) (ne:P≠X) (nm:m ≠ "isinstance" ∧ m ≠ "min" ∧ dY m=false)
  (e:b=[.For (.Name X p1) (.Call (.Name "list" p2) [.Name P p3] [] p4) [.If (.Call (.Name "isinstance" p5) [.Subscript (.Name P p6) (.Name X p7) p8,.Name "dict" p9] [] p10) [.Expr (.Call (.Name m q1) [.Subscript (.Name P q2) (.Name X q3) q4] [] q5) q6] [] q7] [] q8,.Expr (.Call (.Attribute (.Name P q9) "clear" ap) [] [] cp) q10]):EmDef m a b sc
inductive ShpD(R:Arguments→List Stmt→Scope→Prop)(body:List Stmt)(f:Str):Prop where
 |mk (a:Arguments) (b:List Stmt) (sc:Scope) (h:b4 f body=some (a,b,sc)) (c:R a b sc):ShpD R body f
structure Shp(body:List Stmt):Prop where
 cp:ShpD (CpDef "_law_copy") body "_law_copy"
 cd:ShpD (CdDef "copied") body "copied"
 em:ShpD (EmDef "_law_emptied") body "_law_emptied"
end Mine
namespace Mine
open PySem
noncomputable def PlT(h:Heap)(a:Addr)(vs:Array Value):Prop:=∃ n,h.get? a=some { cls:=.type "tuple", data:=.seq vs n }
theorem PlT.isTuple{h:Heap}{a:Addr}{vs:Array Value}(x:PlT h a vs):h.IsTuple a vs:=by obtain⟨n,e⟩:=x;exact⟨_,e,rfl,n,rfl⟩
theorem PlT.at{h h':Heap}{a:Addr}{vs:Array Value}(x:PlT h a vs)(hk:∀ o,h.get? a=some o→h'.get? a=some o):PlT h' a vs:=by obtain⟨n,e⟩:=x;exact⟨n,hk _ e⟩
section
variable (prog:Program) (w:World)
inductive Rep(h:Heap)(av:Addr→Prop):Value→PyData→Prop where
 |none:Rep h av .none .none
 |bool (b:Bool):Rep h av (.bool b) (.bool b)
 |int (i:Int) (t:Tok):Rep h av (.int i t) (.int i)
 |str (x:Str) (t:Tok):x.length≤sizeLine→Rep h av (.str x t) (.str x)
 |list {a:Addr} {vs:List Value} {ds:List PyData}:¬ av a→h.PlainList a vs.toArray→vs.length=ds.length→vs.length≤sizeLine →
   (∀ (i:Nat) (v:Value) (d:PyData),vs[i]?=some v→ds[i]?=some d→Rep h av v d)→Rep h av (.ref a) (.list ds)
 |tuple {a:Addr} {vs:List Value} {ds:List PyData}:¬ av a→PlT h a vs.toArray→vs.length=ds.length→vs.length≤sizeLine →
   (∀ (i:Nat) (v:Value) (d:PyData),vs[i]?=some v→ds[i]?=some d→Rep h av v d)→Rep h av (.ref a) (.tuple ds)
 |dict {a:Addr} {kvs:List (Str×Value)} {ds:List (PyData×PyData)}:¬ av a→h.DictOf (strKind prog w) a kvs→(kvs.length≤sizeLine∧∀ kv∈kvs,kv.1.length≤sizeLine)→(a==sysModules)=false →
   ds.map (·.1)=kvs.map (fun kv=>PyData.str kv.1)→(∀ (i:Nat) (kv:Str×Value) (d:PyData×PyData),kvs[i]?=some kv→ds[i]?=some d→Rep h av kv.2 d.2) →
   Rep h av (.ref a) (.dict ds)
variable {prog w}
theorem Rep.mono{h h':Heap}{av av':Addr→Prop}(hk:∀ b o,¬ av b→h.get? b=some o→h'.get? b=some o)(ha:∀ b o,h.get? b=some o→av' b→av b){v:Value}{d:PyData}(r:Rep prog w h av v d) :
  Rep prog w h' av' v d:=by
 induction r with
 |none=>exact .none
 |bool b=>exact .bool b
 |int i t=>exact .int i t
 |str x t hx=>exact .str x t hx
 |list h1 h2 h3 h4 _ ih=>exact .list (fun x=>h1 (by obtain⟨_,e⟩:=h2;exact ha _ _ e x)) (h2.at fun o e=>hk _ o h1 e) h3 h4 ih
 |tuple h1 h2 h3 h4 _ ih=>exact .tuple (fun x=>h1 (by obtain⟨_,e⟩:=h2;exact ha _ _ e x)) (h2.at fun o e=>hk _ o h1 e) h3 h4 ih
 |dict h1 h2 h3 h4 h5 _ ih =>
  obtain⟨o,es,ep,e,r⟩:=h2;exact .dict (fun x=>h1 (ha _ _ e x)) ⟨o,es,ep,hk _ o h1 e,r⟩ h3 h4 h5 ih
theorem Rep.keeps{h h':Heap}{av:Addr→Prop}(hk:∀ b o,h.get? b=some o→h'.get? b=some o){v:Value}{d:PyData}(r:Rep prog w h av v d):Rep prog w h' av v d :=
 r.mono (fun b o _ e=>hk b o e) fun _ _ _ x=>x
variable (prog w)
inductive BodyL(h:Heap)(av:Addr→Prop)(a:Addr)(ds:List PyData):Prop where
 |mk (vs:List Value) (p:h.PlainList a vs.toArray) (l:vs.length=ds.length) (z:vs.length≤sizeLine) (r:∀ (i:Nat) (v:Value) (d:PyData),vs[i]?=some v→ds[i]?=some d→Rep prog w h av v d):BodyL h av a ds
inductive BodyD(h:Heap)(av:Addr→Prop)(a:Addr)(ds:List (PyData×PyData)):Prop where
 |mk (kvs:List (Str×Value)) (p:h.DictOf (strKind prog w) a kvs) (z:kvs.length≤sizeLine∧∀ kv∈kvs,kv.1.length≤sizeLine) (m:(a==sysModules)=false) (l:ds.map (·.1)=kvs.map (fun kv=>PyData.str kv.1))
  (r:∀ (i:Nat) (kv:Str×Value) (d:PyData×PyData),kvs[i]?=some kv→ds[i]?=some d→Rep prog w h av kv.2 d.2):BodyD h av a ds
noncomputable def bG(h:Heap)(av:Addr→Prop)(a:Addr):PyData→Prop
 | .list ds=>BodyL prog w h av a ds
 | .dict ds=>BodyD prog w h av a ds
 |_=>False
variable {prog w}
theorem bG.mono{h h':Heap}{av av':Addr→Prop}{a:Addr}(hk:∀ b o,¬ av b→h.get? b=some o→h'.get? b=some o)(ha:∀ b o,h.get? b=some o→av' b→av b)(hs:∀ o,h.get? a=some o→h'.get? a=some o)
  {d:PyData} (r:bG prog w h av a d):bG prog w h' av' a d:=by
 cases d with
 |list ds=>obtain⟨vs,h1,h2,h3,h4⟩:=r;exact⟨vs,h1.at hs,h2,h3,fun i v d e1 e2=>(h4 i v d e1 e2).mono hk ha⟩
 |dict ds =>
  obtain⟨kvs,⟨o,es,ep,e,r⟩,h2,h3,h4,h5⟩:=r;exact⟨kvs,⟨o,es,ep,hs _ e,r⟩,h2,h3,h4,fun i v d e1 e2=>(h5 i v d e1 e2).mono hk ha⟩
 |_=>exact r.elim
theorem bG.rep{h:Heap}{av:Addr→Prop}{a:Addr}{d:PyData}(ha:¬ av a)(r:bG prog w h av a d):Rep prog w h av (.ref a) d:=by
 cases d with
 |list ds=>obtain⟨vs,h1,h2,h3,h4⟩:=r;exact .list ha h1 h2 h3 h4
 |dict ds=>obtain⟨kvs,h1,h2,h3,h4,h5⟩:=r;exact .dict ha h1 h2 h3 h4 h5
 |_=>exact r.elim
variable (prog w)
inductive Dp(h:Heap):(Addr→Prop)→Value→PyData→Prop where
 |int {pn:Addr→Prop} (i:Int) (t:Tok):Dp h pn (.int i t) (.int i)
 |dict {pn:Addr→Prop} {a:Addr} {kvs:List (Str×Value)} {ds:List (PyData×PyData)} (f:Nat→Addr→Prop):pn a→h.DictOf (strKind prog w) a kvs→(kvs.length≤sizeLine∧∀ kv∈kvs,kv.1.length≤sizeLine)→(a==sysModules)=false →
   ds.map (·.1)=kvs.map (fun kv=>PyData.str kv.1)→(∀ i b,f i b→pn b∧b≠a)→(∀ i j b,f i b→f j b→i=j)→(∀ (i:Nat) (kv:Str×Value) (d:PyData×PyData),kvs[i]?=some kv→ds[i]?=some d→Dp h (f i) kv.2 d.2)→Dp h pn (.ref a) (.dict ds)
variable {prog w}
theorem Dp.mono{h h':Heap}{pn:Addr→Prop}{v:Value}{d:PyData}(r:Dp prog w h pn v d):(∀ b o,pn b→h.get? b=some o→h'.get? b=some o)→Dp prog w h' pn v d:=by
 induction r with
 |int i t=>exact fun _=>.int i t
 |dict f h1 h2 h3 h4 h5 h6 h7 _ ih =>
  intro hk;obtain⟨o,es,ep,e,r⟩:=h2;exact .dict f h1 ⟨o,es,ep,hk _ o h1 e,r⟩ h3 h4 h5 h6 h7 fun i kv d e1 e2=>ih i kv d e1 e2 fun b o hb=>hk b o (h6 i b hb).1
theorem Dp.rep{h:Heap}{av pn:Addr→Prop}{v:Value}{d:PyData}(r:Dp prog w h pn v d):(∀ b,pn b→¬ av b)→Rep prog w h av v d:=by
 induction r with
 |int i t=>exact fun _=>.int i t
 |dict f h1 h2 h3 h4 h5 h6 h7 _ ih=>exact fun hp=>.dict (hp _ h1) h2 h3 h4 h5 fun i kv d e1 e2=>ih i kv d e1 e2 fun b hb=>hp b (h6 i b hb).1
theorem Dp.up{h:Heap}{pn pn':Addr→Prop}{v:Value}{d:PyData}(hp:∀ b,pn b→pn' b)(r:Dp prog w h pn v d):Dp prog w h pn' v d:=by
 cases r with
 |int i t=>exact .int i t
 |dict f h1 h2 h3 h4 h5 h6 h7 h8=>exact .dict f (hp _ h1) h2 h3 h4 h5 (fun i b hb=>⟨hp b (h6 i b hb).1,(h6 i b hb).2⟩) h7 h8
variable (prog w)
inductive DpN(s:Shared)(h:Heap)(v:Value)(d:PyData):Prop where
 |mk (pn:Addr→Prop) (n:∀ b,pn b→s.heap.get? b=none) (l:∀ b,pn b→∃ o,h.get? b=some o) (r:Dp prog w h pn v d):DpN s h v d
noncomputable def Own(s:Shared)(h:Heap)(av:Addr→Prop)(v:Value)(d:PyData):Prop :=
 ∃ a,v=.ref a∧s.heap.get? a=none∧bG prog w h (fun b=>av b∨b=a) a d
noncomputable def aY(s:Shared)(h:Heap)(av:Addr→Prop)(v:Value):V→Prop
 | .fz d=>Rep prog w h av v d
 | .own d=>Own prog w s h av v d
 | .ex _=>False
 | .dp d=>DpN prog w s h v d
variable {prog w}
theorem DpN.rep{s:Shared}{h:Heap}{av:Addr→Prop}{v:Value}{d:PyData}(hlt:∀ b,av b→∃ o,s.heap.get? b=some o)(r:DpN prog w s h v d):Rep prog w h av v d:=by
 obtain⟨pn,n,_,r⟩:=r;exact r.rep fun b hb x=>by obtain⟨o,e⟩:=hlt b x;rw[n b hb] at e;exact ns e
theorem Own.rep{s:Shared}{h:Heap}{av:Addr→Prop}{v:Value}{d:PyData}(hlt:∀ b,av b→∃ o,s.heap.get? b=some o)(r:Own prog w s h av v d):Rep prog w h av v d:=by
 obtain⟨a,rfl,ha,r⟩:=r;exact bG.rep (fun x=>by obtain⟨o,e⟩:=hlt _ x;rw[ha] at e;exact ns e) (r.mono (fun _ _ x e=>e) (fun _ _ _ x=>.inl x) fun _ e=>e)
theorem aY.rep{s:Shared}{h:Heap}{av:Addr→Prop}{v:Value}{u:V}(hlt:∀ b,av b→∃ o,s.heap.get? b=some o)(r:aY prog w s h av v u):Rep prog w h av v (dOf u):=by
 cases u with
 |fz d'=>exact r
 |own d'=>exact Own.rep hlt r
 |dp d'=>exact DpN.rep hlt r
 |ex x=>exact r.elim
noncomputable def Kp(s s':Shared):Prop:=Keeps s s'
theorem Kp.rfl'(s:Shared):Kp s s:=⟨s.heap,s.toks,rfl,fun _ _ e=>e⟩
theorem Kp.tr{s s' s'':Shared}(x:Kp s s')(y:Kp s' s''):Kp s s'':=by
 obtain⟨h,t,rfl,k⟩:=x;obtain⟨h',t',rfl,k'⟩:=y;exact⟨h',t',rfl,fun b o e=>k' b o (k b o e)⟩
theorem Kp.heap{s s':Shared}(x:Kp s s'):∀ b o,s.heap.get? b=some o→s'.heap.get? b=some o:=by
 obtain⟨h,t,rfl,k⟩:=x;exact k
theorem Kp.tok'(s:Shared)(t:Nat):Kp s { s with toks:=t }:=⟨s.heap,t,rfl,fun _ _ e=>e⟩
theorem Kp.push'(s:Shared)(o:Obj):Kp s { s with heap:=s.heap.push o }:=⟨s.heap.push o,s.toks,rfl,fun _ _ e=>Heap.get?_push_of_some o e⟩
end
abbrev WP(γ:Type):=(γ→Shared→Prop)→(Value→Shared→Prop)→Prop
noncomputable def Yd{γ β:Type}(W:WP γ)(R:γ→Shared→β→Prop):P β→Prop
 | .no=>True
 | .ok b=>∀ Q E,(∀ v s',R v s' b→Q v s')→W Q E
theorem Yd.pureBind{γ β β':Type}{W:WP γ}{R:γ→Shared→β'→Prop}{p:P β}{f:β→P β'}(k:∀ b,p=.ok b→Yd W R (f b)):Yd W R (p.bind f):=by
 cases p with
 |no=>exact trivial
 |ok b=>exact k b rfl
theorem Yd.optBind{γ β β':Type}{W:WP γ}{R:γ→Shared→β'→Prop}{p:Option β}{f:β→P β'}(k:∀ b,p=some b→Yd W R (f b)):Yd W R ((ofO p).bind f):=by
 cases p with
 |none=>exact trivial
 |some b=>exact k b rfl
theorem Yd.ite{γ β:Type}{W:WP γ}{R:γ→Shared→β→Prop}{c:Prop}[Decidable c]{p:P β}(k:c→Yd W R p):Yd W R (if c then p else .no):=by
 by_cases h:c
 ·rw[if_pos h];exact k h
 ·rw[if_neg h];exact trivial
theorem Yd.ite2{γ β:Type}{W:WP γ}{R:γ→Shared→β→Prop}{c:Prop}[Decidable c]{p q:P β}(k:c→Yd W R p)(k':¬ c→Yd W R q):Yd W R (if c then p else q):=by
 by_cases h:c
 ·rw[if_pos h];exact k h
 ·rw[if_neg h];exact k' h
end Mine
namespace Mine
open PySem
noncomputable def frs(l:List Env)(b:Addr):Prop:=b∈l.filterMap (·.frame)
inductive K(l:List Env)(s s':Shared):Prop where
 |mk (h:Heap) (t:Nat) (e:s'={ s with heap:=h,toks:=t }) (k:∀ b o,¬ frs l b→s.heap.get? b=some o→h.get? b=some o) (u:∀ b o,s.heap.get? b=some o→∃ sl,h.get? b=some { o with slots:=sl }):K l s s'
theorem K.of{l:List Env}{s s':Shared}(x:Kp s s'):K l s s':=by
 obtain⟨h,t,rfl,k⟩:=x;exact⟨h,t,rfl,fun b o _ e=>k b o e,fun b o e=>⟨o.slots,k b o e⟩⟩
theorem K.rf(l:List Env)(s:Shared):K l s s:=K.of (Kp.rfl' s)
theorem K.tr{l:List Env}{s s' s'':Shared}(x:K l s s')(y:K l s' s''):K l s s'':=by
 obtain⟨h,t,rfl,k,u⟩:=x;obtain⟨h',t',rfl,k',u'⟩:=y;exact⟨h',t',rfl,fun b o n e=>k' b o n (k b o n e),fun b o e=>by obtain⟨_,e1⟩:=u b o e;exact by obtain⟨sl,e2⟩:=u' b _ e1;exact⟨sl,e2⟩⟩
theorem K.trp{l:List Env}{s s' s'':Shared}(x:K l s s')(y:Kp s' s''):K l s s'':=x.tr (K.of y)
theorem K.at{l:List Env}{s s':Shared}(x:K l s s'){b:Addr}{o:Obj}(n:¬ frs l b)(e:s.heap.get? b=some o):s'.heap.get? b=some o:=by
 obtain⟨h,t,rfl,k,u⟩:=x;exact k b o n e
theorem K.up{l:List Env}{s s':Shared}(x:K l s s'){b:Addr}{o:Obj}(e:s.heap.get? b=some o):∃ sl,s'.heap.get? b=some { o with slots:=sl }:=by
 obtain⟨h,t,rfl,k,u⟩:=x;exact u b o e
theorem K.upTo{l:List Env}{s s':Shared}(x:K l s s'):s.heap.UpToSlots s'.heap:=fun _ _ e _=>x.up e
theorem K.non{l:List Env}{s s':Shared}(x:K l s s'){b:Addr}(e:s'.heap.get? b=none):s.heap.get? b=none:=by
 refine ocs (s.heap.get? b) (fun h=>?_) fun o h=>?_
 ·try rewrite[h]
  rfl
 ·try rewrite[h]
  obtain⟨sl,e'⟩:=x.up h;rw[e] at e';cases e'
noncomputable def Fin{α β:Type}(r:R α)(k:α→R β)(fin:R β):Prop:=rb r k=fin∧fin≠.no
theorem qQ{α β γ:Type}(p:R α)(f:α→R β)(g:β→R γ):rb (rb p f) g=rb p fun a=>rb (f a) g:=by cases p<;>rfl
theorem Fin.b{α β γ:Type}{r:R α}{f:α→R γ}{k:γ→R β}{fin:R β}(h:Fin (rb r f) k fin):Fin r (fun a=>rb (f a) k) fin:=⟨(qQ r f k)▸h.1,h.2⟩
theorem Fin.unb{α β γ:Type}{r:R α}{f:α→R γ}{k:γ→R β}{fin:R β}(h:Fin r (fun a=>rb (f a) k) fin):Fin (rb r f) k fin:=⟨(qQ r f k).symm▸h.1,h.2⟩
theorem Fin.no{α β:Type}{k:α→R β}{fin:R β}(h:Fin (.no:R α) k fin):False:=h.2 h.1.symm
theorem Fin.ne{α β:Type}{r:R α}{k:α→R β}{fin:R β}(h:Fin r k fin):r≠.no:=fun e=>by subst e;exact h.no
theorem Fin.ok{α β:Type}{a:α}{k:α→R β}{fin:R β}(h:Fin (.ok a) k fin):k a=fin:=h.1
theorem Fin.p{α β:Type}{p:P α}{k:α→R β}{fin:R β}(h:Fin (ofP p) k fin):∃ a,p=.ok a∧k a=fin:=by
 cases p with
 |no=>exact h.no.elim
 |ok a=>exact⟨a,rfl,h.1⟩
theorem Fin.ite{α β:Type}{c:Prop}[Decidable c]{r:R α}{k:α→R β}{fin:R β}(h:Fin (if c then r else .no) k fin):c∧Fin r k fin:=by
 by_cases hc:c
 ·rw[if_pos hc] at h;exact⟨hc,h⟩
 ·rw[if_neg hc] at h;exact h.no.elim
theorem Yd.fin{γ α β:Type}{W:WP γ}{C:γ→Shared→α→Prop}{p:P α}{k:α→R β}{fin:R β}{Q:γ→Shared→Prop}{E:Value→Shared→Prop}(h:Yd W C p)(hf:Fin (ofP p) k fin)(hq:∀ v s' a,C v s' a→k a=fin→Q v s'):W Q E:=by
 obtain⟨a,rfl,e⟩:=hf.p;exact h Q E fun v s' c=>hq v s' a c e
section
variable (prog:Program) (w:World) (mg mb:Str→Option Value) (base:Heap)
noncomputable def qR:List (Str×Value):=[("isinstance", .builtin "isinstance"),("len", .builtin "len"),("all", .builtin "all"),("sorted", .builtin "sorted"),("abs", .builtin "abs"),("min", .builtin "min"),("repr", .builtin "repr"),("list", .type "list"),("tuple", .type "tuple"),("dict", .type "dict"),("set", .type "set"),("int", .type "int"),("str", .type "str"),("bool", .type "bool"),("range", .type "range"),("enumerate", .type "enumerate"),("reversed", .type "reversed"),("ValueError", .type "ValueError")]
noncomputable def iV(x:Str):Option Value:=qR.lookup x
inductive FldsA(h:Heap)(av:Addr→Prop)(od:Option Addr)(fs:List (Str×PyData)):Prop where
 |mk (d:Addr) (m:Str→Option Value) (e:od=some d) (n:¬ av d) (hn:h.Ns d m) (r:∀ p x,(p,x)∈fs→∃ v,m p=some v∧Rep prog w h av v x):FldsA h av od fs
noncomputable def fE(h:Heap)(av:Addr→Prop)(od:Option Addr)(fs:List (Str×PyData)):Prop:=fs=[]∨FldsA prog w h av od fs
inductive ExAt(h:Heap)(av:Addr→Prop)(e:Addr)(x:X):Prop where
 |mk (na:¬ av e) (o:Obj) (vs:Array Value) (C:Addr) (he:h.get? e=some o) (hd:o.data=.fields vs) (hc:o.cls=.ref C) (hm:mg x.cls=some (.ref C)) (hx:fE prog w h av o.dict x.fields):ExAt h av e x
noncomputable def bQ(l:List Env)(h:Heap)(av:Addr→Prop)(v:Value):V→Prop
 | .fz d=>Rep prog w h av v d
 | .own d=>∃ a,v=.ref a∧¬ frs l a∧bG prog w h av a d
 | .ex x=>∃ e,v=.ref e∧ExAt prog w mg h av e x
 | .dp d=>Rep prog w h av v d
inductive MadeAt(s:Shared)(C:Addr)(ini:Option (List Str))(vals:List Value)(v:Value)(s':Shared):Prop where
 |mk (k:Kp s s') (e:Addr) (dx:Option Addr) (t:Addr) (ve:v=.ref e) (n:s.heap.get? e=none) (he:s'.heap.get? e=some { cls:=.ref C,dict:=dx,data:=.fields #[.ref t,.none,.none,.none,.bool false,.none] }):MadeAt s C ini vals v s'
noncomputable def xM(ini:Option (List Str))(n:Nat):Prop :=
 match ini with
 |some _=>False
 |none=>n=1
inductive ClsObj(base:Heap)(C:Addr)(bm:List Value):Prop where
 |mk (nm q N bs hdct sn sub ab col dd k0 k1 k2 k3 k5 newId) (h:base.get? C=some (excClassObj nm q C N bs bm hdct sn sub ab col dd k0 k1 k2 k3 k5 newId)):ClsObj base C bm
structure ClsOk(C:Addr)(bm:List Value)(ini:Option (List Str)):Prop where
 obj:ClsObj base C bm
 exc:bm.contains (.type "BaseException")=true
 val:bm.contains (.type "ValueError")=true
 make:∀ (A:Around) (vals:List Value) (s:Shared) (E Q:Value→Shared→Prop),A.depth+1 < recursionLimit→(∀ b o,base.get? b=some o→s.heap.get? b=some o)→xM ini vals.length→(∀ v s',MadeAt s C ini vals v s'→Q v s')→wpAny (model prog w) A (call (.ref C) vals) Q E s
 isi:∀ (A:Around) (s:Shared) (e:Addr) (o:Obj) (D:Addr) (bm':List Value) (b:Bool) (E Q:Value→Shared→Prop),(∀ b o,base.get? b=some o→s.heap.get? b=some o)→s.heap.get? e=some o→o.cls=.ref C→ClsObj base D bm'→(Value.ref C::bm).contains (.ref D)=b→(∀ tk,Q (.bool b) { s with toks:=tk })→wpAny (model prog w) A (call (.builtin "isinstance") [.ref e,.ref D]) Q E s
 isv:∀ (A:Around) (s:Shared) (e:Addr) (o:Obj) (E Q:Value→Shared→Prop),(∀ b o,base.get? b=some o→s.heap.get? b=some o)→s.heap.get? e=some o→o.cls=.ref C→(∀ tk,Q (.bool true) { s with toks:=tk })→wpAny (model prog w) A (call (.builtin "isinstance") [.ref e,.type "ValueError"]) Q E s
structure Glo:Prop where
 g:base.Ns mainGlobals mg
 b:base.Ns builtinsNs mb
 nolimit:base.NoLimit
 mods:∃ mm,base.Ns sysModules mm
 fn:∀ f a b sc,b4 f prog.main.body=some (a,b,sc)→∃ ad o pm cd doc,mg f=some (.ref ad)∧base.get? ad=some o∧o.data=.func (Calls.docDef f a b sc pm cd doc)∧base.CodeRec cd f
 const:∀ x d,fX prog.main.body x=some d→∃ v,mg x=some v∧∀ h' av,Rep prog w h' av v d
 blt:∀ x v,iV x=some v→mg x=none∧mb x=some v
 cls:∀ c p,bF c prog.main.body=some p→∃ C bm,mg c=some (.ref C)∧ClsOk prog w base C bm p.2∧∀ d q D,bF d prog.main.body=some q→mg d=some (.ref D)→(Value.ref C::bm).contains (.ref D)=fY prog.main.body 4 c d
structure Room(n:Nat)(hd:Bool)(l:List Env)(A:Around):Prop where
 depth:A.depth+n+1 < recursionLimit
 units:A.units+16*n+300 < cLine
 handled:hd=false→A.handled=none
 guards:A.guards=some []
 frames:A.frames=some l
noncomputable def aM(env:Env)(h:Heap)(x:Str)(u:Value):Prop :=
 (env.kindOf x=some .local∧∃ m,h.Ns env.locals m∧m x=some u) ∨
 ((env.kindOf x=some .cell∨env.kindOf x=some .free)∧∃ c,env.cells.lookup x=some c∧h.IsCell c (some u))
structure Gnd(l:List Env)(av:Addr→Prop)(s:Shared):Prop where
 glo:Glo prog w mg mb base
 stay:∀ b o,base.get? b=some o→s.heap.get? b=some o
 ff:s.heap.FunFrames base l
 fav:∀ b,frs l b→av b
 avlt:∀ b,av b→∃ o,s.heap.get? b=some o
 avS:av sysModules
structure Inv0(l:List Env)(env:Env)(sc:Scope)(σ:aA)(av:Addr→Prop)(s:Shared):Prop where
 gnd:Gnd prog w mg mb base l av s
 kind:env.scope.kind=.function
 eg:env.globals=mainGlobals
 eb:env.builtins=builtinsNs
 dbg:sc.names.lookup (Str.ofString "__debug__")=none
 cld:sc.names.lookup (Str.ofString "__classdict__")=none
 glob:∀ x,isG sc x=true→env.kindOf x=some .globalImplicit
 kinds:∀ x,l8 (sc.names.lookup x)=true→l8 (env.kindOf x)=true∧∃ c,env.cells.lookup x=some c
 get:∀ x v,isL sc x=true→aA.get σ x=some (some v)→∃ u,aM env s.heap x u∧bQ prog w mg l s.heap av u v
inductive Tb(s:Shared)(h:Heap)(e:Addr)(fl:Value):Prop where
 |mk (oe vs T oT ts) (a:h.get? e=some oe) (b:oe.data=.fields vs) (c:vs[1]?=some (.ref T)) (d:s.heap.get? T=none) (f:T≠e) (g:h.get? T=some oT) (i:oT.data=.fields ts) (j:ts[3]?=some fl):Tb s h e fl
inductive Fly(l:List Env)(s:Shared)(av:Addr→Prop)(x:X)(v:Value)(s':Shared):Prop where
 |mk (k:K l s s') (e:Addr) (a:v=.ref e) (b:s.heap.get? e=none) (c:ExAt prog w mg s'.heap av e x) (d:Tb s s'.heap e .none):Fly l s av x v s'
noncomputable def QH{β:Type}(l:List Env)(s:Shared)(av:Addr→Prop)(k:V→R β)(fin:R β)(Q:Value→Shared→Prop):Prop :=
 ∀ v s' u,K l s s'→aY prog w s s'.heap av v u→k u=fin→Q v s'
noncomputable def EH{β:Type}(l:List Env)(s:Shared)(av:Addr→Prop)(fin:R β)(E:Value→Shared→Prop):Prop :=
 ∀ x v s',fin=.exc x→Fly prog w mg l s av x v s'→E v s'
noncomputable def aF(n:Nat)(hd:Bool)(l:List Env)(sc:Scope)(σ:aA)(e:Expr)(r:R V):Prop :=
 ∀ (A:Around) (env:Env) (s:Shared) (av:Addr→Prop),Room n hd l A→Inv0 prog w mg mb base l env sc σ av s →
  ∀ {β:Type} {k:V→R β} {fin:R β} {Q:Value→Shared→Prop} {E:Value→Shared→Prop},Fin r k fin→QH prog w l s av k fin Q→EH prog w mg l s av fin E→wpAny (model prog w) A (eval e env) Q E s
variable {prog w mg mb base}
theorem Rep.k{l:List Env}{s s':Shared}{av:Addr→Prop}(fav:∀ b,frs l b→av b)(k:K l s s'){v:Value}{d:PyData}(r:Rep prog w s.heap av v d):Rep prog w s'.heap av v d :=
 r.mono (fun _ _ n e=>k.at (fun f=>n (fav _ f)) e) fun _ _ _ x=>x
theorem bG.k{l:List Env}{s s':Shared}{av:Addr→Prop}(fav:∀ b,frs l b→av b)(k:K l s s'){a:Addr}{d:PyData}(n:¬ frs l a)(r:bG prog w s.heap av a d):bG prog w s'.heap av a d :=
 r.mono (fun _ _ n e=>k.at (fun f=>n (fav _ f)) e) (fun _ _ _ x=>x) fun _ e=>k.at n e
theorem fE.mono{h h':Heap}{av av':Addr→Prop}(hk:∀ b o,¬ av b→h.get? b=some o→h'.get? b=some o)(ha:∀ b o,h.get? b=some o→av' b→av b){od:Option Addr}{fs:List (Str×PyData)}(r:fE prog w h av od fs):fE prog w h' av' od fs:=by
 rcases r with r | ⟨d,m,e,n,hn,r⟩
 ·exact .inl r
 ·obtain⟨o,es,ep,ho,hr⟩:=hn;refine .inr ⟨d,m,e,fun x=>n (ha _ _ ho x),⟨o,es,ep,hk _ _ n ho,hr⟩,fun p x hp=>?_⟩;obtain⟨v,e1,e2⟩:=r p x hp;exact⟨v,e1,e2.mono hk ha⟩
theorem ExAt.mono{h h':Heap}{av av':Addr→Prop}(hk:∀ b o,¬ av b→h.get? b=some o→h'.get? b=some o)(ha:∀ b o,h.get? b=some o→av' b→av b){e:Addr}{x:X}(r:ExAt prog w mg h av e x):ExAt prog w mg h' av' e x:=by
 obtain⟨h1,o,vs,C,h2,h3,h4,h5,h6⟩:=r;exact⟨fun x=>h1 (ha _ _ h2 x),o,vs,C,hk _ _ h1 h2,h3,h4,h5,h6.mono hk ha⟩
theorem bQ.k{l:List Env}{s s':Shared}{av:Addr→Prop}(fav:∀ b,frs l b→av b)(k:K l s s'){v:Value}{u:V}(r:bQ prog w mg l s.heap av v u):bQ prog w mg l s'.heap av v u:=by
 cases u with
 |fz d=>exact Rep.k fav k r
 |own d=>obtain⟨a,e,n,r⟩:=r;exact⟨a,e,n,r.k fav k n⟩
 |dp d=>exact Rep.k fav k r
 |ex x=>obtain⟨e,h,r⟩:=r;exact⟨e,h,r.mono (fun _ _ n e=>k.at (fun f=>n (fav _ f)) e) fun _ _ _ x=>x⟩
theorem aM.k{l:List Env}{s s':Shared}(k:K l s s'){env:Env}{x:Str}{u:Value}(v:aM env s.heap x u):aM env s'.heap x u:=by
 rcases v with ⟨h1,m,hn,e⟩ | ⟨h1,c,e,o,hc⟩
 ·exact .inl ⟨h1,m,k.upTo.ns hn,e⟩
 ·exact .inr ⟨h1,c,e,by obtain⟨sl,e⟩:=k.up hc.1;exact⟨_,e,hc.2⟩⟩
theorem Gnd.k{l:List Env}{s s':Shared}{av:Addr→Prop}(I:Gnd prog w mg mb base l av s)(k:K l s s'):Gnd prog w mg mb base l av s' where
 glo:=I.glo
 stay:=fun b o e=>k.at (fun f=>by rw[(I.ff.mem f).1] at e;exact ns e) (I.stay b o e)
 ff:=I.ff.of_keeps fun b o e _=>by obtain⟨_,e'⟩:=k.up e;exact⟨_,e',rfl⟩
 fav:=I.fav
 avlt:=fun b hb=>by obtain⟨_,e⟩:=I.avlt b hb;exact by obtain⟨_,e'⟩:=k.up e;exact⟨_,e'⟩
 avS:=I.avS
theorem Inv0.k{l:List Env}{env:Env}{sc:Scope}{σ:aA}{av:Addr→Prop}{s s':Shared}(I:Inv0 prog w mg mb base l env sc σ av s)(k:K l s s'):Inv0 prog w mg mb base l env sc σ av s' :=
 { I with gnd:=I.gnd.k k,get:=fun x v hl e=>by obtain⟨u,h1,h2⟩:=I.get x v hl e;exact⟨u,h1.k k,h2.k I.gnd.fav k⟩ }
theorem aY.back{l:List Env}{s s':Shared}{h:Heap}{av:Addr→Prop}{v:Value}{u:V}(k:K l s s')(r:aY prog w s' h av v u):aY prog w s h av v u:=by
 cases u with
 |fz d=>exact r
 |own d=>obtain⟨a,e,hn,r⟩:=r;exact⟨a,e,k.non hn,r⟩
 |dp d=>obtain⟨pn,hn,hl,r⟩:=r;exact⟨pn,fun b hb=>k.non (hn b hb),hl,r⟩
 |ex x=>exact r
theorem Own.backp{s s':Shared}{h:Heap}{av:Addr→Prop}{v:Value}{d:PyData}(k:Kp s s')(r:Own prog w s' h av v d):Own prog w s h av v d :=
 by obtain⟨a,e,hn,r⟩:=r;exact⟨a,e,(K.of (l:=[]) k).non hn,r⟩
theorem Fly.back{l:List Env}{s s' s'':Shared}{av:Addr→Prop}{x:X}{v:Value}(k:K l s s')(f:Fly prog w mg l s' av x v s''):Fly prog w mg l s av x v s'':=by
 obtain⟨k',e,h1,h2,h3,oe,vs,T,oT,ts,g1,g2,g3,g4,g5,g6,g7,g8⟩:=f;exact⟨k.tr k',e,h1,k.non h2,h3,oe,vs,T,oT,ts,g1,g2,g3,k.non g4,g5,g6,g7,g8⟩
theorem EH.back{β:Type}{l:List Env}{s s':Shared}{av:Addr→Prop}{fin:R β}{E:Value→Shared→Prop}(h:EH prog w mg l s av fin E)(k:K l s s'):EH prog w mg l s' av fin E :=
 fun x v s'' e f=>h x v s'' e (f.back k)
theorem QH.step{β:Type}{l:List Env}{s s' s'':Shared}{av:Addr→Prop}{k:V→R β}{fin:R β}{Q:Value→Shared→Prop}(h:QH prog w l s av k fin Q)(kk:K l s s'){v:Value}{u:V}(r:Kp s' s''∧aY prog w s' s''.heap av v u)(e:k u=fin):Q v s'' :=
 h v s'' u (kk.trp r.1) (r.2.back kk) e
theorem QH.back{β:Type}{l:List Env}{s s':Shared}{av:Addr→Prop}{k:V→R β}{fin:R β}{Q:Value→Shared→Prop}(h:QH prog w l s av k fin Q)(kk:K l s s'):QH prog w l s' av k fin Q :=
 fun v s'' u k' r e=>h v s'' u (kk.tr k') (r.back kk) e
theorem Room.h0{n:Nat}{l:List Env}{A:Around}(h:Room n false l A):A.handled=none:=h.handled rfl
theorem Room.units80{n:Nat}{hd:Bool}{l:List Env}{A:Around}(h:Room n hd l A):A.units+70 < cLine:=by have:=h.units;exact ax0 this
theorem qS{l:List Env}{env:Env}{sc:Scope}{σ:aA}{av:Addr→Prop}{s:Shared}(I:Inv0 prog w mg mb base l env sc σ av s){x:Str}(h:isL sc x=true∨isG sc x=true):(x==("__debug__" : Str))=false:=by
 refine bcs (x==("__debug__" : Str)) (fun hx=>?_) fun hx=>?_
 ·try rewrite[hx]
  rfl
 ·try rewrite[hx]
  have e:x=Str.ofString "__debug__" := eq_of_beq hx;subst e;rcases h with h | h
  ·rw[isL,I.dbg] at h;exact bft h
  ·rw[isG,I.dbg] at h;exact bft h
theorem Iu{l:List Env}{env:Env}{sc:Scope}{σ:aA}{av:Addr→Prop}{s:Shared}(I:Inv0 prog w mg mb base l env sc σ av s){x:Str}(h:isL sc x=true):(x==("__classdict__" : Str))=false:=by
 refine bcs (x==("__classdict__" : Str)) (fun hx=>?_) fun hx=>?_
 ·try rewrite[hx]
  rfl
 ·try rewrite[hx]
  have e:x=Str.ofString "__classdict__" := eq_of_beq hx;subst e;rw[isL,I.cld] at h;exact bft h
theorem cC{l:List Env}{A:Around}{env:Env}{sc:Scope}{σ:aA}{av:Addr→Prop}{s:Shared}{x:Str}{u:Value}{Q:Value→Shared→Prop}{E:Value→Shared→Prop}{pos:Pos}(I:Inv0 prog w mg mb base l env sc σ av s)(hl:isL sc x=true)
  (v:aM env s.heap x u) (h:Q u s):wpAny (model prog w) A (eval (.Name x pos) env) Q E s:=by
 refine wpAny_Name ?_ (qS I (.inl hl));rcases v with ⟨k,m,hn,e⟩ | ⟨k | k,c,e,hc⟩
 ·exact wpAny_loadName_local I.kind k hn e h
 ·exact wpAny_loadName_cell I.kind k e hc h
 ·exact wpAny_loadName_free I.kind k e hc h (Iu I hl)
theorem Gnd.g{l:List Env}{av:Addr→Prop}{s:Shared}(G:Gnd prog w mg mb base l av s):s.heap.Ns mainGlobals mg:=G.glo.g.keeps G.stay
theorem fF{l:List Env}{A:Around}{env:Env}{sc:Scope}{σ:aA}{av:Addr→Prop}{s:Shared}{x:Str}{u:Value}{Q:Value→Shared→Prop}{E:Value→Shared→Prop}{pos:Pos}(I:Inv0 prog w mg mb base l env sc σ av s)(hg:isG sc x=true)
  (v:mg x=some u) (h:Q u s):wpAny (model prog w) A (eval (.Name x pos) env) Q E s :=
 Calls.Name_function_global I.kind (I.glob x hg) (Calls.loadGlobal_global (I.eg▸I.gnd.g) v h) (qS I (.inr hg))
theorem cT{l:List Env}{A:Around}{env:Env}{sc:Scope}{σ:aA}{av:Addr→Prop}{s:Shared}{x:Str}{u:Value}{Q:Value→Shared→Prop}{E:Value→Shared→Prop}{pos:Pos}(I:Inv0 prog w mg mb base l env sc σ av s)(hg:isG sc x=true)
  (v:iV x=some u) (h:Q u s):wpAny (model prog w) A (eval (.Name x pos) env) Q E s :=
 Calls.Name_function_global I.kind (I.glob x hg) (Calls.loadGlobal_builtin (I.eg▸I.gnd.g) (I.gnd.glo.blt x u v).1 (I.eb▸I.gnd.glo.b.keeps I.gnd.stay) (I.gnd.glo.blt x u v).2 h) (qS I (.inr hg))
theorem Iv{n:Nat}{hd:Bool}{l:List Env}{C:Ctx}{sc:Scope}{σ:aA}{x:Str}{pos:Pos}(hc:C.const=fX prog.main.body):aF prog w mg mb base n hd l sc σ (.Name x pos) (ofP (pS C sc σ x)):=by
 intro A env s av hA I β k fin Q E hf hq he;obtain⟨u,e1,e2⟩:=hf.p;unfold pS at e1
 split at e1
 ·rename_i hl;refine ocs (aA.get σ x) (fun e=>?_) fun o e=>?_
  ·try rewrite[e]
   rw[e] at e1;exact pno e1
  ·try rewrite[e]
   rw[e] at e1;cases o with
   |none=>exact pno e1
   |some v =>
    cases v with
    |fz d =>
     obtain rfl:=pi e1;obtain⟨u,h1,h2⟩:=I.get _ _ hl e;exact cC I hl h1 (hq _ _ (.fz d) (K.rf l s) h2 e2)
    |dp d =>
     obtain rfl:=pi e1;obtain⟨u,h1,h2⟩:=I.get _ _ hl e;exact cC I hl h1 (hq _ _ (.fz d) (K.rf l s) h2 e2)
    |_=>exact pno e1
 ·split at e1
  ·rename_i hg;rw[hc] at e1;refine ocs (fX prog.main.body x) (fun e=>?_) fun d e=>?_
   ·try rewrite[e]
    rw[e] at e1;exact pno e1
   ·try rewrite[e]
    rw[e] at e1;obtain rfl:=pi e1;obtain⟨v,h1,h2⟩:=I.gnd.glo.const _ _ e;exact fF I hg h1 (hq _ _ (.fz d) (K.rf l s) (h2 _ _) e2)
  ·exact pno e1
theorem Iw{n:Nat}{hd:Bool}{l:List Env}{sc:Scope}{σ:aA}{c:Const}{k:Nat}{pos:Pos}:aF prog w mg mb base n hd l sc σ (.Constant c k pos) (ofP (pT c)):=by
 intro A env s av hA I β k fin Q E hf hq he;have key:Yd (fun Q E=>wpAny (model prog w) A (eval (.Constant c ‹_› pos) env) Q E s) (fun v s' u=>Kp s s'∧aY prog w s s'.heap av v u) (pT c):=by
  cases c with
  |none=>exact fun Q E hq=>wpAny_Constant_none (hq _ _ ⟨Kp.rfl' s,.none⟩)
  |bool b=>exact fun Q E hq=>wpAny_Constant_bool (hq _ _ ⟨Kp.rfl' s,.bool b⟩)
  |int i=>exact fun Q E hq=>wpAny_Constant_int (hq _ _ ⟨Kp.tok' s _,.int i _⟩)
  |str x =>
   show Yd _ _ (mkS x);exact Yd.ite fun hx=>fun Q E hq=>wpAny_Constant_str (hq _ _ ⟨Kp.tok' s _,.str x _ hx⟩)
  |_=>exact trivial
 exact key.fin hf fun v s' u r e=>hq.step (K.rf l s) r e
end
end Mine
namespace Mine
open PySem
section
variable {prog:Program} {w:World}
theorem dM(x:Str)(t:Tok):(strKind prog w).is x (.str x t)=true:=by
 show Value.isStrOf x (.str x t)=true;simp[Value.isStrOf]
theorem Rep.str_inv{h:Heap}{av:Addr→Prop}{v:Value}{x:Str}(r:Rep prog w h av v (.str x)):∃ t,v=.str x t∧x.length≤sizeLine:=by
 cases r with
 |str _ t hx=>exact⟨t,rfl,hx⟩
theorem Rep.int_inv{h:Heap}{av:Addr→Prop}{v:Value}{i:Int}(r:Rep prog w h av v (.int i)):∃ t,v=.int i t:=by
 cases r with
 |int _ t=>exact⟨t,rfl⟩
theorem Rep.bool_inv{h:Heap}{av:Addr→Prop}{v:Value}{b:Bool}(r:Rep prog w h av v (.bool b)):v=.bool b:=by cases r;rfl
inductive ListI(prog:Program)(w:World)(h:Heap)(av:Addr→Prop)(v:Value)(ds:List PyData):Prop where
 |mk (a:Addr) (vs:List Value) (e:v=.ref a) (n:¬ av a) (p:h.PlainList a (List.toArray vs)) (l:vs.length=ds.length) (z:vs.length≤sizeLine) (r:∀ (i:Nat) (v:Value) (d:PyData),vs[i]?=some v→ds[i]?=some d→Rep prog w h av v d):ListI prog w h av v ds
inductive TupI(prog:Program)(w:World)(h:Heap)(av:Addr→Prop)(v:Value)(ds:List PyData):Prop where
 |mk (a:Addr) (vs:List Value) (e:v=.ref a) (n:¬ av a) (p:PlT h a (List.toArray vs)) (l:vs.length=ds.length) (z:vs.length≤sizeLine) (r:∀ (i:Nat) (v:Value) (d:PyData),vs[i]?=some v→ds[i]?=some d→Rep prog w h av v d):TupI prog w h av v ds
inductive DictI(prog:Program)(w:World)(h:Heap)(av:Addr→Prop)(v:Value)(ds:List (PyData×PyData)):Prop where
 |mk (a:Addr) (kvs:List (Str×Value)) (e:v=.ref a) (n:¬ av a) (p:h.DictOf (strKind prog w) a kvs) (z:kvs.length≤sizeLine∧∀ kv∈kvs,kv.1.length≤sizeLine) (m:(a==sysModules)=false)
  (l:ds.map (·.1)=kvs.map (fun kv=>PyData.str kv.1)) (r:∀ (i:Nat) (kv:Str×Value) (d:PyData×PyData),kvs[i]?=some kv→ds[i]?=some d→Rep prog w h av kv.2 d.2):DictI prog w h av v ds
theorem Rep.list_inv{h:Heap}{av:Addr→Prop}{v:Value}{ds:List PyData}(r:Rep prog w h av v (.list ds)):ListI prog w h av v ds:=by
 cases r with
 |list h1 h2 h3 h4 h5=>exact⟨_,_,rfl,h1,h2,h3,h4,h5⟩
theorem Rep.tuple_inv{h:Heap}{av:Addr→Prop}{v:Value}{ds:List PyData}(r:Rep prog w h av v (.tuple ds)):TupI prog w h av v ds:=by
 cases r with
 |tuple h1 h2 h3 h4 h5=>exact⟨_,_,rfl,h1,h2,h3,h4,h5⟩
theorem Rep.dict_inv{h:Heap}{av:Addr→Prop}{v:Value}{ds:List (PyData×PyData)}(r:Rep prog w h av v (.dict ds)):DictI prog w h av v ds:=by
 cases r with
 |dict h1 h2 h3 h4 h5 h6=>exact⟨_,_,rfl,h1,h2,h3,h4,h5,h6⟩
theorem mY:∀ {ds:List (PyData×PyData)} {kvs:List (Str×Value)} (x:Str),ds.map (·.1)=kvs.map (fun kv=>PyData.str kv.1) →
  (valueAt kvs x=none∧bM ds x=none)∨∃ (i:Nat) (v:Value) (d:PyData),valueAt kvs x=some v∧bM ds x=some d∧kvs[i]?=some (x,v)∧ds[i]?=some (.str x,d)
 := by
 intro ds
 induction ds with
 |nil =>
  intro kvs x h;cases kvs with
  |nil=>exact .inl ⟨rfl,rfl⟩
  |cons=>exact nomatch h
 |cons p ds ih =>
  obtain⟨k,d⟩:=p;intro kvs x h;cases kvs with
  |nil=>exact nomatch h
  |cons q kvs =>
   obtain⟨y,v⟩:=q;obtain⟨rfl,h2⟩:=List.cons.inj h
   by_cases hx:x=y
   ·subst hx;exact .inr ⟨0,v,d,by unfold valueAt;rw[List.find?_cons,decide_eq_true rfl];rfl,if_pos rfl,rfl,rfl⟩
   ·have hv:valueAt ((y,v)::kvs) x=valueAt kvs x:=by unfold valueAt;rw[List.find?_cons,decide_eq_false (fun e=>hx e.symm:¬ (y,v).1=x)]
    rcases ih (kvs:=kvs) x h2 with ⟨a,b⟩ | ⟨i,v',d',a,b,c,e⟩
    ·exact .inl ⟨hv.trans a,(if_neg hx).trans b⟩
    ·exact .inr ⟨i+1,v',d',hv.trans a,(if_neg hx).trans b,c,e⟩
theorem gA{h:Heap}{av:Addr→Prop}:∀ {vs:List Value} {ds:List PyData} {ss:List Str},vs.length=ds.length→(∀ (i:Nat) (v:Value) (d:PyData),vs[i]?=some v→ds[i]?=some d→Rep prog w h av v d) →
  strs? ds=some ss→∃ ts:List Tok,ts.length=ss.length∧vs=List.zipWith (fun x t=>Value.str x t) ss ts∧∀ x∈ss,x.length≤sizeLine
 := by
 intro vs
 induction vs with
 |nil =>
  intro ds ss hl hr hs;cases ds with
  |nil=>obtain rfl:=si hs;exact⟨[],rfl,rfl,fun x hx=>cD hx⟩
  |cons=>exact nomatch hl
 |cons v vs ih =>
  intro ds ss hl hr hs;cases ds with
  |nil=>exact nomatch hl
  |cons d ds =>
   have h0:=hr 0 v d rfl rfl;cases d with
   |str x =>
    obtain⟨t,rfl,hx⟩:=h0.str_inv;obtain⟨ss',hs',rfl⟩:=Option.map_eq_some_iff.mp (show(strs? ds).map (x::·)=some ss from hs);obtain⟨ts,h1,h2,h3⟩:=ih (ds:=ds) (Nat.succ.inj hl) (fun i v d e1 e2=>hr (i+1) v d e1 e2) hs';exact⟨t::ts,congrArg Nat.succ h1,congrArg (Value.str x t::·) h2,List.forall_mem_cons.mpr ⟨hx,h3⟩⟩
   |_=>exact ns hs
noncomputable def fG(x:Str):Value→Bool
 | .str y _=>y==x
 |_=>false
theorem xN(x:Str):∀ (ss:List Str) (ts:List Tok),ts.length=ss.length→(List.zipWith (fun x t=>Value.str x t) ss ts).any (fG x)=ss.contains x
 | [],[],_=>rfl
 | [],_::_,h=>by simp at h
 |_::_,[],h=>by simp at h
 |s::ss,t::ts,h=>by
  have ih:=xN x ss ts (by simpa using h);simp only[List.zipWith_cons_cons,List.any_cons,ih,List.contains_cons,fG];simp only[Bool.beq_comm]
theorem xO{A:Around}{s:Shared}(x:Str)(t:Tok):∀ (ss:List Str) (ts:List Tok) (y:Value),y∈List.zipWith (fun x t=>Value.str x t) ss ts→SeqAt.EqAt A s y (.str x t) (fG x y)
 | [],_,y,h=>by simp at h
 |_::_,[],y,h=>by simp at h
 |s'::ss,t'::ts,y,h=>by
  rcases List.mem_cons.mp h with h | h
  ·subst h;exact SeqAt.EqAt.str_str _ _ _ _
  ·exact xO x t ss ts y h
noncomputable def CS(prog:Program)(w:World)(A:Around)(s:Shared)(op:CmpOp)(va vb:Value)(p:P Bool):Prop :=
 Yd (fun Q E=>wpAny (model prog w) A (compareOp op va vb) Q E s) (fun v s' r=>Kp s s'∧v=.bool r) p
theorem CS.ok{A:Around}{s:Shared}{op:CmpOp}{va vb:Value}{b:Bool}(s':Shared)(k:Kp s s')(h:∀ (Q:Value→Shared→Prop) E,Q (.bool b) s'→wpAny (model prog w) A (compareOp op va vb) Q E s):CS prog w A s op va vb (.ok b) :=
 fun Q E hq=>h Q E (hq _ _ ⟨k,rfl⟩)
theorem mZ{A:Around}{s:Shared}{vs:List Value}{l:List PyData}{av:Addr→Prop}{x:Str}{t:Tok}{op:CmpOp}{vb:Value}{g:P Bool→P Bool}(h3:vs.length=l.length)(h5:∀ (i:Nat) (v:Value) (d:PyData),vs[i]?=some v→l[i]?=some d→Rep prog w s.heap av v d)
  (hg:g .no=.no) (h:∀ b,(∀ y∈vs.toArray,SeqAt.EqAt A.in1 s y (.str x t) (fG x y))→vs.toArray.any (fG x)=b→CS prog w A s op (.str x t) vb (g (.ok b))):CS prog w A s op (.str x t) vb (g (lV x l)):=by
 unfold lV;cases hs:strs? l with
 |none =>
  have:g ((ofO (none:Option (List Str))).bind fun ss=>.ok (ss.contains x))=.no:=hg;simp only[this];exact trivial
 |some ss =>
  obtain⟨ts,e1,e2,e3⟩:=gA h3 h5 hs;subst e2;exact h _ (fun y hy=>xO x t ss ts y (by simpa using hy)) (by simpa using xN x ss ts e1)
theorem xP{A:Around}{s:Shared}{av:Addr→Prop}{va vb:Value}{a b:PyData}(ra:Rep prog w s.heap av va a)(rb:Rep prog w s.heap av vb b) :
  CS prog w A s .In va vb (contains a b)∧CS prog w A s .NotIn va vb (b5 (contains a b)):=by
 cases a with
 |str x =>
  obtain⟨t,rfl,hx⟩:=ra.str_inv;cases b with
  |str y =>
   obtain⟨u,rfl,hy⟩:=rb.str_inv;exact⟨CS.ok s (Kp.rfl' s) fun Q E h=>SB.contains h,CS.ok s (Kp.rfl' s) fun Q E h=>SB.notContains h⟩
  |dict l =>
   obtain⟨a,kvs,rfl,h1,h2,h3,h4,h5,h6⟩:=rb.dict_inv;have hsome:(valueAt kvs x).isSome=(bM l x).isSome:=by
    rcases mY x h5 with ⟨e1,e2⟩ | ⟨i,v,d,e1,e2,_⟩<;>rw[e1,e2]<;>rfl
   exact⟨CS.ok _ (Kp.tok' s _) fun Q E h=>wpAny_in_of (dM x t) h4 h2.mapOf (by rw[hsome];exact h),CS.ok _ (Kp.tok' s _) fun Q E h=>wpAny_notIn_of (dM x t) h4 h2.mapOf (by rw[hsome];exact h)⟩
  |list l =>
   obtain⟨a,vs,rfl,h1,h2,h3,h4,h5⟩:=rb.list_inv;exact⟨mZ (g:=id) h3 h5 rfl fun b he hb=>CS.ok s (Kp.rfl' s) fun Q E h=>SeqAt.in_listAt (fG x) h2.isList he (by rw[hb];exact h),
    mZ (g:=b5) h3 h5 rfl fun b he hb=>CS.ok s (Kp.rfl' s) fun Q E h=>SeqAt.notIn_listAt (fG x) h2.isList he (by rw[hb];exact h)⟩
  |tuple l =>
   obtain⟨a,vs,rfl,h1,h2,h3,h4,h5⟩:=rb.tuple_inv;exact⟨mZ (g:=id) h3 h5 rfl fun b he hb=>CS.ok s (Kp.rfl' s) fun Q E h=>SeqAt.in_tupleAt (fG x) h2.isTuple he (by rw[hb];exact h),
    mZ (g:=b5) h3 h5 rfl fun b he hb=>CS.ok s (Kp.rfl' s) fun Q E h=>SeqAt.notIn_tupleAt (fG x) h2.isTuple he (by rw[hb];exact h)⟩
  |_=>exact⟨trivial,trivial⟩
 |_=>exact⟨trivial,trivial⟩
theorem xQ{A:Around}{s:Shared}{av:Addr→Prop}{va vb:Value}{a b:PyData}(ra:Rep prog w s.heap av va a)(rb:Rep prog w s.heap av vb b) :
  CS prog w A s .Is va vb (lW a b)∧CS prog w A s .IsNot va vb (b5 (lW a b)):=by
 cases b with
 |none =>
  cases rb;have hv:(va==Value.none)=cS a:=by cases ra<;>rfl
  exact⟨CS.ok s (Kp.rfl' s) fun Q E h=>is_none (by rw[hv];exact h),CS.ok s (Kp.rfl' s) fun Q E h=>isNot_none (by rw[hv];exact h)⟩
 |_=>exact⟨trivial,trivial⟩
theorem Ix{a b:List Str}(h:a.length=b.length):(List.range a.length).all (fun j=>a[j]?==b[j]?)=(a==b):=by
 rw[Bool.eq_iff_iff,List.all_eq_true,beq_iff_eq];constructor
 ·intro hh;refine List.ext_getElem? fun i=>?_
  by_cases hi:i < a.length
  ·exact eq_of_beq (hh i (List.mem_range.mpr hi))
  ·rw[List.getElem?_eq_none (Nat.not_lt.mp hi),List.getElem?_eq_none (h▸Nat.not_lt.mp hi)]
 ·intro hh i _;rw[hh];exact beq_self_eq_true _
theorem xR{A:Around}{s:Shared}{h:Heap}{av:Addr→Prop}{vs vs':List Value}{x y:List PyData}{p:Bool}(hl:x.length=y.length)(h3:vs.length=x.length)(h5:∀ (i:Nat) (v:Value) (d:PyData),vs[i]?=some v→x[i]?=some d→Rep prog w h av v d)(k3:vs'.length=y.length)
  (k5:∀ (i:Nat) (v:Value) (d:PyData),vs'[i]?=some v→y[i]?=some d→Rep prog w h av v d) (he:eN x y=.ok p):∃ e:Nat→Bool,(List.range vs.length).all e=p∧∀ j (h1:j < vs.toArray.size) (h2:j < vs'.toArray.size),SeqAt.EqAt A s vs.toArray[j] vs'.toArray[j] (e j):=by
 unfold eN at he;refine ocs (strs? x) (fun hx=>?_) fun a hx=>?_
 ·try rewrite[hx]
  simp only[hx] at he;exact pno he
 ·try rewrite[hx]
  refine ocs (strs? y) (fun hy=>?_) fun b hy=>?_
  ·try rewrite[hy]
   simp only[hx,hy] at he;exact pno he
  ·try rewrite[hy]
   simp only[hx,hy] at he;obtain rfl:=pi he;obtain⟨ta,q1,rfl,_⟩:=gA h3 h5 hx;obtain⟨tb,q2,rfl,_⟩:=gA k3 k5 hy;have la:(List.zipWith (fun x t=>Value.str x t) a ta).length=a.length:=by simp[q1]
   have lb:(List.zipWith (fun x t=>Value.str x t) b tb).length=b.length:=by simp[q2]
   refine⟨fun j=>a[j]?==b[j]?,?_,fun j h1 h2=>?_⟩
   ·simp only[la];exact Ix (by simp only[← la,← lb,h3,k3,hl])
   ·have ja:j < a.length:=by simpa[q1] using h1
    have jb:j < b.length:=by simpa[q2] using h2
    have e1:=List.getElem?_eq_getElem ja;have e2:=List.getElem?_eq_getElem jb;simp only[e1,e2,List.getElem_toArray,List.getElem_zipWith];exact SeqAt.EqAt.str_str _ _ _ _
theorem xS{A:Around}{s:Shared}{av:Addr→Prop}{va vb:Value}{a b:PyData}(hu:A.units+70 < cLine)(ra:Rep prog w s.heap av va a)(rb:Rep prog w s.heap av vb b) :
  CS prog w A s .Eq va vb (eqO a b)∧CS prog w A s .NotEq va vb (b5 (eqO a b)):=by
 have hu0:A.units < cLine:=by exact ax2 hu
 cases a with
 |none =>
  cases ra;cases b with
  |list y =>
   obtain⟨a',vs',rfl,k1,k2,k3,k4,k5⟩:=rb.list_inv;exact⟨CS.ok s (Kp.rfl' s) fun Q E h=>SeqAt.RcAt.none_list k2.isList hu0 prog w E Q h,CS.ok s (Kp.rfl' s) fun Q E h=>SeqAt.RcNeAt.none_list k2.isList hu0 prog w E Q h⟩
  |_=>exact⟨trivial,trivial⟩
 |int x =>
  obtain⟨t,rfl⟩:=ra.int_inv;cases b with
  |int y =>
   obtain⟨u,rfl⟩:=rb.int_inv;exact⟨CS.ok s (Kp.rfl' s) fun Q E h=>SeqAt.RcAt.int_int x t y u prog w E Q h,CS.ok s (Kp.rfl' s) fun Q E h=>SeqAt.RcNeAt.int_int x t y u prog w E Q h⟩
  |_=>exact⟨trivial,trivial⟩
 |str x =>
  obtain⟨t,rfl,_⟩:=ra.str_inv;cases b with
  |str y =>
   obtain⟨u,rfl,_⟩:=rb.str_inv;exact⟨CS.ok s (Kp.rfl' s) fun Q E h=>SeqAt.RcAt.str_str x t y u prog w E Q h,CS.ok s (Kp.rfl' s) fun Q E h=>SeqAt.RcNeAt.str_str x t y u prog w E Q h⟩
  |_=>exact⟨trivial,trivial⟩
 |bool x =>
  obtain rfl:=ra.bool_inv;cases b with
  |bool y =>
   obtain rfl:=rb.bool_inv;exact⟨CS.ok s (Kp.rfl' s) fun Q E h=>SeqAt.RcAt.bool_bool x y prog w E Q h,CS.ok s (Kp.rfl' s) fun Q E h=>SeqAt.RcNeAt.bool_bool x y prog w E Q h⟩
  |_=>exact⟨trivial,trivial⟩
 |list x =>
  obtain⟨a,vs,rfl,h1,h2,h3,h4,h5⟩:=ra.list_inv;cases b with
  |list y =>
   obtain⟨a',vs',rfl,k1,k2,k3,k4,k5⟩:=rb.list_inv
   by_cases hl:x.length=y.length
   ·have e0:eqO (.list x) (.list y)=eN x y:=if_pos hl;rw[e0];refine pcs (eN x y) (fun he=>?_) fun p he=>?_
    ·try rewrite[he]
     exact⟨trivial,trivial⟩
    ·try rewrite[he]
     obtain⟨e,q1,q2⟩:=xR (A:=A.in1) (s:=s) hl h3 h5 k3 k5 he;have hsz:vs.toArray.size=vs'.toArray.size:=by simp[h3,k3,hl]
     subst q1;exact⟨CS.ok s (Kp.rfl' s) fun Q E h=>SeqAt.RcAt.lists h2.isList k2.isList hsz hu0 q2 prog w E Q (by simpa using h),
      CS.ok s (Kp.rfl' s) fun Q E h=>SeqAt.RcNeAt.lists h2.isList k2.isList hsz hu0 q2 prog w E Q (by simpa using h)⟩
   ·have e0:eqO (.list x) (.list y)=.ok false:=if_neg hl;rw[e0];have hsz:(vs.toArray.size != vs'.toArray.size)=true:=by simp[h3,k3,hl]
    exact⟨CS.ok s (Kp.rfl' s) fun Q E h=>SeqAt.RcAt.lists_lengths h2.isList k2.isList hsz hu0 prog w E Q h,
     CS.ok s (Kp.rfl' s) fun Q E h=>SeqAt.RcNeAt.lists_lengths h2.isList k2.isList hsz hu0 prog w E Q h⟩
  |_=>exact⟨trivial,trivial⟩
 |tuple x =>
  obtain⟨a,vs,rfl,h1,h2,h3,h4,h5⟩:=ra.tuple_inv;cases b with
  |tuple y =>
   obtain⟨a',vs',rfl,k1,k2,k3,k4,k5⟩:=rb.tuple_inv
   by_cases hl:x.length=y.length
   ·have e0:eqO (.tuple x) (.tuple y)=eN x y:=if_pos hl;rw[e0];refine pcs (eN x y) (fun he=>?_) fun p he=>?_
    ·rw[he];exact⟨trivial,trivial⟩
    ·rw[he];obtain⟨e,q1,q3⟩:=xR (A:=A.in1) (s:=s) hl h3 h5 k3 k5 he;have hsz:vs'.length=x.length:=by rw[k3,hl]
     subst q1;exact⟨CS.ok s (Kp.rfl' s) fun Q E h=>SeqAt.RcAt.tuples h2.isTuple k2.isTuple hu0 q3 prog w E Q (by simpa[hsz,h3] using h),
      CS.ok s (Kp.rfl' s) fun Q E h=>SeqAt.RcNeAt.tuples h2.isTuple k2.isTuple hu0 q3 prog w E Q (by simpa[hsz,h3] using h)⟩
   ·have e0:eqO (.tuple x) (.tuple y)=.no:=if_neg hl;rw[e0];exact⟨trivial,trivial⟩
  |_=>exact⟨trivial,trivial⟩
 |_=>exact⟨trivial,trivial⟩
theorem m7{A:Around}{s:Shared}{av:Addr→Prop}{va vb:Value}{a b:PyData}{op:CmpOp}{f:Int→Int→Bool}(ra:Rep prog w s.heap av va a)(rb:Rep prog w s.heap av vb b)
  (h:∀ x t y u (Q:Value→Shared→Prop) E,Q (.bool (f x y)) s→wpAny (model prog w) A (compareOp op (.int x t) (.int y u)) Q E s):CS prog w A s op va vb (jX f a b):=by
 cases a with
 |int x =>
  obtain⟨t,rfl⟩:=ra.int_inv;cases b with
  |int y =>
   obtain⟨u,rfl⟩:=rb.int_inv;exact CS.ok s (Kp.rfl' s) fun Q E hq=>h x t y u Q E hq
  |_=>exact trivial
 |_=>exact trivial
theorem Iy{A:Around}{s:Shared}{av:Addr→Prop}{op:CmpOp}{va vb:Value}{a b:PyData}(hu:A.units+70 < cLine)(ra:Rep prog w s.heap av va a)(rb:Rep prog w s.heap av vb b):CS prog w A s op va vb (cmp op a b):=by
 cases op with
 |Eq=>exact(xS hu ra rb).1
 |NotEq=>exact(xS hu ra rb).2
 |In=>exact(xP ra rb).1
 |NotIn=>exact(xP ra rb).2
 |Is=>exact(xQ ra rb).1
 |IsNot=>exact(xQ ra rb).2
 |Lt=>exact m7 ra rb fun x t y u Q E h=>PyProof.Rows.lt_int h
 |LtE=>exact m7 ra rb fun x t y u Q E h=>P.le_int h
 |Gt=>exact m7 ra rb fun x t y u Q E h=>PyProof.Rows.gt_int h
 |GtE=>exact m7 ra rb fun x t y u Q E h=>P.ge_int h
end
end Mine
namespace Mine
open PySem
section
variable {prog:Program} {w:World}
theorem bK(h:Heap):h.get? h.objs.size=none:=by
 refine ocs (h.get? h.objs.size) (fun e=>?_) fun o e=>?_
 ·try rewrite[e]
  rfl
 ·try rewrite[e]
  exact absurd (Heap.lt_size e) (Nat.lt_irrefl _)
theorem Rep.apart{h:Heap}{av:Addr→Prop}{v:Value}{d:PyData}{a:Addr}(hn:h.get? a=Option.none)(r:Rep prog w h av v d):Rep prog w h (fun b=>av b∨b=a) v d :=
 r.mono (fun _ _ _ e=>e) fun b o e x=>x.elim id fun x=>by subst x;rw[hn] at e;exact ns e
theorem cH(h:Heap)(o:Obj)(ho:o.isFreed=false):(h.push o).get? h.objs.size=some o:=Heap.get?_push_size h ho
theorem xT{h:Heap}{av:Addr→Prop}{xs ys:List Value}{as bs:List PyData}(hx:xs.length=as.length)(_hy:ys.length=bs.length)
  (rx:∀ (i:Nat) (v:Value) (d:PyData),xs[i]?=some v→as[i]?=some d→Rep prog w h av v d) (ry:∀ (i:Nat) (v:Value) (d:PyData),ys[i]?=some v→bs[i]?=some d→Rep prog w h av v d) :
  ∀ (i:Nat) (v:Value) (d:PyData),(xs++ys)[i]?=some v→(as++bs)[i]?=some d→Rep prog w h av v d:=by
 intro i v d e1 e2
 by_cases hi:i < xs.length
 ·rw[List.getElem?_append_left hi] at e1;rw[List.getElem?_append_left (hx▸hi)] at e2;exact rx i v d e1 e2
 ·rw[List.getElem?_append_right (by exact ax4 hi)] at e1;rw[List.getElem?_append_right (by exact ax5 hx hi),← hx] at e2;exact ry _ v d e1 e2
theorem qT{s s₁:Shared}{av:Addr→Prop}{vs:List Value}{ds:List PyData}(k:Kp s s₁)(hl:vs.length=ds.length)(hz:vs.length≤sizeLine)
  (hr:∀ (i:Nat) (v:Value) (d:PyData),vs[i]?=some v→ds[i]?=some d→Rep prog w s₁.heap av v d) :
  Kp s { s₁ with heap:=s₁.heap.push { cls:=.type "list", data:=.seq vs.toArray } } ∧
   aY prog w s (s₁.heap.push { cls:=.type "list", data:=.seq vs.toArray }) av (.ref s₁.heap.objs.size) (.own (.list ds)):=by
 refine⟨k.tr (Kp.push' _ _),Own.backp k ⟨_,rfl,bK _,vs,⟨0,cH _ _ rfl⟩,hl,hz,fun i v d e1 e2=>?_⟩⟩;exact(((hr i v d e1 e2).apart (bK _)).keeps fun b o e=>Heap.get?_push_of_some _ e)
theorem qU{s s₁:Shared}{av:Addr→Prop}{vs:List Value}{ds:List PyData}(k:Kp s s₁)(ha:∀ b,av b→∃ o,s₁.heap.get? b=some o)(hl:vs.length=ds.length)(hz:vs.length≤sizeLine)
  (hr:∀ (i:Nat) (v:Value) (d:PyData),vs[i]?=some v→ds[i]?=some d→Rep prog w s₁.heap av v d) :
  Kp s { s₁ with heap:=s₁.heap.push { cls:=.type "tuple", data:=.seq vs.toArray } } ∧
   aY prog w s (s₁.heap.push { cls:=.type "tuple", data:=.seq vs.toArray }) av (.ref s₁.heap.objs.size) (.fz (.tuple ds)):=by
 refine⟨k.tr (Kp.push' _ _),Rep.tuple (fun x=>?_) ⟨0,cH _ _ rfl⟩ hl hz fun i v d e1 e2=>(hr i v d e1 e2).keeps fun b o e=>Heap.get?_push_of_some _ e⟩;obtain⟨o,e⟩:=ha _ x;rw[bK] at e;exact ns e
theorem Iz{x y:Int}(hy:y.natAbs < 2 ^ 63):Builtin.divisionGoesByPylong x y=false:=by
 unfold Builtin.divisionGoesByPylong;have:(if (y==0)=true then 0 else y.natAbs.log2 / 30+1)≤300:=by
  split
  ·exact ax6
  ·rename_i h0;have hn:y.natAbs≠0:=by simpa using h0
   have:y.natAbs.log2 < 63:=(Nat.log2_lt hn).mpr hy;exact ax7 this
 simp only[Bool.and_eq_false_iff,decide_eq_false_iff_not];left;exact ax8 this
theorem xU{x:Int}(h:x.natAbs < 2 ^ 63):Builtin.Int.intBits x≤64:=intBits_le_64 (by omega) (by omega)
theorem I0{x:Str}{n:Int}(hn:n≤1024)(hx:x.length≤1024):(jU x n).length≤sizeLine:=by
 unfold jU
 split
 ·exact Nat.zero_le _
 ·split
  ·rw[sizeLine_eq];exact ax9 hx
  ·have hf:∀ (k:Nat) (acc:Array Nat),((List.replicate k x.cps).foldl (·++·) acc).size=acc.size+k*x.cps.size:=by
    intro k
    induction k with
    |zero=>intro acc;simp
    |succ k ih=>intro acc;rw[List.replicate_succ,List.foldl_cons,ih,Array.size_append,Nat.succ_mul];exact D4
   show((List.replicate n.toNat x.cps).foldl (·++·) #[]).size≤sizeLine;rw[hf];have h1:n.toNat≤1024:=by exact D7 hn
   have h2:x.cps.size≤1024:=hx;have h3:n.toNat*x.cps.size≤1024*1024:=Nat.mul_le_mul h1 h2;rw[sizeLine_eq];simp;exact Ea h3
theorem xV{op:Operator}(h:jV op=true):op=.Add:=by
 cases op<;>first | rfl | cases h
theorem I4{op:Operator}(h:vX op=true):op=.Mult:=by
 cases op<;>first | rfl | cases h
noncomputable def OS(prog:Program)(w:World)(A:Around)(s:Shared)(av:Addr→Prop)(op:Operator)(va vb:Value)(p:P V):Prop :=
 Yd (fun Q E=>wpAny (model prog w) A (binaryOp op va vb) Q E s) (fun v s' u=>Kp s s'∧aY prog w s s'.heap av v u) p
theorem I5{A:Around}{s:Shared}{av:Addr→Prop}{op:Operator}(x y:Int)(t u:Tok):OS prog w A s av op (.int x t) (.int y u) (vW op x y):=by
 cases op with
 |Add=>exact fun Q E hq=>PyProof.Rows.add_int (hq _ _ ⟨Kp.tok' s _,.int _ _⟩)
 |Sub=>exact fun Q E hq=>PyProof.Rows.sub_int (hq _ _ ⟨Kp.tok' s _,.int _ _⟩)
 |Mult=>exact Yd.ite fun h Q E hq=>P.mul_int (hq _ _ ⟨Kp.tok' s _,.int _ _⟩) (h.elim (fun h=>.of_left (xU h)) fun h=>.of_right (xU h))
 |FloorDiv=>exact Yd.ite fun h Q E hq=>PyProof.Rows.floordiv_int h.1 (hq _ _ ⟨Kp.tok' s _,.int _ _⟩) (.inl (Iz h.2))
 |Mod=>exact Yd.ite fun h Q E hq=>PyProof.Rows.mod_int' h (hq _ _ ⟨Kp.tok' s _,.int _ _⟩)
 |Pow=>exact Yd.ite fun h Q E hq=>PyProof.Rows.pow_int_small h.1 (by exact Eb h) (by omega) (hq _ _ ⟨Kp.tok' s _,.int _ _⟩)
 |_=>exact trivial
theorem I6{x:Str}{n:Int}(h1:1≤n)(h2:n≤1024)(hx:x.length≤1024):(x.length:Int)≤(2 ^ 63 - 1) / n :=
 Int.le_ediv_of_mul_le (by exact Ec h1) (Int.le_trans (Int.mul_le_mul (Int.ofNat_le.mpr hx) h2 (by exact Ed h1) (by decide)) (by decide))
theorem I7{A:Around}{s:Shared}{av:Addr→Prop}(x:Str)(n:Int)(t u:Tok)(h:-100≤n∧n≤1024∧x.length≤1024):OS prog w A s av .Mult (.str x t) (.int n u) (.ok (.fz (.str (jU x n)))):=by
 intro Q E hq;have hlen:=I0 h.2.1 h.2.2;refine P.mul_str (by simp only[Bool.or_eq_false_iff,decide_eq_false_iff_not];lia) (fun h1 _=>?_) (fun h1 _=>?_) ?_
 ·have:=I6 (by exact Ee h1) h.2.1 h.2.2;exact Ef this
 ·exact decide_eq_false (Nat.not_lt.mpr (Nat.le_trans (Nat.mul_le_mul h.2.2 (by exact Eg h:n.toNat≤1024)) (by decide)))
 ·unfold jU at hlen hq
  split
  ·rename_i hn;rw[if_pos hn] at hq hlen;exact⟨hlen,hq _ _ ⟨Kp.tok' s _,.str _ _ hlen⟩⟩
  ·rename_i hn;rw[if_neg hn] at hq hlen
   split
   ·rename_i h1;rw[if_pos h1] at hq hlen;exact hq _ _ ⟨Kp.rfl' s,.str _ _ hlen⟩
   ·rename_i h1;rw[if_neg h1] at hq hlen;exact⟨hlen,hq _ _ ⟨Kp.tok' s _,.str _ _ hlen⟩⟩
theorem I8{A:Around}{s:Shared}{av:Addr→Prop}{va vb:Value}{l m:List PyData}(ra:Rep prog w s.heap av va (.list l))(rb:Rep prog w s.heap av vb (.list m))(h:l.length+m.length≤aX):OS prog w A s av .Add va vb (.ok (.own (.list (l++m)))):=by
 obtain⟨a,vs,rfl,h1,⟨n,e⟩,h3,h4,h5⟩:=ra.list_inv;obtain⟨a',vs',rfl,k1,⟨n',e'⟩,k3,k4,k5⟩:=rb.list_inv;intro Q E hq;have hz:(vs++vs').length≤sizeLine:=by rw[List.length_append,h3,k3];exact h
 have:=qT (prog:=prog) (w:=w) (vs:=vs++vs') (ds:=l++m) (Kp.rfl' s) (by simp[h3,k3]) hz (xT h3 k3 h5 k5);refine P.add_list e e' ?_ (by simpa using hz);rw[List.append_toArray];exact hq _ _ this
theorem I9{A:Around}{s:Shared}{av:Addr→Prop}{op:Operator}{va vb:Value}{a b:PyData}(hav:∀ b,av b→∃ o,s.heap.get? b=some o)(ra:Rep prog w s.heap av va a)(rb:Rep prog w s.heap av vb b):OS prog w A s av op va vb (aC op a b):=by
 cases a with
 |int x =>
  obtain⟨t,rfl⟩:=ra.int_inv;cases b with
  |int y =>
   obtain⟨u,rfl⟩:=rb.int_inv;exact I5 x y t u
  |_=>exact trivial
 |str x =>
  obtain⟨t,rfl,hx⟩:=ra.str_inv;cases b with
  |str y =>
   obtain⟨u,rfl,hy⟩:=rb.str_inv;exact Yd.ite fun h Q E hq=>by
    cases xV h.1;exact SB.add (fun t' k=>hq _ _ ⟨Kp.tok' s _,.str _ _ (by rw[strLen_append];exact h.2)⟩) h.2
  |int y =>
   obtain⟨u,rfl⟩:=rb.int_inv;exact Yd.ite fun h=>by
    cases I4 h.1;exact I7 x y t u h.2
  |_=>exact trivial
 |list l =>
  cases b with
  |list m=>exact Yd.ite fun h=>by cases xV h.1;exact I8 ra rb h.2
  |_=>exact trivial
 |_=>exact trivial
end
end Mine
namespace Mine
open PySem
section
variable {prog:Program} {w:World} {mg mb:Str→Option Value} {base:Heap}
theorem iW{u:V}{b:Bool}(h:cJ u=.ok b):u=.fz (.bool b):=by
 cases u with
 |fz d=>cases d<;>first | (cases h;rfl) | cases h
 |_=>exact pno h
theorem aY.clear{l:List Env}{s:Shared}{h:Heap}{av:Addr→Prop}{v:Value}{u:V}(hlt:∀ b,av b→∃ o,s.heap.get? b=some o)(r:aY prog w s h av v u):bQ prog w mg l h av v u.clear:=by
 cases u with
 |fz d=>exact r
 |own d=>exact Own.rep hlt r
 |dp d=>exact DpN.rep hlt r
 |ex x=>exact r.elim
variable {n:Nat} {hd:Bool} {l:List Env} {sc:Scope} {σ:aA}
theorem Ja{a b:Expr}{op:Operator}{pos:Pos}{pl pr:R V}(hl:aF prog w mg mb base n hd l sc σ a pl)(hr:aF prog w mg mb base n hd l sc σ b pr) :
  aF prog w mg mb base n hd l sc σ (.BinOp a op b pos) (rb pl fun a=>rb pr fun b=>ofP (aC op (dOf a) (dOf b))):=by
 intro A env s av hA I β k fin Q E hf hq he;refine wpAny_BinOp (hl A env s av hA I hf.b (fun va s₁ a k1 ra h1=>?_) he);have I1:=I.k k1;refine hr A env s₁ av hA I1 (Fin.b ⟨h1,hf.2⟩) (fun vb s₂ b k2 rb h2=>?_) (he.back k1);exact(I9 (I1.k k2).gnd.avlt ((ra.rep I.gnd.avlt).k I.gnd.fav k2) (rb.rep I1.gnd.avlt)).fin ⟨h2,hf.2⟩ fun v s' u r e=>hq.step (k1.tr k2) r e
theorem xW{x:Expr}{op:UnaryOp}{pos:Pos}{p:R V}(hx:aF prog w mg mb base n hd l sc σ x p):aF prog w mg mb base n hd l sc σ (.UnaryOp op x pos) (rb p fun v=>ofP (d8 op v)):=by
 intro A env s av hA I β k fin Q E hf hq he;refine wpAny_UnaryOp (hx A env s av hA I hf.b (fun va s₁ a k1 ra h1=>?_) he);obtain⟨u,e1,e2⟩:=Fin.p ⟨h1,hf.2⟩;cases op with
 |Not =>
  refine pcs (cJ a) (fun ht=>?_) fun b ht=>?_
  ·try rewrite[ht]
   rw[d8,ht] at e1;exact pno e1
  ·try rewrite[ht]
   rw[d8,ht] at e1;obtain rfl:=pi e1;cases iW ht;cases (show Rep prog w s₁.heap av va (.bool b) from ra).bool_inv;exact not_value (wpAny_truthy_bool (hq _ _ (.fz (.bool _)) k1 (.bool _) e2))
 |USub =>
  have r:=ra.rep I.gnd.avlt;have e1:wN (dOf a)=.ok u:=e1;generalize dOf a=d at r e1;cases d with
  |int i =>
   obtain rfl:=pi e1;obtain⟨t,rfl⟩:=r.int_inv;exact P.neg_int (hq _ _ (.fz (.int _)) (k1.trp (Kp.tok' _ _)) (.int _ _) e2)
  |_=>exact pno e1
 |_=>exact pno e1
noncomputable def bN(prog:Program)(w:World)(mg mb:Str→Option Value)(base:Heap)(n:Nat)(hd:Bool)(l:List Env)(sc:Scope)(σ:aA)(e:Expr)(r:R V):Prop :=
 ∀ (A:Around) (env:Env) (s:Shared) (av:Addr→Prop),Room n hd l A→Inv0 prog w mg mb base l env sc σ av s →
  ∀ {β:Type} {k:Bool→R β} {fin:R β} {Q:Bool→Shared→Prop} {E:Value→Shared→Prop},Fin (tst r) k fin→(∀ b s',K l s s'→k b=fin→Q b s')→EH prog w mg l s av fin E→wpAny (model prog w) A (isTrue e env (eval e env)) Q E s
theorem Jb{t b o:Expr}{pos:Pos}{pt pb po:R V}(ht:bN prog w mg mb base n hd l sc σ t pt)(hb:aF prog w mg mb base n hd l sc σ b pb)(ho:aF prog w mg mb base n hd l sc σ o po) :
  aF prog w mg mb base n hd l sc σ (.IfExp t b o pos) (rb (tst pt) fun c=>if c then pb else po):=by
 intro A env s av hA I β k fin Q E hf hq he;refine wpAny_IfExp (ht A env s av hA I hf.b (fun c s₁ k1 h1=>?_) he);cases c with
 |true=>exact hb A env s₁ av hA (I.k k1) ⟨h1,hf.2⟩ (hq.back k1) (he.back k1)
 |false=>exact ho A env s₁ av hA (I.k k1) ⟨h1,hf.2⟩ (hq.back k1) (he.back k1)
theorem xX{e:Expr}{r:R V}(h:aF prog w mg mb base n hd l sc σ e r)(he:∀ env whole,isTrue e env whole=(do let v ← whole;standAt e.pos;holding [v] (truthy v))):bN prog w mg mb base n hd l sc σ e r:=by
 intro A env s av hA I β k fin Q E hf hq hE;refine wpAny_isTrue_value (h A env s av hA I hf.b (fun v s₁ a k1 ra h1=>?_) hE) (he env _);obtain⟨b,e1,e2⟩:=Fin.p ⟨h1,hf.2⟩;cases iW e1;cases (show Rep prog w s₁.heap av v (.bool b) from ra).bool_inv;exact wpAny_truthy_bool (hq _ _ k1 e2)
theorem Jc{x:Expr}{pos:Pos}{p:R V}(hx:bN prog w mg mb base n hd l sc σ x p):bN prog w mg mb base n hd l sc σ (.UnaryOp .Not x pos) (rb p fun v=>ofP (d8 .Not v)):=by
 intro A env s av hA I β k fin Q E hf hq hE;refine wpAny_isTrue_Not (hx A env s av hA I (k:=fun b=>k !b) ⟨?_,hf.2⟩ (fun b s₁ k1 h1=>hq _ _ k1 h1) hE);rw[← hf.1];cases p with
 |ok v =>
  show rb (ofP (cJ v)) _=rb (tst (ofP (d8 .Not v))) k;unfold d8;cases cJ v<;>rfl
 |_=>rfl
theorem Jd{t b o:Expr}{pos:Pos}{pt pb po:R V}(ht:bN prog w mg mb base n hd l sc σ t pt)(hb:bN prog w mg mb base n hd l sc σ b pb)(ho:bN prog w mg mb base n hd l sc σ o po) :
  bN prog w mg mb base n hd l sc σ (.IfExp t b o pos) (rb (tst pt) fun c=>if c then pb else po):=by
 intro A env s av hA I β k fin Q E hf hq hE;refine wpAny_bind (ht A env s av hA I hf.b.b (fun c s₁ k1 h1=>?_) hE);cases c with
 |true=>exact hb A env s₁ av hA (I.k k1) (Fin.unb ⟨h1,hf.2⟩) (fun b s' k2 e=>hq b s' (k1.tr k2) e) (hE.back k1)
 |false=>exact ho A env s₁ av hA (I.k k1) (Fin.unb ⟨h1,hf.2⟩) (fun b s' k2 e=>hq b s' (k1.tr k2) e) (hE.back k1)
theorem Je{rec:Expr→R V}{A:Around}{env:Env}{av:Addr→Prop}{pos:Pos}(hA:Room n hd l A):∀ {vs:List Expr} {s:Shared},(∀ e∈vs,aF prog w mg mb base n hd l sc σ e (rec e))→Inv0 prog w mg mb base l env sc σ av s →
  ∀ {β:Type} {k:V→R β} {fin:R β} {Q:Value→Shared→Prop} {E:Value→Shared→Prop},Fin (jZ rec vs) k fin→QH prog w l s av k fin Q→EH prog w mg l s av fin E→wpAny (model prog w) A (boolOp pos .And (evalEach vs env)) Q E s:=by
 intro v0
 induction v0 with
 |nil =>
  intro _ _ _ _ _ _ _ _ hf _ _;exact hf.no.elim
 |cons e r0 ih =>
  cases r0 with
  |nil =>
   intro s h I _ _ _ _ _ hf hq he;exact h e List.mem_cons_self A env s av hA I hf hq he
  |cons e' r =>
   intro s h I _ _ _ _ _ hf hq he;refine wpAny_bind (h e List.mem_cons_self A env s av hA I (Fin.b hf) (fun v s₁ a k1 ra h1=>wpAny_bind (wpAny_standAt (wpAny_bind (wpAny_holding ?_)))) he);obtain⟨b,e1,e2⟩:=Fin.p (Fin.b ⟨h1,hf.2⟩);cases iW e1;cases (show Rep prog w s₁.heap av v (.bool b) from ra).bool_inv;cases b with
   |true=>exact wpAny_truthy_bool (ih (fun x hx=>h x (List.mem_cons_of_mem _ hx)) (I.k k1) ⟨e2,hf.2⟩ (hq.back k1) (he.back k1))
   |false=>exact wpAny_truthy_bool (wpAny_pure (hq _ _ (.fz (.bool _)) k1 (.bool _) e2))
theorem Jf{rec:Expr→R V}{A:Around}{env:Env}{av:Addr→Prop}{pos:Pos}(hA:Room n hd l A):∀ {vs:List Expr} {s:Shared},(∀ e∈vs,aF prog w mg mb base n hd l sc σ e (rec e))→Inv0 prog w mg mb base l env sc σ av s →
  ∀ {β:Type} {k:V→R β} {fin:R β} {Q:Value→Shared→Prop} {E:Value→Shared→Prop},Fin (j0 rec vs) k fin→QH prog w l s av k fin Q→EH prog w mg l s av fin E→wpAny (model prog w) A (boolOp pos .Or (evalEach vs env)) Q E s:=by
 intro v0
 induction v0 with
 |nil =>
  intro _ _ _ _ _ _ _ _ hf _ _;exact hf.no.elim
 |cons e r0 ih =>
  cases r0 with
  |nil =>
   intro s h I _ _ _ _ _ hf hq he;exact h e List.mem_cons_self A env s av hA I hf hq he
  |cons e' r =>
   intro s h I _ _ _ _ _ hf hq he;refine wpAny_bind (h e List.mem_cons_self A env s av hA I (Fin.b hf) (fun v s₁ a k1 ra h1=>wpAny_bind (wpAny_standAt (wpAny_bind (wpAny_holding ?_)))) he);obtain⟨b,e1,e2⟩:=Fin.p (Fin.b ⟨h1,hf.2⟩);cases iW e1;cases (show Rep prog w s₁.heap av v (.bool b) from ra).bool_inv;cases b with
   |false=>exact wpAny_truthy_bool (ih (fun x hx=>h x (List.mem_cons_of_mem _ hx)) (I.k k1) ⟨e2,hf.2⟩ (hq.back k1) (he.back k1))
   |true=>exact wpAny_truthy_bool (wpAny_pure (hq _ _ (.fz (.bool _)) k1 (.bool _) e2))
theorem Jg{rec:Expr→R V}{A:Around}{env:Env}{av:Addr→Prop}(hA:Room n hd l A):∀ {vs:List Expr} {s:Shared},(∀ e∈vs,bN prog w mg mb base n hd l sc σ e (rec e))→Inv0 prog w mg mb base l env sc σ av s →
  ∀ {β:Type} {k:Bool→R β} {fin:R β} {Q:Bool→Shared→Prop} {E:Value→Shared→Prop},Fin (tst (jZ rec vs)) k fin→(∀ b s',K l s s'→k b=fin→Q b s')→EH prog w mg l s av fin E→wpAny (model prog w) A (allTrue .And vs env) Q E s:=by
 intro v0
 induction v0 with
 |nil =>
  intro _ _ _ _ _ _ _ _ hf _ _;exact hf.no.elim
 |cons e r0 ih =>
  cases r0 with
  |nil =>
   intro s h I _ _ _ _ _ hf hq he;exact wpAny_allTrue_And_cons (h e List.mem_cons_self A env s av hA I hf (fun b s₁ k1 h1=>by
    cases b with
    |true=>exact wpAny_allTrue_And_nil (hq _ _ k1 h1)
    |false=>exact hq _ _ k1 h1) he)
  |cons e' r =>
   intro s h I _ k _ _ _ hf hq he;exact wpAny_allTrue_And_cons (h e List.mem_cons_self A env s av hA I (k:=fun b=>if b then rb (tst (jZ rec (e'::r))) k else k false) ⟨by
    rw[← hf.1];show rb (tst (rec e)) _=rb (rb (rb (rec e) _) _) k;cases rec e with
    |ok v =>
     show rb (ofP (cJ v)) _=rb (rb (rb (ofP (cJ v)) _) _) k;cases ht:cJ v with
     |ok b=>cases iW ht;cases b<;>rfl
     |_=>rfl
    |_=>rfl,hf.2⟩ (fun b s₁ k1 h1=>by
    cases b with
    |true=>exact ih (fun x hx=>h x (List.mem_cons_of_mem _ hx)) (I.k k1) ⟨h1,hf.2⟩ (fun b s' k2 e=>hq b s' (k1.tr k2) e) (he.back k1)
    |false=>exact hq _ _ k1 h1) he)
theorem Jh{rec:Expr→R V}{A:Around}{env:Env}{av:Addr→Prop}(hA:Room n hd l A):∀ {vs:List Expr} {s:Shared},(∀ e∈vs,bN prog w mg mb base n hd l sc σ e (rec e))→Inv0 prog w mg mb base l env sc σ av s →
  ∀ {β:Type} {k:Bool→R β} {fin:R β} {Q:Bool→Shared→Prop} {E:Value→Shared→Prop},Fin (tst (j0 rec vs)) k fin→(∀ b s',K l s s'→k b=fin→Q b s')→EH prog w mg l s av fin E→wpAny (model prog w) A (allTrue .Or vs env) Q E s:=by
 intro v0
 induction v0 with
 |nil =>
  intro _ _ _ _ _ _ _ _ hf _ _;exact hf.no.elim
 |cons e r0 ih =>
  cases r0 with
  |nil =>
   intro s h I _ _ _ _ _ hf hq he;exact wpAny_allTrue_Or_cons (h e List.mem_cons_self A env s av hA I hf (fun b s₁ k1 h1=>by
    cases b with
    |true=>exact hq _ _ k1 h1
    |false=>exact wpAny_allTrue_Or_nil (hq _ _ k1 h1)) he)
  |cons e' r =>
   intro s h I _ k _ _ _ hf hq he;exact wpAny_allTrue_Or_cons (h e List.mem_cons_self A env s av hA I (k:=fun b=>if b then k true else rb (tst (j0 rec (e'::r))) k) ⟨by
    rw[← hf.1];show rb (tst (rec e)) _=rb (rb (rb (rec e) _) _) k;cases rec e with
    |ok v =>
     show rb (ofP (cJ v)) _=rb (rb (rb (ofP (cJ v)) _) _) k;cases ht:cJ v with
     |ok b=>cases iW ht;cases b<;>rfl
     |_=>rfl
    |_=>rfl,hf.2⟩ (fun b s₁ k1 h1=>by
    cases b with
    |false=>exact ih (fun x hx=>h x (List.mem_cons_of_mem _ hx)) (I.k k1) ⟨h1,hf.2⟩ (fun b s' k2 e=>hq b s' (k1.tr k2) e) (he.back k1)
    |true=>exact hq _ _ k1 h1) he)
end
end Mine
namespace Mine
open PySem
section
variable {prog:Program} {w:World} {mg mb:Str→Option Value} {base:Heap} {n:Nat} {hd:Bool} {l:List Env} {sc:Scope} {σ:aA}
theorem xY{M:Model}{A:Around}{vs:List Value}{m:Sem Value}{Q:Value→Shared→Prop}{E:Value→Shared→Prop}{s:Shared}(h:wpAny M A m Q E s):wpAny M A (operate vs m) Q E s :=
 fun Γ p hΓ=>by rw[Sem.wp_operate];exact h Γ p hΓ
theorem xZ{M:Model}{A:Around}{vs ks:List Value}{Q:Unit→Shared→Prop}{E:Value→Shared→Prop}{s:Shared}(h:Q () s):wpAny M A (release vs ks) Q E s :=
 fun Γ p hΓ=>by rw[Sem.wp_release];exact h
theorem m8{A:Around}{s₁:Shared}{av:Addr→Prop}{op:CmpOp}{va vb:Value}{a b:PyData}{β:Type}{k:Bool→R β}{fin:R β}{Q:Value→Shared→Prop}{E:Value→Shared→Prop}(hA:Room n hd l A)(ra:Rep prog w s₁.heap av va a)(rb:Rep prog w s₁.heap av vb b)
  (hf:Fin (ofP (cmp op a b)) k fin) (hq:∀ b s',Kp s₁ s'→k b=fin→Q (.bool b) s'):wpAny (model prog w) A (compareOp op va vb) Q E s₁ :=
 Yd.fin (Iy hA.units80 ra rb) hf fun v s' b r e=>by rw[r.2];exact hq b s' r.1 e
theorem qV{rec:Expr→R V}(hbad:∀ e,bad e=true→rec e=.no){e:Expr}{op:CmpOp}{A:Around}{env:Env}{s:Shared}{av:Addr→Prop}{pos:Pos}{va:Value}{a:PyData}
  (h:aF prog w mg mb base n hd l sc σ e (rec e)) (hA:Room n hd l A) (I:Inv0 prog w mg mb base l env sc σ av s) (ra:Rep prog w s.heap av va a) {β:Type} {k:Bool→R β} {fin:R β} {E:Value→Shared→Prop} (hf:Fin (pL rec a op e) k fin) (he:EH prog w mg l s av fin E) :
  (∀ {Q:Value→Shared→Prop},(∀ b s',K l s s'→k b=fin→Q (.bool b) s')→wpAny (model prog w) A (compareChain pos va [op] [markedBehindIn op e (eval e env)]) Q E s) ∧
  (∀ {Q:Bool→Shared→Prop},(∀ b s',K l s s'→k b=fin→Q b s')→wpAny (model prog w) A (testChain pos va [op] [markedBehindIn op e (eval e env)]) Q E s):=by
 rw[Ij (eU (hbad e) (Fin.b hf).ne)];constructor<;>intro Q hq
 ·refine wpAny_bind (wpAny_holding (h A env s av hA I (Fin.b hf) (fun vb s₁ u k1 rb h1=>wpAny_bind (wpAny_standAt (xY ?_))) he));exact m8 hA (ra.k I.gnd.fav k1) (rb.rep I.gnd.avlt) ⟨h1,hf.2⟩ fun b s' kk e=>hq b s' (k1.trp kk) e
 ·refine wpAny_bind (wpAny_holding (h A env s av hA I (Fin.b hf) (fun vb s₁ u k1 rb h1=>wpAny_bind (wpAny_standAt (wpAny_bind (xY ?_)))) he));exact m8 hA (ra.k I.gnd.fav k1) (rb.rep I.gnd.avlt) ⟨h1,hf.2⟩ fun b s' kk e=>wpAny_holding (wpAny_truthy_bool (hq b s' (k1.trp kk) e))
theorem yA{rec:Expr→R V}(hbad:∀ e,bad e=true→rec e=.no){es:List Expr}{ops:List CmpOp}{A:Around}{env:Env}{s:Shared}{av:Addr→Prop}{pos:Pos}{va:Value}{a:PyData}
  (h:∀ e∈es,aF prog w mg mb base n hd l sc σ e (rec e)) (hA:Room n hd l A) (I:Inv0 prog w mg mb base l env sc σ av s) (ra:Rep prog w s.heap av va a) {β:Type} {k:Bool→R β} {fin:R β} {E:Value→Shared→Prop} (hf:Fin (l0 rec a ops es) k fin) (he:EH prog w mg l s av fin E) :
  (∀ {Q:Value→Shared→Prop},(∀ b s',K l s s'→k b=fin→Q (.bool b) s')→wpAny (model prog w) A (compareChain pos va ops (markedEach ops es (evalEach es env))) Q E s) ∧
  (∀ {Q:Bool→Shared→Prop},(∀ b s',K l s s'→k b=fin→Q b s')→wpAny (model prog w) A (testChain pos va ops (markedEach ops es (evalEach es env))) Q E s):=by
 cases ops with
 |nil=>exact hf.no.elim
 |cons op ops =>
  cases es with
  |nil=>exact hf.no.elim
  |cons e es =>
   have h1:=h e List.mem_cons_self;cases ops with
   |nil =>
    cases es with
    |nil=>exact qV hbad h1 hA I ra hf he
    |cons=>exact hf.no.elim
   |cons op' ops =>
    cases es with
    |nil=>exact hf.no.elim
    |cons e' es =>
     have h2:=h e' (List.mem_cons_of_mem _ List.mem_cons_self);cases ops with
     |cons=>exact hf.no.elim
     |nil =>
      cases es with
      |cons=>exact hf.no.elim
      |nil =>
       constructor<;>intro Q hq
       ·refine wpAny_bind (wpAny_holding (h1 A env s av hA I (Fin.b hf) (fun vb s₁ u k1 rb g1=>wpAny_bind (wpAny_standAt (wpAny_bind (wpAny_holding ?_)))) he));have r1:=rb.rep I.gnd.avlt;refine m8 hA (ra.k I.gnd.fav k1) r1 (Fin.b ⟨g1,hf.2⟩) fun t s₂ kk g2=>wpAny_bind (xZ (wpAny_bind (wpAny_holding (wpAny_truthy_bool ?_))));have k2:=k1.trp kk;cases t with
        |false=>exact wpAny_pure (hq _ _ k2 g2)
        |true=>exact(qV hbad h2 hA (I.k k2) (r1.keeps kk.heap) ⟨g2,hf.2⟩ (he.back k2)).1 fun b s' k3 g3=>hq _ _ (k2.tr k3) g3
       ·refine wpAny_bind (wpAny_holding (h1 A env s av hA I (Fin.b hf) (fun vb s₁ u k1 rb g1=>wpAny_bind (wpAny_standAt (wpAny_bind (wpAny_holding ?_)))) he));have r1:=rb.rep I.gnd.avlt;refine m8 hA (ra.k I.gnd.fav k1) r1 (Fin.b ⟨g1,hf.2⟩) fun t s₂ kk g2=>wpAny_bind (xZ (wpAny_bind (wpAny_holding (wpAny_truthy_bool ?_))));have k2:=k1.trp kk;cases t with
        |false=>exact wpAny_pure (hq _ _ k2 g2)
        |true=>exact(qV hbad h2 hA (I.k k2) (r1.keeps kk.heap) ⟨g2,hf.2⟩ (he.back k2)).2 fun b s' k3 g3=>hq _ _ (k2.tr k3) g3
theorem Ji{rec:Expr→R V}(hbad:∀ e,bad e=true→rec e=.no){e:Expr}{ops:List CmpOp}{es:List Expr}{pos:Pos}(hl:aF prog w mg mb base n hd l sc σ e (rec e))
  (h:∀ e∈es,aF prog w mg mb base n hd l sc σ e (rec e)):aF prog w mg mb base n hd l sc σ (.Compare e ops es pos) (rb (rec e) fun a=>aZ (l0 rec (dOf a) ops es)):=by
 intro A env s av hA I β k fin Q E hf hq he;refine wpAny_bind (hl A env s av hA I hf.b (fun va s₁ a k1 ra h1=>?_) he);exact(yA hbad h hA (I.k k1) (ra.rep I.gnd.avlt) (Fin.b ⟨h1,hf.2⟩) (he.back k1)).1 fun b s' k2 e=>hq _ _ (.fz (.bool b)) (k1.tr k2) (.bool b) e
theorem Jj{rec:Expr→R V}(hbad:∀ e,bad e=true→rec e=.no){e:Expr}{ops:List CmpOp}{es:List Expr}{pos:Pos}(hl:aF prog w mg mb base n hd l sc σ e (rec e))
  (h:∀ e∈es,aF prog w mg mb base n hd l sc σ e (rec e)):bN prog w mg mb base n hd l sc σ (.Compare e ops es pos) (rb (rec e) fun a=>aZ (l0 rec (dOf a) ops es)):=by
 intro A env s av hA I β k fin Q E hf hq he;refine wpAny_bind (hl A env s av hA I (Fin.b (Fin.b hf)) (fun va s₁ a k1 ra h1=>?_) he);exact(yA hbad h hA (I.k k1) (ra.rep I.gnd.avlt) (Fin.b ⟨h1,hf.2⟩) (he.back k1)).2 fun b s' k2 e=>hq _ _ (k1.tr k2) e
noncomputable def qW(prog:Program)(w:World)(mg mb:Str→Option Value)(base:Heap)(n:Nat)(hd:Bool)(l:List Env)(sc:Scope)(σ:aA)(av:Addr→Prop)(C:Shared→Value→V→Prop)(e:Expr)(r:R V):Prop :=
 ∀ (A:Around) (env:Env) (s:Shared),Room n hd l A→Inv0 prog w mg mb base l env sc σ av s →
  ∀ {β:Type} {k:V→R β} {fin:R β} {Q:Value→Shared→Prop} {E:Value→Shared→Prop},Fin r k fin→(∀ v s' u,K l s s'→C s' v u.clear→k u=fin→Q v s')→EH prog w mg l s av fin E→wpAny (model prog w) A (eval e env) Q E s
noncomputable def eB(C:Shared→Value→V→Prop)(s:Shared):List Value→List V→Prop
 | [],[]=>True
 |v::vs,u::us=>C s v u∧eB C s vs us
 |_,_=>False
theorem eB.len{C:Shared→Value→V→Prop}{s:Shared}:∀ {vs:List Value} {us:List V},eB C s vs us→vs.length=us.length
 | [],[],_=>rfl
 |_::_,_::_,h=>congrArg Nat.succ h.2.len
 | [],_::_,h=>h.elim
 |_::_,[],h=>h.elim
theorem eB.at{C:Shared→Value→V→Prop}{s:Shared}:∀ {vs:List Value} {us:List V},eB C s vs us→∀ (i:Nat) (v:Value) (u:V),vs[i]?=some v→us[i]?=some u→C s v u
 |_::_,_::_,h,0,_,_,e1,e2=>by obtain rfl:=si e1;obtain rfl:=si e2;exact h.1
 |_::_,_::_,h,i+1,_,_,e1,e2=>h.2.at i _ _ e1 e2
 | [],[],_,i,_,_,e1,_=>by exact ns e1
 | [],_::_,h,_,_,_,_,_=>h.elim
 |_::_,[],h,_,_,_,_,_=>h.elim
theorem yB{rec:Expr→R V}(hbad:∀ e,bad e=true→rec e=.no){A:Around}{env:Env}{av:Addr→Prop}{C:Shared→Value→V→Prop}(hC:∀ s s' v u,K l s s'→C s v u→C s' v u){pos:Pos}(hA:Room n hd l A):∀ {es:List Expr} {s:Shared},(∀ e∈es,qW prog w mg mb base n hd l sc σ av C e (rec e))→Inv0 prog w mg mb base l env sc σ av s →
  ∀ {β:Type} {k:List V→R β} {fin:R β} {Q:List Value→Shared→Prop} {E:Value→Shared→Prop},Fin (evs rec es) k fin→(∀ vs s' us,K l s s'→eB C s' vs us→k us=fin→Q vs s')→EH prog w mg l s av fin E →
   wpAny (model prog w) A (spliced (backTo pos (starEach es env))) Q E s:=by
 intro v0
 induction v0 with
 |nil =>
  intro s _ _ _ _ _ _ _ hf hq _;exact wpAny_items_nil (hq _ _ [] (K.rf l s) trivial hf.ok)
 |cons e es ih =>
  intro s h I _ _ _ _ _ hf hq he;have hst:starEach (e::es) env=_:=eA (eU (hbad e) (Fin.b hf).ne);refine wpAny_items_cons (h e List.mem_cons_self A env s hA I (Fin.b hf) (fun v s₁ u k1 r h1=>?_) he) hst;refine ih (fun x hx=>h x (List.mem_cons_of_mem _ hx)) (I.k k1) (Fin.b ⟨h1,hf.2⟩) (fun vs s₂ us k2 rs h2=>?_) (he.back k1);exact hq _ _ (u.clear::us) (k1.tr k2) ⟨hC _ _ _ _ k2 r,rs⟩ h2
theorem Jk(u:V):dOf u.clear=dOf u:=by cases u<;>rfl
abbrev CD(prog:Program)(w:World)(av:Addr→Prop)(s:Shared)(v:Value)(u:V):Prop:=Rep prog w s.heap av v (dOf u)
theorem aF.item{av:Addr→Prop}{e:Expr}{r:R V}(h:aF prog w mg mb base n hd l sc σ e r):qW prog w mg mb base n hd l sc σ av (CD prog w av) e r :=
 fun A env s hA I _ _ _ _ _ hf hq he=>h A env s av hA I hf (fun v s' u k r e=>hq v s' u k (show Rep _ _ _ _ _ _ from (Jk u).symm▸r.rep I.gnd.avlt) e) he
theorem yC{s:Shared}{av:Addr→Prop}{vs:List Value}{us:List V}(r:eB (CD prog w av) s vs us):vs.length=(bZ us).length∧∀ (i:Nat) (v:Value) (d:PyData),vs[i]?=some v→(bZ us)[i]?=some d→Rep prog w s.heap av v d:=by
 refine⟨by rw[bZ,List.length_map];exact r.len,fun i v d e1 e2=>?_⟩;rw[bZ,List.getElem?_map,Option.map_eq_some_iff] at e2;obtain⟨u,e,rfl⟩:=e2;exact r.at i v u e1 e
theorem iX{rec:Expr→R V}(hbad:∀ e,bad e=true→rec e=.no){A:Around}{env:Env}{s:Shared}{av:Addr→Prop}{pos:Pos}(hA:Room n hd l A){es:List Expr}(h:∀ e∈es,aF prog w mg mb base n hd l sc σ e (rec e))(I:Inv0 prog w mg mb base l env sc σ av s)
  {β:Type} {k:List V→R β} {fin:R β} {Q:List Value→Shared→Prop} {E:Value→Shared→Prop} (hf:Fin (evs rec es) k fin)
  (hq:∀ vs s' us,K l s s'→vs.length=(bZ us).length→(∀ (i:Nat) (v:Value) (d:PyData),vs[i]?=some v→(bZ us)[i]?=some d→Rep prog w s'.heap av v d)→k us=fin→Q vs s') (he:EH prog w mg l s av fin E) :
   wpAny (model prog w) A (spliced (backTo pos (starEach es env))) Q E s :=
 yB (C:=CD prog w av) hbad (fun _ _ _ _ k r=>Rep.k I.gnd.fav k r) hA (fun e m=>(h e m).item) I hf (fun vs s' us k r e=>hq vs s' us k (yC r).1 (yC r).2 e) he
theorem Jl{rec:Expr→R V}(hbad:∀ e,bad e=true→rec e=.no){es:List Expr}{pos:Pos}(h:∀ e∈es,aF prog w mg mb base n hd l sc σ e (rec e)) :
  aF prog w mg mb base n hd l sc σ (.List es pos) (rb (evs rec es) fun l=>if l.length≤aX then .ok (.own (.list (bZ l))) else .no):=by
 intro A env s av hA I β k fin Q E hf hq he;refine wpAny_List (iX hbad hA h I hf.b (fun vs s₁ us k1 h1 h2 e1=>?_) he);obtain⟨hz,e2⟩:=Fin.ite ⟨e1,hf.2⟩;have hz:vs.length≤sizeLine:=by rw[h1,bZ,List.length_map];exact hz
 exact⟨hz,hq.step k1 (qT (Kp.rfl' _) h1 hz h2) e2.ok⟩
theorem Jm{rec:Expr→R V}(hbad:∀ e,bad e=true→rec e=.no){es:List Expr}{t:Nat}{pos:Pos}(h:∀ e∈es,aF prog w mg mb base n hd l sc σ e (rec e)) :
  aF prog w mg mb base n hd l sc σ (.Tuple es t pos) (rb (evs rec es) fun l=>if l.length≤aX then .ok (.fz (.tuple (bZ l))) else .no):=by
 intro A env s av hA I β k fin Q E hf hq he;refine wpAny_Tuple (iX hbad hA h I hf.b (fun vs s₁ us k1 h1 h2 e1=>?_) he);obtain⟨hz,e2⟩:=Fin.ite ⟨e1,hf.2⟩;have hz:vs.length≤sizeLine:=by rw[h1,bZ,List.length_map];exact hz
 exact⟨hz,hq.step k1 (qU (Kp.rfl' _) (I.gnd.k k1).avlt h1 hz h2) e2.ok⟩
end
end Mine
namespace Mine
open PySem
section
variable {prog:Program} {w:World} {mg mb:Str→Option Value} {base:Heap} {n:Nat} {hd:Bool} {l:List Env} {sc:Scope} {σ:aA}
noncomputable def b7(prog:Program)(w:World)(h:Heap)(av:Addr→Prop)(v:Value)(d:PyData):Prop:=Rep prog w h av v d∨∃ a,v=.ref a∧bG prog w h av a d
theorem b7.keeps{h h':Heap}{av:Addr→Prop}{v:Value}{d:PyData}(hk:∀ b o,h.get? b=some o→h'.get? b=some o)(r:b7 prog w h av v d):b7 prog w h' av v d :=
 r.imp (·.keeps hk) fun hh=>by obtain⟨a,e,r⟩:=hh;exact⟨a,e,r.mono (fun b o _ e=>hk b o e) (fun _ _ _ x=>x) fun o e=>hk _ o e⟩
theorem Rep.ref_not{h:Heap}{av:Addr→Prop}{v:Value}{d:PyData}{a:Addr}(r:Rep prog w h av v d)(e:v=.ref a):¬ av a:=by
 cases r with
 |list h1=>cases e;exact h1
 |tuple h1=>cases e;exact h1
 |dict h1=>cases e;exact h1
 |_=>cases e
theorem b7.k{s s':Shared}{av:Addr→Prop}{v:Value}{d:PyData}(fav:∀ b,frs l b→av b)(k:K l s s')(r:b7 prog w s.heap av v d∧(∀ a,v=.ref a→¬ frs l a)):b7 prog w s'.heap av v d∧(∀ a,v=.ref a→¬ frs l a) :=
 ⟨r.1.imp (·.k fav k) fun hh=>by obtain⟨a,e,b⟩:=hh;exact⟨a,e,b.k fav k (r.2 a e)⟩,r.2⟩
inductive TopL(prog:Program)(w:World)(h:Heap)(av:Addr→Prop)(v:Value)(ds:List PyData):Prop where
 |mk (a:Addr) (vs:List Value) (e:v=.ref a) (p:h.PlainList a (List.toArray vs)) (l:vs.length=ds.length) (z:vs.length≤sizeLine) (r:∀ (i:Nat) (v:Value) (d:PyData),vs[i]?=some v→ds[i]?=some d→Rep prog w h av v d):TopL prog w h av v ds
inductive TopT(prog:Program)(w:World)(h:Heap)(av:Addr→Prop)(v:Value)(ds:List PyData):Prop where
 |mk (a:Addr) (vs:List Value) (e:v=.ref a) (p:PlT h a (List.toArray vs)) (l:vs.length=ds.length) (z:vs.length≤sizeLine) (r:∀ (i:Nat) (v:Value) (d:PyData),vs[i]?=some v→ds[i]?=some d→Rep prog w h av v d):TopT prog w h av v ds
theorem b7.list{h:Heap}{av:Addr→Prop}{v:Value}{ds:List PyData}(r:b7 prog w h av v (.list ds)):TopL prog w h av v ds:=by
 rcases r with r | ⟨a,e,vs,r1,r2,r3,r4⟩
 ·cases r with
  |list h1 h2 h3 h4 h5=>exact⟨_,_,rfl,h2,h3,h4,h5⟩
 ·exact⟨a,vs,e,r1,r2,r3,r4⟩
theorem b7.tuple{h:Heap}{av:Addr→Prop}{v:Value}{ds:List PyData}(r:b7 prog w h av v (.tuple ds)):TopT prog w h av v ds:=by
 rcases r with r | ⟨a,e,r⟩
 ·cases r with
  |tuple h1 h2 h3 h4 h5=>exact⟨_,_,rfl,h2,h3,h4,h5⟩
 ·exact r.elim
inductive TopD(prog:Program)(w:World)(h:Heap)(av:Addr→Prop)(v:Value)(ds:List (PyData×PyData)):Prop where
 |mk (a:Addr) (kvs:List (Str×Value)) (e:v=.ref a) (p:h.DictOf (strKind prog w) a kvs) (z:kvs.length≤sizeLine∧∀ kv∈kvs,kv.1.length≤sizeLine) (m:(a==sysModules)=false)
  (l:ds.map (·.1)=kvs.map (fun kv=>PyData.str kv.1)) (r:∀ (i:Nat) (kv:Str×Value) (d:PyData×PyData),kvs[i]?=some kv→ds[i]?=some d→Rep prog w h av kv.2 d.2):TopD prog w h av v ds
theorem b7.dict{h:Heap}{av:Addr→Prop}{v:Value}{ds:List (PyData×PyData)}(r:b7 prog w h av v (.dict ds)):TopD prog w h av v ds:=by
 rcases r with r | ⟨a,e,kvs,r1,r2,r3,r4,r5⟩
 ·obtain⟨a,kvs,e,_,r1,r2,r3,r4,r5⟩:=r.dict_inv;exact⟨a,kvs,e,r1,r2,r3,r4,r5⟩
 ·exact⟨a,kvs,e,r1,r2,r3,r4,r5⟩
theorem b7.str{h:Heap}{av:Addr→Prop}{v:Value}{x:Str}(r:b7 prog w h av v (.str x)):∃ t,v=.str x t∧x.length≤sizeLine:=by
 rcases r with r | ⟨a,e,r⟩
 ·exact r.str_inv
 ·exact r.elim
theorem Yd.frz{γ:Type}{W:WP γ}{R:γ→Shared→V→Prop}{o:Option PyData}(k:∀ d,o=some d→Yd W R (.ok (.fz d))):Yd W R (frz o):=by
 cases o with
 |none=>exact trivial
 |some d=>exact k d rfl
noncomputable def yD(s:Shared)(v:Value):Prop:=∃ T id,s.TypeIs v T∧typeLookup (.type T) "__getitem__" = pure (some (.builtin id))
noncomputable def GS(prog:Program)(w:World)(A:Around)(s:Shared)(av:Addr→Prop)(va vi:Value)(p:P V):Prop :=
 Yd (fun Q E=>yD s va∧wpAny (model prog w) A (PySem.getItem va vi) Q E s) (fun v s' u=>Kp s s'∧aY prog w s s'.heap av v u) p
theorem yE{α β:Type}{xs:List α}{ys:List β}(hl:xs.length=ys.length){i:Nat}{y:β}(e:ys[i]?=some y):∃ x,xs[i]?=some x :=
 ⟨_,List.getElem?_eq_getElem (hl▸(List.getElem?_eq_some_iff.mp e).1)⟩
theorem qX{k:Int}{n:Nat}(h:0≤k∧k < n)(hn:n≤sizeLine):-2 ^ 63≤k∧k < 2 ^ 63:=by
 have hs:sizeLine=16777216:=sizeLine_eq;lia
theorem Jn{A:Around}{s:Shared}{av:Addr→Prop}{va vi:Value}{a i:PyData}(ra:b7 prog w s.heap av va a)(ri:Rep prog w s.heap av vi i):GS prog w A s av va vi (getItem a i):=by
 cases i with
 |int k =>
  obtain⟨t,rfl⟩:=ri.int_inv;cases a with
  |list l =>
   obtain⟨ad,vs,rfl,h2,h3,h4,h5⟩:=ra.list;refine Yd.ite2 (fun _=>Yd.ite fun c=>Yd.frz fun d e=>?_) fun _=>Yd.ite fun c=>Yd.frz fun d e=>?_<;>obtain⟨v,e1⟩:=yE h3 e
   ·exact fun Q E hq=>⟨⟨"list", _,h2.isList.typeIs,list_getitem_lookup⟩,wpAny_getItem_list h2.isList c.1 (qX (h3▸c) h4).2 (by simpa using e1) (hq _ _ ⟨Kp.rfl' s,h5 _ _ _ e1 e⟩)⟩
   ·rw[← h3] at c e1;exact fun Q E hq=>⟨⟨"list", _,h2.isList.typeIs,list_getitem_lookup⟩,wpAny_getItem_list_neg h2.isList c.1 c.2 (by have:=sizeLine_eq;lia) (by simpa using e1) (hq _ _ ⟨Kp.rfl' s,h5 _ _ _ e1 (h3▸e)⟩)⟩
  |tuple l =>
   obtain⟨ad,vs,rfl,h2,h3,h4,h5⟩:=ra.tuple;refine Yd.ite fun c=>Yd.frz fun d e=>?_;obtain⟨v,e1⟩:=yE h3 e;have hf:=qX (h3▸c) h4;exact fun Q E hq=>⟨⟨"tuple", _,h2.isTuple.typeIs,PyProof.Rows.slot_tuple_getitem.lookup⟩,by obtain⟨n,h2⟩:=h2;exact P.getItem_tuple h2 hf.1 hf.2 (k:=k.toNat) (seqIndex_of c.1 (h3▸c).2) (by simpa using e1) (hq _ _ ⟨Kp.rfl' s,h5 _ _ _ e1 e⟩)⟩
  |str x =>
   obtain⟨t',rfl,hx⟩:=ra.str;refine Yd.ite fun c=>Yd.frz fun d e=>?_;obtain⟨ch,e1,rfl⟩:=Option.map_eq_some_iff.mp e;have hf:=qX c hx;exact fun Q E hq=>⟨⟨"str", _,rfl,PyProof.Rows.slot_str_getitem.lookup⟩,PyProof.Rows.getItem_str (Bool.or_eq_false_iff.mpr ⟨decide_eq_false (Int.not_lt.mpr hf.1),decide_eq_false (Int.not_le.mpr hf.2)⟩) (c:=ch)
    (by rw[show seqIndex? k x.length=some k.toNat from seqIndex_of c.1 c.2];exact e1) (hq _ _ ⟨Kp.tok' s _,.str _ _ (by rw[sizeLine_eq];exact Nat.le_of_ble_eq_true rfl)⟩)⟩
  |_=>exact trivial
 |str x =>
  obtain⟨t,rfl,hx⟩:=ri.str_inv;cases a with
  |dict l =>
   obtain⟨ad,kvs,rfl,h2,h3,h4,h5,h6⟩:=ra.dict;refine Yd.frz fun d e=>?_;rcases mY x h5 with ⟨e1,e2⟩ | ⟨i,v,d',e1,e2,e3,e4⟩
   ·rw[e2] at e;exact ns e
   ·rw[e2] at e;obtain rfl:=si e;exact fun Q E hq=>⟨⟨"dict", _,h2.typeIs,F.slot_dict_getitem.lookup⟩,wpAny_getItem_of (dM x t) h2.mapOf e1 (hq _ _ ⟨Kp.tok' s _,h6 i _ _ e3 e4⟩)⟩
  |_=>exact trivial
 |_=>exact trivial
theorem qY{A:Around}{E:Value→Shared→Prop}{s:Shared}{env:Env}{value slice:Expr}{pos:Pos}{Q:Value→Shared→Prop}(hs:∃ f:Value→Value→List Value,∀ o i,subscripted slice false o i=operate (f o i) (PySem.getItem o i))
  (h:wpAny (model prog w) A (eval value env) (fun o s₁=>wpAny (model prog w) A (eval slice env) (fun i s₂=>yD s₂ o∧wpAny (model prog w) A (PySem.getItem o i) Q E s₂) E s₁) E s) :
  wpAny (model prog w) A (eval (.Subscript value slice pos) env) Q E s:=by
 rw[eval_Subscript];refine wpAny_bind (wpAny_mono h (fun o s₁ h₁=>wpAny_bind (wpAny_holding (wpAny_mono h₁ (fun i s₂ h₂=>wpAny_bind (wpAny_standAt ?_)) fun _ _ x=>x))) fun _ _ x=>x);obtain⟨⟨T,id,hT,hl⟩,hg⟩:=h₂;refine wpAny_bind ?_;rw[getitemInPython_of_ne hT.not_modules];refine wpAny_bind (wpAny_specialOf hT hl ?_);have fin:wpAny (model prog w) A (subscripted slice false o i) (fun r s₃=>wpAny (model prog w) A (letTemporaryGo value o r >>= fun _=>pure r) Q E s₃) E s₂:=by
  obtain⟨f,hs⟩:=hs;rw[hs];exact wpAny_operating (wpAny_mono hg (fun r s₃ h₃=>wpAny_bind (wpAny_letTemporaryGo (wpAny_pure h₃))) fun _ _ x=>x)
 first
  |exact wpAny_pure (wpAny_bind fin)
  |exact wpAny_bind (wpAny_pure (wpAny_bind fin))
  |exact wpAny_bind fin
theorem yF{o:Option (Option V)}{α:Type}{f:V→Option α}{d:α}(h:(match o with | some o=>(match o with | some v=>f v | none=>none) | none=>none)=some d):∃ v,o=some (some v)∧f v=some d:=by
 cases o with
 |none=>exact ns h
 |some o =>
  cases o with
  |none=>exact ns h
  |some v=>exact⟨v,rfl,h⟩
theorem yG{c:Prop}[Decidable c]{α:Type}{a b:α}(h:(if c then some a else none)=some b):c∧a=b:=by
 by_cases hc:c
 ·rw[if_pos hc] at h;obtain rfl:=si h;exact⟨hc,rfl⟩
 ·rw[if_neg hc] at h;exact ns h
theorem yH{x:Str}{d:PyData}(h:gS sc σ x=some d):isL sc x=true∧aA.get σ x=some (some (.own d)):=by
 obtain⟨v,e,h⟩:=yF (f:=fun v=>match v with | .own d=>if isL sc x then some d else none | _=>none) h;cases v with
 |own d'=>obtain⟨hl,rfl⟩:=yG h;exact⟨hl,e⟩
 |_=>exact ns h
theorem Jo{x:Str}{d:X}(h:l7 sc σ x=some d):isL sc x=true∧aA.get σ x=some (some (.ex d)):=by
 obtain⟨v,e,h⟩:=yF (f:=fun v=>match v with | .ex d=>if isL sc x then some d else none | _=>none) h;cases v with
 |ex d'=>obtain⟨hl,rfl⟩:=yG h;exact⟨hl,e⟩
 |_=>exact ns h
theorem Jp{e:Expr}{d:PyData}(h:j7 sc σ e=some d):∃ x p,e=.Name x p∧isL sc x=true∧aA.get σ x=some (some (.own d)):=by
 unfold j7 at h;refine ocs (bD e) (fun hn=>?_) fun x hn=>?_
 ·try rewrite[hn]
  rw[hn] at h;exact ns h
 ·try rewrite[hn]
  rw[hn] at h;obtain⟨p,rfl⟩:=dE hn;exact⟨x,p,rfl,yH h⟩
theorem yI{e:Expr}{d:X}(h:eS sc σ e=some d):∃ x p,e=.Name x p∧isL sc x=true∧aA.get σ x=some (some (.ex d)):=by
 unfold eS at h;refine ocs (bD e) (fun hn=>?_) fun x hn=>?_
 ·try rewrite[hn]
  rw[hn] at h;exact ns h
 ·try rewrite[hn]
  rw[hn] at h;obtain⟨p,rfl⟩:=dE hn;exact⟨x,p,rfl,Jo h⟩
theorem yJ{rec:Expr→R V}{o:Expr}(h:aF prog w mg mb base n hd l sc σ o (rec o)){A:Around}{env:Env}{s:Shared}{av:Addr→Prop}(hA:Room n hd l A)(I:Inv0 prog w mg mb base l env sc σ av s)
  {β:Type} {k:PyData→R β} {fin:R β} {Q:Value→Shared→Prop} {E:Value→Shared→Prop} (hf:Fin (iP rec sc σ o) k fin) (hq:∀ v s' d,K l s s'→b7 prog w s'.heap av v d∧(∀ a,v=.ref a→¬ frs l a)→k d=fin→Q v s') (he:EH prog w mg l s av fin E):wpAny (model prog w) A (eval o env) Q E s:=by
 unfold iP at hf;refine ocs (j7 sc σ o) (fun e=>?_) fun d e=>?_
 ·try rewrite[e]
  rw[e] at hf;exact h A env s av hA I hf.b (fun v s₁ u k1 r h1=>hq _ _ _ k1 ⟨.inl (r.rep I.gnd.avlt),fun a ha f=>(r.rep I.gnd.avlt).ref_not ha (I.gnd.fav _ f)⟩ h1) he
 ·try rewrite[e]
  rw[e] at hf;obtain⟨x,pos,rfl,hl,e⟩:=Jp e;obtain⟨u,h1,a,rfl,n1,h2⟩:=I.get _ _ hl e;exact cC I hl h1 (hq _ _ _ (K.rf l s) ⟨.inr ⟨a,rfl,h2⟩,fun a' ha=>by cases ha;exact n1⟩ hf.ok)
theorem Jq{α:Type}(l:List α)(lo hi:Option Int):(slice l lo hi).length≤l.length:=by
 unfold slice;rw[List.length_take,List.length_drop];exact Eh
theorem Jr{α β:Type}{l:List α}{m:List β}(hl:l.length=m.length){lo hi:Option Int}{i:Nat}{x:α}{y:β}(e1:(slice l lo hi)[i]?=some x)(e2:(slice m lo hi)[i]?=some y) :
  ∃ j:Nat,l[j]?=some x∧m[j]?=some y:=by
 unfold slice at e1 e2;rw[← hl] at e2;rw[List.getElem?_take] at e1 e2
 split at e1
 ·rename_i h;rw[if_pos h] at e2;rw[List.getElem?_drop] at e1 e2;exact⟨_,e1,e2⟩
 ·exact ns e1
theorem Js{α β:Type}{l:List α}{m:List β}(hl:l.length=m.length)(lo hi:Option Int):(slice l lo hi).length=(slice m lo hi).length:=by
 unfold slice;rw[List.length_take,List.length_take,List.length_drop,List.length_drop,hl]
noncomputable def qZ(v:Value)(k:Option Int):Prop:=IsPart v k∧∃ p,v=partValue p∧p.map (·.1)=k
theorem yK{rec:Expr→R V}{e:Option Expr}(h:∀ x,e=some x→aF prog w mg mb base n hd l sc σ x (rec x)){A:Around}{env:Env}{s:Shared}{av:Addr→Prop}(hA:Room n hd l A)(I:Inv0 prog w mg mb base l env sc σ av s)
  {β:Type} {k:Option Int→R β} {fin:R β} {Q:Value→Shared→Prop} {E:Value→Shared→Prop} (hf:Fin (pV rec e) k fin) (hq:∀ v s' d,K l s s'→qZ v d→k d=fin→Q v s') (he:EH prog w mg l s av fin E):wpAny (model prog w) A (evalPart e env) Q E s:=by
 cases e with
 |none=>exact wpAny_evalPart_none (hq _ _ none (K.rf l s) ⟨.none,none,rfl,rfl⟩ hf.ok)
 |some x =>
  refine wpAny_evalPart_some (h x rfl A env s av hA I (Fin.b hf) (fun v s₁ u k1 r h1=>?_) he);obtain⟨i,e1,e2⟩:=Fin.p ⟨h1,hf.2⟩;cases u with
  |fz d =>
   cases d with
   |int i =>
    obtain rfl:=pi e1;obtain⟨t,rfl⟩:=(show Rep prog w s₁.heap av v (.int i) from r).int_inv;exact hq _ _ _ k1 ⟨.int i t,some (i,t),rfl,rfl⟩ e2
   |_=>exact pno e1
  |_=>exact pno e1
noncomputable def rA(s:Shared)(vl vu:Value):Shared:={ s with heap:=s.heap.push { cls:=.type "slice", data:=.fields #[vl,vu,.none] } }
theorem Jt{A:Around}{s:Shared}{av:Addr→Prop}{va vl vu:Value}{a:PyData}{kl kh:Option Int}(hav:∀ b,av b→∃ o,s.heap.get? b=some o)(rt:b7 prog w (rA s vl vu).heap av va a)(rl:qZ vl kl)(rh:qZ vu kh) :
  GS prog w A (rA s vl vu) av va (.ref s.heap.objs.size) (iL a kl kh):=by
 cases a with
 |list l =>
  obtain⟨ad,vs,rfl,p2,p3,p4,p5⟩:=rt.list;refine fun Q E hq=>⟨⟨"list", _,p2.isList.typeIs,list_getitem_lookup⟩,wpAny_getItem_list_slice p2.isList (Heap.IsSliceOf.new ..) rl.1 rh.1 .none (by simp) ?_ (by simpa using p4)⟩
  have e:slicePick vs.toArray kl kh none=(slice vs kl kh).toArray:=by rw[slicePick_plain];simp[slice]
  rw[e];exact hq _ _ (qT (Kp.rfl' _) (Js p3 kl kh) (Nat.le_trans (Jq _ _ _) p4) fun i v d e1 e2=>by obtain⟨j,e3,e4⟩:=Jr p3 e1 e2;exact p5 j v d e3 e4)
 |_=>exact trivial
theorem Ju{rec:Expr→R V}{o i:Expr}{pos:Pos}(ho:aF prog w mg mb base n hd l sc σ o (rec o))(hidx:aF prog w mg mb base n hd l sc σ i (rec i))
  (hs:∀ c,j8 i=some c→(∀ x,c.1=some x→aF prog w mg mb base n hd l sc σ x (rec x))∧(∀ x,c.2.1=some x→aF prog w mg mb base n hd l sc σ x (rec x))) :
  aF prog w mg mb base n hd l sc σ (.Subscript o i pos) (pW rec sc σ o i):=by
 intro A env s av hA I β k fin Q E hf hq he;unfold pW at hf;refine ocs (j8 i) (fun hv=>?_) fun c hv=>?_
 ·try rewrite[hv]
  rw[hv] at hf;refine bcs (bad i) (fun hb=>?_) fun hb=>?_
  ·try rewrite[hb]
   rw[hb] at hf;refine qY ⟨_,fun _ _=>xF hb⟩ (yJ ho hA I (Fin.b hf) (fun va s₁ a k1 ra h1=>?_) he);have I1:=I.k k1;exact hidx A env s₁ av hA I1 (Fin.b ⟨h1,hf.2⟩) (fun vi s₂ u k2 r h2=>Yd.fin (Jn (A:=A) (b7.k I.gnd.fav k2 ra).1 (r.rep I1.gnd.avlt)) ⟨h2,hf.2⟩ fun v s' u r e=>hq.step (k1.tr k2) r e) (he.back k1)
  ·try rewrite[hb]
   rw[hb] at hf;exact hf.no.elim
 ·try rewrite[hv]
  rw[hv] at hf;obtain⟨g1,g2⟩:=hs c hv;obtain⟨p,rfl⟩:=Ii hv;obtain⟨lo,hi,st⟩:=c;cases st with
  |some x=>exact hf.no.elim
  |none =>
   refine qY ⟨_,fun _ _=>rfl⟩ (yJ ho hA I (Fin.b hf) (fun va s₁ a k1 ra h1=>?_) he);have I1:=I.k k1;refine wpAny_Slice (yK g1 hA I1 (Fin.b ⟨h1,hf.2⟩) (fun vl s₂ kl k2 rl h2=>yK g2 hA (I1.k k2) (Fin.b ⟨h2,hf.2⟩) (fun vu s₃ kh k3 rh h3=>wpAny_evalPart_none ?_) (he.back (k1.tr k2))) (he.back k1));have kk:=(k1.tr k2).tr k3;have hp:Kp s₃ (rA s₃ vl vu):=Kp.push' s₃ _;exact Yd.fin (Jt (A:=A) (I.gnd.k kk).avlt ((b7.k I.gnd.fav k3 (b7.k I.gnd.fav k2 ra)).1.keeps hp.heap) rl rh) ⟨h3,hf.2⟩ fun v s' u r e=>hq.step (kk.trp hp) r e
end
end Mine
namespace Mine
open PySem
section
variable {prog:Program} {w:World} {mg mb:Str→Option Value} {base:Heap}
noncomputable def gZ(prog:Program)(w:World)(A:Around)(s:Shared)(v:Value)(T:String)(b:Bool):Prop :=
 ∀ (Q:Value→Shared→Prop) (E:Value→Shared→Prop),(∀ tk,Q (.bool b) { s with toks:=tk })→wpAny (model prog w) A (call (.builtin "isinstance") [v,.type T]) Q E s
theorem yL{A:Around}{s:Shared}{av:Addr→Prop}{v:Value}{d:PyData}(r:Rep prog w s.heap av v d) :
  gZ prog w A s v "dict" (bE d)∧gZ prog w A s v "int" (fC d)∧gZ prog w A s v "bool" (fQ d)∧gZ prog w A s v "str" (pF d)∧gZ prog w A s v "list" (vZ d)∧gZ prog w A s v "tuple" (lY d):=by
 cases r with
 |none=>exact⟨fun Q E hq=>IsiPair.NoneType_dict (hq _),fun Q E hq=>IsiPair.NoneType_int (hq _),fun Q E hq=>IsiPair.NoneType_bool (hq _),fun Q E hq=>IsiPair.NoneType_str (hq _),fun Q E hq=>IsiPair.NoneType_list (hq _),fun Q E hq=>IsiPair.NoneType_tuple (hq _)⟩
 |bool _=>exact⟨fun Q E hq=>IsiPair.bool_dict (hq _),fun Q E hq=>IsiPair.bool_int (hq _),fun Q E hq=>IsiPair.bool_bool (hq _),fun Q E hq=>IsiPair.bool_str (hq _),fun Q E hq=>IsiPair.bool_list (hq _),fun Q E hq=>IsiPair.bool_tuple (hq _)⟩
 |int _ _=>exact⟨fun Q E hq=>IsiPair.int_dict (hq _),fun Q E hq=>IsiPair.int_int (hq _),fun Q E hq=>IsiPair.int_bool (hq _),fun Q E hq=>IsiPair.int_str (hq _),fun Q E hq=>IsiPair.int_list (hq _),fun Q E hq=>IsiPair.int_tuple (hq _)⟩
 |str _ _ _=>exact⟨fun Q E hq=>IsiPair.str_dict (hq _),fun Q E hq=>IsiPair.str_int (hq _),fun Q E hq=>IsiPair.str_bool (hq _),fun Q E hq=>IsiPair.str_str (hq _),fun Q E hq=>IsiPair.str_list (hq _),fun Q E hq=>IsiPair.str_tuple (hq _)⟩
 |list _ h2=>obtain⟨n,e⟩:=h2;exact⟨fun Q E hq=>IsiPair.list_dict e rfl (hq _),fun Q E hq=>IsiPair.list_int e rfl (hq _),fun Q E hq=>IsiPair.list_bool e rfl (hq _),fun Q E hq=>IsiPair.list_str e rfl (hq _),fun Q E hq=>IsiPair.list_list e rfl (hq _),fun Q E hq=>IsiPair.list_tuple e rfl (hq _)⟩
 |tuple _ h2=>obtain⟨n,e⟩:=h2;exact⟨fun Q E hq=>IsiPair.tuple_dict e rfl (hq _),fun Q E hq=>IsiPair.tuple_int e rfl (hq _),fun Q E hq=>IsiPair.tuple_bool e rfl (hq _),fun Q E hq=>IsiPair.tuple_str e rfl (hq _),fun Q E hq=>IsiPair.tuple_list e rfl (hq _),fun Q E hq=>IsiPair.tuple_tuple e rfl (hq _)⟩
 |dict _ h2=>obtain⟨o,es,ep,e,c,_⟩:=h2;exact⟨fun Q E hq=>IsiPair.dict_dict e c.1 (hq _),fun Q E hq=>IsiPair.dict_int e c.1 (hq _),fun Q E hq=>IsiPair.dict_bool e c.1 (hq _),fun Q E hq=>IsiPair.dict_str e c.1 (hq _),fun Q E hq=>IsiPair.dict_list e c.1 (hq _),fun Q E hq=>IsiPair.dict_tuple e c.1 (hq _)⟩
theorem Kp.mk'{s:Shared}{h':Heap}{tk:Nat}(k:∀ b o,s.heap.get? b=some o→h'.get? b=some o):Kp s { s with heap:=h',toks:=tk }:=⟨h',tk,rfl,k⟩
theorem Kp.mkh{s:Shared}{h':Heap}(k:∀ b o,s.heap.get? b=some o→h'.get? b=some o):Kp s { s with heap:=h' }:=⟨h',s.toks,rfl,k⟩
theorem rB{s s₁ s':Shared}{av:Addr→Prop}{a:Addr}{vs:List Value}{ds:List PyData}(k0:Kp s s₁)(k:Kp s₁ s')(hn:s₁.heap.get? a=none)(hp:s'.heap.PlainList a vs.toArray)(hl:vs.length=ds.length)(hz:vs.length≤sizeLine)
  (h:∀ (i:Nat) (v:Value) (d:PyData),vs[i]?=some v→ds[i]?=some d→Rep prog w s₁.heap av v d):Kp s s'∧aY prog w s s'.heap av (.ref a) (.own (.list ds)):=by
 refine⟨k0.tr k,Own.backp k0 ⟨a,rfl,hn,vs,hp,hl,hz,fun i v d e1 e2=>((h i v d e1 e2).apart hn).keeps k.heap⟩⟩
theorem yM{s s₁ s':Shared}{av:Addr→Prop}{a:Addr}{kvs:List (Str×Value)}{ds:List (PyData×PyData)}(k0:Kp s s₁)(k:Kp s₁ s')(hn:s₁.heap.get? a=none)(hm:(a==sysModules)=false)(hp:s'.heap.DictOf (strKind prog w) a kvs)
  (hz:kvs.length≤sizeLine∧∀ kv∈kvs,kv.1.length≤sizeLine) (hl:ds.map (·.1)=kvs.map (fun kv=>PyData.str kv.1))
  (h:∀ (i:Nat) (kv:Str×Value) (d:PyData×PyData),kvs[i]?=some kv→ds[i]?=some d→Rep prog w s₁.heap av kv.2 d.2):Kp s s'∧aY prog w s s'.heap av (.ref a) (.own (.dict ds)):=by
 refine⟨k0.tr k,Own.backp k0 ⟨a,rfl,hn,kvs,hp,hz,hm,hl,fun i v d e1 e2=>((h i v d e1 e2).apart hn).keeps k.heap⟩⟩
theorem kH{l:List Env}{av:Addr→Prop}{s:Shared}(G:Gnd prog w mg mb base l av s):(s.heap.objs.size==sysModules)=false:=by
 have:sysModules < s.heap.objs.size:=PyProof.Rows.modules_low (G.glo.nolimit.keeps G.stay);exact beq_eq_false_iff_ne.mpr (Nat.ne_of_gt this)
noncomputable def leS(x y:Str):Prop:=¬ (y.cps.toList < x.cps.toList)
theorem yN{x y z:Str}(h:leS x y)(h':leS y z):leS x z:=by
 have a:x.cps.toList≤y.cps.toList:=List.not_lt.mp h;have b:y.cps.toList≤z.cps.toList:=List.not_lt.mp h';exact List.not_lt.mpr (List.le_trans a b)
theorem Jv{x y:Str}(h:leS x y)(h':leS y x):x=y:=by
 have a:x.cps.toList≤y.cps.toList:=List.not_lt.mp h;have b:y.cps.toList≤x.cps.toList:=List.not_lt.mp h';have:=List.le_antisymm a b;cases x;cases y;simp_all [Array.toList_inj]
theorem rC(a:Str):∀ l,(dJ a l).Perm (a::l)
 | []=>.refl _
 |b::r=>by
  show(if b.cps.toList < a.cps.toList then b::dJ a r else a::b::r).Perm _
  split
  ·exact((rC a r).cons b).trans (.swap a b r)
  ·exact .refl _
theorem rD:∀ l,(bC l).Perm l
 | []=>.refl _
 |a::r=>(rC a _).trans ((rD r).cons a)
theorem yO(a:Str):∀ {l},l.Pairwise leS→(dJ a l).Pairwise leS
 | [],_=>List.pairwise_singleton _ _
 |b::r,h=>by
  rw[List.pairwise_cons] at h;show(if b.cps.toList < a.cps.toList then b::dJ a r else a::b::r).Pairwise leS
  split
  ·rename_i hlt;rw[List.pairwise_cons];refine⟨fun x hx=>?_,yO a h.2⟩;rcases List.mem_cons.mp ((rC a r).mem_iff.mp hx) with rfl | hx
   ·exact List.not_lt.mpr (List.le_of_lt hlt)
   ·exact h.1 x hx
  ·rename_i hlt;rw[List.pairwise_cons];refine⟨fun x hx=>?_,by rw[List.pairwise_cons];exact h⟩;rcases List.mem_cons.mp hx with rfl | hx
   ·exact hlt
   ·exact yN hlt (h.1 x hx)
theorem yP:∀ l,(bC l).Pairwise leS
 | []=>.nil
 |a::r=>yO a (yP r)
theorem yQ:∀ (p:Str) (l:List Str),PyProof.Rows.risingS p l=true→(p::l).Pairwise leS
 |p,[],_=>List.pairwise_singleton _ _
 |p,x::r,h=>by
  unfold PyProof.Rows.risingS at h;simp only[Bool.and_eq_true,Bool.not_eq_true'] at h;have hr:=yQ x r h.2;have hpx:leS p x:=by
   have:=PyProof.Rows.lt_meets x p;rw[h.1,decide_eq_false_iff_not] at this;exact this
  rw[List.pairwise_cons];refine⟨fun y hy=>?_,hr⟩;rcases List.mem_cons.mp hy with rfl | hy
  ·exact hpx
  ·exact yN hpx ((List.pairwise_cons.mp hr).1 y hy)
theorem Jw{l:List Str}(h:PyProof.Rows.sortedS l=true):l.Pairwise leS:=by
 cases l with
 |nil=>exact .nil
 |cons x r=>exact yQ x r h
theorem Jx{l l':List Str}(h:PyProof.Rows.sortedS l'=true)(p:l'.Perm l):l'=bC l :=
 List.Perm.eq_of_pairwise (le:=leS) (fun _ _ _ _ a b=>Jv a b) (Jw h) (yP l) (p.trans (rD l).symm)
theorem yR:∀ {ss:List Str} {ts:List Tok},ts.length=ss.length→PyProof.Rows.StrsAre (List.zipWith (fun x t=>Value.str x t) ss ts) ss
 | [],[],_=>.nil
 | [],_::_,h=>by simp at h
 |_::_,[],h=>by simp at h
 |s::ss,t::ts,h=>.cons s t (yR (by simpa using h))
theorem Jy{h:Heap}{av:Addr→Prop}:∀ {vs:List Value} {ss:List Str},PyProof.Rows.StrsAre vs ss→(∀ x∈ss,x.length≤sizeLine) →
  vs.length=(ss.map PyData.str).length∧∀ (i:Nat) (v:Value) (d:PyData),vs[i]?=some v→(ss.map PyData.str)[i]?=some d→Rep prog w h av v d
 := by
 intro vs ss r
 induction r with
 |nil=>exact fun _=>⟨rfl,fun i v d e=>nomatch e⟩
 |cons y t r ih =>
  intro hx;obtain⟨h1,h2⟩:=ih fun x hx'=>hx x (List.mem_cons_of_mem _ hx');refine⟨congrArg Nat.succ h1,fun i v d e1 e2=>?_⟩;cases i with
  |zero=>obtain rfl:=si e1;obtain rfl:=si e2;exact .str y t (hx y List.mem_cons_self)
  |succ i=>exact h2 i v d e1 e2
theorem m9{n:Nat}(h:n≤sizeLine):((n:Nat):Int) < 2 ^ 63:=by
 have:sizeLine=16777216:=sizeLine_eq;lia
abbrev YV(prog:Program)(w:World)(A:Around)(s:Shared)(av:Addr→Prop)(t:Sem Value)(p:P V):Prop :=
 Yd (fun Q E=>wpAny (model prog w) A t Q E s) (fun v s' u=>Kp s s'∧aY prog w s s'.heap av v u) p
theorem Jz{A:Around}{s:Shared}{av:Addr→Prop}{v:Value}{d:PyData}(r:Rep prog w s.heap av v d):YV prog w A s av (call (.builtin "len") [v]) (a8 d):=by
 cases d with
 |list l =>
  obtain⟨a,vs,rfl,h1,h2,h3,h4,h5⟩:=r.list_inv;show YV prog w A s av _ (fz (.int l.length));rw[← h3];exact fun Q E hq=>Calls.call_len_list h2.isList (by simpa using m9 h4) (hq _ _ ⟨Kp.tok' s _,.int _ _⟩)
 |tuple l =>
  obtain⟨a,vs,rfl,h1,⟨n,e⟩,h3,h4,h5⟩:=r.tuple_inv;show YV prog w A s av _ (fz (.int l.length));rw[← h3];exact fun Q E hq=>P.len_tuple e (by simpa using m9 h4) (hq _ _ ⟨Kp.tok' s _,.int _ _⟩)
 |str x =>
  obtain⟨t,rfl,hx⟩:=r.str_inv;exact fun Q E hq=>P.len_str (Int.not_le.mpr (m9 hx)) (hq _ _ ⟨Kp.tok' s _,Rep.int _ _⟩)
 |dict m =>
  obtain⟨a,kvs,rfl,h1,h2,h3,h4,h5,h6⟩:=r.dict_inv;have hl:m.length=kvs.length:=by simpa using congrArg List.length h5
  show YV prog w A s av _ (fz (.int m.length));rw[hl];exact fun Q E hq=>call_len_dict h4 h2 (m9 h3.1) (hq _ _ ⟨Kp.tok' s _,.int _ _⟩)
 |_=>exact trivial
theorem yS{h:Heap}{av:Addr→Prop}:∀ {vs:List Value} {ds:List PyData} {bs:List Bool},vs.length=ds.length→(∀ (i:Nat) (v:Value) (d:PyData),vs[i]?=some v→ds[i]?=some d→Rep prog w h av v d) →
  bools? ds=some bs→vs=bs.map Value.bool
 := by
 intro vs
 induction vs with
 |nil =>
  intro ds bs hl h e;cases ds with
  |nil=>obtain rfl:=si e;rfl
  |cons=>exact nomatch hl
 |cons v vs ih =>
  intro ds bs hl h e;cases ds with
  |nil=>exact nomatch hl
  |cons d ds =>
   cases d with
   |bool b =>
    obtain⟨bs',hb,rfl⟩:=Option.map_eq_some_iff.mp (show(bools? ds).map (b::·)=some bs from e);rw[ih (ds:=ds) (Nat.succ.inj hl) (fun i v d e1 e2=>h (i+1) v d e1 e2) hb,(h 0 v _ rfl rfl).bool_inv];rfl
   |_=>exact ns e
theorem J0(bs:List Bool):(List.range bs.length).all (fun i=>(bs[i]?).getD true)=bs.all id:=by
 rw[Bool.eq_iff_iff,List.all_eq_true,List.all_eq_true];constructor
 ·intro h b hb;obtain⟨i,hi,rfl⟩:=List.mem_iff_getElem.mp hb;have:=h i (List.mem_range.mpr hi);simpa[List.getElem?_eq_getElem hi] using this
 ·intro h i hi;have hi':=List.mem_range.mp hi;rw[List.getElem?_eq_getElem hi'];exact h _ (List.getElem_mem hi')
theorem J1{A:Around}{s:Shared}{av:Addr→Prop}{v:Value}{d:PyData}(hh:A.handled=none)(r:Rep prog w s.heap av v d):YV prog w A s av (call (.builtin "all") [v]) (cE d):=by
 cases r with
 | @list a vs ds h1 h2 h3 h4 h5 =>
  show YV prog w A s av _ (((ofO (bools? ds)).bind fun bs=>.ok (bs.all id)).bind fun b=>.ok (.fz (.bool b)));refine ocs (bools? ds) (fun hb=>?_) fun bs hb=>?_
  ·try rewrite[hb]
   exact trivial
  ·try rewrite[hb]
   have hv:=yS h3 h5 hb;subst hv;intro Q E hq;have hli:s.heap.IsList a (bs.map Value.bool).toArray:=h2.isList;have hne:a≠s.heap.objs.size:=fun e=>by
    obtain⟨o,ho,_⟩:=hli;rw[e,bK] at ho;exact ns ho
   refine call_all_walk (wpAny_pyIter_list hli ⟨s.heap.objs.size,_,_,_,_,_,fun i=>(bs[i]?).getD true,rfl,Walks.list (by exact hh) s.heap.objs.size a hne (bs.map Value.bool).toArray,
    ⟨⟨_,cH _ _ rfl,rfl,rfl⟩,by obtain⟨o,e,r⟩:=hli;exact⟨o,Heap.get?_push_of_some _ e,r⟩⟩,fun i v s Q E hP hQ=>?_,fun h' tk hk=>?_⟩)
   ·have hP:(bs.map Value.bool).toArray[i]?=some v:=hP;rw[List.getElem?_toArray,List.getElem?_map] at hP;refine ocs (bs[i]?) (fun hbi=>?_) fun b hbi=>?_
    ·try rewrite[hbi]
     rw[hbi] at hP;exact ns hP
    ·try rewrite[hbi]
     rw[hbi] at hP;obtain rfl:=si hP;exact wpAny_truthy_bool (by simpa[hbi] using hQ)
   ·have e:(List.range ((bs.map Value.bool).toArray.size)).all (fun i=>(bs[i]?).getD true)=bs.all id:=by simpa using J0 bs
    rw[e];refine hq _ _ ⟨⟨h',tk,rfl,fun b o e=>hk b o (fun hb=>?_) (Heap.get?_push_of_some _ e)⟩,.bool _⟩;rw[List.mem_singleton.mp hb,bK] at e;exact ns e
 |_=>exact trivial
theorem yT{s s':Shared}{av:Addr→Prop}{a:Addr}{out:Array Value}{ss ss':List Str}(k:Kp s s')(hn:s.heap.get? a=none)(he:∃ e,s'.heap.get? a=some (PyProof.Rows.seqObj "list" out e))(hS:PyProof.Rows.StrsAre out.toList ss')(hp:ss'.Perm ss)(hso:PyProof.Rows.sortedS ss'=true)
  (h3:∀ x∈ss,x.length≤sizeLine) (hlt:ss.length < 64):Kp s s'∧aY prog w s s'.heap av (.ref a) (.own (.list ((bC ss).map .str))):=by
 obtain rfl:=Jx hso hp;obtain⟨q1,q2⟩:=Jy (prog:=prog) (w:=w) (h:=s.heap) (av:=av) hS fun x hx=>h3 x (hp.mem_iff.mp hx);obtain⟨e,he⟩:=he;refine rB (vs:=out.toList) (Kp.rfl' s) k hn ⟨e,by simpa using he⟩ q1 ?_ q2;simp only[q1,List.length_map,(rD ss).length_eq];exact Nat.le_trans (Nat.le_of_lt hlt) (by decide)
theorem J2{kvs:List (Str×Value)}{acc:List Value}(hl:acc.length=kvs.length)(h:∀ (i:Nat) (v:Value),acc[i]?=some v→∃ k x,kvs[i]?=some (k,x)∧(strKind prog w).is k v=true):PyProof.Rows.StrsAre acc (kvs.map (·.1)):=by
 induction kvs generalizing acc with
 |nil=>cases acc with
  |nil=>exact .nil
  |cons=>cases hl
 |cons kv r ih =>
  cases acc with
  |nil=>cases hl
  |cons v acc =>
   obtain⟨k,x,e,hk⟩:=h 0 v rfl;obtain rfl:=si e;obtain⟨t,rfl⟩:=Value.isStrOf_shape hk;exact .cons k t (ih (Nat.succ.inj hl) fun i v e=>h (i+1) v e)
theorem J3(kvs:List (Str×Value)):strs? (kvs.map fun kv=>PyData.str kv.1)=some (kvs.map (·.1)):=by
 induction kvs with
 |nil=>rfl
 |cons kv r ih =>
  show(strs? (r.map _)).map _=_;simp only[ih];rfl
theorem J4{A:Around}{s:Shared}{av:Addr→Prop}{v:Value}{d:PyData}(hh:A.handled=none)(r:Rep prog w s.heap av v d):YV prog w A s av (call (.builtin "sorted") [v]) (dC d):=by
 cases d with
 |list l =>
  obtain⟨a,vs,rfl,h1,h2,h3,h4,h5⟩:=r.list_inv;refine Yd.optBind fun ss hs=>Yd.ite fun hlt=>?_;obtain⟨ts,e1,rfl,e3⟩:=gA h3 h5 hs;intro Q E hq;refine PyProof.Rows.sorted_strs h2.isList (yR e1) (by simpa[e1] using hlt) fun out ss' hS hp hso=>?_;exact hq _ _ (yT (Kp.mkh fun b o e=>PyProof.Rows.sortedAll_old e) (Heap.get?_none_of_le (Nat.le_add_right _ _)) (PyProof.Rows.sortedAll_at s.heap _ out) hS hp hso e3 hlt)
 |dict l =>
  obtain⟨a,kvs,rfl,h1,⟨o,es,ep,hd⟩,h3,h4,h5,h6⟩:=r.dict_inv;show YV prog w A s av _ (fR (l.map (·.1)));unfold fR;rw[h5,J3];refine Yd.ite fun hlt=>?_;intro Q E hq;refine Calls.call_function_entry PyProof.Rows.kind_sorted PyProof.Rows.plain_sorted PyProof.Rows.entry_sorted (PyProof.Rows.args_sorted1 _) ?_;unfold Builtin.«sorted»;refine wpAny_bind (m:=checkCount "sorted" 1 1 _) (wpAny_pure ?_);refine wpAny_bind (W.kdu_collect (A:=A.in1) (W.kdl_dict (knd:=strKind prog w) (kvs:=kvs) (ep:=ep) h4) hh ⟨o,es,hd⟩ h3.1 fun h' tk acc hk hacc=>?_);have hl:acc.toList.length=kvs.length:=by rw[Array.length_toList];exact hacc.1
  refine wpAny_bind (wpAny_newList ?_ (by rw[hl];exact h3.1));have hS:=J2 hl fun i v e=>hacc.2 i v (by rw[← Array.getElem?_toList];exact e);have hoL:(h'.push { cls:=.type "list", data:=.seq acc.toList.toArray }).get? h'.objs.size=some (PyProof.Rows.seqObj "list" acc.toList.toArray 0):=Heap.get?_push_size _ rfl;have h64:acc.toList.length < 64:=by rw[hl];simpa using hlt
  refine wpAny_bind (wpAny_holding (wpAny_call_entry PyProof.Rows.slot_list_sort ⟨_,hoL,rfl⟩ PyProof.Rows.entry_list_sort (PyProof.Rows.list_sort_treeK PyProof.Rows.strKind_oneLt hoL hS.keysOf (fun v₁ v₂ rest e=>PyProof.Rows.keyKind_strs (by rw[← e];exact hS)) h64 fun st' hp hs=>⟨_,rfl,?_⟩) (PyProof.Rows.args_list_sort _)));obtain⟨ss',g1,g2,g3⟩:=PyProof.Rows.sorted_out_str hS hp hs;have hold:∀ b o,s.heap.get? b=some o→(PyProof.Rows.sortedHeap (h'.push { cls:=.type "list", data:=.seq acc.toList.toArray }) h'.objs.size acc.toList ((PyProof.Rows.arrOf st').map (·.2))).get? b=some o:=fun b o e=>by
   have e1:=hk b o e;have hlt:=Heap.lt_size e1;rw[PyProof.Rows.sortedHeap_old (Nat.ne_of_lt hlt) (by rw[PyProof.Rows.size_push'];exact Nat.lt_succ_of_lt hlt)];exact Heap.get?_push_of_some _ e1
  have hn:s.heap.get? h'.objs.size=none:=by
   refine ocs (s.heap.get? h'.objs.size) (fun hb=>?_) fun o hb=>?_
   ·try rewrite[hb]
    rfl
   ·try rewrite[hb]
    exact absurd (Heap.lt_size (hk _ _ hb)) (Nat.lt_irrefl _)
  have hz:∀ x∈kvs.map (·.1),x.length≤sizeLine:=fun x hx=>by
   obtain⟨kv,hkv,rfl⟩:=List.mem_map.mp hx;exact h3.2 kv hkv
  have kk:=Kp.mk' (tk:=tk) hold;have at':=PyProof.Rows.sortedHeap_at (out:=(PyProof.Rows.arrOf st').map (·.2)) hoL;generalize PyProof.Rows.sortedHeap (h'.push { cls:=.type "list", data:=.seq acc.toList.toArray }) h'.objs.size acc.toList ((PyProof.Rows.arrOf st').map (·.2))=H at kk at';exact wpAny_pure ⟨_,rfl,hq _ _ (yT kk hn at' g1 g2 g3 hz hlt)⟩
 |_=>exact trivial
theorem yU{A:Around}{s:Shared}{av:Addr→Prop}{v:Value}{d:PyData}(hh:A.handled=none)(r:Rep prog w s.heap av v d):YV prog w A s av (call (.type "list") [v]) (cF d):=by
 cases d with
 |dict l =>
  obtain⟨a,kvs,rfl,h1,⟨o,es,ep,hd⟩,h3,h4,h5,h6⟩:=r.dict_inv;intro Q E hq;refine W.kdl_call (W.kdl_dict (knd:=strKind prog w) (kvs:=kvs) (ep:=ep) h4) hh ⟨o,es,hd⟩ h3.1 fun h' tk acc c' hk he hit=>?_;have hsz:acc.toList.length=kvs.length:=by simpa using hit.1
  refine hq _ _ (rB (vs:=acc.toList) (Kp.rfl' s) (Kp.mk' hk) (bK _) ⟨c',by simpa using he⟩ (by simp only[hsz,h5,List.length_map]) (hsz▸h3.1) fun i v d e1 e2=>?_);obtain⟨k,x,e3,e4⟩:=hit.2 i v (by simpa using e1);obtain⟨t,rfl⟩:=Value.isStrOf_shape e4;simp only[h5,List.getElem?_map,e3] at e2;obtain rfl:=si e2;exact .str k t (h3.2 _ (List.mem_of_getElem? e3))
 |list l =>
  obtain⟨a,vs,rfl,h1,⟨n,h2⟩,h3,h4,h5⟩:=r.list_inv;intro Q E hq;exact call_list_seq a (.inl rfl) h2 rfl rfl (fun h' c' hk he=>hq _ _ (rB (Kp.rfl' s) (Kp.mkh hk) (bK _) ⟨c',he⟩ h3 h4 h5)) (by simpa using h4)
 |_=>exact trivial
theorem J5{A:Around}{s:Shared}{av:Addr→Prop}{v:Value}{d:PyData}(ha:∀ b,av b→∃ o,s.heap.get? b=some o)(r:Rep prog w s.heap av v d):YV prog w A s av (call (.type "tuple") [v]) (eQ d):=by
 cases d with
 |list l =>
  obtain⟨a,vs,rfl,h1,h2,h3,h4,h5⟩:=r.list_inv;intro Q E hq;refine call_tuple_list h2.isList (fun h' hk=>?_) (by simpa using h4);exact hq _ _ (qU (s₁:={ s with heap:=h' }) (Kp.mkh hk) (fun b hb=>by obtain⟨o,e⟩:=ha b hb;exact⟨o,hk _ _ e⟩) h3 h4 fun i v d e1 e2=>(h5 i v d e1 e2).keeps hk)
 |_=>exact trivial
theorem J6{h h':Heap}{o:Obj}(hs:Heap.SameBut h.objs.size (h.push o) h'):∀ b o',h.get? b=some o'→h'.get? b=some o':=by
 intro b o' e;have hb:b≠h.objs.size:=fun hh=>by rw[hh,bK] at e;exact ns e
 rw[hs.2 b hb];exact Heap.get?_push_of_some _ e
theorem J7{A:Around}{s:Shared}{av:Addr→Prop}{v:Value}{d:PyData}(r:Rep prog w s.heap av v d):YV prog w A s av (call (.type "int") [v]) (iM d):=by
 cases d with
 |bool b =>
  obtain rfl:=r.bool_inv;exact fun Q E hq=>call_int_bool (hq _ _ ⟨Kp.tok' s _,.int _ _⟩)
 |str x =>
  obtain⟨t,rfl,hx⟩:=r.str_inv;exact Yd.ite fun hl=>Yd.optBind fun i hi Q E hq=>W.KIN.call_text hi hl (hq _ _ ⟨Kp.tok' s _,.int _ _⟩)
 |_=>exact trivial
theorem J8{A:Around}{s:Shared}{av:Addr→Prop}{v:Value}{d:PyData}(r:Rep prog w s.heap av v d):YV prog w A s av (call (.type "str") [v]) (wA d):=by
 cases d with
 |str x =>
  obtain⟨t,rfl,hx⟩:=r.str_inv;exact fun Q E hq=>P.str_of_str (hq _ _ ⟨Kp.rfl' s,.str x t hx⟩)
 |int i =>
  obtain⟨t,rfl⟩:=r.int_inv;exact Yd.ite fun hl Q E hq=>P.str_of_int hl (hq _ _ ⟨Kp.tok' s _,.str _ _ (int_text_fits hl)⟩)
 |_=>exact trivial
theorem J9{A:Around}{s:Shared}{av:Addr→Prop}{v:Value}{d:PyData}(r:Rep prog w s.heap av v d):YV prog w A s av (call (.builtin "abs") [v]) (pG d):=by
 cases d with
 |int i =>
  obtain⟨t,rfl⟩:=r.int_inv;exact fun Q E hq=>PyProof.Rows.call_abs_int fun u tk=>hq _ _ ⟨Kp.tok' s _,.int _ _⟩
 |_=>exact trivial
end
end Mine
namespace Mine
open PySem
theorem Ka:typeLookup (.type "list") "keys" = pure none:=by rw[typeLookup_type,builtinLookup_eq_fast];kernel_rfl
theorem Kb:typeLookup (.type "list") "__getattr__" = pure none:=by rw[typeLookup_type,builtinLookup_eq_fast];kernel_rfl
section
variable {prog:Program} {w:World} {A:Around} {E:Value→Shared→Prop} {h:Heap} {g:Array GenState} {d:Drawn} {t:Nat} {os:OsState} {a:Addr} {xs:Array Value} {n:Nat}
theorem Kc{tk:Tok}{Q:PySem.Fin→Shared→Prop}(hx:h.get? a=some { cls:=.type "list", data:=.seq xs n })(hh:A.handled=none)
  (hq:∀ h' tk' e,Heap.NewAttrErr h h' e (.ref a) (Str.ofString "keys")→E (.ref e) ⟨h',g,d,tk',os⟩) :
  wpAny (model prog w) A (Builtin.«object.__getattribute__» ⟨[.ref a,.str "keys" tk],[]⟩) Q E ⟨h,g,d,t,os⟩:=by
 have hT:(⟨h,g,d,t,os⟩:Shared).TypeIs (.ref a) "list" := ⟨_,hx,rfl⟩
 have f4:=Ka
 repeat (any_goals (first | assumption | wp_step))
 exact wpAny_raiseAttrError hh hq (attrMsg_fits (by decide +kernel) (by decide +kernel))
theorem Kd{tk:Tok}{R:Result→Shared→Prop}(hx:h.get? a=some { cls:=.type "list", data:=.seq xs n })(hh:A.handled=none)
  (hq:∀ h' tk' e,Heap.NewAttrErr h h' e (.ref a) (Str.ofString "keys")→R (.error (.ref e)) ⟨h',g,d,tk',os⟩) :
  codeAny (model prog w) A (.call (.builtin "list.__getattribute__") ⟨[.ref a,.str "keys" tk],[]⟩) R ⟨h,g,d,t,os⟩ :=
 codeAny_call_builtin F.slot_list_getattribute.plain F.entry_list_ga (F.slot_list_getattribute.check _ _ _ _ _ _ _ _ (show(⟨h,g,d,t,os⟩:Shared).TypeIs (.ref a) "list" from ⟨_,hx,rfl⟩) (F.args_list_getattribute_2 _ _) (Kc hx hh hq))
theorem yV{Q:Option Value→Shared→Prop}(hx:h.get? a=some { cls:=.type "list", data:=.seq xs n })(hh:A.handled=none)
  (hq:∀ h' tk',(∀ b o,h.get? b=some o→h'.get? b=some o)→Q none ⟨h',g,d,tk',os⟩):wpAny (model prog w) A (getAttr? (.ref a) "keys") Q E ⟨h,g,d,t,os⟩:=by
 have hT:(⟨h,g,d,t,os⟩:Shared).TypeIs (.ref a) "list" := ⟨_,hx,rfl⟩
 have f1:=sub_AttributeError;have f2:=F.slot_list_getattribute.lookup;have f3:=F.slot_list_getattribute.bind (.ref a);have f5:=Kb;unfold getAttr? getAttrBy? getAttrBy
 repeat (any_goals (first | assumption | wp_step))
 refine Kd hx hh fun h' tk' e hx=>?_;obtain⟨t',u',he⟩:=hx.there
 repeat (any_goals (first | assumption | wp_step))
 exact hq _ _ hx.keeps
end
theorem yW:entryFor table "dict.update.loop" = some Builtin.«dict.update.loop»:=entryFor_of_tree (by kernel_rfl)
theorem kI:plainId "dict.update.loop" = true:=by decide +kernel
section
variable {prog:Program} {w:World}
noncomputable def fH(h:Heap):List Value→List (Str×Value)→Prop
 | [],[]=>True
 |v::vs,kv::kvs=>(∃ a t,v=.ref a∧PlT h a #[.str kv.1 t,kv.2])∧fH h vs kvs
 |_,_=>False
theorem fH.at{h:Heap}:∀ {vs:List Value} {kvs:List (Str×Value)},fH h vs kvs→∀ {i:Nat} {v:Value},vs[i]?=some v→∃ kv a t,kvs[i]?=some kv∧v=.ref a∧PlT h a #[.str kv.1 t,kv.2]
 |_::_,_::_,p,0,_,e=>by obtain rfl:=si e;obtain⟨a,t,h1,h2⟩:=p.1;exact⟨_,a,t,rfl,h1,h2⟩
 |_::_,_::_,p,i+1,_,e=>p.2.at (i:=i) e
 | [],[],_,i,_,e=>by exact ns e
 | [],_::_,p,_,_,_=>p.elim
 |_::_,[],p,_,_,_=>p.elim
theorem fH.len{h:Heap}:∀ {vs:List Value} {kvs:List (Str×Value)},fH h vs kvs→vs.length=kvs.length
 | [],[],_=>rfl
 |_::_,_::_,p=>congrArg Nat.succ p.2.len
 | [],_::_,p=>p.elim
 |_::_,[],p=>p.elim
theorem yX{A:Around}{R:Result→Shared→Prop}(hh:A.handled=none){I l D:Addr}(hlI:l≠I)(hDI:D≠I)(hDl:D≠l){vs:List Value}{kvs:List (Str×Value)}(hn:kvs.length≤sizeLine){h₀:Heap}(hp:fH h₀ vs kvs)(hD0:h₀.get? D=none)(hI0:h₀.get? I=none) :
  ∀ (k i:Nat) (s:Shared),kvs.length - i=k→i≤kvs.length→s.heap.IsListIter I l i∧s.heap.IsList l vs.toArray→(∀ b o,h₀.get? b=some o→s.heap.get? b=some o)→s.heap.DictOf (strKind prog w) D (merged [] (kvs.take i)) →
   (∀ h' tk,(∀ b o,h₀.get? b=some o→h'.get? b=some o)→h'.DictOf (strKind prog w) D (merged [] kvs)→R (.ok (.ret .none)) { s with heap:=h',toks:=tk }) →
   codeAny (model prog w) A (.builtin "dict.update.loop" ⟨[.ref D,.ref I,rawInt i,.none],[]⟩) R s:=by
 have W:=Walks.list (prog:=prog) (w:=w) (A:=A.in1) hh I l hlI vs.toArray;have hlen:=hp.len;have new:∀ b o,h₀.get? b=some o→b≠D∧b≠I:=fun b o e=>⟨fun x=>by (rw[x,hD0] at e;exact ns e),fun x=>by (rw[x,hI0] at e;exact ns e)⟩
 intro k
 induction k with
 |zero =>
  intro i s hk hi hst hkeep hd hR;have hin:i=kvs.length:=by exact vB hk hi
  subst hin;refine codeAny_builtin yW ?_;rw[Around.under_plainId kI _];show wpAny _ A.in1 (pyNext (.ref I) >>= _) _ _ s;refine wpAny_bind (W.done s _ _ (by rw[List.size_toArray,hlen];exact hst) fun h' tk hk'=>?_);rw[List.take_length] at hd;refine wpAny_bind (wpAny_pure (wpAny_pure (hR h' tk (fun b o e=>hk' b o (fun hb=>(new b o e).2 (List.mem_singleton.mp hb)) (hkeep b o e)) ?_)));obtain⟨o,es,ep,e,r⟩:=hd;exact⟨o,es,ep,hk' _ _ (fun hb=>hDI (List.mem_singleton.mp hb)) e,r⟩
 |succ k ih =>
  intro i s hk hi hst hkeep hd hR;have hlt:i < kvs.length:=by exact vC hk
  refine codeAny_builtin yW ?_;rw[Around.under_plainId kI _];show wpAny _ A.in1 (pyNext (.ref I) >>= _) _ _ s;refine wpAny_bind (W.item i s _ _ (by rw[List.size_toArray,hlen];exact hlt) hst fun v h' tk hP hst' hm=>?_);obtain⟨kv,a,t,e1,rfl,n,e2⟩:=hp.at (by simpa using hP);have hm':∀ b o,h₀.get? b=some o→h'.get? b=some o:=fun b o e=>hm b o (fun hb=>(new b o e).2 (List.mem_singleton.mp hb)) (hkeep b o e);have hd':h'.DictOf (strKind prog w) D (merged [] (kvs.take i)):=by
   obtain⟨o,es,ep,e,r⟩:=hd;exact⟨o,es,ep,hm _ _ (fun hb=>hDI (List.mem_singleton.mp hb)) e,r⟩
  have ha:=hm' _ _ e2;refine wpAny_bind (wpAny_holding (wpAny_bind (wpAny_tryCatch ?_)));unfold Builtin.Dict.pairItems;refine wpAny_bind (wpAny_typeOf (T := "tuple") ⟨_,ha,rfl⟩ ?_);rw[if_pos (by decide)];refine wpAny_bind (wpAny_seqItems ha rfl (wpAny_pure ?_));show wpAny _ _ (holding [Value.str kv.1 t,kv.2] (dictSet D (.str kv.1 t) kv.2)) _ _ _;have hz:(merged ([]:List (Str×Value)) (kvs.take i)).length≤sizeLine:=Nat.le_trans (merged_length_le _ _) (by simp;exact Ei hn);refine wpAny_holding (wpAny_dictSet_pairs (knd:=strKind prog w) (dM kv.1 t) hd' (fun h'' hd'' hs=>?_) hz);rw[← merged_take_succ [] kvs i kv e1] at hd'';have ks:∀ b o,b≠D→h'.get? b=some o→h''.get? b=some o:=fun b o hb e=>by rw[hs.2 b hb];exact e
  refine wpAny_pure ⟨plainId_quiet kI _,?_⟩;refine ih (i+1) _ (by exact vD hk) hlt ?_ (fun b o e=>ks b o (new b o e).1 (hm' b o e)) hd'' hR;exact W.frame _ h' _ hst' fun b hb o e=>ks b o (fun x=>by
   subst x;rcases List.mem_cons.mp hb with hb | hb
   ·exact hDI hb
   ·exact hDl (List.mem_singleton.mp hb)) e
end
section
variable {prog:Program} {w:World}
noncomputable def KV(prog:Program)(w:World)(h:Heap)(av:Addr→Prop):List (Str×Value)→List (PyData×PyData)→Prop
 | [],[]=>True
 |kv::r,d::t=>d.1=.str kv.1∧Rep prog w h av kv.2 d.2∧KV prog w h av r t
 |_,_=>False
theorem KV.out{h:Heap}{av:Addr→Prop}:∀ {kvs:List (Str×Value)} {ds:List (PyData×PyData)},KV prog w h av kvs ds →
  ds.map (·.1)=kvs.map (fun kv=>PyData.str kv.1)∧∀ (i:Nat) (kv:Str×Value) (d:PyData×PyData),kvs[i]?=some kv→ds[i]?=some d→Rep prog w h av kv.2 d.2
 | [],[],_=>⟨rfl,fun i kv d e=>by simp at e⟩
 |kv::r,d::t,x=>by
  obtain⟨x1,x2,x3⟩:=x;obtain⟨y1,y2⟩:=KV.out x3;refine⟨by simp[x1,y1],fun i kv' d' e1 e2=>?_⟩;cases i with
  |zero=>simp at e1 e2;subst e1;subst e2;exact x2
  |succ i=>exact y2 i kv' d' (by simpa using e1) (by simpa using e2)
 | [],_::_,x=>x.elim
 |_::_,[],x=>x.elim
theorem KV.of{h:Heap}{av:Addr→Prop}:∀ {kvs:List (Str×Value)} {ds:List (PyData×PyData)},ds.map (·.1)=kvs.map (fun kv=>PyData.str kv.1) →
  (∀ (i:Nat) (kv:Str×Value) (d:PyData×PyData),kvs[i]?=some kv→ds[i]?=some d→Rep prog w h av kv.2 d.2)→KV prog w h av kvs ds
 | [],[],_,_=>trivial
 |kv::r,d::t,e,x=>by
  simp at e;exact⟨e.1,x 0 kv d rfl rfl,KV.of (by simpa using e.2) fun i kv d e1 e2=>x (i+1) kv d (by simpa using e1) (by simpa using e2)⟩
 | [],_::_,e,_=>by simp at e
 |_::_,[],e,_=>by simp at e
theorem KV.mono{h h':Heap}{av av':Addr→Prop}(hk:∀ b o,¬ av b→h.get? b=some o→h'.get? b=some o)(ha:∀ b o,h.get? b=some o→av' b→av b):∀ {kvs:List (Str×Value)} {ds:List (PyData×PyData)},
  KV prog w h av kvs ds→KV prog w h' av' kvs ds
 | [],[],_=>trivial
 |_::_,_::_,x=>⟨x.1,x.2.1.mono hk ha,x.2.2.mono hk ha⟩
 | [],_::_,x=>x.elim
 |_::_,[],x=>x.elim
theorem Ke{y:Str}{v0:Value}{r:List (Str×Value)}{k:Str}{v:Value}(hn:(((y,v0)::r).map (·.1)).Nodup):stored ((y,v0)::r) k v=if k=y then (y,v)::r else (y,v0)::stored r k v:=by
 unfold stored
 by_cases h:k=y
 ·subst h;simp only[List.any_cons,decide_true,Bool.true_or,if_true,List.map_cons];congr 1;have hn':k∉r.map (·.1):=(List.nodup_cons.mp (show(k::r.map (·.1)).Nodup from hn)).1;have:∀ kv∈r,(if kv.1=k then (kv.1,v) else kv)=kv:=fun kv hkv=>by
   rw[if_neg];intro e;exact hn' (e▸List.mem_map_of_mem hkv)
  exact(List.map_congr_left this).trans (List.map_id' r)
 ·rw[if_neg h];have hne:¬ y=k:=fun e=>h e.symm;simp only[List.any_cons,hne,decide_false,Bool.false_or,List.map_cons,if_false,List.cons_append]
  split<;>rfl
theorem Kf{kvs:List (Str×Value)}{k:Str}{v:Value}(hn:(kvs.map (·.1)).Nodup):((stored kvs k v).map (·.1)).Nodup:=by
 unfold stored
 split
 ·have:(kvs.map (fun kv=>if kv.1=k then (kv.1,v) else kv)).map (·.1)=kvs.map (·.1):=by
   rw[List.map_map];refine List.map_congr_left fun kv _=>?_;show(if kv.1=k then (kv.1,v) else kv).1=kv.1
   split<;>rfl
  rw[this];exact hn
 ·rename_i h;rw[List.map_append,List.nodup_append];refine⟨hn,by simp,fun a ha b hb hab=>?_⟩;simp at hb;subst hb;subst hab;obtain⟨kv,hkv,rfl⟩:=List.mem_map.mp ha;exact h (List.any_eq_true.mpr ⟨kv,hkv,by simp⟩)
theorem yY{kvs:List (Str×Value)}{k:Str}{v:Value}(hx:∀ kv∈kvs,kv.1.length≤sizeLine)(hk:k.length≤sizeLine):∀ kv∈stored kvs k v,kv.1.length≤sizeLine:=by
 intro kv h;unfold stored at h
 split at h
 ·obtain⟨kv',h',rfl⟩:=List.mem_map.mp h
  split
  ·exact hx kv' h'
  ·exact hx kv' h'
 ·rcases List.mem_append.mp h with h | h
  ·exact hx kv h
  ·simp at h;subst h;exact hk
theorem KV.set{h:Heap}{av:Addr→Prop}{k:Str}{v:Value}{d:PyData}(hv:Rep prog w h av v d):∀ {kvs:List (Str×Value)} {ds:List (PyData×PyData)},(kvs.map (·.1)).Nodup→KV prog w h av kvs ds→KV prog w h av (stored kvs k v) (dT ds k d)
 | [],[],_,_=>⟨rfl,hv,trivial⟩
 | (y,v0)::r,(dk,d0)::t,hn,x=>by
  obtain⟨x1,x2,x3⟩:=x;have x1:dk=.str y:=x1;subst x1;rw[Ke hn];show KV prog w h av _ (if k=y then (.str y,d)::t else (.str y,d0)::dT t k d)
  split
  ·exact⟨rfl,hv,x3⟩
  ·exact⟨rfl,x2,KV.set hv (List.nodup_cons.mp (show(y::r.map (·.1)).Nodup from hn)).2 x3⟩
 | [],_::_,_,x=>x.elim
 |_::_,[],_,x=>x.elim
noncomputable def PS(prog:Program)(w:World)(h:Heap)(av:Addr→Prop):List (Str×Value)→List (Str×PyData)→Prop
 | [],[]=>True
 |kv::r,p::t=>kv.1=p.1∧kv.1.length≤sizeLine∧Rep prog w h av kv.2 p.2∧PS prog w h av r t
 |_,_=>False
theorem KV.sets{h:Heap}{av:Addr→Prop}:∀ {kvs:List (Str×Value)} {ps:List (Str×PyData)} {acc:List (Str×Value)} {dacc:List (PyData×PyData)},PS prog w h av kvs ps→(acc.map (·.1)).Nodup→KV prog w h av acc dacc→(∀ kv∈acc,kv.1.length≤sizeLine) →
  KV prog w h av (merged acc kvs) (cK ps dacc)∧∀ kv∈merged acc kvs,kv.1.length≤sizeLine
 | [],[],_,_,_,_,x,hz=>⟨x,hz⟩
 | (k,v)::r,(k',d)::t,acc,dacc,y,hn,x,hz=>by
  obtain⟨y1,y2,y3,y4⟩:=y;obtain rfl:k=k':=y1;exact(KV.sets (kvs:=r) (ps:=t) y4 (Kf hn) (KV.set y3 hn x) (yY hz y2):KV prog w h av (merged (stored acc k v) r) (cK t (dT dacc k d))∧_)
 | [],_::_,_,_,x,_,_,_=>x.elim
 |_::_,[],_,_,x,_,_,_=>x.elim
theorem PS.length{h:Heap}{av:Addr→Prop}:∀ {kvs:List (Str×Value)} {ps:List (Str×PyData)},PS prog w h av kvs ps→kvs.length=ps.length
 | [],[],_=>rfl
 |_::r,_::t,x=>congrArg (·+1) (PS.length (kvs:=r) (ps:=t) x.2.2.2)
 | [],_::_,x=>x.elim
 |_::_,[],x=>x.elim
theorem yZ{s s₁ s':Shared}{av:Addr→Prop}{a:Addr}{kvs:List (Str×Value)}{ps:List (Str×PyData)}(k0:Kp s s₁)(k:Kp s₁ s')(hn:s₁.heap.get? a=none)(hm:(a==sysModules)=false)(hp:s'.heap.DictOf (strKind prog w) a (merged [] kvs))
  (hl:ps.length≤sizeLine) (x:PS prog w s₁.heap av kvs ps):Kp s s'∧aY prog w s s'.heap av (.ref a) (.own (.dict (cK ps []))):=by
 obtain⟨y1,y2⟩:=KV.sets x (acc:=[]) List.nodup_nil (show KV prog w s₁.heap av [] [] from trivial) (fun x hx=>cD hx);obtain⟨z1,z2⟩:=y1.out;exact yM k0 k hn hm hp ⟨Nat.le_trans (merged_length_le [] kvs) (by rw[x.length];simpa using hl),y2⟩ z1 z2
end
section
variable {prog:Program} {w:World}
theorem y0(r:List Str)(x:Str):(bY (x::r)).length=if r.contains x then (bY r).length else (bY r).length+1:=by
 show(if r.contains x then bY r else x::bY r).length=_
 split<;>rfl
theorem rE:∀ l:List Str,(bY l).length≤l.length
 | []=>Nat.le_refl _
 |a::r=>by
  rw[y0];have:=rE r
  split
  ·exact Nat.le_succ_of_le this
  ·exact Nat.succ_le_succ this
noncomputable def met(ss:List Str)(i:Nat):List Str:=(ss.take i).reverse
theorem y6{ss:List Str}{i:Nat}{x:Str}(h:ss[i]?=some x):met ss (i+1)=x::met ss i:=by
 unfold met;rw[List.take_add_one,h];simp
theorem y9(ss:List Str)(i:Nat):(met ss i).length≤ss.length:=by
 unfold met;simp;exact Ej
theorem Kg{A:Around}{R:Result→Shared→Prop}{I:Addr}{fp wr:List Addr}{ss:List Str}{P:Nat→Value→Prop}{St:Nat→Heap→Prop}(W:Walks prog w A.in1 I fp wr ss.length P St)(S:Addr)(hSf:S∉fp)
  (hval:∀ i v,P i v→∃ x t,ss[i]?=some x∧v=.str x t) (hb:ss.length+1 < scanBound) :
  ∀ (k i:Nat) (s:Shared),ss.length - i=k→i≤ss.length→St i s.heap→s.heap.SetOf (strKind prog w) S (fun k'=>(met ss i).contains k') (bY (met ss i)).length →
   (∀ h' tk,(∀ b o,b∉S::wr→s.heap.get? b=some o→h'.get? b=some o)→h'.SetOf (strKind prog w) S (fun k'=>(met ss ss.length).contains k') (bY (met ss ss.length)).length→R (.ok (.ret .none)) { s with heap:=h',toks:=tk }) →
   codeAny (model prog w) A (.builtin "set.update.loop" ⟨[.ref S,.ref I],[]⟩) R s:=by
 have hSw:S∉wr:=fun h=>hSf (W.sub _ h);intro k
 induction k with
 |zero =>
  intro i s hk hi hst hS hR;have hin:i=ss.length:=by exact vB hk hi
  subst hin;refine codeAny_builtin PyProof.Rows.F.entry_set_update_loop ?_;rw[Around.under_plainId PyProof.Rows.F.plain_set_update_loop _];show wpAny _ A.in1 (pyNext (.ref I) >>= _) _ _ s;refine wpAny_bind (W.done s _ _ hst fun h' tk hm=>?_);refine wpAny_pure (hR h' tk (fun b o hb e=>hm b o (fun h=>hb (List.mem_cons_of_mem _ h)) e) ?_);obtain⟨o,es,ep,t,ho,rest⟩:=hS;exact⟨o,es,ep,t,hm S _ hSw ho,rest⟩
 |succ k ih =>
  intro i s hk hi hst hS hR;have hlt:i < ss.length:=by exact vC hk
  refine codeAny_builtin PyProof.Rows.F.entry_set_update_loop ?_;rw[Around.under_plainId PyProof.Rows.F.plain_set_update_loop _];show wpAny _ A.in1 (pyNext (.ref I) >>= _) _ _ s;refine wpAny_bind (W.item i s _ _ hlt hst fun v h' tk hP hst' hm=>?_);obtain⟨x,t,hx,rfl⟩:=hval i v hP;have hS':h'.SetOf (strKind prog w) S (fun k'=>(met ss i).contains k') (bY (met ss i)).length:=by
   obtain⟨o,es,ep,tb,ho,rest⟩:=hS;exact⟨o,es,ep,tb,hm S _ hSw ho,rest⟩
  show wpAny _ A.in1 (holding [Value.str x t] (setAdd S (.str x t)) >>= _) _ _ _;refine wpAny_bind (wpAny_holding ?_);unfold setAdd;refine wpAny_holding ?_;refine wpAny_bind ((strKind prog w).pyHash (k:=x) (dM x t) ?_);have hroom:(bY (met ss i)).length+1 < scanBound:=by have:=rE (met ss i);have:=y9 ss i;lia
  refine wpAny_setAddHashed_of (knd:=strKind prog w) (s:={ s with heap:=h',toks:=tk+1 }) (dM x t) rfl hS' hroom fun h'' hsb hS2=>?_;have hSi:h''.SetOf (strKind prog w) S (fun k'=>(met ss (i+1)).contains k') (bY (met ss (i+1))).length :=
   PyProof.Rows.SetOf_congr hS2 (fun k'=>by rw[y6 hx,List.contains_cons,Bool.or_comm];congr 1) (by rw[y6 hx,y0])
  refine wpAny_pure ⟨plainId_quiet PyProof.Rows.F.plain_set_update_loop _,ih (i+1) _ (by exact vD hk) hlt (W.frame _ h' _ hst' fun b hb o e=>?_) hSi fun h3 tk3 hk3 hS3=>hR h3 tk3 (fun b o hb e=>hk3 b o hb ?_) hS3⟩
  ·rw[hsb.2 b (fun h:b=S=>hSf (by rw[← h];exact hb))];exact e
  ·rw[hsb.2 b (fun h:b=S=>hb (by rw[h];exact List.mem_cons_self))];exact hm b o (fun h=>hb (List.mem_cons_of_mem _ h)) e
set_option maxHeartbeats 3200000 in
theorem zA{A:Around}{E:Value→Shared→Prop}{s:Shared}{l:Addr}{T:String}{items:Array Value}{nl:Nat}{ss:List Str}{Q:Value→Shared→Prop}{oI:Obj}{St:Addr→Nat→Heap→Prop}(hh:A.handled=none)(hol:s.heap.get? l=some { cls:=.type T,data:=.seq items nl })
  (hsls:isSubtype (.type T) (.type "set")=pure false) (hslf:isSubtype (.type T) (.type "frozenset")=pure false) (hne:(Value.type T==Value.type "dict")=false) (hsz:items.size=ss.length)
  (hit:∀ (A':Around) (s':Shared) (Q:Value→Shared→Prop) (E:Value→Shared→Prop),s'.heap.get? l=some { cls:=.type T,data:=.seq items nl }→Q (.ref s'.heap.objs.size) { s' with heap:=s'.heap.push oI }→wpAny (model prog w) A' (pyIter (.ref l)) Q E s')
  (hW:∀ (A':Around) (I:Addr),A'.handled=none→l≠I→Walks prog w A' I [I,l] [I] items.size (fun i v=>items[i]?=some v) (St I))
  (hst:∀ (h:Heap),h.get? l=some { cls:=.type T,data:=.seq items nl }→St h.objs.size 0 (h.push oI))
  (hval:∀ (i:Nat) (v:Value),items[i]?=some v→∃ x t,ss[i]?=some x∧v=.str x t) (hb:ss.length+1 < scanBound)
  (h:∀ (h':Heap) (tk:Nat),h'.SetOf (strKind prog w) s.heap.objs.size (fun k'=>(met ss ss.length).contains k') (bY (met ss ss.length)).length →
   (∀ b o,s.heap.get? b=some o→h'.get? b=some o)→Q (.ref s.heap.objs.size) { s with heap:=h',toks:=tk }) :
  wpAny (model prog w) A (call (.type "set") [.ref l]) Q E s:=by
 obtain⟨c,tl,hmro⟩:=F.called_set.mro;have hmade:=F.called_set.made;have hsub:=F.called_set.sub;refine wpAny_call (codeAny_of_tree ?_);show wpAny _ _ (callAny (.type "set") _) _ _ _;refine wpAny_pure ⟨Code.quiet_builtin _ (by decide +kernel),codeAny_builtin F.entry_type_call ?_⟩;rw[Around.under_plain (weight_type_call_type "set" [.ref l] []) rfl];have h1:=F.called_set.notType;have h2:=F.called_set.canCreate;have hct:=F.typeCall_set_1 (.ref l)
 repeat (any_goals (first | assumption | wp_step))
 refine codeAny_mono (code_set_new_1 (.ref l) (E:=E) (Q₁:=fun obj s₁=>∃ led:Bool,obj=.ref s.heap.objs.size∧s₁={ s with heap:=s.heap.push { cls:=.type "set", dict:=none,data:=.set #[] 0 (.fresh 0 0 led) } }) fun led=>⟨led,rfl,rfl⟩) fun r s₁ hr=>?_;cases r with
 |error e=>exact hr
 |ok fl =>
  cases fl with
  |ret obj =>
   obtain⟨led,rfl,rfl⟩:=hr;have hS:(s.heap.push { cls:=.type "set", dict:=none,data:=.set #[] 0 (.fresh 0 0 led) }).get? s.heap.objs.size=some { cls:=.type "set", dict:=none,data:=.set #[] 0 (.fresh 0 0 led) }:=Heap.get?_push_size _ rfl;have hT:Shared.TypeIs { s with heap:=s.heap.push { cls:=.type "set", dict:=none,data:=.set #[] 0 (.fresh 0 0 led) } } (.ref s.heap.objs.size) "set" := ⟨_,hS,rfl⟩
   have hli:=F.called_set.init.lookup;have hbi:=F.called_set.init.bind (.ref s.heap.objs.size)
   repeat (any_goals (first | assumption | wp_step))
   refine codeAny_mono (codeAny_call_builtin (R:=wants (fun r s₂=>r=.none∧∃ h' tk,s₂={ s with heap:=h',toks:=tk } ∧
     h'.SetOf (strKind prog w) s.heap.objs.size (fun k'=>(met ss ss.length).contains k') (bY (met ss ss.length)).length ∧
     (∀ b o,s.heap.get? b=some o→h'.get? b=some o)) E) F.called_set.init.plain F.entry_set_init (check_set_init_1 hT ?_)) fun r₂ s₂ hr₂=>?_
   ·have hol':(s.heap.push { cls:=.type "set", dict:=none,data:=.set #[] 0 (.fresh 0 0 led) }).get? l=some { cls:=.type T,data:=.seq items nl }:=Heap.get?_push_of_some _ hol;unfold Builtin.«set.__init__» noKeywords Builtin.Frozenset.updateFrom;generalize hPI:pyIter=PI
    wp_walk
    subst hPI;refine hit _ _ _ _ hol' ?_;refine wpAny_bind (wpAny_runValue ?_);have hlS:l < s.heap.objs.size:=Heap.lt_size hol;have hneI:l≠(s.heap.push { cls:=.type "set", dict:=none,data:=.set #[] 0 (.fresh 0 0 led) }).objs.size:=by
     rw[Heap.size_push];exact Nat.ne_of_lt (Nat.lt_succ_of_lt hlS)
    have hSf:s.heap.objs.size∉[(s.heap.push { cls:=.type "set", dict:=none,data:=.set #[] 0 (.fresh 0 0 led) }).objs.size,l]:=by
     rw[Heap.size_push];simp only[List.mem_cons,List.mem_singleton,List.not_mem_nil,or_false,not_or];exact⟨Nat.ne_of_lt (Nat.lt_succ_self _),Nat.ne_of_gt hlS⟩
    refine Kg (hsz▸hW _ _ (by simp[hh]) hneI) s.heap.objs.size hSf hval hb ss.length 0 _ rfl (Nat.zero_le _) (hst _ hol') ?hS0 fun h' tk' hk hS'=>?hR
    case hS0 =>
     exact PyProof.Rows.SetOf_congr ((PyProof.Rows.setObjOf_fresh (knd:=strKind prog w) led).setOf (Heap.get?_push_of_some _ hS) (by unfold scanBound;exact Ek)) (fun _=>rfl) rfl
    case hR =>
     show wpAny _ _ _ _ _ _;refine wpAny_pure ?_;show wpAny _ _ (ret Value.none) _ _ _;refine wpAny_pure ⟨rfl,h',tk',rfl,hS',fun b o e=>?_⟩;have hb:=Heap.lt_size e;refine hk b o ?_ (Heap.get?_push_of_some _ (Heap.get?_push_of_some _ e));rw[Heap.size_push];intro hm;rcases List.mem_cons.mp hm with hm | hm
     ·exact absurd hb (by rw[hm];exact Nat.lt_irrefl _)
     ·exact absurd hb (by rw[List.mem_singleton.mp hm];exact Nat.not_lt.mpr (Nat.le_succ _))
   ·cases r₂ with
    |error e=>exact hr₂
    |ok fl₂ =>
     cases fl₂ with
     |ret r =>
      obtain⟨rfl,h',tk,rfl,hS',hk'⟩:=hr₂
      repeat (any_goals (first | assumption | wp_step))
      exact h _ _ hS' hk'
     |_=>exact hr₂.elim
  |_=>exact hr.elim
end
section
variable {prog:Program} {w:World} {mg mb:Str→Option Value} {base:Heap}
theorem Kh{d:PyData}{p:PyData×PyData}(e:two d=some p):d=.tuple [p.1,p.2]:=by
 cases d with
 |tuple ds =>
  rcases ds with _ | ⟨a,_ | ⟨b,_ | ⟨c,r⟩⟩⟩
  ·exact ns e
  ·exact ns e
  ·obtain rfl:=si e;rfl
  ·exact ns e
 |_=>exact ns e
theorem Ki{α:Type}{l:List α}(h:l.length=2):∃ x y,l=[x,y]:=by
 rcases l with _ | ⟨a,_ | ⟨b,_ | ⟨c,r⟩⟩⟩
 ·cases h
 ·cases h
 ·exact⟨a,b,rfl⟩
 ·cases h
theorem Rep.two{h:Heap}{av:Addr→Prop}{v:Value}{d:PyData}{p:PyData×PyData}(r:Rep prog w h av v d)(e:two d=some p):∃ a x y,v=.ref a∧PlT h a #[x,y]∧Rep prog w h av x p.1∧Rep prog w h av y p.2:=by
 rw[Kh e] at r;obtain⟨a,vs,rfl,h1,h2,h3,h4,h5⟩:=r.tuple_inv;obtain⟨x,y,rfl⟩:=Ki h3;exact⟨a,x,y,rfl,h2,h5 0 _ _ rfl rfl,h5 1 _ _ rfl rfl⟩
theorem Kj{h:Heap}{av:Addr→Prop}:∀ {vs:List Value} {ds:List PyData} {ps:List (PyData×PyData)} {qs:List (Str×PyData)},vs.length=ds.length→(∀ (i:Nat) (v:Value) (d:PyData),vs[i]?=some v→ds[i]?=some d→Rep prog w h av v d) →
  twos? ds=some ps→keys? ps=some qs→∃ kvs,fH h vs kvs∧PS prog w h av kvs qs:=by
 intro vs
 induction vs with
 |nil =>
  intro ds ps qs hl hr e1 e2;cases ds with
  |nil=>obtain rfl:=si e1;obtain rfl:=si e2;exact⟨[],trivial,trivial⟩
  |cons=>exact nomatch hl
 |cons v vs ih =>
  intro ds ps qs hl hr e1 e2;cases ds with
  |nil=>exact nomatch hl
  |cons d ds =>
   replace e1:((two d).bind fun p=>(twos? ds).map (p::·))=some ps:=e1;refine ocs (two d) (fun hp=>?_) fun p hp=>?_
   ·rw[hp] at e1;exact ns e1
   ·rw[hp] at e1;obtain⟨ps',e1',rfl⟩:=Option.map_eq_some_iff.mp (show(twos? ds).map (p::·)=some ps from e1);obtain⟨a,x,y,rfl,g1,g2,g3⟩:=(hr 0 v d rfl rfl).two hp;obtain⟨p1,p2⟩:=p;cases p1 with
    |str k =>
     obtain⟨qs',e2',rfl⟩:=Option.map_eq_some_iff.mp (show(keys? ps').map ((k,p2)::·)=some qs from e2);obtain⟨t,hx,hk⟩:=(show Rep prog w h av x (.str k) from g2).str_inv;subst hx;obtain⟨kvs,z1,z2⟩:=ih (ds:=ds) (Nat.succ.inj hl) (fun i v d e1 e2=>hr (i+1) v d e1 e2) e1' e2';exact⟨(k,y)::kvs,⟨⟨a,t,rfl,g1⟩,z1⟩,rfl,hk,g3,z2⟩
    |_=>exact ns e2
theorem zB{ss:List Str}{ts:List Tok}(e1:ts.length=ss.length){i:Nat}{v:Value}(e:(List.zipWith (fun x t=>Value.str x t) ss ts)[i]?=some v):∃ x t,ss[i]?=some x∧v=.str x t:=by
 rw[List.getElem?_zipWith] at e;cases hs:ss[i]? with
 |none=>rw[hs] at e;exact ns e
 |some x =>
  cases ht:ts[i]? with
  |none=>rw[hs,ht] at e;exact ns e
  |some t=>rw[hs,ht] at e;obtain rfl:=si e;exact⟨x,t,rfl,rfl⟩
theorem Kk{l:List Env}{A:Around}{s:Shared}{av:Addr→Prop}{v:Value}{d:PyData}(hh:A.handled=none)(G:Gnd prog w mg mb base l av s)(r:Rep prog w s.heap av v d):YV prog w A s av (call (.type "dict") [v]) (b6 d):=by
 cases d with
 |dict m =>
  obtain⟨a,kvs,rfl,h1,h2,h3,h4,h5,h6⟩:=r.dict_inv;intro Q E hq;exact kt_call_dict (knd:=strKind prog w) h4 h2 h3.1 fun h' hd hs=>hq _ _ (yM (Kp.rfl' s) (Kp.mkh (J6 hs)) (bK _) (kH G) hd h3 h5 h6)
 |list m =>
  obtain⟨a,vs,rfl,h1,⟨nn,h2⟩,h3,h4,h5⟩:=r.list_inv;refine Yd.optBind fun ps hps=>Yd.optBind fun qs hqs=>Yd.ite fun hlt=>?_;obtain⟨kvs,g1,g2⟩:=Kj h3 h5 hps hqs;have hz:kvs.length≤sizeLine:=by rw[g2.length];exact Nat.le_trans (Nat.le_of_lt hlt) (by decide)
  intro Q E hq;refine callType_codes (Q₁:=fun obj s₁=>obj=.ref s.heap.objs.size∧s₁={ s with heap:=s.heap.push { cls:=.type "dict", data:=.dict #[] } }) F.kt_called_dict (F.kt_typeCall_dict_1 _) F.entry_dict_init (kt_code_dict_new _ ⟨rfl,rfl⟩) ?_
  rintro obj s₁ ⟨rfl,rfl⟩
  have hnew:(s.heap.push { cls:=.type "dict", data:=.dict #[] }).DictOf (strKind prog w) s.heap.objs.size []:=Heap.DictOf.new s.heap;have h2':(s.heap.push { cls:=.type "dict", data:=.dict #[] }).get? a=some _:=Heap.get?_push_of_some _ h2;refine⟨hnew.typeIs,F.args_dict_init_2 _ _,?_⟩;unfold Builtin.«dict.__init__»;refine wpAny_bind ?_;unfold Builtin.Dict.selfAndRest;refine wpAny_bind (wpAny_notOrdered_dict hnew.typeIs ?_);show wpAny _ _ (pure (s.heap.objs.size,[Value.ref a])) _ _ _;refine wpAny_pure ?_;show wpAny _ _ (Builtin.Dict.updateFrom "dict.__init__" s.heap.objs.size (.ref a) [] .none) _ _ _;unfold Builtin.Dict.updateFrom;refine wpAny_bind (wpAny_typeOf (T := "list") ⟨_,h2',rfl⟩ ?_);rw[if_pos (by decide)];refine wpAny_bind (yV h2' hh fun h' tk hk=>?_);rw[if_pos (show(none:Option Value).isNone=true from rfl)];refine wpAny_bind (wpAny_rule ?_);have hD:=hnew.keep hk;have h2'':=hk _ _ h2';refine wpAny_bind (wpAny_pyIter_list ⟨_,h2'',rfl,nn,rfl⟩ (wpAny_pure ⟨plainId_quiet kI _,?_⟩));have lt1:s.heap.objs.size < h'.objs.size:=(by obtain⟨o,_,_,e,_⟩:=hD;exact Heap.lt_size e)
  have lt2:a < s.heap.objs.size:=Heap.lt_size h2;have old:∀ b o,s.heap.get? b=some o→(h'.push { cls:=.type "list_iterator", data:=.fields #[Value.ref a,rawInt 0] }).get? b=some o:=fun b o e=>Heap.get?_push_of_some _ (hk _ _ (Heap.get?_push_of_some _ e));refine yX (A:=A.in1) (I:=h'.objs.size) (l:=a) (D:=s.heap.objs.size) (vs:=vs) (kvs:=kvs) hh (Nat.ne_of_lt (Nat.lt_trans lt2 lt1)) (Nat.ne_of_lt lt1) (Nat.ne_of_gt lt2) hz g1 (bK _) (Heap.get?_none_of_le (Nat.le_of_lt lt1)) kvs.length 0 _ rfl (Nat.zero_le _)
   ⟨⟨_,cH _ _ rfl,rfl,rfl⟩,⟨_,Heap.get?_push_of_some _ h2'',rfl,nn,rfl⟩⟩ old (hD.push _) fun h'' tk' hk'' hd''=>⟨rfl,hq _ _ ?_⟩
  exact yZ (Kp.rfl' s) (Kp.mk' hk'') (bK _) (kH G) hd'' (by rw[← g2.length];exact hz) g2
 |_=>exact trivial
theorem Kl{A:Around}{s:Shared}{av:Addr→Prop}{v:Value}{d:PyData}(hh:A.handled=none)(hav:∀ b,av b→∃ o,s.heap.get? b=some o)(r:Rep prog w s.heap av v d) :
  Yd (fun Q E=>wpAny (model prog w) A (call (.builtin "dict.items") [v]) (fun x s₁=>wpAny (model prog w) A (call (.type "list") [x]) Q E s₁) E s) (fun v s' u=>Kp s s'∧aY prog w s s'.heap av v u) (eT d):=by
 cases d with
 |dict m =>
  obtain⟨a,kvs,rfl,h1,h2,h3,h4,h5,h6⟩:=r.dict_inv;intro Q E hq;refine call_meetsIn F.slot_dict_items h2.typeIs F.entry_dict_items (F.args_dict_items_1 _) (meets_dict_items (strKind prog w) a h4) ⟨⟨kvs,h2⟩,?_⟩;obtain⟨o,es,ep,hd⟩:=h2;have hp:∀ b o,s.heap.get? b=some o→(s.heap.push { cls:=.type "dict_items", data:=.fields #[.ref a] }).get? b=some o:=fun b o e=>Heap.get?_push_of_some _ e;have fr:∀ {x:Addr},s.heap.objs.size < x→s.heap.get? x=none:=fun hx=>Heap.get?_none_of_le (Nat.le_of_lt hx);have hlen:m.length=kvs.length:=by simpa using congrArg List.length h5
  refine W.kdx_call (knd:=strKind prog w) (kvs:=kvs) (ep:=ep) hh ⟨_,cH _ _ rfl,rfl,rfl⟩ ⟨o,es,hp _ _ hd.1,hd.2⟩ h3.1 fun h' tk acc c as hk hl' hlas hG hacc=>?_;have hk':∀ b o,s.heap.get? b=some o→h'.get? b=some o:=fun b o e=>hk _ _ (hp _ _ e);have hlt:s.heap.objs.size < (s.heap.push { cls:=.type "dict_items", data:=.fields #[.ref a] }).objs.size:=by rw[Heap.size_push];exact Nat.lt_succ_self _
  have hn:s.heap.get? (s.heap.push { cls:=.type "dict_items", data:=.fields #[.ref a] }).objs.size=none:=fr hlt;refine hq _ _ ⟨Kp.mk' hk',⟨_,rfl,hn,acc.toList,⟨c,by simpa using hl'⟩,by rw[hacc,List.length_map,List.length_map,hlas,hlen],by rw[hacc,List.length_map,hlas];exact h3.1,fun i v d e1 e2=>?_⟩⟩;rw[hacc,List.getElem?_map] at e1;obtain⟨ta,e1',rfl⟩:=Option.map_eq_some_iff.mp e1;rw[List.getElem?_map] at e2;obtain⟨p,e2',rfl⟩:=Option.map_eq_some_iff.mp e2;clear e1 e2;obtain⟨key,k,x,e3,e4,e5⟩:=hG.pairs i ta e1';obtain⟨t,rfl⟩:=Value.isStrOf_shape e4;have hp1:p.1=.str k:=by
   have:=congrArg (fun l=>l[i]?) h5;simp only[List.getElem?_map,e2',e3,Option.map_some] at this;exact Option.some.inj this
  have hgt:(s.heap.push { cls:=.type "dict_items", data:=.fields #[.ref a] }).objs.size < ta:=hG.above ta (List.mem_of_getElem? e1');have hta:s.heap.get? ta=none:=fr (Nat.lt_trans hlt hgt);have rx:Rep prog w h' (fun b=>av b∨b=(s.heap.push { cls:=.type "dict_items", data:=.fields #[.ref a] }).objs.size) x p.2:=((h6 i _ _ e3 e2').apart hn).keeps hk';refine .tuple (fun hx=>?_) ⟨0,by simpa using e5⟩ rfl (by rw[sizeLine_eq];exact Nat.le_of_ble_eq_true rfl) fun j v d f1 f2=>?_
  ·rcases hx with hx | hx
   ·obtain⟨o,e⟩:=hav _ hx;rw[hta] at e;exact ns e
   ·exact absurd hgt (by rw[hx];exact Nat.lt_irrefl _)
  ·match j,f1,f2 with
   |0,f1,f2=>obtain rfl:=si f1;obtain rfl:=si f2;rw[hp1];exact .str k t (h3.2 _ (List.mem_of_getElem? e3))
   |1,f1,f2=>obtain rfl:=si f1;obtain rfl:=si f2;exact rx
 |_=>exact trivial
theorem Km:isSubtype (.type "tuple") (.type "set")=pure false:=by rw[isSubtype_type];kernel_rfl
theorem Kn:isSubtype (.type "tuple") (.type "frozenset")=pure false:=by rw[isSubtype_type];kernel_rfl
theorem Ko{A:Around}{s:Shared}{av:Addr→Prop}{v:Value}{d:PyData}(hh:A.handled=none)(r:Rep prog w s.heap av v d) :
  Yd (fun Q E=>wpAny (model prog w) A (call (.type "set") [v]) (fun x s₁=>wpAny (model prog w) A (call (.builtin "len") [x]) Q E s₁) E s) (fun v s' u=>Kp s s'∧aY prog w s s'.heap av v u) (dU d):=by
 have key:∀ {ss:List Str} {Q:Value→Shared→Prop} {E:Value→Shared→Prop} (_:ss.length < 64),(∀ v s',Kp s s'∧aY prog w s s'.heap av v (.fz (.int (bY ss.reverse).length))→Q v s')→∀ (h':Heap) (tk:Nat),h'.SetOf (strKind prog w) s.heap.objs.size (fun k'=>(met ss ss.length).contains k') (bY (met ss ss.length)).length →
   (∀ b o,s.heap.get? b=some o→h'.get? b=some o)→wpAny (model prog w) A (call (.builtin "len") [.ref s.heap.objs.size]) Q E { s with heap:=h',toks:=tk }:=by
  intro ss Q E hlt hq h' tk hS hk;obtain⟨o,es,ep,t,ho,hex,hd,hel,hmem,hb,hf,hn⟩:=hS;have hz:(es.size:Int) < 2 ^ 63:=by
   have:=rE (met ss ss.length);have:=y9 ss ss.length;lia
  refine call_len_set ho hex hd hf hz (hq _ _ ⟨Kp.mk' hk,?_⟩);rw[hn];unfold met;rw[List.take_length];exact .int _ _
 cases d with
 |list m =>
  obtain⟨a,vs,rfl,h1,⟨nn,h2⟩,h3,h4,h5⟩:=r.list_inv;refine Yd.optBind fun ss hs=>Yd.ite fun hlt=>?_;obtain⟨ts,e1,rfl,e3⟩:=gA h3 h5 hs;intro Q E hq;refine zA (T := "list") (ss:=ss) hh h2 F.sub_list_set F.sub_list_frozenset rfl (by simp[e1]) (fun A' s' Q E e hq=>wpAny_pyIter_list ⟨_,e,rfl,_,rfl⟩ hq) (fun A' I hA' hne=>Walks.list hA' I a hne _) (fun h e=>⟨⟨_,cH _ _ rfl,rfl,rfl⟩,⟨_,Heap.get?_push_of_some _ e,rfl,_,rfl⟩⟩) (fun i v e=>?_) (by unfold scanBound;exact vE hlt) (key hlt hq);exact zB e1 (by simpa using e)
 |tuple m =>
  obtain⟨a,vs,rfl,h1,⟨nn,h2⟩,h3,h4,h5⟩:=r.tuple_inv;refine Yd.optBind fun ss hs=>Yd.ite fun hlt=>?_;obtain⟨ts,e1,rfl,e3⟩:=gA h3 h5 hs;intro Q E hq;refine zA (T := "tuple") (ss:=ss) hh h2 Km Kn rfl (by simp[e1]) (fun A' s' Q E e hq=>wpAny_pyIter_tuple ⟨_,e,rfl,_,rfl⟩ hq) (fun A' I hA' hne=>Walks.tuple hA' I a hne _) (fun h e=>⟨⟨_,cH _ _ rfl,rfl,rfl⟩,⟨_,Heap.get?_push_of_some _ e,rfl,_,rfl⟩⟩) (fun i v e=>?_) (by unfold scanBound;exact vE hlt) (key hlt hq);exact zB e1 (by simpa using e)
 |_=>exact trivial
end
end Mine
namespace Mine
open PySem
section
variable {prog:Program} {w:World} {mg mb:Str→Option Value} {base:Heap} {n:Nat} {hd:Bool} {l:List Env} {sc:Scope} {σ:aA}
noncomputable def CA(prog:Program)(w:World)(mg:Str→Option Value)(l:List Env)(av:Addr→Prop)(s:Shared)(v:Value)(u:V):Prop:=bQ prog w mg l s.heap av v u∧∀ d,u≠.own d
structure KSound(prog:Program)(w:World)(mg mb:Str→Option Value)(base:Heap)(n:Nat)(C:Ctx):Prop where
 const:C.const=fX prog.main.body
 init:C.init=fun c=>(bF c prog.main.body).map (·.2)
 sub:C.sub=dW prog.main.body
 has:∀ f,C.has f=true→∃ a b sc,b4 f prog.main.body=some (a,b,sc)
 call:∀ f us ad,mg f=some (.ref ad)→C.has f=true→∀ (A:Around) (l:List Env) (s:Shared) (av:Addr→Prop) (vs:List Value),Room n C.hd l A→Gnd prog w mg mb base l av s→eB (CA prog w mg l av) s vs us →
  ∀ {β:Type} {k:V→R β} {fin:R β} {Q:Value→Shared→Prop} {E:Value→Shared→Prop},Fin (C.call f us) k fin→QH prog w l s av k fin Q→EH prog w mg l s av fin E→wpAny (model prog w) A (call (.ref ad) vs) Q E s
theorem hJ{M:Model}{A:Around}{f:Value}{env:Env}{es:List Expr}{pos:Pos}{Q:Args→Shared→Prop}{E:Value→Shared→Prop}{s:Shared}(hs:es.any bad=false)
  (h:wpAny M A (spliced (backTo pos (starEach es env))) (fun vs s'=>Q ⟨vs,[]⟩ s') E s):wpAny M A (evalArgs f true (backTo pos (starEach es env)) []) Q E s:=by
 cases es with
 |nil =>
  have e0:backTo pos (starEach [] env)=[]:=rfl;rw[e0] at h ⊢;unfold evalArgs;refine wpAny_bind (wpAny_bind (wpAny_mono h (fun vs s' h'=>?_) fun _ _ x=>x));refine wpAny_pure (wpAny_holding ?_);exact wpAny_bind (wpAny_pure (wpAny_pure h'))
 |cons e r =>
  rw[eA (Bool.or_eq_false_iff.mp hs).1] at h ⊢;exact Calls.evalArgs_plain h
theorem rF{env:Env}{pos:Pos}:∀ {es:List Expr},es.any bad=false→(backTo pos (starEach es env)).any (·.1)=false:=by
 intro v0
 induction v0 with
 |nil =>
  intro _;exact rfl
 |cons e es ih =>
  intro h;obtain⟨h1,h2⟩:=Bool.or_eq_false_iff.mp h;rw[eA h1];show(false||(backTo pos (starEach es env)).any (·.1))=false;rw[ih h2];rfl
theorem Kq{rec:Expr→R V}(hbad:∀ e,bad e=true→rec e=.no)(e:Expr)(h:bad e=true):iR rec sc σ e=.no:=by
 have h0:=h;unfold iR eS bD;unfold bad at h;generalize hv:vw e=v at h;cases v with
 |name x=>exact bft h
 |_=>exact hbad e h0
theorem Kr{av:Addr→Prop}{rec:Expr→R V}{e:Expr}(h:aF prog w mg mb base n hd l sc σ e (rec e)):qW prog w mg mb base n hd l sc σ av (CA prog w mg l av) e (iR rec sc σ e):=by
 intro A env s hA I β k fin Q E hf hq he;unfold iR at hf;refine ocs (eS sc σ e) (fun hx=>?_) fun x hx=>?_
 ·try rewrite[hx]
  rw[hx] at hf;exact h A env s av hA I hf (fun v s' u k r e=>hq v s' u k ⟨r.clear I.gnd.avlt,fun d hh=>by cases u<;>cases hh⟩ e) he
 ·try rewrite[hx]
  rw[hx] at hf;obtain⟨y,p,rfl,hl,e⟩:=yI hx;obtain⟨u,h1,h2⟩:=I.get _ _ hl e;exact cC I hl h1 (hq _ _ (.ex x) (K.rf l s) ⟨h2,fun d hh=>by cases hh⟩ hf.ok)
theorem Ks{C:Ctx}(hK:KSound prog w mg mb base n C){rec:Expr→R V}(hbad:∀ e,bad e=true→rec e=.no){f:Str}{as:List Expr}{p pos:Pos}(hg:isG sc f=true)(hns:as.any bad=false)(hh:C.has f=true)
  (h:∀ e∈as,aF prog w mg mb base n C.hd l sc σ e (rec e)):aF prog w mg mb base n C.hd l sc σ (.Call (.Name f p) as [] pos) (rb (evs (iR rec sc σ) as) fun vs=>C.call f vs):=by
 intro A env s av hA I β k fin Q E hf hq he;obtain⟨a,b,sc',hd⟩:=hK.has f hh;obtain⟨ad,o,pm,cd,doc,h1,h2,h3,h4⟩:=I.gnd.glo.fn f a b sc' hd;refine wpAny_Call_NameR (fF I hg h1 (Calls.callWith_function (o:=o) (fd:=Calls.docDef f a b sc' pm cd doc) (hJ hns (yB (C:=CA prog w mg l av) (Kq hbad) (fun _ _ _ _ k r=>⟨r.1.k I.gnd.fav k,r.2⟩) hA (fun e m=>Kr (h e m)) I hf.b (fun vs s₁ us k1 r e1=>?_) he))));exact⟨⟨(I.gnd.k k1).stay _ _ h2,h3⟩,hK.call f us ad h1 hh A l s₁ av vs hA (I.gnd.k k1) r ⟨e1,hf.2⟩ (hq.back k1) (he.back k1)⟩
theorem gB{M:Model}{A:Around}{fv:Value}(hf:(∃ id,fv=.builtin id)∨∃ T,fv=.type T){pos:Pos}{t:Sem Value}{Q:Value→Shared→Prop}{E:Value→Shared→Prop}{s:Shared}
  (h:wpAny M A t (fun v s₁=>wpAny M A (call fv [v]) Q E s₁) E s):wpAny M A (callWith pos fv [] [(false,t)] []) Q E s:=by
 rcases hf with ⟨id,rfl⟩ | ⟨T,rfl⟩
 ·exact PySem.callWith_builtin1 h
 ·exact PySem.callWith_type1 h
theorem Kt{f:Str}{fv:Value}(hv:iV f=some fv){A:Around}{s:Shared}{av:Addr→Prop}{v:Value}{d:PyData}(hh:pP f=true→A.handled=none)(hg:A.guards=some [])(hu:A.units+70 < cLine)(G:Gnd prog w mg mb base l av s)
  (r:Rep prog w s.heap av v d):YV prog w A s av (call fv [v]) (pH f d) :=
 Yd.ite2 (fun e=>by subst e;obtain rfl:=si hv;exact Jz r) fun _ =>
 Yd.ite2 (fun e=>by subst e;obtain rfl:=si hv;exact J1 (hh rfl) r) fun _ =>
 Yd.ite2 (fun e=>by subst e;obtain rfl:=si hv;exact J4 (hh rfl) r) fun _ =>
 Yd.ite2 (fun e=>by subst e;obtain rfl:=si hv;exact yU (hh rfl) r) fun _ =>
 Yd.ite2 (fun e=>by subst e;obtain rfl:=si hv;exact J5 G.avlt r) fun _ =>
 Yd.ite2 (fun e=>by subst e;obtain rfl:=si hv;exact Kk (hh rfl) G r) fun _ =>
 Yd.ite2 (fun e=>by subst e;obtain rfl:=si hv;exact J7 r) fun _ =>
 Yd.ite2 (fun e=>by subst e;obtain rfl:=si hv;exact J8 r) fun _ =>
 Yd.ite2 (fun e=>by subst e;obtain rfl:=si hv;exact J9 r) fun _=>trivial
theorem Ku{f:Str}(h:dY f=true):∃ fv,iV f=some fv∧((∃ id,fv=.builtin id)∨∃ T,fv=.type T):=by
 unfold dY at h;simp only[Bool.or_eq_true,beq_iff_eq] at h;rcases h with (((((((h | h) | h) | h) | h) | h) | h) | h) | h<;>subst h
 all_goals first
  |exact⟨.builtin _,rfl,.inl ⟨_,rfl⟩⟩
  |exact⟨.type _,rfl,.inr ⟨_,rfl⟩⟩
theorem Kv{rec:Expr→R V}(hbad:∀ e,bad e=true→rec e=.no){f:Str}{a:Expr}{p pos:Pos}(hg:isG sc f=true)(hb:dY f=true)(h:aF prog w mg mb base n hd l sc σ a (rec a)) :
  aF prog w mg mb base n hd l sc σ (.Call (.Name f p) [a] [] pos) (fU rec hd f a):=by
 intro A env s av hA I β k fin Q E hf hq he;obtain⟨fv,hv,hfv⟩:=Ku hb;unfold fU at hf;refine bcs (hd&&pP f) (fun hn=>?_) fun hn=>?_
 ·try rewrite[hn]
  rw[hn] at hf;have hf:Fin (rb (rec a) fun v=>ofP (pH f (dOf v))) k fin:=hf;refine PySem.Call_name1 (eA (eU (hbad a) hf.b.ne)) (cT I hg hv (gB hfv (h A env s av hA I hf.b (fun v s₁ u k1 r h1=>?_) he)));exact Yd.fin (Kt hv (fun hne=>hA.handled (by rw[hne,Bool.and_true] at hn;exact hn)) hA.guards (ax0 hA.units) (I.gnd.k k1) (r.rep I.gnd.avlt)) ⟨h1,hf.2⟩ fun v s' u r e=>hq.step k1 r e
 ·try rewrite[hn]
  rw[hn] at hf;exact hf.no.elim
theorem fI{M:Model}{A:Around}{id:String}{env:Env}{as:List Expr}{pos:Pos}{first:List Value}{Q:Value→Shared→Prop}{E:Value→Shared→Prop}{s:Shared}(hs:as.any bad=false)
  (h:wpAny M A (spliced (backTo pos (starEach as env))) (fun vs s₁=>wpAny M A (call (.builtin id) (first++vs)) Q E s₁) E s):wpAny M A (callWith pos (.builtin id) first (backTo pos (starEach as env)) []) Q E s :=
 Calls.callWith_builtin (rF hs) (hJ hs h)
theorem rG{u:V}{d:PyData}(h:gQ u=.ok d):u=.fz d:=by
 cases u with
 |fz=>obtain rfl:=pi h;rfl
 |_=>exact pno h
noncomputable def RL(prog:Program)(w:World)(h:Heap)(av:Addr→Prop)(vs:List Value)(ds:List PyData):Prop :=
 vs.length=ds.length∧∀ (i:Nat) (v:Value) (d:PyData),vs[i]?=some v→ds[i]?=some d→Rep prog w h av v d
theorem RL.cons{h:Heap}{av:Addr→Prop}{vs:List Value}{d:PyData}{ds:List PyData}(r:RL prog w h av vs (d::ds)):∃ v vs',vs=v::vs'∧Rep prog w h av v d∧RL prog w h av vs' ds:=by
 cases vs with
 |nil=>cases r.1
 |cons v vs=>exact⟨v,vs,rfl,r.2 0 v d rfl rfl,Nat.succ.inj r.1,fun i v d e1 e2=>r.2 (i+1) v d e1 e2⟩
theorem RL.nil{h:Heap}{av:Addr→Prop}{vs:List Value}(r:RL prog w h av vs []):vs=[]:=List.length_eq_zero_iff.mp r.1
theorem Kw{A:Around}{s:Shared}{av:Addr→Prop}{vs:List Value}{us:List V}(hh:A.handled=none)(r:RL prog w s.heap av vs (bZ us)):YV prog w A s av (call (.builtin "min") vs) (l9 us):=by
 cases us with
 |nil=>exact trivial
 |cons a us =>
  cases us with
  |nil=>exact trivial
  |cons b us =>
   cases us with
   |cons=>exact trivial
   |nil =>
    obtain⟨v1,vs,rfl,r1,r⟩:=r.cons;obtain⟨v2,vs,rfl,r2,r⟩:=r.cons;obtain rfl:=r.nil;refine Yd.pureBind fun x hx=>Yd.pureBind fun y hy=>?_;cases rG hx;cases rG hy;cases x with
    |int x =>
     cases y with
     |int y =>
      obtain⟨t,rfl⟩:=(show Rep prog w s.heap av v1 (.int x) from r1).int_inv;obtain⟨u,rfl⟩:=(show Rep prog w s.heap av v2 (.int y) from r2).int_inv;refine fun Q E hq=>min_two_ints hh fun h' tk hk=>hq _ _ ⟨Kp.mk' hk,?_⟩;show Rep prog w _ av _ (.int (if y < x then y else x))
      split<;>exact .int _ _
     |_=>exact trivial
    |_=>exact trivial
theorem Kx{rec:Expr→R V}(hbad:∀ e,bad e=true→rec e=.no){as:List Expr}{p pos:Pos}(hg:isG sc "min" = true)(hns:as.any bad=false)(hh:hd=false)
  (h:∀ e∈as,aF prog w mg mb base n hd l sc σ e (rec e)):aF prog w mg mb base n hd l sc σ (.Call (.Name "min" p) as [] pos) (rb (evs rec as) fun vs=>ofP (l9 vs)):=by
 intro A env s av hA I β k fin Q E hf hq he;refine wpAny_Call_NameR (cT I hg rfl (fI hns (iX hbad hA h I hf.b (fun vs s₁ us k1 r1 r2 e1=>?_) he)));exact Yd.fin (Kw (hA.handled hh) ⟨r1,r2⟩) ⟨e1,hf.2⟩ fun v s' u r e=>hq.step k1 r e
theorem Ky{rec:Expr→R V}{a:Expr}{t:Str}{p p' pos:Pos}(hbad:∀ e,bad e=true→rec e=.no)(hg:isG sc "isinstance" = true)
  (ht:isG sc t=true) (h:aF prog w mg mb base n hd l sc σ a (rec a)):aF prog w mg mb base n hd l sc σ (.Call (.Name "isinstance" p) [a,.Name t p'] [] pos) (rb (rec a) fun v=>ofP (iQ t (dOf v))):=by
 intro A env s av hA I β k fin Q E hf hq he;have hb:=eU (hbad a) hf.b.ne;refine wpAny_Call_NameR (cT I hg rfl (fI (by show(bad a||false)=false;rw[hb];rfl) ?_));refine wpAny_items_cons (h A env s av hA I hf.b (fun v s₁ u k1 r h1=>wpAny_items_cons ?_ rfl) he) (eA hb);obtain⟨h1',h2,h3,h4,h5,h6⟩:=yL (prog:=prog) (w:=w) (A:=A) (r.rep I.gnd.avlt);have fin:∀ {T:String} {b},iV t=some (.type T)→gZ prog w A s₁ v T b→Yd (fun Q E=>wpAny (model prog w) A (eval (.Name t p') env) (fun c s₂=>wpAny (model prog w) A (call (.builtin "isinstance") [v,c]) Q E s₂) E s₁) (fun v s' u=>Kp s₁ s'∧aY prog w s₁ s'.heap av v u) (fz (.bool b)) :=
  fun hT hc Q E hq=>cT (I.k k1) ht hT (hc _ _ fun tk=>hq _ _ ⟨Kp.tok' s₁ tk,.bool _⟩)
 have key:Yd (fun Q E=>wpAny (model prog w) A (eval (.Name t p') env) (fun c s₂=>wpAny (model prog w) A (call (.builtin "isinstance") [v,c]) Q E s₂) E s₁) (fun v s' u=>Kp s₁ s'∧aY prog w s₁ s'.heap av v u) (iQ t (dOf u)) :=
  Yd.ite2 (fun e=>fin (e▸rfl) h1') fun _=>Yd.ite2 (fun e=>fin (e▸rfl) h2) fun _=>Yd.ite2 (fun e=>fin (e▸rfl) h3) fun _=>Yd.ite2 (fun e=>fin (e▸rfl) h4) fun _=>Yd.ite2 (fun e=>fin (e▸rfl) h5) fun _=>Yd.ite2 (fun e=>fin (e▸rfl) h6) fun _=>trivial
 exact wpAny_mono (key.fin (Q:=Q) ⟨h1,hf.2⟩ fun v s' u r e=>hq.step k1 r e) (fun c s₂ h₂=>wpAny_items_nil h₂) fun _ _ x=>x
theorem Kz{rec:Expr→R V}{as:List Expr}{p p' pos pos':Pos}(hbad:∀ e,bad e=true→rec e=.no)(hg:isG sc "len" = true)(hh:hd=false)(h:∀ e∈as,aF prog w mg mb base n hd l sc σ e (rec e)) :
  aF prog w mg mb base n hd l sc σ (.Call (.Name "len" p) [.Call (.Name "set" p') as [] pos'] [] pos) (wG rec sc as):=by
 intro A env s av hA I β k fin Q E hf hq he;cases as with
 |nil=>exact hf.no.elim
 |cons x r =>
  cases r with
  |cons=>exact hf.no.elim
  |nil =>
   obtain⟨hc,hf⟩:=Fin.ite hf;refine PySem.Call_name1 rfl (cT I hg rfl (gB (.inl ⟨_,rfl⟩) (PySem.Call_name1 (eA (eU (hbad x) hf.b.ne)) (cT I hc rfl (gB (.inr ⟨_,rfl⟩) (h x List.mem_cons_self A env s av hA I hf.b (fun v s₁ u k1 r h1=>?_) he))))));exact Yd.fin (Ko (hA.handled hh) (r.rep I.gnd.avlt)) ⟨h1,hf.2⟩ fun v s' u r e=>hq.step k1 r e
end
end Mine
namespace Mine
open PySem PyProof.Rows
section
variable {prog:Program} {w:World}
theorem zC{m:Str}{A:Around}{s:Shared}{av:Addr→Prop}{o:Value}{vs:List Value}{l ds:List PyData}(hm:m = "count" ∨ m = "index")(ro:Rep prog w s.heap av o (.list l))(r:RL prog w s.heap av vs ds) :
  YV prog w A s av (call (.builtin (if m = "count" then "list.count" else "list.index")) (o::vs)) (wE m l ds):=by
 cases ds with
 |nil=>exact trivial
 |cons d ds =>
  obtain⟨v,vs,rfl,rd,r⟩:=r.cons;cases ds with
  |cons=>exact trivial
  |nil =>
   obtain rfl:=List.length_eq_zero_iff.mp r.1;cases d with
   |bool k =>
    obtain rfl:=rd.bool_inv;show YV prog w A s av _ ((ofO (bools? l)).bind fun bs=>if m = "count" then fz (.int (bs.countP (·==k))) else (ofO (bs.findIdx? (·==k))).bind fun j=>if j < aX then fz (.int j) else .no);refine ocs (bools? l) (fun hb=>?_) fun bs hb=>?_
    ·rw[hb];exact trivial
    ·rw[hb];obtain⟨a,vs,rfl,h1,⟨n,e⟩,h3,h4,h5⟩:=ro.list_inv;obtain rfl:=yS h3 h5 hb;have he:∀ y,y∈(bs.map Value.bool).toArray→SeqAt.EqAt A.in1 s y (.bool k) (isBoolOf k y):=fun y hy=>by
      obtain⟨b,_,rfl⟩:=List.mem_map.mp (List.mem_toArray.mp hy);exact SeqAt.EqAt.bool_bool b k
     have hc:(isBoolOf k∘Value.bool)=(·==k):=rfl;show YV prog w A s av _ (if m = "count" then fz (.int (bs.countP (·==k))) else (ofO (bs.findIdx? (·==k))).bind fun j=>if j < aX then fz (.int j) else .no)
     by_cases hcm:m = "count"
     ·rw[if_pos hcm,if_pos hcm];intro Q E hq;refine call_meets PySem.F.slot_list_count ⟨_,e,rfl⟩ PySem.F.entry_list_count (PySem.F.args_list_count_2 _ _) (SeqAt.list_countAt a (bs.map Value.bool).toArray n none #[] (.bool k) (isBoolOf k)) ⟨e,he,?_⟩;rw[show(bs.map Value.bool).toArray.toList=bs.map Value.bool from rfl,List.countP_map,hc];exact hq _ _ ⟨Kp.tok' s _,.int _ _⟩
     ·rw[if_neg hcm,if_neg hcm];refine ocs (bs.findIdx? (·==k)) (fun hj=>?_) fun j hj=>?_
      ·rw[hj];exact trivial
      ·rw[hj];refine Yd.ite fun hz Q E hq=>?_;obtain⟨j1,j2,j3⟩:=List.findIdx?_eq_some_iff_getElem.mp hj;refine call_meets PySem.F.slot_list_index ⟨_,e,rfl⟩ PySem.F.entry_list_index (PySem.F.args_list_index_2 _ _) (SeqAt.list_indexAt a (bs.map Value.bool).toArray n none #[] (.bool k) (isBoolOf k) j (by simpa using j1) (Int.lt_trans (Int.ofNat_lt.mpr hz) (by decide)) ?_ fun i hi hlt=>?_) ⟨e,he,?_⟩
       ·simp only[List.getElem_toArray,List.getElem_map];exact j2
       ·simp only[List.getElem_toArray,List.getElem_map];exact Bool.eq_false_iff.mpr (j3 i hlt)
       ·exact hq _ _ ⟨Kp.tok' s _,.int _ _⟩
   |_=>exact trivial
end
end Mine
namespace Mine
open PySem
section
variable {prog:Program} {w:World} {mg mb:Str→Option Value} {base:Heap} {n:Nat} {hd:Bool} {l:List Env} {sc:Scope} {σ:aA}
theorem Rep.getD{h:Heap}{av:Addr→Prop}{ds:List (PyData×PyData)}{kvs:List (Str×Value)}{x:Str}{dv:Value}{dd:PyData}(h5:ds.map (·.1)=kvs.map (fun kv=>PyData.str kv.1))
  (h6:∀ (i:Nat) (kv:Str×Value) (d:PyData×PyData),kvs[i]?=some kv→ds[i]?=some d→Rep prog w h av kv.2 d.2) (hd:Rep prog w h av dv dd):Rep prog w h av ((valueAt kvs x).getD dv) ((bM ds x).getD dd):=by
 rcases mY x h5 with ⟨e1,e2⟩ | ⟨i,v,d,e1,e2,e3,e4⟩
 ·rw[e1,e2];exact hd
 ·rw[e1,e2];exact h6 i _ _ e3 e4
theorem K0{A:Around}{s:Shared}{av:Addr→Prop}{o:Value}{l:List (PyData×PyData)}{vs:List Value}{k:PyData}{ds:List PyData}(ro:Rep prog w s.heap av o (.dict l))(r:RL prog w s.heap av vs (k::ds)) :
  YV prog w A s av (call (.builtin "dict.get") (o::vs)) (wB l ds k):=by
 obtain⟨v,vs,rfl,rk,r1⟩:=r.cons;clear r;cases k with
 |str k =>
  obtain⟨t,rfl,hk⟩:=rk.str_inv;obtain⟨a,kvs,rfl,_,h2,h3,h4,h5,h6⟩:=ro.dict_inv;cases ds with
  |nil =>
   obtain rfl:=r1.nil;exact fun Q E hq=>call_meetsIn F.slot_dict_get h2.typeIs F.entry_dict_get (F.args_dict_get_2 _ _) (meets_dict_get (strKind prog w) a (dM k t) h4) ⟨_,h2.mapOf,hq _ _ ⟨Kp.tok' s _,Rep.getD h5 h6 .none⟩⟩
  |cons d ds =>
   obtain⟨u,vs,rfl,ru,r2⟩:=r1.cons;cases ds with
   |cons=>exact trivial
   |nil =>
    obtain rfl:=r2.nil;exact fun Q E hq=>call_meetsIn F.slot_dict_get h2.typeIs F.entry_dict_get (F.args_dict_get_3 _ _ _) (meets_dict_get_default (strKind prog w) a (dM k t) h4 u) ⟨_,h2.mapOf,hq _ _ ⟨Kp.tok' s _,Rep.getD h5 h6 ru⟩⟩
 |_=>exact trivial
theorem zD{ss:List Str}{ts:List Tok}(e:ts.length=ss.length):strValues (ss.zip ts)=List.zipWith (fun x t=>Value.str x t) ss ts∧(ss.zip ts).map (·.1)=ss :=
 ⟨by unfold strValues;rw[List.zip,List.map_zipWith],List.map_fst_zip (Nat.le_of_eq e.symm)⟩
theorem K3{A:Around}{s:Shared}{x:Str}{tt:Tok}{Q:Value→Shared→Prop}{E:Value→Shared→Prop}{D:Addr}{l:List (Str×Tok)}{texts:List Str}(hl:∃ o n,s.heap.get? D=some o∧o.cls=.type "tuple" ∧ o.data=.seq (strValues l).toArray n)(ht:l.map (·.1)=texts)(hok:JoinOk x texts=true)
  (hq:∀ t' k,Q (.str (Txt.join x texts) t') { s with toks:=k }):wpAny (model prog w) A (call (.builtin "str.join") [.str x tt,.ref D]) Q E s:=by
 subst ht;unfold JoinOk at hok;rw[Bool.not_eq_true'] at hok;exact call_meets F.slot_str_join (typeIs_str _ _ _) F.entry_str_join (F.args_str_join_2 _ _) (meets_str_join_tuple x tt D l hok) ⟨hl,post_join l ⟨joinFit_length hok,hq⟩⟩
theorem K4{A:Around}{s:Shared}{av:Addr→Prop}{o:Value}{x:Str}{vs:List Value}{k:PyData}{ds:List PyData}(ro:Rep prog w s.heap av o (.str x))(r:RL prog w s.heap av vs (k::ds)) :
  YV prog w A s av (call (.builtin "str.join") (o::vs)) (wD x ds k):=by
 obtain⟨t,rfl,hx⟩:=ro.str_inv;obtain⟨v,vs,rfl,rk,r1⟩:=r.cons;clear r;cases ds with
 |cons=>exact trivial
 |nil =>
  obtain rfl:=r1.nil;cases k with
  |list l =>
   obtain⟨a,vl,rfl,h1,h2,h3,h4,h5⟩:=rk.list_inv;refine Yd.optBind fun ss hs=>Yd.ite fun hok=>?_;obtain⟨ts,e1,rfl,e3⟩:=gA h3 h5 hs;obtain⟨z1,z2⟩:=zD e1;exact fun Q E hq=>SC.join (l:=ss.zip ts) (by rw[z1];exact h2.isList) z2 hok fun t' k=>hq _ _ ⟨Kp.tok' s _,.str _ _ (joinOk_length hok)⟩
  |tuple l =>
   obtain⟨a,vl,rfl,h1,⟨nn,h2⟩,h3,h4,h5⟩:=rk.tuple_inv;refine Yd.optBind fun ss hs=>Yd.ite fun hok=>?_;obtain⟨ts,e1,rfl,e3⟩:=gA h3 h5 hs;obtain⟨z1,z2⟩:=zD e1;exact fun Q E hq=>K3 (l:=ss.zip ts) (by rw[z1];exact⟨_,nn,h2,rfl,rfl⟩) z2 hok fun t' k=>hq _ _ ⟨Kp.tok' s _,.str _ _ (joinOk_length hok)⟩
  |_=>exact trivial
theorem rH{s:Shared}{a:Addr}{kvs:List (Str×Value)}(h2:s.heap.DictOf (strKind prog w) a kvs):∀ b,Value.ref a=.ref b→∃ ob,s.heap.get? b=some ob∧ob.dict=none:=by
 intro b hb;cases hb;obtain⟨ob,es,ep,e,c,_⟩:=h2;exact⟨ob,e,c.2.1⟩
theorem K5{m:Str}{od:PyData}(hm:mOk m od=true){s:Shared}{av:Addr→Prop}{o:Value}(ro:Rep prog w s.heap av o od):∃ T id,PlainAttrs T∧Slot T m id∧typeOf (.builtin id)=pure (.type "method_descriptor") ∧
  s.TypeIs o T∧(∀ a,o=.ref a→∃ ob,s.heap.get? a=some ob∧ob.dict=none) ∧
  ∀ (A:Around) (s':Shared) (vs:List Value) (ds:List PyData),Rep prog w s'.heap av o od→RL prog w s'.heap av vs ds→YV prog w A s' av (call (.builtin id) (o::vs)) (pI m od ds):=by
 cases od with
 |list l =>
  obtain⟨a,vs,rfl,h1,⟨n,e⟩,_⟩:=ro.list_inv;have hm':m = "count" ∨ m = "index" := (Bool.or_eq_true _ _▸hm).imp of_decide_eq_true of_decide_eq_true
  by_cases hc:m = "count"
  ·subst hc;exact⟨"list", "list.count", F.plainAttrs_list,F.slot_list_count,by kernel_rfl,⟨_,e,rfl⟩,fun b hb=>by cases hb;exact⟨_,e,rfl⟩,fun A s' vs ds ro r=>zC hm' ro r⟩
  ·obtain rfl:=hm'.resolve_left hc;exact⟨"list", "list.index", F.plainAttrs_list,F.slot_list_index,by kernel_rfl,⟨_,e,rfl⟩,fun b hb=>by cases hb;exact⟨_,e,rfl⟩,fun A s' vs ds ro r=>zC hm' ro r⟩
 |dict l =>
  obtain rfl:=of_decide_eq_true hm;obtain⟨a,kvs,rfl,_,h2,_⟩:=ro.dict_inv;refine⟨"dict", "dict.get", F.plainAttrs_dict,F.slot_dict_get,by kernel_rfl,h2.typeIs,rH h2,fun A s' vs ds ro r=>?_⟩;cases ds with
  |nil=>exact trivial
  |cons k ds=>exact K0 ro r
 |str x =>
  obtain rfl:=of_decide_eq_true hm;obtain⟨t,rfl,_⟩:=ro.str_inv;refine⟨"str", "str.join", F.plainAttrs_str,F.slot_str_join,by kernel_rfl,rfl,fun a ha=>by (cases ha),fun A s' vs ds ro r=>?_⟩;cases ds with
  |nil=>exact trivial
  |cons k ds=>exact K4 ro r
 |_=>exact bft hm
theorem nA{o:Expr}(h:mB o=true)(name:Str)(env:Env):attributeBase o name env (eval o env)=eval o env:=by
 cases o with
 |Call f as kws q =>
  cases f with
  |Name=>exact bft h
  |_=>rfl
 |_=>rfl
theorem kJ{as:List Expr}(hs:as.any bad=false)(hl:as.length≤3)(pos:Pos)(env:Env):((backTo pos (starEach as env)).all (fun x=>!x.1)&&(backToKw pos (keywordEach [] env)).all (fun x=>x.1.isSome)
   && decide (as.length+([]:List Keyword).length+(if ([]:List Keyword).isEmpty then 0 else 1) < 30))=true:=by
 have h1:=rF (env:=env) (pos:=pos) hs;have h2:(backTo pos (starEach as env)).all (fun x=>!x.1)=true:=by
  rw[List.all_eq_true];intro x hx;have:=List.any_eq_false.mp h1 x hx;simpa using this
 rw[h2];have:(backToKw pos (keywordEach [] env)).all (fun x=>x.1.isSome)=true:=rfl;rw[this];simp;exact El hl
theorem K6{rec:Expr→R V}(hbad:∀ e,bad e=true→rec e=.no){o:Expr}{m:Str}{as:List Expr}{ap cp:Pos}(ho:aF prog w mg mb base n hd l sc σ o (rec o))
  (h:∀ e∈as,aF prog w mg mb base n hd l sc σ e (rec e)):aF prog w mg mb base n hd l sc σ (.Call (.Attribute o m ap) as [] cp) (j9 rec o m ap as cp):=by
 intro A env s av hA I β k fin Q E hf hq he;unfold j9 at hf
 by_cases hc:m = "items" ∨ mB o=false∨(ap.endLine==cp.line)=false∨as.any bad=true∨3 < as.length
 ·rw[if_pos hc] at hf;exact hf.no.elim
 rw[if_neg hc] at hf;simp only[not_or,Bool.not_eq_true,Bool.not_eq_false,Nat.not_lt] at hc;obtain⟨_,c2,c3,c4,c5⟩:=hc;refine wpAny_Call_method_lateS (nA c2 m env) (kJ c4 c5 cp env) c3 (ho A env s av hA I hf.b (fun ov s₁ u k1 r h1=>?_) he);obtain⟨hm,hf1⟩:=Fin.ite ⟨h1,hf.2⟩;have ro:=r.rep I.gnd.avlt;obtain⟨T,id,t1,t2,t3,q1,q2,t5⟩:=K5 (prog:=prog) (w:=w) hm ro;refine⟨T,id,t1,t2,t3,q1,q2,fI c4 (iX hbad hA h (I.k k1) hf1.b (fun vs s₂ us k2 r1 r2 e2=>?_) (he.back k1))⟩;exact Yd.fin (t5 A s₂ vs _ (ro.k I.gnd.fav k2) ⟨r1,r2⟩) ⟨e2,hf.2⟩ fun v s' u r e=>hq.step (k1.tr k2) r e
theorem K7{rec:Expr→R V}{o:Expr}{as:List Expr}{p pos ap cp:Pos}(hg:isG sc "list" = true)(hh:hd=false)(h:aF prog w mg mb base n hd l sc σ o (rec o)) :
  aF prog w mg mb base n hd l sc σ (.Call (.Name "list" p) [.Call (.Attribute o "items" ap) as [] cp] [] pos) (wH rec o ap cp as):=by
 intro A env s av hA I β k fin Q E hf hq he;cases as with
 |cons=>exact hf.no.elim
 |nil =>
  obtain⟨hc,hf⟩:=Fin.ite hf;refine PySem.Call_name1 rfl (cT I hg rfl (gB (.inr ⟨_,rfl⟩) (wpAny_Call_method_lateS (nA hc.1 "items" env) (kJ rfl (Nat.zero_le _) cp env) hc.2 (h A env s av hA I hf.b (fun ov s₁ u k1 r h1=>?_) he))));have ro:=r.rep I.gnd.avlt;generalize dOf u=d at ro h1;cases d with
  |dict l =>
   obtain⟨a,kvs,rfl,_,h2,_⟩:=ro.dict_inv;exact⟨"dict", "dict.items", F.plainAttrs_dict,F.slot_dict_items,by kernel_rfl,h2.typeIs,rH h2,fI rfl (wpAny_items_nil (Yd.fin (Kl (hA.handled hh) (I.gnd.k k1).avlt ro) ⟨h1,hf.2⟩ fun v s' u r e=>hq.step k1 r e))⟩
  |_=>exact(Fin.no ⟨h1,hf.2⟩).elim
theorem K8{rec:Expr→R V}(hbad:∀ e,bad e=true→rec e=.no){f:Str}{a:Expr}{p pos:Pos}(hg:isG sc f=true)(hb:dY f=true)(h:aF prog w mg mb base n hd l sc σ a (rec a))
  (hsub:∀ g as kws q,a=.Call g as kws q→(∀ x∈as,aF prog w mg mb base n hd l sc σ x (rec x))∧∀ o m ap,g=.Attribute o m ap→aF prog w mg mb base n hd l sc σ o (rec o)) :
  aF prog w mg mb base n hd l sc σ (.Call (.Name f p) [a] [] pos) (pQ rec hd sc f a):=by
 have B:=Kv (p:=p) (pos:=pos) hbad hg hb h;unfold pQ;cases hv:gO a with
 |some c =>
  obtain⟨g,as,kws,cp⟩:=c;have ea:a=.Call g as kws cp:=qM hv;obtain⟨s1,s2⟩:=hsub g as kws cp ea;show aF prog w mg mb base n hd l sc σ _ (wK rec hd sc f a as kws cp (vw g));cases hw:vw g with
  |name g' =>
   obtain⟨gp,eg⟩:=cM hw;intro A env s av hA I β k fin Q E hf hq he;replace hf:Fin (if g' = "set" then wI rec hd sc f as kws else fU rec hd f a) k fin:=hf
   by_cases e:g' = "set"
   ·rw[if_pos e] at hf;obtain⟨c,hf1⟩:=Fin.ite hf;clear hf;cases kws with
    |cons=>exact hf1.no.elim
    |nil =>
     obtain⟨rfl,c2⟩:=c;subst e eg ea;exact Kz hbad hg c2 s1 A env s av hA I hf1 hq he
   ·rw[if_neg e] at hf;exact B A env s av hA I hf hq he
  |attr o m ap =>
   have eg:g=_:=cM hw;intro A env s av hA I β k fin Q E hf hq he;replace hf:Fin (if m = "items" then wJ rec hd f o ap cp as kws else fU rec hd f a) k fin:=hf
   by_cases e:m = "items"
   ·rw[if_pos e] at hf;obtain⟨c,hf1⟩:=Fin.ite hf;clear hf;cases kws with
    |cons=>exact hf1.no.elim
    |nil =>
     obtain⟨rfl,c2⟩:=c;subst e eg ea;exact K7 hg c2 (s2 o _ ap rfl) A env s av hA I hf1 hq he
   ·rw[if_neg e] at hf;exact B A env s av hA I hf hq he
  |_=>exact B
 |none=>exact B
theorem P.bindI{α β:Type}{p:P α}{f:α→P β}{b:β}(h:p.bind f=.ok b):∃ a,p=.ok a∧f a=.ok b:=by
 cases p with
 |no=>exact pno h
 |ok a=>exact⟨a,rfl,h⟩
theorem K9{C:Ctx}(hK:KSound prog w mg mb base n C){a:Expr}{x:X}{t:Str}{p p' pos:Pos}(hg:isG sc "isinstance" = true)(ht:isG sc t=true)(hx:eS sc σ a=some x) :
  aF prog w mg mb base n hd l sc σ (.Call (.Name "isinstance" p) [a,.Name t p'] [] pos) (ofP (isX C x.cls t)):=by
 intro A env s av hA I β k fin Q E hf hq he;obtain⟨u,e0,e2⟩:=hf.p;obtain⟨y,py,rfl,hl,hs⟩:=yI hx;obtain⟨b,h1,e1⟩:=P.bindI e0;have h1:dW prog.main.body x.cls t=some b:=by rw[← hK.sub];cases hsb:C.sub x.cls t with
  |none=>rw[hsb] at h1;exact pno h1
  |some b'=>rw[hsb] at h1;obtain rfl:=pi h1;rfl
 unfold dW at h1
 by_cases hc:(((bF t prog.main.body).isSome||t == "ValueError")&&(bF x.cls prog.main.body).isSome)=true
 case neg=>rw[if_neg hc] at h1;exact ns h1
 rw[if_pos hc] at h1;obtain⟨hc1,hc2⟩:=Bool.and_eq_true_iff.mp hc;obtain⟨pc,hpc⟩:=Option.isSome_iff_exists.mp hc2;obtain⟨v,hva,e,rfl,na,ob,vs,Ca,g1,g2,g3,g4,g5⟩:=I.get y (.ex x) hl hs;obtain⟨C',bm,c1,c2,c3⟩:=I.gnd.glo.cls x.cls pc hpc;rw[g4] at c1;obtain rfl:=Value.ref.inj (si c1);refine wpAny_Call_NameR (cT I hg rfl (fI rfl ?_));refine wpAny_items_cons (cC I hl hva (wpAny_items_cons ?_ rfl)) rfl
 by_cases hv:t = "ValueError"
 ·rw[if_pos hv] at e1
  by_cases hb:b=true
  case neg=>rw[if_neg hb] at e1;exact pno e1
  rw[if_pos hb] at e1;obtain rfl:=pi e1;subst hv;refine cT I ht rfl (wpAny_items_nil (c2.isv A s e ob E Q I.gnd.stay g1 g3 fun tk=>?_));exact hq _ _ (.fz (.bool true)) (K.of ⟨s.heap,tk,rfl,fun _ _ e=>e⟩) (.bool _) e2
 ·rw[if_neg hv] at e1;obtain rfl:=pi e1;have hc1:(bF t prog.main.body).isSome=true:=by
   rcases Bool.or_eq_true _ _▸hc1 with h | h
   ·exact h
   ·exact absurd (eq_of_beq h) hv
  obtain⟨pd,hpd⟩:=Option.isSome_iff_exists.mp hc1;obtain⟨D,bm',d1,d2,d3⟩:=I.gnd.glo.cls t pd hpd;refine fF I ht d1 (wpAny_items_nil (c2.isi A s e ob D bm' b E Q I.gnd.stay g1 g3 d2.obj ((c3 t pd D hpd d1).trans (si h1)) fun tk=>?_));exact hq _ _ (.fz (.bool b)) (K.of ⟨s.heap,tk,rfl,fun _ _ e=>e⟩) (.bool _) e2
theorem La{C:Ctx}(hK:KSound prog w mg mb base n C){rec:Expr→R V}(hbad:∀ e,bad e=true→rec e=.no){as:List Expr}{p pos:Pos}(hg:isG sc "isinstance" = true)(h:∀ e∈as,aF prog w mg mb base n hd l sc σ e (rec e)) :
  aF prog w mg mb base n hd l sc σ (.Call (.Name "isinstance" p) as [] pos) (wM rec C sc σ as):=by
 intro A env s av hA I β k fin Q E hf hq he;cases as with
 |nil=>exact hf.no.elim
 |cons a r =>
  cases r with
  |nil=>exact hf.no.elim
  |cons b r =>
   replace hf:Fin (wL rec C sc σ a r (bD b)) k fin:=hf;refine ocs (bD b) (fun hn=>?_) fun t hn=>?_
   ·try rewrite[hn]
    rw[hn] at hf;exact hf.no.elim
   ·try rewrite[hn]
    rw[hn] at hf;cases r with
    |cons=>exact hf.no.elim
    |nil =>
     obtain⟨ht,hf1⟩:=Fin.ite hf;obtain⟨q,rfl⟩:=dE hn;refine ocs (eS sc σ a) (fun hx=>?_) fun x hx=>?_
     ·rw[hx] at hf1;exact Ky hbad hg ht (h a List.mem_cons_self) A env s av hA I hf1 hq he
     ·rw[hx] at hf1;exact K9 hK hg ht hx A env s av hA I hf1 hq he
theorem Lb{C:Ctx}(hK:KSound prog w mg mb base n C){rec:Expr→R V}(hbad:∀ e,bad e=true→rec e=.no){f:Str}{as:List Expr}{p pos:Pos}
  (h:∀ e∈as,aF prog w mg mb base n C.hd l sc σ e (rec e))
  (hsub:∀ a∈as,∀ g bs kws q,a=.Call g bs kws q→(∀ x∈bs,aF prog w mg mb base n C.hd l sc σ x (rec x))∧∀ o m ap,g=.Attribute o m ap→aF prog w mg mb base n C.hd l sc σ o (rec o)):aF prog w mg mb base n C.hd l sc σ (.Call (.Name f p) as [] pos) (fV rec C sc σ f as):=by
 intro A env s av hA I β k fin Q E hf0 hq he;obtain⟨hg,hf⟩:=Fin.ite hf0;clear hf0
 by_cases e:f = "isinstance"
 ·rw[if_pos e] at hf;subst e;exact La hK hbad hg h A env s av hA I hf hq he
 rw[if_neg e] at hf
 by_cases e:f = "min"
 ·rw[if_pos e] at hf
  by_cases c:as.any bad=true∨C.hd=true
  ·rw[if_pos c] at hf;exact hf.no.elim
  ·rw[if_neg c] at hf;simp only[not_or,Bool.not_eq_true] at c;subst e;exact Kx hbad hg c.1 c.2 h A env s av hA I hf hq he
 rw[if_neg e] at hf
 by_cases hb:dY f=true
 ·rw[if_pos hb] at hf;cases as with
  |nil=>exact hf.no.elim
  |cons a r =>
   cases r with
   |cons=>exact hf.no.elim
   |nil=>exact K8 hbad hg hb (h a List.mem_cons_self) (hsub a List.mem_cons_self) A env s av hA I hf hq he
 rw[if_neg hb] at hf
 by_cases c:as.any bad=true∨C.has f=false
 ·rw[if_pos c] at hf;exact hf.no.elim
 ·rw[if_neg c] at hf;simp only[not_or,Bool.not_eq_true,Bool.not_eq_false] at c;exact Ks hK hbad hg c.1 c.2 h A env s av hA I hf hq he
end
end Mine
namespace Mine
open PySem
section
variable {prog:Program} {w:World} {mg mb:Str→Option Value} {base:Heap} {n:Nat} {hd:Bool} {l:List Env} {sc:Scope} {σ:aA}
noncomputable def PR(prog:Program)(w:World)(h:Heap)(av:Addr→Prop):List (Value×Value)→List (PyData×PyData)→Prop
 | [],[]=>True
 |kv::r,d::t=>Rep prog w h av kv.1 d.1∧Rep prog w h av kv.2 d.2∧PR prog w h av r t
 |_,_=>False
noncomputable def nB(env:Env)(pos:Pos):List (Option Expr)→List Expr→List (Sem Value×Sem Value)
 |some k::ks,e::es=>(eval k env,(do let x ← eval e env;standAt pos;pure x))::nB env pos ks es
 |_,_=>[]
theorem zE(env:Env)(pos:Pos):∀ {ks:List (Option Expr)} {es:List Expr},ks.all Option.isSome=true→ks.length=es.length →
  (evalEachOpt ks env).zip ((evalEach es env).map fun v=>do let x ← v;standAt pos;pure x)=(nB env pos ks es).map (fun p=>(some p.1,p.2))∧(nB env pos ks es).length=es.length
 | [],[],_,_=>⟨rfl,rfl⟩
 | [],_::_,_,h=>by cases h
 |_::_,[],_,h=>by cases h
 |none::ks,e::es,h,_=>by exact bft h
 |some k::ks,e::es,h,h'=>by
  obtain⟨i1,i2⟩:=zE env pos (ks:=ks) (es:=es) h (Nat.succ.inj h');exact⟨congrArg ((some (eval k env),_)::·) i1,congrArg Nat.succ i2⟩
theorem Lc{rec:Expr→R V}{env:Env}{pos:Pos}{A:Around}{av:Addr→Prop}(hA:Room n hd l A):∀ {ks:List (Option Expr)} {es:List Expr} {s:Shared},(∀ k,some k∈ks→aF prog w mg mb base n hd l sc σ k (rec k)) →
  (∀ e∈es,aF prog w mg mb base n hd l sc σ e (rec e))→Inv0 prog w mg mb base l env sc σ av s →
  ∀ {β:Type} {k:List (PyData×PyData)→R β} {fin:R β} {Q:List (Value×Value)→Shared→Prop} {E:Value→Shared→Prop},Fin (l5 rec ks es) k fin→(∀ vs s' ds,K l s s'→PR prog w s'.heap av vs ds→ds.length=es.length→k ds=fin→Q vs s')→EH prog w mg l s av fin E →
   wpAny (model prog w) A (evalPairs (nB env pos ks es)) Q E s
 := by
 intro ks
 induction ks with
 |nil =>
  intro es s _ _ _ β k fin Q E hf hq _;cases es with
  |nil=>exact evalPairs_nil (hq _ _ [] (K.rf l s) trivial rfl hf.ok)
  |cons=>exact hf.no.elim
 |cons ko ks ih =>
  intro es s hk he I β k fin Q E hf hq hE;cases ko with
  |none =>
   cases es with
   |nil=>exact hf.no.elim
   |cons=>exact hf.no.elim
  |some kx =>
   cases es with
   |nil=>exact hf.no.elim
   |cons e es =>
    refine evalPairs_cons (hk kx List.mem_cons_self A env s av hA I (Fin.b hf) (fun kv s₁ u k1 r h1=>?_) hE);have I1:=I.k k1;refine wpAny_bind (he e List.mem_cons_self A env s₁ av hA I1 (Fin.b ⟨h1,hf.2⟩) (fun vv s₂ u2 k2 r2 h2=>wpAny_bind (wpAny_standAt (wpAny_pure ?_))) (hE.back k1));refine ih (fun x hx=>hk x (List.mem_cons_of_mem _ hx)) (fun x hx=>he x (List.mem_cons_of_mem _ hx)) (I1.k k2) (Fin.b ⟨h2,hf.2⟩) (fun vs s₃ ds k3 r3 hl h3=>?_) (hE.back (k1.tr k2));exact hq _ _ ((dOf u,dOf u2)::ds) ((k1.tr k2).tr k3) ⟨((r.rep I.gnd.avlt).k I.gnd.fav k2).k I.gnd.fav k3,(r2.rep I1.gnd.avlt).k I.gnd.fav k3,r3⟩ (congrArg Nat.succ hl) h3
theorem bQ.mono{h h':Heap}{av av':Addr→Prop}(hk:∀ b o,h.get? b=some o→h'.get? b=some o)(ha:∀ b o,h.get? b=some o→av' b→av b){v:Value}{u:V}(r:bQ prog w mg l h av v u):bQ prog w mg l h' av' v u:=by
 cases u with
 |fz d=>exact(show Rep prog w h av v d from r).mono (fun b o _ e=>hk b o e) ha
 |own d=>obtain⟨a,e,f,r⟩:=r;exact⟨a,e,f,r.mono (fun b o _ e=>hk b o e) ha fun o e=>hk _ o e⟩
 |dp d=>exact(show Rep prog w h av v d from r).mono (fun b o _ e=>hk b o e) ha
 |ex x=>obtain⟨e,h,r⟩:=r;exact⟨e,h,r.mono (fun b o _ e=>hk b o e) ha⟩
theorem aM.keeps{env:Env}{h h':Heap}{x:Str}{u:Value}(v:aM env h x u)(hk:∀ b o,h.get? b=some o→h'.get? b=some o):aM env h' x u:=by
 rcases v with ⟨k,m,hn,e⟩ | ⟨k,c,e,hc⟩
 ·exact .inl ⟨k,m,hn.keeps hk,e⟩
 ·exact .inr ⟨k,c,e,hc.keeps hk⟩
theorem Gnd.apart{av:Addr→Prop}{s:Shared}(G:Gnd prog w mg mb base l av s)(o:Obj)(ho:o.isFreed=false):Gnd prog w mg mb base l (fun b=>av b∨b=s.heap.objs.size) { s with heap:=s.heap.push o } where
 glo:=G.glo
 stay:=fun b o e=>Heap.get?_push_of_some _ (G.stay b o e)
 ff:=(G.k (K.of (Kp.push' s o))).ff
 fav:=fun b f=>.inl (G.fav b f)
 avlt:=fun b hb=>hb.elim (fun hb=>by obtain⟨o,e⟩:=G.avlt b hb;exact⟨o,Heap.get?_push_of_some _ e⟩) fun hb=>⟨o,hb▸cH _ _ ho⟩
 avS:=.inl G.avS
theorem Inv0.apart{env:Env}{av:Addr→Prop}{s:Shared}(I:Inv0 prog w mg mb base l env sc σ av s)(o:Obj)(ho:o.isFreed=false) :
  Inv0 prog w mg mb base l env sc σ (fun b=>av b∨b=s.heap.objs.size) { s with heap:=s.heap.push o } :=
 { I with
  gnd:=I.gnd.apart o ho
  get:=fun x v hl e=>let ⟨u,h1,h2⟩:=I.get x v hl e
   ⟨u,h1.keeps fun b o e=>Heap.get?_push_of_some _ e,h2.mono (fun b o e=>Heap.get?_push_of_some _ e) fun b o e hb=>hb.elim id fun hb=>by (rw[hb,bK] at e;exact ns e)⟩ }
theorem ExAt.less{h:Heap}{av av':Addr→Prop}(ha:∀ b,av' b→av b){e:Addr}{x:X}(r:ExAt prog w mg h av e x):ExAt prog w mg h av' e x:=r.mono (fun _ _ _ e=>e) fun b _ _ x=>ha b x
theorem EH.apart{β:Type}{s:Shared}{av:Addr→Prop}{fin:R β}{E:Value→Shared→Prop}(h:EH prog w mg l s av fin E)(o:Obj):EH prog w mg l { s with heap:=s.heap.push o } (fun b=>av b∨b=s.heap.objs.size) fin E :=
 fun x v s'' e f=>h x v s'' e (by obtain⟨k',e,h1,h2,h3,h4⟩:=f;exact Fly.back (K.of (Kp.push' s o)) ⟨k',e,h1,h2,h3.less fun _ x=>.inl x,h4⟩)
theorem Ld{h:Heap}{av:Addr→Prop}:∀ {vs:List (Value×Value)} {ds:List (PyData×PyData)} {ps:List (Str×PyData)},PR prog w h av vs ds→keys? ds=some ps→(∃ kvs,Carries (strKind prog w) vs kvs∧PS prog w h av kvs ps)∧ps.length=ds.length
 := by
 intro vs
 induction vs with
 |nil =>
  intro ds ps x e;cases ds with
  |nil=>obtain rfl:=si e;exact⟨⟨[],trivial,trivial⟩,rfl⟩
  |cons=>exact x.elim
 |cons p vs ih =>
  obtain⟨key,v⟩:=p;intro ds ps x e;cases ds with
  |nil=>exact x.elim
  |cons q ds =>
   obtain⟨dk,d⟩:=q;obtain⟨x1,x2,x3⟩:=x;cases dk with
   |str k =>
    obtain⟨t,e1,hk⟩:=x1.str_inv;obtain rfl:key=.str k t:=e1;obtain⟨ps',e',rfl⟩:=Option.map_eq_some_iff.mp (show(keys? ds).map ((k,d)::·)=some ps from e);obtain⟨⟨kvs,y1,y2⟩,y3⟩:=ih x3 e';exact⟨⟨(k,v)::kvs,⟨dM k t,rfl,y1⟩,rfl,hk,x2,y2⟩,congrArg Nat.succ y3⟩
   |_=>exact ns e
theorem K.but{s s₁:Shared}{o:Obj}{h':Heap}{tk:Nat}(k:K l { s with heap:=s.heap.push o } s₁)(hs:Heap.SameBut s.heap.objs.size s₁.heap h'):K l s { s₁ with heap:=h',toks:=tk }:=by
 obtain⟨hh,tt,rfl,kk,uu⟩:=k;have ne:∀ b o',s.heap.get? b=some o'→b≠s.heap.objs.size:=fun b o' e x=>by rw[x,bK] at e;exact ns e
 refine⟨h',tk,rfl,fun b o' f e=>?_,fun b o' e=>?_⟩
 ·rw[hs.2 b (ne b o' e)];exact kk b o' f (Heap.get?_push_of_some _ e)
 ·rw[hs.2 b (ne b o' e)];exact uu b o' (Heap.get?_push_of_some _ e)
theorem Le{h h':Heap}{D:Addr}{av:Addr→Prop}(hs:Heap.SameBut D h h'):∀ b o,¬ (av b∨b=D)→h.get? b=some o→h'.get? b=some o:=fun b o hb e=>by
 rw[hs.2 b (fun x=>hb (.inr x))];exact e
theorem Lf{rec:Expr→R V}{ks:List (Option Expr)}{es:List Expr}{pos:Pos}(hk:∀ k,some k∈ks→aF prog w mg mb base n hd l sc σ k (rec k))(he:∀ e∈es,aF prog w mg mb base n hd l sc σ e (rec e)) :
  aF prog w mg mb base n hd l sc σ (.Dict ks es pos) (if ks.all Option.isSome=true∧ks.length=es.length∧es.length≤15 then rb (l5 rec ks es) fun l=>ofP (j5 l) else .no):=by
 intro A env s av hA I β k fin Q E hf hq hE;obtain⟨⟨c1,c2,c3⟩,hf⟩:=Fin.ite hf;obtain⟨g1,g2⟩:=zE env pos c1 c2;cases es with
 |nil =>
  obtain rfl:ks=[]:=List.length_eq_zero_iff.mp c2;exact wpAny_Dict_empty (hq.step (u:=.own (.dict [])) (K.rf l s) (yZ (kvs:=[]) (ps:=[]) (Kp.rfl' s) (Kp.push' s _) (bK _) (kH I.gnd) (Heap.DictOf.new s.heap) (Nat.zero_le _) trivial) hf.1)
 |cons e es =>
  refine wpAny_Dict_pairs (knd:=strKind prog w) g1 (fun h=>by rw[h] at g2;cases g2) (g2.symm▸c3) (Lc hA hk he (I.apart _ rfl) hf.b (fun vs s₁ ds k1 r hl h1=>?_) (hE.apart _));obtain⟨v,e1,e2⟩:=Fin.p ⟨h1,hf.2⟩;unfold j5 at e1;refine ocs (keys? ds) (fun hds=>?_) fun ps hds=>?_
  ·try rewrite[hds]
   rw[hds] at e1;exact pno e1
  ·try rewrite[hds]
   rw[hds] at e1;obtain rfl:=pi e1;obtain⟨⟨kvs,q1,q2⟩,q3⟩:=Ld r hds;have hd0:s₁.heap.DictOf (strKind prog w) s.heap.objs.size []:=by
    obtain⟨o,es,ep,e,r⟩:=Heap.DictOf.new (knd:=strKind prog w) s.heap;exact⟨o,es,ep,k1.at (fun f=>by obtain⟨o,e⟩:=I.gnd.avlt _ (I.gnd.fav _ f);rw[bK] at e;exact ns e) e,r⟩
   refine⟨kvs,q1,hd0,fun h' hd hs=>hq _ _ (.own (.dict (cK ps []))) (K.but k1 hs) ?_ e2⟩;obtain⟨y1,y2⟩:=KV.sets q2 (acc:=[]) List.nodup_nil (show KV prog w s₁.heap _ [] [] from trivial) nofun;have hkv:=(y1.mono (h':=h') (av':=fun b=>av b∨b=s.heap.objs.size) (Le hs) fun _ _ _ x=>x).out;refine⟨s.heap.objs.size,rfl,bK _,merged [] kvs,hd,⟨Nat.le_trans (merged_length_le [] kvs) ?_,y2⟩,kH I.gnd,hkv.1,hkv.2⟩;rw[q2.length,q3,hl];exact Nat.le_trans (by simpa using c3) (by decide:15≤sizeLine)
end
end Mine
namespace Mine
open PySem
section
variable {prog:Program} {w:World} {mg mb:Str→Option Value} {base:Heap} {n:Nat} {hd:Bool} {l:List Env} {sc:Scope} {σ:aA}
structure Src(prog:Program)(w:World)(A:Around)(h0:Heap)(av0:Addr→Prop)(target:Expr)(it:Value)(wr:Addr→Prop)(St:Nat→Heap→Prop)(ds:List PyData):Prop where
 live:∀ i h,St i h→∀ b,wr b→∃ o,h.get? b=some o
 frame:∀ i h h',St i h→(∀ b o,wr b→h.get? b=some o→h'.get? b=some o)→(∀ b o,h0.get? b=some o→¬ av0 b→h'.get? b=some o)→St i h'
 item:∀ i d (s:Shared) (E:Value→Shared→Prop) (Q:Value→Shared→Prop),ds[i]?=some d→St i s.heap →
  (∀ v h' tk,(∀ b o,¬ wr b→s.heap.get? b=some o→h'.get? b=some o)→St (i+1) h' →
   (∀ avn:Addr→Prop,(∀ b,avn b→∃ o,s.heap.get? b=some o)→(∀ b o,h0.get? b=some o→avn b→av0 b)→Rep prog w h' avn v d)→Q v { s with heap:=h',toks:=tk }) →
  wpAny (model prog w) A (pyNext it) (fun r s₁=>match r with | none=>False | some v=>wpAny (model prog w) A (letOwnedTupleGo target it v) (fun _ s₂=>Q v s₂) E s₁) E s
 done:∀ (s:Shared) (E:Value→Shared→Prop) (Q:Shared→Prop),St ds.length s.heap→(∀ h' tk,(∀ b o,¬ wr b→s.heap.get? b=some o→h'.get? b=some o)→Q { s with heap:=h',toks:=tk }) →
  wpAny (model prog w) A (pyNext it) (fun r s₁=>match r with | none=>Q s₁ | some _=>False) E s
 self:∀ i (s:Shared) (Q:Value→Shared→Prop) (E:Value→Shared→Prop),St i s.heap→Q it s→wpAny (model prog w) A (pyIter it) Q E s
noncomputable def rI(n:String):Bool:=["enumerate", "zip", "dict_itemiterator", "dict_reverseitemiterator", "odict_iterator", "itertools.zip_longest", "itertools.pairwise"].contains n
theorem Lg{M:Model}{A:Around}{E:Value→Shared→Prop}{s:Shared}{target:Expr}{I:Addr}{v:Value}{o:Obj}{n:String}{Q:Unit→Shared→Prop}(hI:s.heap.get? I=some o)(hc:o.cls=.type n)(hn:rI n=false)(h:Q () s) :
  wpAny M A (letOwnedTupleGo target (.ref I) v) Q E s:=by
 have key:wpAny M A (match (Value.ref I,v) with
  | (.ref r,.ref a)=>(do
   let o ← load r
   match o.cls,o.data with
   | .type n,.fields vs=>if ["enumerate", "zip", "dict_itemiterator", "dict_reverseitemiterator", "odict_iterator", "itertools.zip_longest", "itertools.pairwise"].contains n&&vs[0]?==some (rawInt a) then do
     rule "for.unpacks-the-owned-tuple"; updateField r 0 .none else pure ()
   |_,_=>pure ():Sem Unit)
  |_=>pure ()) Q E s:=by
  cases v with
  |ref a =>
   refine wpAny_bind (wpAny_load hI ?_);rw[hc];cases o.data<;>first | exact wpAny_pure h | skip;have:["enumerate", "zip", "dict_itemiterator", "dict_reverseitemiterator", "odict_iterator", "itertools.zip_longest", "itertools.pairwise"].contains n=false:=hn;simp only[this,Bool.false_and,Bool.false_eq_true,if_false];exact wpAny_pure h
  |_=>exact wpAny_pure h
 cases target with
 |Tuple=>exact key
 |List=>exact key
 |_=>exact wpAny_pure h
theorem zF{α:Type}{ds:List α}{i:Nat}{d:α}(h:ds[i]?=some d):i < ds.length:=(List.getElem?_eq_some_iff.mp h).1
theorem Src.ofWalks{A:Around}{h0:Heap}{av0:Addr→Prop}{target:Expr}{I:Addr}{fp:List Addr}{ds:List PyData}{n:Nat}{P:Nat→Value→Prop}{St0:Nat→Heap→Prop}(W:Walks prog w A I fp [I] n P St0)(hn:n=ds.length)
  (hfp:∀ b∈fp,b=I∨((∃ o,h0.get? b=some o)∧¬ av0 b)) (hcls:∀ i h,St0 i h→∃ o T,h.get? I=some o∧o.cls=.type T∧rI T=false)
  (hI0:h0.get? I=none) (hP:∀ i v d,P i v→ds[i]?=some d→Rep prog w h0 av0 v d) :
  Src prog w A h0 av0 target (.ref I) (fun b=>b=I) (fun i h=>St0 i h∧∀ b o,h0.get? b=some o→¬ av0 b→h.get? b=some o) ds where
 live:=fun i h st b hb=>by obtain⟨o,T,e,_⟩:=hcls i h st.1;exact⟨o,(show b=I from hb)▸e⟩
 frame:=fun i h h' st hk hk0=>⟨W.frame i h h' st.1 fun b hb o e=>by
  rcases hfp b hb with rfl | ⟨⟨o',e'⟩,hav⟩
  ·exact hk b o rfl e
  ·have:=st.2 b o' e' hav;rw[e] at this;obtain rfl:=si this;exact hk0 b o e' hav,hk0⟩
 item:=fun i d s E Q hd st hQ=>by
  refine W.item i s _ E (hn▸zF hd) st.1 fun v h' tk hPv st' hk=>?_;obtain⟨o,T,e1,e2,e3⟩:=hcls _ _ st';have hk':∀ b o,¬ (b=I)→s.heap.get? b=some o→h'.get? b=some o:=fun b o hb e=>hk b o (fun h=>hb (List.mem_singleton.mp h)) e;have hkk:∀ b o,h0.get? b=some o→¬ av0 b→h'.get? b=some o:=fun b o e hav=>hk' b o (fun x=>by rw[x,hI0] at e;exact ns e) (st.2 b o e hav);refine Lg (s:={ s with heap:=h',toks:=tk }) e1 e2 e3 (hQ v h' tk hk' ⟨st',hkk⟩ fun avn hlive hsub=>?_);exact(hP i v d hPv hd).mono (fun b o hb e=>hkk b o e hb) hsub
 done:=fun s E Q st hQ=>W.done s _ E (show St0 n s.heap from hn▸st.1) fun h' tk hk=>hQ h' tk fun b o hb e=>hk b o (fun h=>hb (List.mem_singleton.mp h)) e
 self:=fun i s Q E st hQ=>W.self i s Q E st.1 hQ
inductive IterAt(prog:Program)(w:World)(A:Around)(l:List Env)(target:Expr)(s:Shared)(av:Addr→Prop)(it:Value)(s':Shared)(ds:List PyData):Prop where
 |mk (s₁ wr St) (a:K l s s₁) (b:Src prog w A s₁.heap av target it wr St ds) (c:St 0 s'.heap) (d:∀ b,wr b→s₁.heap.get? b=none∧∃ o,s'.heap.get? b=some o) (e:Kp s₁ s') (f:ds.length≤sizeLine):IterAt prog w A l target s av it s' ds
theorem nC{h:Heap}{a:Addr}{o:Obj}(e:h.get? a=some o):a≠h.objs.size:=fun x=>by rw[x,bK] at e;exact ns e
theorem iY{A:Around}{target:Expr}{s₀ s:Shared}{av:Addr→Prop}{ds:List PyData}{o:Obj}(k0:K l s₀ s)(ho:o.isFreed=false){fp:List Addr}{n:Nat}{P:Nat→Value→Prop}{St0:Nat→Heap→Prop}
  (W:Walks prog w A s.heap.objs.size fp [s.heap.objs.size] n P St0) (hn:n=ds.length) (hz:ds.length≤sizeLine)
  (hfp:∀ b∈fp,b=s.heap.objs.size∨((∃ o,s.heap.get? b=some o)∧¬ av b)) (hcls:∀ i h,St0 i h→∃ o T,h.get? s.heap.objs.size=some o∧o.cls=.type T∧rI T=false)
  (hP:∀ i v d,P i v→ds[i]?=some d→Rep prog w s.heap av v d) (hst:St0 0 (s.heap.push o)) :
  IterAt prog w A l target s₀ av (.ref s.heap.objs.size) { s with heap:=s.heap.push o } ds :=
 ⟨s,_,_,k0,Src.ofWalks W hn hfp hcls (bK _) hP,⟨hst,fun b o' e _=>Heap.get?_push_of_some _ e⟩,fun b hb=>(show b=s.heap.objs.size from hb)▸⟨bK _,o,cH _ _ ho⟩,Kp.push' s o,hz⟩
theorem fp2{s:Shared}{av:Addr→Prop}{a:Addr}{o:Obj}(e:s.heap.get? a=some o)(h1:¬ av a):∀ b∈[s.heap.objs.size,a],b=s.heap.objs.size∨((∃ o,s.heap.get? b=some o)∧¬ av b):=fun b hb=>by
 rcases List.mem_cons.mp hb with hb | hb
 ·exact .inl hb
 ·exact .inr (List.mem_singleton.mp hb▸⟨⟨_,e⟩,h1⟩)
theorem zG{A:Around}{target:Expr}{s₀ s:Shared}{av:Addr→Prop}{v:Value}{d:PyData}{ds:List PyData}(k0:K l s₀ s)(hh:A.handled=none)(r:Rep prog w s.heap av v d)(hi:items d=.ok ds)
  {Q:Value→Shared→Prop} {E:Value→Shared→Prop} (hq:∀ it s',IterAt prog w A l target s₀ av it s' ds→Q it s'):wpAny (model prog w) A (pyIter v) Q E s:=by
 cases d with
 |list dl =>
  obtain rfl:=pi hi;obtain⟨a,vs,rfl,h1,⟨n,e⟩,h3,h4,h5⟩:=r.list_inv;exact wpAny_pyIter_list ⟨_,e,rfl,_,rfl⟩ (hq _ _ (iY k0 rfl (Walks.list hh s.heap.objs.size a (nC e) vs.toArray) (by simpa using h3) (h3▸h4) (fp2 e h1) (fun i h st=>by obtain⟨⟨o,e,c,_⟩,_⟩:=st;exact⟨o,_,e,c,by decide⟩)
   (fun i v d hP hd=>h5 i v d (by simpa using hP) hd) ⟨⟨_,cH _ _ rfl,rfl,rfl⟩,⟨_,Heap.get?_push_of_some _ e,rfl,_,rfl⟩⟩))
 |tuple dl =>
  obtain rfl:=pi hi;obtain⟨a,vs,rfl,h1,⟨n,e⟩,h3,h4,h5⟩:=r.tuple_inv;exact wpAny_pyIter_tuple ⟨_,e,rfl,_,rfl⟩ (hq _ _ (iY k0 rfl (Walks.tuple hh s.heap.objs.size a (nC e) vs.toArray) (by simpa using h3) (h3▸h4) (fp2 e h1) (fun i h st=>by obtain⟨⟨o,e,c,_⟩,_⟩:=st;exact⟨o,_,e,c,by decide⟩)
   (fun i v d hP hd=>h5 i v d (by simpa using hP) hd) ⟨⟨_,cH _ _ rfl,rfl,rfl⟩,⟨_,Heap.get?_push_of_some _ e,rfl,_,rfl⟩⟩))
 |dict dl =>
  obtain rfl:=pi hi;obtain⟨a,kvs,rfl,h1,⟨o,es,ep,e,hd⟩,h3,h4,h5,h6⟩:=r.dict_inv;have hl:dl.length=kvs.length:=by simpa using congrArg List.length h5
  refine wpAny_pyIter_dict (knd:=strKind prog w) (kvs:=kvs) (ep:=ep) h4 ⟨o,es,e,hd⟩ (hq _ _ (iY k0 rfl (Walks.dictKeys (knd:=strKind prog w) hh s.heap.objs.size a (nC e) kvs ep) (by simp[hl]) (by simpa[hl] using h3.1) (fp2 e h1) (fun i h st=>by obtain⟨⟨o,e,c,_⟩,_⟩:=st;exact⟨o,_,e,c,by decide⟩)
   (fun i v d hP hd=>?_) ⟨⟨_,cH _ _ rfl,rfl,rfl⟩,⟨o,es,Heap.get?_push_of_some _ e,hd⟩⟩))
  obtain⟨k,x,e3,e4⟩:=hP;obtain⟨t,rfl⟩:=Value.isStrOf_shape e4;rw[h5,List.getElem?_map,e3] at hd;obtain rfl:=si hd;exact .str k t (h3.2 _ (List.mem_of_getElem? e3))
 |str x =>
  obtain rfl:=pi hi;obtain⟨t,rfl,hx⟩:=r.str_inv;refine wpAny_pyIter_strU (hq _ _ ?_);have hP:∀ (i:Nat) (v:Value) (d:PyData),SignAt x i v→(x.cps.toList.map bP)[i]?=some d→Rep prog w s.heap av v d:=fun i v d hP hd=>by
   obtain⟨c,u,e1,rfl⟩:=hP;rw[List.getElem?_map,Array.getElem?_toList,e1] at hd;obtain rfl:=si hd;exact .str _ u (by rw[sizeLine_eq];exact Nat.le_of_ble_eq_true rfl)
  have hfp:∀ b∈[s.heap.objs.size],b=s.heap.objs.size∨((∃ o,s.heap.get? b=some o)∧¬ av b):=fun b hb=>.inl (List.mem_singleton.mp hb);have hz:(x.cps.toList.map bP).length≤sizeLine:=by simpa using (show x.cps.size≤sizeLine from hx)
  by_cases ha:x.cps.all (· < 128)=true
  ·rw[show strIterType x = "str_ascii_iterator" from if_pos ha];exact iY k0 rfl (Walks.strAscii hh s.heap.objs.size x t) (by simp) hz hfp (fun i h st=>by obtain⟨o,e,c,_⟩:=st;exact⟨o,_,e,c,by decide⟩) hP ⟨_,cH _ _ rfl,rfl,rfl⟩
  ·rw[show strIterType x = "str_iterator" from if_neg ha];exact iY k0 rfl (Walks.strWide hh s.heap.objs.size x t) (by simp) hz hfp (fun i h st=>by obtain⟨o,e,c,_⟩:=st;exact⟨o,_,e,c,by decide⟩) hP ⟨_,cH _ _ rfl,rfl,rfl⟩
 |_=>exact pno hi
end
end Mine
namespace Mine
open PySem
section
variable {prog:Program} {w:World} {mg mb:Str→Option Value} {base:Heap} {n:Nat} {hd:Bool} {l:List Env} {sc:Scope} {σ:aA}
theorem zH:∀ (n:Nat) (a:Int) (i:Nat) (d:PyData),(dK a n)[i]?=some d→d=.int (a+i)
 |0,a,i,d,h=>by exact ns h
 |n+1,a,0,d,h=>by obtain rfl:=si h;rw[show a+((0:Nat):Int)=a from Int.add_zero a]
 |n+1,a,i+1,d,h=>by
  rw[zH n (a+1) i d h];congr 1;push_cast;exact vF
theorem zI:∀ (n:Nat) (a:Int),(dK a n).length=n:=by
 intro v0
 induction v0 with
 |zero =>
  intro _;exact rfl
 |succ n ih =>
  intro a;exact congrArg Nat.succ (ih (a+1))
theorem Lh{A:Around}{target:Expr}{s₀ s:Shared}{av:Addr→Prop}{r:Addr}{b:Int}{t u v:Tok}(k0:K l s₀ s)(hh:A.handled=none)(hr:IsRange s.heap r 0 b 1 t u v)(h4:b≤4096)
  {Q:Value→Shared→Prop} {E:Value→Shared→Prop} (hq:∀ it s',IterAt prog w A l target s₀ av it s' (dK 0 b.toNat)→Q it s') (hb:-10000≤b):wpAny (model prog w) A (pyIter (.ref r)) Q E s:=by
 have hsz:Builtin.Range.rangeSize 0 b 1=(b.toNat:Int):=by
  rw[rangeSize_one]
  split<;>lia
 have hsm:Builtin.Range.small 0 b 1=true:=by
  unfold Builtin.Range.small;rw[hsz];have f:∀ i:Int,-10000≤i→i≤10000→Builtin.Range.rangeFitsLong i=true:=fun i q1 q2=>by
   unfold Builtin.Range.rangeFitsLong;simp only[Bool.and_eq_true,decide_eq_true_eq];lia
  rw[f 0 (by lia) (by lia),f b hb (by lia),f 1 (by lia) (by lia),f _ (by lia) (by lia)];have:((1:Int) > 0):=by lia
  simp only[this,if_true,Bool.and_self,Bool.true_and];rw[f (b+(1 - 1)) (by exact Em hb) (by exact En h4)];simp
 refine wpAny_pyIter_range hr hsm (hq _ _ (iY k0 rfl (Walks.range hh s.heap.objs.size 0 1 b.toNat) (by rw[zI]) (by rw[zI,sizeLine_eq];exact Eo h4) (fun x hx=>.inl (List.mem_singleton.mp hx)) (fun i h st=>⟨_,_,st,rfl,by decide⟩) (fun i v d hP hd=>?_) ?_))
 ·obtain⟨t,rfl⟩:=hP;rw[zH _ _ _ _ hd,Int.mul_one];exact .int _ _
 ·show(s.heap.push _).get? _=_;rw[cH _ _ rfl,hsz];simp
noncomputable def kK(prog:Program)(w:World)(mg mb:Str→Option Value)(base:Heap)(n:Nat)(hd:Bool)(l:List Env)(sc:Scope)(σ:aA)(target e:Expr)(r:R (List PyData)):Prop :=
 ∀ (A:Around) (env:Env) (s:Shared) (av:Addr→Prop),Room n hd l A→Inv0 prog w mg mb base l env sc σ av s →
  ∀ {β:Type} {k:List PyData→R β} {fin:R β} {Q:Value→Shared→Prop} {E:Value→Shared→Prop},Fin r k fin→(∀ it s' ds,IterAt prog w A l target s av it s' ds→k ds=fin→Q it s')→EH prog w mg l s av fin E →
   wpAny (model prog w) A (eval e env) (fun x s₁=>wpAny (model prog w) A (pyIter x) Q E s₁) E s
theorem Lj{rec:Expr→R V}{target e:Expr}(hh:hd=false)(h:aF prog w mg mb base n hd l sc σ e (rec e)):kK prog w mg mb base n hd l sc σ target e (iO rec e):=by
 intro A env s av hA I β k fin Q E hf hq he;refine h A env s av hA I (Fin.b hf) (fun v s₁ u k1 r h1=>?_) he;obtain⟨ds,e1,e2⟩:=Fin.p ⟨h1,hf.2⟩;exact zG k1 (hA.handled hh) (r.rep I.gnd.avlt) e1 fun it s' x=>hq _ _ _ x e2
theorem Lk{rec:Expr→R V}{target a:Expr}{p q:Pos}(hbad:∀ e,bad e=true→rec e=.no)(hh:hd=false)(hg:isG sc "range" = true)(h:aF prog w mg mb base n hd l sc σ a (rec a)) :
  kK prog w mg mb base n hd l sc σ target (.Call (.Name "range" p) [a] [] q) (pN rec a):=by
 intro A env s av hA I β k fin Q E hf hq he;refine PySem.Call_name1 (eA (eU (hbad a) (Fin.b hf).ne)) (cT I hg rfl (gB (.inr ⟨_,rfl⟩) (h A env s av hA I (Fin.b hf) (fun v s₁ u k1 r h1=>?_) he)));obtain⟨ds,e1,e2⟩:=Fin.p ⟨h1,hf.2⟩;refine pcs (gQ u) (fun hu=>?_) fun d hu=>?_
 ·try rewrite[hu]
  rw[hu] at e1;exact pno e1
 ·try rewrite[hu]
  rw[hu] at e1;cases rG hu;cases d with
  |int i =>
   obtain⟨t,rfl⟩:=(show Rep prog w s₁.heap av v (.int i) from r).int_inv;have e1:(if -4096≤i∧i≤4096 then P.ok (dK 0 i.toNat) else .no)=.ok ds:=e1
   by_cases hc:-4096≤i∧i≤4096
   ·rw[if_pos hc] at e1;obtain rfl:=pi e1;refine call_range_1 ?_;exact Lh (k1.trp (Kp.mk' fun b o e=>Heap.get?_push_of_some _ e)) (hA.handled hh) (cH _ _ rfl) hc.2 (fun it s' x=>hq _ _ _ x e2) (by exact Ep hc)
   ·rw[if_neg hc] at e1;exact pno e1
  |_=>exact pno e1
theorem zJ:∀ (l:List PyData) (a:Int) (i:Nat) (d:PyData),(dB a l)[i]?=some d→∃ x,l[i]?=some x∧d=.tuple [.int (a+i),x]
 | [],a,i,d,h=>by exact ns h
 |x::l,a,0,d,h=>by obtain rfl:=si h;exact⟨x,rfl,by rw[show a+((0:Nat):Int)=a from Int.add_zero a]⟩
 |x::l,a,i+1,d,h=>by
  obtain⟨y,h1,h2⟩:=zJ l (a+1) i d h;refine⟨y,h1,?_⟩;rw[h2,show a+1+(i:Int)=a+((i+1:Nat):Int) by push_cast;exact vF]
theorem rJ:∀ (l:List PyData) (a:Int),(dB a l).length=l.length:=by
 intro v0
 induction v0 with
 |nil =>
  intro _;exact rfl
 |cons x l ih =>
  intro a;exact congrArg Nat.succ (ih (a+1))
theorem Ll{A:Around}{elts:List Expr}{kk:Nat}{pos:Pos}{s₀ s:Shared}{h':Heap}{av:Addr→Prop}{ad:Addr}{vs:List Value}{m:List PyData}{nn:Nat}{old:Value}(k0:K l s₀ s)(hh:A.handled=none)(e:s.heap.get? ad=some { cls:=.type "list", data:=.seq vs.toArray nn })(h1:¬ av ad)
  (h3:vs.length=m.length) (h4:vs.length≤sizeLine) (h5:∀ (i:Nat) (v:Value) (d:PyData),vs[i]?=some v→m[i]?=some d→Rep prog w s.heap av v d)
  (he:IsEnum h' (s.heap.objs.size+1) s.heap.objs.size 0 old) (hit:h'.IsListIter s.heap.objs.size ad 0) (hk:∀ b o,s.heap.get? b=some o→h'.get? b=some o) :
  IterAt prog w A l (.Tuple elts kk pos) s₀ av (.ref (s.heap.objs.size+1)) { s with heap:=h' } (dB 0 m):=by
 have halt:=Heap.lt_size e;have hei:s.heap.objs.size+1≠s.heap.objs.size:=Nat.ne_of_gt (Nat.lt_succ_self _);have hle:ad≠s.heap.objs.size+1:=Nat.ne_of_lt (Nat.lt_succ_of_lt halt);have hli:ad≠s.heap.objs.size:=Nat.ne_of_lt halt;have hn:∀ b,(b=s.heap.objs.size+1∨b=s.heap.objs.size)→s.heap.get? b=none:=fun b hb=>hb.elim (fun x=>x▸Heap.get?_none_of_le (Nat.le_succ _)) fun x=>x▸bK _;refine⟨s,fun b=>b=s.heap.objs.size+1∨b=s.heap.objs.size,fun i h=>(∃ old,IsEnum h (s.heap.objs.size+1) s.heap.objs.size i old)∧h.IsListIter s.heap.objs.size ad i∧∀ b o,s.heap.get? b=some o→¬ av b→h.get? b=some o,k0,
  ⟨fun i h st b hb=>?_,fun i h g st hk' hk0=>?_,fun i d s₁ E Q hd st hQ=>?_,fun s₁ E Q st hQ=>?_,fun i s₁ Q E st hQ=>?_⟩,⟨⟨old,he⟩,hit,fun b o e _=>hk b o e⟩,fun b hb=>⟨hn b hb,?_⟩,Kp.mkh hk,by rw[rJ,← h3];exact h4⟩
 ·obtain⟨⟨old,he⟩,⟨o,hit,_⟩,_⟩:=st;rcases hb with rfl | rfl
  ·exact⟨_,he⟩
  ·exact⟨o,hit⟩
 ·obtain⟨⟨old,he⟩,hit,hl⟩:=st;exact⟨⟨old,hk' _ _ (.inl rfl) he⟩,hit.at fun o x=>hk' _ o (.inr rfl) x,hk0⟩
 ·obtain⟨⟨old,he⟩,hit,hl⟩:=st;have hil:i < vs.length:=by have:=zF hd;rw[rJ] at this;rw[h3];exact this
  have hL:s₁.heap.IsList ad vs.toArray:=⟨_,hl ad _ e h1,rfl,_,rfl⟩
  have hx:vs.toArray[i]?=some vs[i]:=by simp[hil]
  refine wpAny_pyNext_enum_item he hit hL hx hei fun h2 ho hit' hT hsz hk2=>?_;refine wpAny_letOwnedTupleGo_enum ho fun h3' he' hs'=>?_;have helt:s.heap.objs.size+1 < s₁.heap.objs.size:=Heap.lt_size he;have kept:∀ b o,¬ (b=s.heap.objs.size+1∨b=s.heap.objs.size)→s₁.heap.get? b=some o→h3'.get? b=some o:=fun b o hb e=>(hs'.2 b fun x=>hb (.inl x)).trans (hk2 b o (fun x=>hb (.inl x)) (fun x=>hb (.inr x)) e);have keep0:∀ b o,s.heap.get? b=some o→¬ av b→h3'.get? b=some o:=fun b o e hav=>kept b o (fun hb=>by rw[hn b hb] at e;exact ns e) (hl b o e hav);refine hQ (.ref s₁.heap.objs.size) h3' _ kept ⟨⟨_,by simpa using he'⟩,hit'.at fun o y=>(hs'.2 _ hei.symm).trans y,keep0⟩ fun avn hlive hsub=>?_;obtain⟨y,hy,rfl⟩:=zJ _ _ _ _ hd;refine Rep.tuple (vs:=[.int i s₁.toks,vs[i]]) (fun hx=>?_) ⟨_,(hs'.2 _ (Nat.ne_of_gt helt)).trans hT⟩ rfl (by rw[sizeLine_eq];exact Nat.le_of_ble_eq_true rfl) fun j v e e2 e3=>?_
  ·obtain⟨o,e⟩:=hlive _ hx;rw[bK] at e;exact ns e
  ·match j,e2,e3 with
   |0,e2,e3=>obtain rfl:=si e2;obtain rfl:=si e3;rw[Int.zero_add];exact .int _ _
   |1,e2,e3=>obtain rfl:=si e2;obtain rfl:=si e3;exact(h5 i _ _ (List.getElem?_eq_getElem hil) hy).mono (fun b o hb e=>keep0 b o e hb) hsub
 ·obtain⟨⟨old,he⟩,hit,hl⟩:=st;have hL:s₁.heap.IsList ad vs.toArray:=⟨_,hl ad _ e h1,rfl,_,rfl⟩
  rw[rJ,← h3] at he hit;exact wpAny_pyNext_enum_end hh he hit hL (Array.getElem?_eq_none (by simp)) fun h'' hx=>hQ h'' s₁.toks fun b o hb y=>hx b o (fun e'=>hb (.inr e')) y
 ·obtain⟨⟨old,he⟩,_,_⟩:=st;exact wpAny_pyIter_enum he hQ
 ·rcases hb with rfl | rfl
  ·exact⟨_,he⟩
  ·obtain⟨o,eo,_⟩:=hit;exact⟨o,eo⟩
theorem Lm{rec:Expr→R V}{target a:Expr}{p q:Pos}(hbad:∀ e,bad e=true→rec e=.no)(hh:hd=false)(hg:isG sc "enumerate" = true)(ht:jY target=true)(h:aF prog w mg mb base n hd l sc σ a (rec a)) :
  kK prog w mg mb base n hd l sc σ target (.Call (.Name "enumerate" p) [a] [] q) (pO rec a):=by
 intro A env s av hA I β k fin Q E hf hq he;refine PySem.Call_name1 (eA (eU (hbad a) (Fin.b hf).ne)) (cT I hg rfl (gB (.inr ⟨_,rfl⟩) (h A env s av hA I (Fin.b hf) (fun v s₁ u k1 r h1=>?_) he)));obtain⟨ds,e1,e2⟩:=Fin.p ⟨h1,hf.2⟩;have rd:=r.rep I.gnd.avlt;generalize dOf u=d at rd e1;cases d with
 |list m =>
  obtain rfl:=pi e1;obtain⟨ad,vs,rfl,h1,⟨nn,e⟩,h3,h4,h5⟩:=rd.list_inv;refine call_enumerate_list ⟨_,e,rfl,_,rfl⟩ fun h' he' hit hsz hk=>?_;unfold jY at ht;generalize hv:vw target=tv at ht;cases tv with
  |tup elts =>
   obtain⟨kk,pos,rfl⟩:=cM hv;exact wpAny_pyIter_enum he' (hq _ _ _ (Ll k1 (hA.handled hh) e h1 h3 h4 h5 he' hit hk) e2)
  |_=>exact bft ht
 |_=>exact pno e1
theorem nD{rec:Expr→R V}(hbad:∀ e,bad e=true→rec e=.no){target e:Expr}(h:aF prog w mg mb base n hd l sc σ e (rec e))
  (hsub:∀ f as kws q,e=.Call f as kws q→∀ a∈as,aF prog w mg mb base n hd l sc σ a (rec a)):kK prog w mg mb base n hd l sc σ target e (d6 rec hd sc target e):=by
 unfold d6;cases hd with
 |true=>exact fun A env s av hA I _ _ _ _ _ hf _ _=>hf.no.elim
 |false =>
  rw[if_neg Bool.false_ne_true];have P:=Lj (target:=target) rfl h;refine ocs (fD e) (fun hc=>?_) fun c hc=>?_
  ·try rewrite[hc]
   exact P
  ·try rewrite[hc]
   obtain⟨x,as⟩:=c;obtain⟨p,q,rfl⟩:=kF hc;show kK prog w mg mb base n false l sc σ target _ (if x = "range" ∨ x = "enumerate" ∨ x = "reversed" ∨ x = "zip" then _ else iO rec _)
   by_cases hx:x = "range" ∨ x = "enumerate" ∨ x = "reversed" ∨ x = "zip"
   ·rw[if_pos hx];intro A env s av hA I β k fin Q E hf hq he;obtain⟨hg,hf1⟩:=Fin.ite hf;clear hf;cases as with
    |nil=>exact hf1.no.elim
    |cons a r =>
     cases r with
     |cons=>exact hf1.no.elim
     |nil =>
      have ha:=hsub _ _ _ _ rfl a List.mem_cons_self;replace hf1:Fin (if x = "range" then pN rec a else if x = "enumerate" ∧ jY target=true then pO rec a else .no) k fin:=hf1
      by_cases h1:x = "range"
      ·rw[if_pos h1] at hf1;subst h1;exact Lk hbad rfl hg ha A env s av hA I hf1 hq he
      rw[if_neg h1] at hf1
      by_cases h2:x = "enumerate" ∧ jY target=true
      ·rw[if_pos h2] at hf1;obtain⟨rfl,h2⟩:=h2;exact Lm hbad rfl hg h2 ha A env s av hA I hf1 hq he
      rw[if_neg h2] at hf1;exact hf1.no.elim
   ·rw[if_neg hx];exact P
end
end Mine
namespace Mine
open PySem
section
variable {prog:Program} {w:World} {mg mb:Str→Option Value} {base:Heap} {n:Nat} {hd:Bool} {l:List Env}
theorem Ln{env:Env}:∀ (names:List (Str×NameKind)) (acc:List (Str×Addr)),(∀ p∈names,p.2=.free→∃ c,env.cells.lookup p.1=some c)→(∀ q∈acc,env.cells.lookup q.1=some q.2) →
  ∃ cl,(forIn names acc (fun (x:Str×NameKind) (cs:List (Str×Addr))=>if (x.2==NameKind.free)=true then (do let c ← cellOf env x.1;pure (ForInStep.yield ((x.1,c)::cs))) else pure (ForInStep.yield cs)):Sem (List (Str×Addr)))=pure cl ∧
   (∀ q∈cl,env.cells.lookup q.1=some q.2)∧(∀ q∈acc,q∈cl)∧∀ p∈names,p.2=.free→∃ c,(p.1,c)∈cl:=by
 intro v0
 induction v0 with
 |nil =>
  intro acc _ ha;exact⟨acc,by simp,ha,fun _ h=>h,fun _ h=>by simp at h⟩
 |cons pp r ih =>
  obtain⟨x,k⟩:=pp;intro acc hn ha;rw[List.forIn_cons]
  by_cases hk:k=.free
  ·subst hk;obtain⟨c,hc⟩:=hn (x,.free) (by simp) rfl;obtain⟨cl,h1,h2,h3,h4⟩:=ih ((x,c)::acc) (fun p hp=>hn p (List.mem_cons_of_mem _ hp)) (fun q hq=>by
    rcases List.mem_cons.mp hq with rfl | hq
    ·exact hc
    ·exact ha q hq)
   refine⟨cl,?_,h2,fun q hq=>h3 q (List.mem_cons_of_mem _ hq),fun p hp hpk=>?_⟩
   ·have e:cellOf env x=pure c:=by unfold cellOf;rw[hc]
    simp only[e];exact h1
   ·rcases List.mem_cons.mp hp with rfl | hp
    ·exact⟨c,h3 _ (by simp)⟩
    ·exact h4 p hp hpk
  ·obtain⟨cl,h1,h2,h3,h4⟩:=ih acc (fun p hp=>hn p (List.mem_cons_of_mem _ hp)) ha;refine⟨cl,?_,h2,h3,fun p hp hpk=>?_⟩
   ·have e:(k==NameKind.free)=false:=beq_eq_false_iff_ne.mpr hk;simp only[e];exact h1
   ·rcases List.mem_cons.mp hp with rfl | hp
    ·exact absurd hpk hk
    ·exact h4 p hp hpk
theorem zK{α:Type}:∀ {l:List (Str×α)} {x:Str} {c:α},(x,c)∈l→∃ c',l.lookup x=some c'∧(x,c')∈l
 | (y,d)::r,x,c,h=>by
  by_cases hxy:x=y
  ·subst hxy;exact⟨d,by simp[List.lookup],by simp⟩
  ·rcases List.mem_cons.mp h with h | h
   ·exact absurd (congrArg Prod.fst h) hxy
   ·obtain⟨c',h1,h2⟩:=zK h;have:(x==y)=false:=beq_eq_false_iff_ne.mpr hxy;exact⟨c',by simp only[List.lookup,this];exact h1,List.mem_cons_of_mem _ h2⟩
theorem cQ{α:Type}:∀ {l:List (Str×α)} {x:Str} {c:α},l.lookup x=some c→(x,c)∈l
 | (y,d)::r,x,c,h=>by
  by_cases hxy:x=y
  ·subst hxy;simp[List.lookup] at h;simp[h]
  ·have:(x==y)=false:=beq_eq_false_iff_ne.mpr hxy;simp only[List.lookup,this] at h;exact List.mem_cons_of_mem _ (cQ h)
theorem zL{env:Env}{scope:Scope}(h:∀ p∈scope.names,p.2=.free→∃ c,env.cells.lookup p.1=some c):∃ cl,closureFor scope env=pure cl∧∀ x c,(x,NameKind.free)∈scope.names→env.cells.lookup x=some c→cl.lookup x=some c:=by
 obtain⟨cl,h1,h2,_,h4⟩:=Ln (env:=env) scope.names [] h (by simp);refine⟨cl,?_,fun x c hx hc=>?_⟩
 ·unfold closureFor;show(forIn scope.names [] _:Sem _) >>= _=_;have:(forIn scope.names [] (fun (x:Str×NameKind) (cs:List (Str×Addr))=>if (x.2==NameKind.free)=true then (do let c ← cellOf env x.1;pure (ForInStep.yield ((x.1,c)::cs))) else pure (ForInStep.yield cs)):Sem (List (Str×Addr)))=pure cl:=h1;rw[show(forIn scope.names [] (fun (x:Str×NameKind) (cs:List (Str×Addr))=>_):Sem (List (Str×Addr)))=pure cl from this];rfl
 ·obtain⟨c',hc'⟩:=h4 (x,.free) hx rfl;obtain⟨c'',e1,e2⟩:=zK hc';have:=h2 _ e2;rw[hc] at this;rw[e1];exact this.symm▸rfl
noncomputable def CpE(prog:Program)(w:World)(A:Around)(acc:Value)(G:Shared→Prop)(X:Value→Shared→Prop):Value→Shared→Prop:=fun x s=>wpAny (model prog w) A (call (.builtin "list.append") [acc,x]) (fun _ s=>G s) X s
noncomputable def CpT(prog:Program)(w:World)(A:Around)(elt:Expr)(env:Env)(acc:Value)(G:Shared→Prop)(X:Value→Shared→Prop):Bool→Shared→Prop:=fun ok s=>if ok=true then wpAny (model prog w) A (eval elt env) (CpE prog w A acc G X) X s else G s
noncomputable def CpA(prog:Program)(w:World)(A:Around)(ifs:List Expr)(elt:Expr)(env:Env)(acc:Value)(G:Shared→Prop)(X:Value→Shared→Prop):Unit→Shared→Prop:=fun _ s =>
 wpAny (model prog w) A (forIn ifs true fun c r=>if r=true then do let ok ← isTrue c env (eval c env);pure (ForInStep.yield ok) else pure (ForInStep.yield r)) (CpT prog w A elt env acc G X) X s
noncomputable def CpN(prog:Program)(w:World)(A:Around)(R:Result→Shared→Prop)(target:Expr)(it:Value)(ifs:List Expr)(elt:Expr)(env:Env)(acc:Value)(G:Shared→Prop)(X:Value→Shared→Prop):Option Value→Shared→Prop:=fun r s=>match r with
 |none=>R (.ok .next) s
 |some v=>wpAny (model prog w) A (letOwnedTupleGo target it v) (fun _ s=>wpAny (model prog w) A (assign target env v) (CpA prog w A ifs elt env acc G X) X s) X s
theorem zM{A:Around}{R:Result→Shared→Prop}{s:Shared}{elt target iter:Expr}{ifs:List Expr}{scope:Scope}{pos:Pos}{it acc:Value}{env:Env}(I:Nat→Shared→Prop)
  (turn:∀ n s,I n s→wpAny (model prog w) A (pyNext it) (CpN prog w A R target it ifs elt env acc (fun s=>∃ m,m < n∧I m s) (notedBy (model prog w) A env fun e s'=>R (.error e) s')) (notedBy (model prog w) A env fun e s'=>R (.error e) s') s)
  (n:Nat) (h:I n s) :
  codeAny (model prog w) A (.compLoop (.ListComp elt [⟨target,iter,ifs,0⟩] scope pos) 0 it acc env) R s:=by
 refine codeAny_loop rfl I (fun n s hI=>?_) n h;show wpAny _ A ((compTurn (.ListComp elt [⟨target,iter,ifs,0⟩] scope pos) 0 it acc env).onRaise (fun x=>do noteFrame x env;theTreesLotGoes x)) _ _ s;refine wpAny_noted ?_;rw[compTurn_list];refine wpAny_bind (wpAny_standAt (wpAny_bind (wpAny_mono (turn n s hI) (fun r s₁ h₁=>?_) fun _ _ h'=>h')));cases r with
 |none=>exact wpAny_pure h₁
 |some v =>
  refine wpAny_bind (wpAny_mono h₁ (fun _ s₁ h₁=>?_) fun _ _ h'=>h');refine wpAny_bind (wpAny_mono h₁ (fun _ s₂ h₂=>wpAny_bind (wpAny_mono h₂ (fun ok s₃ h₃=>?_) fun _ _ h'=>h')) fun _ _ h'=>h');cases ok with
  |false=>exact wpAny_pure ⟨rfl,h₃⟩
  |true =>
   replace h₃:wpAny (model prog w) A (eval elt env) (CpE prog w A acc _ _) _ s₃:=h₃;exact wpAny_bind (wpAny_bind (wpAny_mono h₃ (fun x s₄ h₄=>wpAny_bind (wpAny_mono h₄ (fun _ s₅ h₅=>wpAny_pure (wpAny_pure ⟨rfl,h₅⟩)) fun _ _ h'=>h')) fun _ _ h'=>h'))
noncomputable def hO(env:Env)(x:Str)(k:NameKind):NameKind:=if (k==NameKind.free&&env.scope.kind==ScopeKind.function&&env.kindOf x==some NameKind.cell)=true then NameKind.cell else k
theorem Lo(f:Str→NameKind→NameKind)(x:Str):∀ (names:List (Str×NameKind)),(names.map fun p=>(p.1,f p.1 p.2)).lookup x=(names.lookup x).map (f x):=by
 intro v0
 induction v0 with
 |nil =>
  exact rfl
 |cons pp r ih =>
  obtain⟨y,k⟩:=pp
  by_cases hxy:x=y
  ·subst hxy;simp[List.lookup]
  ·have h2:(x==y)=false:=beq_eq_false_iff_ne.mpr hxy;simp only[List.map_cons,List.lookup,h2];exact ih
theorem Lp(env:Env)(sc':Scope):(relabel sc' env).names=sc'.names.map fun p=>(p.1,hO env p.1 p.2):=by
 unfold relabel;show List.map _ sc'.names=_;refine List.map_congr_left fun p _=>?_;obtain⟨n,k⟩:=p;show(if _ then (n,NameKind.cell) else (n,k))=(n,hO env n k);unfold hO
 split<;>rfl
theorem iZ{sc':Scope}{cl:List (Str×Addr)}{C:Addr}{env:Env}(x:Str):(compEnvC sc' cl C env).kindOf x=(sc'.names.lookup x).map (hO env x):=by
 show(relabel sc' env).names.lookup x=_;rw[Lp];exact Lo (hO env) x sc'.names
structure CompOk(sc sc':Scope)(t:Tg):Prop where
 kind:sc'.kind=.function
 loc:∀ p∈sc'.names,p.2=.local→(p.1 = ".0" ∨ p.1∈t.ns)∧sc'.names.lookup p.1=some .local
 cell:∀ p∈sc'.names,p.2≠.cell
 free:∀ p∈sc'.names,p.2=.free→l8 (sc.names.lookup p.1)=true
 tgt:∀ x∈t.ns,x ≠ ".0" ∧ sc'.names.lookup x=some .local
 dbg:sc'.names.lookup (Str.ofString "__debug__")=none
 cld:sc'.names.lookup (Str.ofString "__classdict__")=none
theorem zN{sc sc':Scope}{t:Tg}(h:gT sc sc' t=true):CompOk sc sc' t:=by
 unfold gT at h;simp only[Bool.and_eq_true] at h;obtain⟨⟨⟨⟨h1,h2⟩,h3⟩,h5⟩,h6⟩:=h;have h2':=List.all_eq_true.mp h2;have h3':=List.all_eq_true.mp h3;refine⟨eq_of_beq h1,fun p hp hk=>?_,fun p hp hk=>?_,fun p hp hk=>?_,fun x hx=>?_,Option.isNone_iff_eq_none.mp h5,Option.isNone_iff_eq_none.mp h6⟩
 ·have:=h2' p hp;rw[hk] at this;simp only[Bool.and_eq_true,Bool.or_eq_true,beq_iff_eq,List.contains_iff_mem] at this;exact this
 ·have:=h2' p hp;rw[hk] at this;exact bft this
 ·have:=h2' p hp;rw[hk] at this;exact this
 ·have:=h3' x hx;simp only[Bool.and_eq_true,bne_iff_ne,ne_eq,beq_iff_eq] at this;exact this
theorem aA.get_cons_ne{x y:Str}{v:Option V}{σ:aA}(h:x≠y):aA.get ((y,v)::σ) x=aA.get σ x:=by
 show(if x=y then some v else aA.get σ x)=_;rw[if_neg h]
theorem aA.get_cons_eq{x:Str}{v:Option V}{σ:aA}:aA.get ((x,v)::σ) x=some v:=by
 show(if x=x then some v else aA.get σ x)=_;rw[if_pos rfl]
theorem Lq{t:Tg}{d:PyData}{σ σ':aA}(hb:fS t d σ=some σ'):aA.get σ' ".0" = some none∧∀ x:Str,x ≠ ".0" → x∉t.ns→aA.get σ' x=aA.get σ x:=by
 cases t with
 |one z =>
  obtain rfl:=si hb;exact⟨aA.get_cons_eq,fun y h0 hy=>(aA.get_cons_ne h0).trans (aA.get_cons_ne fun e=>hy (List.mem_singleton.mpr e))⟩
inductive TgI(target:Expr):Tg→Prop where
 |one (x:Str) (p:Pos) (e:target=.Name x p):TgI target (.one x)
theorem zO{target:Expr}{t:Tg}(h:gR target=some t):TgI target t:=by
 unfold gR at h;generalize hv:vw target=tv at h;cases tv with
 |name x =>
  obtain rfl:=si h;obtain⟨p,rfl⟩:=cM hv;exact .one x p rfl
 |_=>exact ns h
theorem Inv0.comp{env:Env}{sc sc':Scope}{σ σ':aA}{av avn:Addr→Prop}{s s':Shared}{t:Tg}{d:PyData}{cl:List (Str×Addr)}{C:Addr}{m:Str→Option Value}(I:Inv0 prog w mg mb base l env sc σ av s)(hok:CompOk sc sc' t)(hb:fS t d σ=some σ')
  (hcl:∀ x c,(x,NameKind.free)∈sc'.names→env.cells.lookup x=some c→cl.lookup x=some c) (k:K l s s') (hav:∀ b o,s.heap.get? b=some o→avn b→av b) (hva:∀ b,av b→avn b)
  (hlive:∀ b,avn b→∃ o,s'.heap.get? b=some o) (hns:s'.heap.Ns C m) (hm:∀ x v,x∈t.ns→aA.get σ' x=some (some v)→∃ u,m x=some u∧bQ prog w mg l s'.heap avn u v) :
  Inv0 prog w mg mb base l (compEnvC sc' cl C env) sc' σ' avn s' where
 gnd:={ I.gnd.k k with fav:=fun b f=>hva b (I.gnd.fav b f),avlt:=hlive,avS:=hva _ I.gnd.avS }
 kind:=hok.kind
 eg:=I.eg
 eb:=I.eb
 dbg:=hok.dbg
 cld:=hok.cld
 glob:=fun x hx=>by
  unfold isG at hx;rw[iZ,eq_of_beq hx];rfl
 kinds:=fun x hx=>by
  refine ocs (sc'.names.lookup x) (fun hl=>?_) fun k hl=>?_
  ·try rewrite[hl]
   rw[hl] at hx;exact bft hx
  ·try rewrite[hl]
   rw[hl] at hx;have hmem:=cQ hl;cases k with
   |free =>
    obtain⟨h1,c,h2⟩:=I.kinds x (hok.free _ hmem rfl);rw[iZ,hl];refine⟨?_,c,hcl x c hmem h2⟩;simp only[Option.map_some];unfold hO
    split<;>rfl
   |cell=>exact absurd rfl (hok.cell _ hmem)
   |_=>exact bft hx
 get:=fun x v hl hg=>by
  obtain⟨b1,b2⟩:=Lq hb;have hx0:x ≠ ".0" := fun e=>by rw[e,b1] at hg;cases hg
  unfold isL at hl;cases hk':sc'.names.lookup x with
  |none=>rw[hk'] at hl;exact bft hl
  |some kk =>
   rw[hk'] at hl;have hmem:=cQ hk';cases kk with
   | «local» =>
    obtain⟨u,h1,h2⟩:=hm x v ((hok.loc _ hmem rfl).1.resolve_left hx0) hg;exact⟨u,.inl ⟨by rw[iZ,hk'];rfl,m,hns,h1⟩,h2⟩
   |cell=>exact absurd rfl (hok.cell _ hmem)
   |free =>
    have hcf:=hok.free _ hmem rfl;have hnt:x∉t.ns:=fun ht=>by have:=(hok.tgt x ht).2;rw[hk'] at this;cases this
    rw[b2 x hx0 hnt] at hg;have hsl:isL sc x=true:=by
     unfold isL;refine ocs (sc.names.lookup x) (fun h=>?_) fun k h=>?_
     ·try rewrite[h]
      rw[h] at hcf;exact bft hcf
     ·try rewrite[h]
      cases k<;>first | rfl | (rw[h] at hcf;cases hcf)
    obtain⟨u,h1,h2⟩:=I.get x v hsl hg;obtain⟨k1,c,k2⟩:=I.kinds x hcf;refine⟨u,?_,?_⟩
    ·rcases h1.k k with ⟨e,_⟩ | ⟨_,c',e1,e2⟩
     ·rw[e] at k1;exact bft k1
     ·refine .inr ⟨?_,c',hcl x c' hmem e1,e2⟩;rw[iZ,hk'];simp only[Option.map_some];unfold hO
      split
      ·exact .inl rfl
      ·exact .inr rfl
    ·exact(bQ.mono (fun _ _ e=>e) hav h2).k (av:=avn) (fun b f=>hva b (I.gnd.fav b f)) k
   |_=>exact bft hl
theorem zP{A:Around}{E:Value→Shared→Prop}{s:Shared}{env:Env}{target:Expr}{t:Tg}{d:PyData}{σ σ':aA}{avn:Addr→Prop}{v:Value}{m:Str→Option Value}{Q:Unit→Shared→Prop}(hh:A.handled=none)(ht:TgI target t)
  (hb:fS t d σ=some σ') (hv:Rep prog w s.heap avn v d) (hC:avn env.locals) (hn:s.heap.Ns env.locals m) (hl:∀ x∈t.ns,x ≠ ".0" ∧ env.kindOf x=some .local) (hf:env.scope.kind=.function)
  (h:∀ h' tk m',h'.Ns env.locals m'→(∀ b o,b≠env.locals→s.heap.get? b=some o→h'.get? b=some o)→(∀ x v,x∈t.ns→aA.get σ' x=some (some v)→∃ u,m' x=some u∧bQ prog w mg l h' avn u v)→Q () { s with heap:=h',toks:=tk }) :
  wpAny (model prog w) A (assign target env v) Q E s:=by
 have hp:(env.scope.kind==.class||(env.scope.kind==.module&&env.locals != env.globals))=false:=by rw[hf];rfl
 have mono:∀ {h1 h2:Heap} {v:Value} {d:PyData},Heap.SameBut env.locals h1 h2→Rep prog w h1 avn v d→Rep prog w h2 avn v d:=fun hs r =>
  r.mono (fun b o hb e=>by rw[hs.2 b (fun x=>hb (x▸hC))];exact e) fun _ _ _ x=>x
 cases ht with
 |one x p et =>
  subst et;obtain⟨q1,q2⟩:=hl x List.mem_cons_self;obtain rfl:=si hb;refine wpAny_assign_Name (wpAny_storeName_local q2 hn (fun h' hn' hs'=>?_) hp);refine h h' _ _ hn' (fun b o hb e=>by rw[hs'.2 b hb];exact e) fun y u hy hg=>?_;obtain rfl:=List.mem_singleton.mp hy;rw[bnd,aA.get_cons_ne q1,aA.get_cons_eq] at hg;cases hg;exact⟨v,by simp,mono hs' hv⟩
end
end Mine
namespace Mine
open PySem
section
variable {prog:Program} {w:World} {mg mb:Str→Option Value} {base:Heap} {n:Nat} {hd:Bool} {l:List Env}
theorem Fin.nx{α β:Type}{r:R α}{k:α→R β}{fin:R β}(h:Fin (nx r) k fin):∃ a,r=.ok a∧k a=fin:=by
 cases r with
 |ok a=>exact⟨a,rfl,h.1⟩
 |_=>exact(Fin.no h).elim
theorem EH.ok{β:Type}{s:Shared}{av:Addr→Prop}{b:β}{E:Value→Shared→Prop}:EH prog w mg l s av (.ok b) E:=fun _ _ _ e=>nomatch e
noncomputable def nE(prog:Program)(w:World)(mg mb:Str→Option Value)(base:Heap)(n:Nat)(hd:Bool)(l:List Env)(sc:Scope)(σ:aA)(ifs:List Expr)(r:R Bool):Prop :=
 ∀ (A:Around) (env:Env) (s:Shared) (av:Addr→Prop),Room n hd l A→Inv0 prog w mg mb base l env sc σ av s→∀ {b:Bool} {Q:Bool→Shared→Prop} {E:Value→Shared→Prop},r=.ok b→(∀ s',K l s s'→Q b s') →
  wpAny (model prog w) A (forIn ifs true fun c r=>if r=true then do let ok ← isTrue c env (eval c env);pure (ForInStep.yield ok) else pure (ForInStep.yield r)) Q E s
theorem aF.val{sc:Scope}{σ:aA}{e:Expr}{r:R V}(h:aF prog w mg mb base n hd l sc σ e r){A:Around}{env:Env}{s:Shared}{av:Addr→Prop}(hA:Room n hd l A)(I:Inv0 prog w mg mb base l env sc σ av s){u:V}{Q:Value→Shared→Prop}{E:Value→Shared→Prop}(hr:r=.ok u)
  (hq:∀ v s',K l s s'→aY prog w s s'.heap av v u→Q v s'):wpAny (model prog w) A (eval e env) Q E s :=
 h A env s av hA I (k:=.ok) (fin:=.ok u) ⟨by rw[hr];rfl,nofun⟩ (fun v s' u' k r e=>by cases e;exact hq v s' k r) EH.ok
theorem Lr{sc:Scope}{σ:aA}:nE prog w mg mb base n hd l sc σ [] (.ok true):=fun A env s av _ _ _ _ _ hr hq=>by cases hr;exact wpAny_tests_nil (hq _ (K.rf l s))
theorem Ls{sc:Scope}{σ:aA}{c:Expr}{r:R V}(h:bN prog w mg mb base n hd l sc σ c r):nE prog w mg mb base n hd l sc σ [c] (tst r):=fun A env s av hA I b _ _ hr hq =>
 wpAny_tests_one (h A env s av hA I (k:=.ok) (fin:=.ok b) ⟨by rw[hr];rfl,nofun⟩ (fun b' s' k e=>by cases e;exact hq s' k) EH.ok)
structure Cst(prog:Program)(w:World)(l:List Env)(s₁:Shared)(avn:Addr→Prop)(D C:Addr)(xs:List PyData)(st:Shared):Prop where
 k:K l s₁ st
 ns:∃ m,st.heap.Ns C m
 lst:∃ ys:List Value,st.heap.PlainList D ys.toArray∧ys.length=xs.length∧∀ (j:Nat) (v:Value) (d:PyData),ys[j]?=some v→xs[j]?=some d→Rep prog w st.heap avn v d
theorem K.on{s s':Shared}{h':Heap}{tk:Nat}{c:Addr}(k:K l s s')(hc:s.heap.get? c=none)(hk:∀ b o,b≠c→s'.heap.get? b=some o→h'.get? b=some o):K l s { s' with heap:=h',toks:=tk }:=by
 obtain⟨h,t,rfl,k1,k2⟩:=k;have ne:∀ b o,s.heap.get? b=some o→b≠c:=fun b o e x=>by rw[x,hc] at e;exact ns e
 exact⟨h',tk,rfl,fun b o n e=>hk b o (ne b o e) (k1 b o n e),fun b o e=>by obtain⟨sl,e'⟩:=k2 b o e;exact⟨sl,hk b _ (ne b o e) e'⟩⟩
theorem K.onw{s s':Shared}{h':Heap}{tk:Nat}{c:Addr→Prop}(k:K l s s')(hc:∀ b,c b→s.heap.get? b=none)(hk:∀ b o,¬ c b→s'.heap.get? b=some o→h'.get? b=some o):K l s { s' with heap:=h',toks:=tk }:=by
 obtain⟨h,t,rfl,k1,k2⟩:=k;have ne:∀ b o,s.heap.get? b=some o→¬ c b:=fun b o e x=>by rw[hc b x] at e;exact ns e
 exact⟨h',tk,rfl,fun b o n e=>hk b o (ne b o e) (k1 b o n e),fun b o e=>by obtain⟨sl,e'⟩:=k2 b o e;exact⟨sl,hk b _ (ne b o e) e'⟩⟩
theorem zQ{h:Heap}{av:Addr→Prop}{ys:List Value}{xs:List PyData}{v:Value}{x:PyData}(hl:ys.length=xs.length)(hr:∀ (j:Nat) (v:Value) (d:PyData),ys[j]?=some v→xs[j]?=some d→Rep prog w h av v d)(hx:Rep prog w h av v x) :
  ∀ (j:Nat) (v':Value) (d:PyData),(ys++[v])[j]?=some v'→(xs++[x])[j]?=some d→Rep prog w h av v' d :=
 xT hl (bs:=[x]) rfl hr fun j v' d e1 e2=>by
  cases j with
  |zero=>obtain rfl:=si e1;obtain rfl:=si e2;exact hx
  |succ j=>exact ns e1
theorem zR{α:Type}(t:Tg)(d:PyData)(σ:aA)(k:aA→R α):j6 t d σ k=match fS t d σ with | some σ'=>k σ' | none=>.no:=by
 cases t with
 |one x=>rfl
inductive CTurn(prog:Program)(w:World)(l:List Env)(s₁:Shared)(av':Addr→Prop)(D C:Addr)(n:Nat)(St:Nat→Heap→Prop)(P:Nat→List PyData→Prop)(m:Nat)(st:Shared):Prop where
 |mk (i:Nat) (xs:List PyData) (hi:i+m=n) (hx:xs.length≤i) (F:Cst prog w l s₁ av' D C xs st) (hs:St i st.heap) (hp:P i xs):CTurn prog w l s₁ av' D C n St P m st
theorem Lu{A:Around}{env:Env}{sc sc':Scope}{σ:aA}{av:Addr→Prop}{s₁:Shared}{z:Tg}{target:Expr}{elt iter:Expr}{ifs:List Expr}{pos:Pos}{cl:List (Str×Addr)}{it:Value}{wr:Addr→Prop}{St:Nat→Heap→Prop}{ds:List PyData}{D C:Addr}
  {test:aA→R Bool} {eltF:aA→R V} (hA:Room n hd l A) (hh:A.handled=none) (htg:TgI target z) (I:Inv0 prog w mg mb base l env sc σ av s₁) (hok:CompOk sc sc' z) (hcl:∀ x c,(x,NameKind.free)∈sc'.names→env.cells.lookup x=some c→cl.lookup x=some c)
  (hT:∀ σ',nE prog w mg mb base n hd l sc' σ' ifs (test σ')) (hE:∀ σ',aF prog w mg mb base n hd l sc' σ' elt (eltF σ'))
  (S:Src prog w A s₁.heap av target it wr St ds) (hwr:∀ b,wr b→s₁.heap.get? b=none)
  (hD:s₁.heap.get? D=none) (hC:s₁.heap.get? C=none) (hDC:D≠C) (hlen:ds.length≤sizeLine) (hDwr:¬ wr D) (hCwr:¬ wr C)
  {R:Result→Shared→Prop} {β:Type} {k:List PyData→Mine.R β} {fin:Mine.R β} (hne:fin≠.no) (hR:∀ xs st',xs.length≤sizeLine→Cst prog w l s₁ (fun b=>av b∨wr b∨b=D∨b=C) D C xs st'→k xs=fin→R (.ok .next) st')
  {st:Shared} (h:Cst prog w l s₁ (fun b=>av b∨wr b∨b=D∨b=C) D C [] st) (hst:St 0 st.heap) (hf:rb (fT test eltF z σ ds) k=fin) :
  codeAny (model prog w) A (.compLoop (.ListComp elt [⟨target,iter,ifs,0⟩] sc' pos) 0 it (.ref D) (compEnvC sc' cl C env)) R st:=by
 have nf:∀ b,(wr b∨b=D∨b=C)→¬ frs l b:=fun b hb f=>by
  obtain⟨o,e⟩:=I.gnd.avlt _ (I.gnd.fav _ f);rcases hb with hb | rfl | rfl
  ·rw[hwr b hb] at e;exact ns e
  ·rw[hD] at e;exact ns e
  ·rw[hC] at e;exact ns e
 have new:∀ b o,s₁.heap.get? b=some o→(av b∨wr b∨b=D∨b=C)→av b:=fun b o e hb=>by
  rcases hb with hb | hb | rfl | rfl
  ·exact hb
  ·rw[hwr b hb] at e;exact ns e
  ·rw[hD] at e;exact ns e
  ·rw[hC] at e;exact ns e
 have fvn:∀ b,frs l b→(av b∨wr b∨b=D∨b=C):=fun b f=>.inl (I.gnd.fav b f);obtain⟨P,hP⟩:∃ P:Nat→List PyData→Prop,∀ i xs,P i xs↔rb (fT test eltF z σ (ds.drop i)) (fun ys=>k (xs++ys))=fin:=⟨_,fun _ _=>Iff.rfl⟩
 refine zM (I:=CTurn prog w l s₁ (fun b=>av b∨wr b∨b=D∨b=C) D C ds.length St P) ?_ ds.length ⟨0,[],Nat.zero_add _,Nat.le_refl _,h,hst,(hP _ _).mpr hf⟩;clear h hst hf st
 rintro m st ⟨i,xs,hi,hx,F,hst,hp⟩
 replace hp:=(hP _ _).mp hp;obtain⟨kk,⟨mm,hns⟩,ys,hpl,hyl,hys⟩:=F;have live:∀ (st':Shared),K l s₁ st'→(∃ m,st'.heap.Ns C m)→st'.heap.PlainList D ys.toArray→(∀ b,wr b→∃ o,st'.heap.get? b=some o)→∀ b,(av b∨wr b∨b=D∨b=C)→∃ o,st'.heap.get? b=some o:=fun st' kk hn hp hw b hb=>by
  rcases hb with hb | hb | rfl | rfl
  ·obtain⟨o,e⟩:=I.gnd.avlt b hb;obtain⟨sl,e'⟩:=kk.up e;exact⟨_,e'⟩
  ·exact hw b hb
  ·obtain⟨nn,e⟩:=hp;exact⟨_,e⟩
  ·obtain⟨_,o,_,_,e,_⟩:=hn;exact⟨o,e⟩
 by_cases hend:i=ds.length
 ·subst hend;rw[List.drop_length] at hp;have hp:k (xs++[])=fin:=hp;rw[List.append_nil] at hp;refine wpAny_mono (S.done st _ (fun s'=>R (.ok .next) s') hst fun h' tk hk=>hR xs _ (Nat.le_trans hx hlen) ⟨kk.onw hwr hk,⟨mm,hns.at' fun o e=>hk C o hCwr e⟩,ys,hpl.at fun o e=>hk D o hDwr e,hyl,fun j v d e1 e2 =>
   (hys j v d e1 e2).mono (fun b o hb e=>hk b o (fun hw=>hb (.inr (.inl hw))) e) fun _ _ _ x=>x⟩ hp) (fun r s₁ h₁=>?_) fun _ _ x=>x
  cases r with
  |none=>exact h₁
  |some v=>exact h₁.elim
 ·have hlt:i < ds.length:=by exact lR hi hend
  rw[List.drop_eq_getElem_cons hlt] at hp;replace hp:Fin (rb (nx (j6 z ds[i] σ test)) fun b=>if b then rb (nx (j6 z ds[i] σ eltF)) fun v=>rb (fT test eltF z σ (ds.drop (i+1))) fun xs=>.ok (dOf v::xs) else fT test eltF z σ (ds.drop (i+1))) (fun ys=>k (xs++ys)) fin:=⟨hp,hne⟩
  obtain⟨b,ht,hp⟩:=hp.b.nx;rw[zR] at ht;simp only[zR] at hp;refine ocs (fS z ds[i] σ) (fun hbt=>by rw[hbt] at ht;cases ht) fun σ' hbt=>?_;rw[hbt] at ht hp;refine wpAny_mono (S.item i ds[i] st _ ?QQ (List.getElem?_eq_getElem hlt) hst ?body) ?link fun _ _ x=>x
  case link =>
   intro r s₁ h₁;cases r with
   |none=>exact h₁.elim
   |some v=>exact h₁
  intro v h1 tk1 hk1 st1 hrep;have rv:=hrep (fun b=>av b∨wr b∨b=D∨b=C) (live st kk ⟨mm,hns⟩ hpl (S.live i _ hst)) new;refine zP (l:=l) (mg:=mg) hh htg hbt rv (.inr (.inr (.inr rfl))) (hns.at' fun o e=>hk1 C o hCwr e) (fun x hx=>⟨(hok.tgt x hx).1,by rw[iZ,(hok.tgt x hx).2];rfl⟩) hok.kind fun h2 tk2 m2 hn2 hk2 hm2=>?_;have k2:K l s₁ { st with heap:=h2,toks:=tk2 }:=K.on (s':={ st with heap:=h1,toks:=tk1 }) (c:=C) (kk.onw (tk:=tk1) hwr hk1) hC hk2;have st2:St (i+1) h2:=S.frame _ _ _ st1 (fun b o hb e=>hk2 b o (fun x=>hCwr ((show b=C from x)▸hb)) e) fun b o e hav=>k2.at (fun f=>hav (I.gnd.fav b f)) e;have pl2:h2.PlainList D ys.toArray:=hpl.at fun o e=>hk2 D o (fun x=>hDC x) (hk1 D o hDwr e);have ys2:∀ (j:Nat) (v:Value) (d:PyData),ys[j]?=some v→xs[j]?=some d→Rep prog w h2 (fun b=>av b∨wr b∨b=D∨b=C) v d:=fun j v d e1 e2 =>
   (hys j v d e1 e2).mono (fun b o hb e=>hk2 b o (fun x=>hb (.inr (.inr (.inr x)))) (hk1 b o (fun hw=>hb (.inr (.inl hw))) e)) fun _ _ _ x=>x
  have I2:Inv0 prog w mg mb base l (compEnvC sc' cl C env) sc' σ' (fun b=>av b∨wr b∨b=D∨b=C) { st with heap:=h2,toks:=tk2 } :=
   I.comp hok hbt hcl k2 new (fun _ x=>.inl x) (live { st with heap:=h2,toks:=tk2 } k2 ⟨m2,hn2⟩ pl2 (S.live _ _ st2)) hn2 hm2
  refine hT σ' A _ _ _ hA I2 ht fun s₃ k3=>?_;have kk3:=k2.tr k3;have st3:St (i+1) s₃.heap:=S.frame _ _ _ st2 (fun b o hb e=>k3.at (nf b (.inl hb)) e) fun b o e hav=>kk3.at (fun f=>hav (I.gnd.fav b f)) e;have pl3:s₃.heap.PlainList D ys.toArray:=pl2.at fun o e=>k3.at (nf D (.inr (.inl rfl))) e;have ns3:s₃.heap.Ns C m2:=hn2.at' fun o e=>k3.at (nf C (.inr (.inr rfl))) e;have ys3:=fun j v d e1 e2=>Rep.k fvn k3 (ys2 j v d e1 e2);cases b with
  |false=>exact(show ∃ m',m' < m∧CTurn prog w l s₁ _ D C ds.length St P m' s₃ from ⟨m - 1,by exact jS hi hend,i+1,xs,by exact jT hi hend,by exact Er hx,⟨kk3,⟨m2,ns3⟩,ys,pl3,hyl,ys3⟩,st3,(hP _ _).mpr hp⟩)
  |true =>
   replace hp:Fin (rb (nx (eltF σ')) fun v=>rb (fT test eltF z σ (ds.drop (i+1))) fun xs=>.ok (dOf v::xs)) (fun ys=>k (xs++ys)) fin:=⟨hp,hne⟩
   obtain⟨u,hu,hp⟩:=hp.b.nx;have I3:=I2.k k3;refine(hE σ').val hA I3 hu fun xv s₄ k4 r4=>?_;have rx:=r4.rep I3.gnd.avlt;have kk4:=kk3.tr k4;have pl4:s₄.heap.PlainList D ys.toArray:=pl3.at fun o e=>k4.at (nf D (.inr (.inl rfl))) e;refine wpAny_list_append_plain pl4 (fun h5 pl5 hs5=>?_) (by simp;exact Es hlen hi hx hyl);have k45:∀ b o,b≠D→s₄.heap.get? b=some o→h5.get? b=some o:=fun b o hb e=>by rw[hs5.2 b hb];exact e
   have kk5:K l s₁ { s₄ with heap:=h5 }:=kk4.on (tk:=s₄.toks) hD k45;have hp:rb (fT test eltF z σ (ds.drop (i+1))) (fun ys=>k ((xs++[dOf u])++ys))=fin:=by
    rw[← hp,qQ];congr 1;funext ys;show k _=k _;rw[List.append_assoc];rfl
   refine⟨m - 1,by exact jS hi hend,i+1,xs++[dOf u],by exact jT hi hend,by simp;exact Et hx,⟨kk5,⟨m2,?_⟩,ys++[xv],by simpa using pl5,by simp[hyl],zQ hyl (fun j v d e1 e2=>?_) ?_⟩,?_,(hP _ _).mpr hp⟩
   ·exact ns3.at' fun o e=>k45 C o (fun x=>hDC x.symm) (k4.at (nf C (.inr (.inr rfl))) e)
   ·exact(Rep.k fvn k4 (ys3 j v d e1 e2)).mono (fun b o hb e=>k45 b o (fun x=>hb (.inr (.inr (.inl x)))) e) fun _ _ _ x=>x
   ·exact rx.mono (fun b o hb e=>k45 b o (fun x=>hb (.inr (.inr (.inl x)))) e) fun _ _ _ x=>x
   ·exact S.frame _ _ _ st3 (fun b o hb e=>k45 b o (fun x=>hDwr (x▸hb)) (k4.at (nf b (.inl hb)) e)) fun b o e hav=>kk5.at (fun f=>hav (I.gnd.fav b f)) e
end
end Mine
namespace Mine
open PySem
section
variable {prog:Program} {w:World} {mg mb:Str→Option Value} {base:Heap} {n:Nat} {hd:Bool} {l:List Env}
theorem Lv{av:Addr→Prop}{s s₁:Shared}{wr:Addr→Prop}{D C:Addr}{xs:List PyData}{st:Shared}{h':Heap}(k0:K l s s₁)(hD:s₁.heap.get? D=none)(hC:s₁.heap.get? C=none)(hDC:D≠C)
  (F:Cst prog w l s₁ (fun b=>av b∨wr b∨b=D∨b=C) D C xs st) (hl:xs.length≤sizeLine) (hs:Heap.SameBut C st.heap h'):K l s { st with heap:=h' }∧aY prog w s h' av (.ref D) (.own (.list xs)):=by
 obtain⟨kk,_,ys,hpl,hyl,hys⟩:=F;have hk:∀ b o,b≠C→st.heap.get? b=some o→h'.get? b=some o:=fun b o hb e=>by rw[hs.2 b hb];exact e
 refine⟨k0.tr (kk.on (tk:=st.toks) hC hk),D,rfl,k0.non hD,ys,hpl.at fun o e=>hk D o hDC e,hyl,by rw[hyl];exact hl,fun j v d e1 e2=>?_⟩;refine(hys j v d e1 e2).mono (fun b o hb e=>hk b o (fun x=>hb (.inr (.inr (.inr x)))) e) fun b o _ hb=>?_;rcases hb with hb | hb
 ·exact .inl hb
 ·exact .inr (.inr (.inl hb))
theorem rK{rec:Expr→R V}{sc:Scope}{target e:Expr}(hbad:∀ e,bad e=true→rec e=.no)(h:bad e=true):d6 rec hd sc target e=.no:=by
 have h0:iO rec e=.no:=by unfold iO;rw[hbad e h];rfl
 unfold d6
 split
 ·rfl
 ·unfold bad at h;unfold fD gO;generalize vw e=v at h;cases v<;>first | exact h0 | cases h
theorem zS{rec:Scope→aA→Expr→R V}{sc sc':Scope}{σ:aA}{elt:Expr}{g:Comprehension}{pos cpos:Pos}(hbad:∀ e,bad e=true→rec sc σ e=.no)
  (hit:aF prog w mg mb base n hd l sc σ g.iter (rec sc σ g.iter)) (hsub:∀ f as kws q,g.iter=.Call f as kws q→∀ a∈as,aF prog w mg mb base n hd l sc σ a (rec sc σ a))
  (hT:∀ c∈g.ifs,∀ σ',bN prog w mg mb base n hd l sc' σ' c (rec sc' σ' c)) (hE:∀ σ',aF prog w mg mb base n hd l sc' σ' elt (rec sc' σ' elt))
  {A:Around} {env:Env} {s:Shared} {av:Addr→Prop} (hA:Room n hd l A) (I:Inv0 prog w mg mb base l env sc σ av s) {β:Type} {k:V→R β} {fin:R β} {Q:Value→Shared→Prop} {E:Value→Shared→Prop} {use:Option (Value→Sem Unit)}
  (hf:Fin (iS rec hd sc σ elt g sc') k fin) (he:EH prog w mg l s av fin E)
  (hq:∀ (s₁:Shared) (wr:Addr→Prop) (D C:Addr) (xs:List PyData) (st':Shared),K l s s₁→s₁.heap.get? D=none→s₁.heap.get? C=none→D≠C→xs.length≤sizeLine→Cst prog w l s₁ (fun b=>av b∨wr b∨b=D∨b=C) D C xs st'→k (.own (.list xs))=fin→compPost (model prog w) A E use Q (.ref D) C (.ok .next) st') :
  wpAny (model prog w) A (comprehension (.ListComp elt [g] sc' pos) sc' env cpos (newList []) (firstAsync [g]) (firstIter [g] env) use) Q E s:=by
 obtain⟨target,iter,ifs,as⟩:=g;unfold iS at hf;replace hf:Fin (match gR target with
  |none=>.no
  |some x=>if (gT sc sc' x&&as==0)=true then match pR rec sc' ifs with
   |none=>.no
   |some t=>rb (rb (d6 (rec sc σ) hd sc target iter) fun l=>fT t (fun σ'=>rec sc' σ' elt) x σ l) fun r=>ofP (own (.list r))
  else .no) k fin:=hf
 cases hn:gR target with
 |none=>rw[hn] at hf;exact hf.no.elim
 |some z =>
  rw[hn] at hf;obtain⟨hc,hf1⟩:=Fin.ite hf;clear hf;have htg:=zO hn;simp only[Bool.and_eq_true,beq_iff_eq] at hc;obtain⟨c1,rfl⟩:=hc;have hok:=zN c1;refine ocs (pR rec sc' ifs) (fun htt=>?_) fun t htt=>?_
  ·try rewrite[htt]
   rw[htt] at hf1;exact hf1.no.elim
  ·try rewrite[htt]
   rw[htt] at hf1;have hT':∀ σ',nE prog w mg mb base n hd l sc' σ' ifs (t σ'):=fun σ'=>by
    cases ifs with
    |nil=>obtain rfl:=si htt;exact Lr
    |cons c r =>
     cases r with
     |nil=>obtain rfl:=si htt;exact Ls (hT c List.mem_cons_self _)
     |cons=>cases htt
   have hb:bad iter=false:=eU (fun e=>rK hbad e) hf1.b.b.ne;obtain⟨cl,hclos,hcl⟩:=zL (env:=env) (scope:=sc') fun p hp hk=>(I.kinds p.1 (hok.free p hp hk)).2;have hs:∀ x,foldedSetIterable iter env x=pure x:=qN hb;refine wpAny_comprehension_free (g:=⟨target,iter,ifs,0⟩) (gs:=[]) rfl hs hclos hok.kind (fun p hp hk=>(hok.loc p hp hk).2) ?_;have hhd:hd=false:=by
    cases hd with
    |false=>rfl
    |true=>exact hf1.b.b.no.elim
   refine nD (target:=target) hbad hit hsub A env s av hA I hf1.b.b (fun it s₂ ds x h1=>?_) he;obtain⟨s₁,wr,St,k0,S,hst,hwr,k2,hlen⟩:=x;refine wpAny_newObj_type (wpAny_newFunctionEnv hok.cell (by intro y hy;simp at hy) (fun h₁ hns₁ hsb₁=>?_) hok.kind);dsimp only at hns₁ hsb₁ ⊢;generalize hH2:s₂.heap.push { cls:=.type "list", dict:=none,data:=.seq ([]:List Value).toArray }=H2 at hns₁ hsb₁ ⊢;have hC:H2.objs.size=s₂.heap.objs.size+1:=by rw[← hH2,Heap.size_push]
   have hDC:s₂.heap.objs.size≠H2.objs.size:=by rw[hC];exact Nat.ne_of_lt (Nat.lt_succ_self _)
   have below:∀ b,b < s₂.heap.objs.size→b≠H2.objs.size:=fun b hb=>by rw[hC];exact Nat.ne_of_lt (Nat.lt_succ_of_lt hb)
   have old:∀ b o,s₂.heap.get? b=some o→h₁.get? b=some o:=fun b o e=>hsb₁.extBut b o (below b (Heap.lt_size e)) (Heap.get?_push_of_some _ (hH2▸Heap.get?_push_of_some _ e));have hacc:h₁.PlainList s₂.heap.objs.size #[]:=⟨_,hsb₁.extBut _ _ hDC (Heap.get?_push_of_some _ (hH2▸Heap.get?_push_size _ rfl))⟩
   have hD2:s₂.heap.get? s₂.heap.objs.size=none:=bK _;have hC2:s₂.heap.get? H2.objs.size=none:=Heap.get?_none_of_le (by rw[hC];exact Nat.le_succ _);have kk2:K l s₁ s₂:=K.of k2;have hst₁:St 0 h₁:=S.frame _ _ _ hst (fun b o _ e=>old b o e) fun b o e _=>old b o (k2.heap b o e);have loop:∀ s₃:Shared,s₃={ s₂ with heap:=h₁,toks:=s₂.toks+([]:List (Str×Value)).length } →
     codeAny (model prog w) A (.compLoop (.ListComp elt [⟨target,iter,ifs,0⟩] sc' pos) 0 it (.ref s₂.heap.objs.size) (compEnvC sc' cl H2.objs.size env)) (compPost (model prog w) A E use Q (.ref s₂.heap.objs.size) H2.objs.size) s₃:=by
    rintro s₃ rfl
    refine Lu (s₁:=s₁) (wr:=wr) hA (hA.handled hhd) htg (I.k k0) hok hcl hT' (fun σ'=>hE σ') S (fun b hb=>(hwr b hb).1) (kk2.non hD2) (kk2.non hC2) hDC hlen (fun hw=>?_) (fun hw=>?_) hf1.2 (fun xs st' hz F e=>?_) ⟨kk2.trp (Kp.mk' old),⟨_,hns₁⟩,[],hacc,rfl,nofun⟩ hst₁ h1
    ·obtain⟨o,e⟩:=(hwr _ hw).2;rw[hD2] at e;exact ns e
    ·obtain⟨o,e⟩:=(hwr _ hw).2;rw[hC2] at e;exact ns e
    ·exact hq s₁ wr _ _ xs st' k0 (kk2.non hD2) (kk2.non hC2) hDC hz F e
   exact codeAny_compStart_list (loop _ rfl) (S.self 0 _ _ _ hst₁ (loop _ rfl))
theorem Lw{rec:Scope→aA→Expr→R V}{sc sc':Scope}{σ:aA}{elt:Expr}{g:Comprehension}{pos:Pos}(hbad:∀ e,bad e=true→rec sc σ e=.no)
  (hit:aF prog w mg mb base n hd l sc σ g.iter (rec sc σ g.iter)) (hsub:∀ f as kws q,g.iter=.Call f as kws q→∀ a∈as,aF prog w mg mb base n hd l sc σ a (rec sc σ a))
  (hT:∀ c∈g.ifs,∀ σ',bN prog w mg mb base n hd l sc' σ' c (rec sc' σ' c)) (hE:∀ σ',aF prog w mg mb base n hd l sc' σ' elt (rec sc' σ' elt)) :
  aF prog w mg mb base n hd l sc σ (.ListComp elt [g] sc' pos) (iS rec hd sc σ elt g sc'):=by
 intro A env s av hA I β k fin Q E hf hq he;rw[eval_ListComp];refine zS hbad hit hsub hT hE hA I hf he fun s₁ wr D C xs st' k0 hD hC hDC hz F e=>?_;obtain⟨m,hn⟩:=F.ns;exact⟨m,hn,fun h' hs=>by obtain⟨a,b⟩:=Lv k0 hD hC hDC F hz hs;exact hq _ _ (.own (.list xs)) a b e⟩
end
end Mine
namespace Mine
open PySem
section
variable {prog:Program} {w:World} {mg mb:Str→Option Value} {base:Heap} {n:Nat} {hd:Bool} {l:List Env}
theorem Vt{h:Heap}{av:Addr→Prop}{a:Addr}{d:PyData}(r:bG prog w h av a d):∃ o,h.get? a=some o:=by
 cases d with
 |list ds=>obtain⟨vs,⟨n,e⟩,_⟩:=r;exact⟨_,e⟩
 |dict ds=>obtain⟨kvs,⟨o,es,ep,e,_⟩,_⟩:=r;exact⟨o,e⟩
 |_=>exact r.elim
inductive Pr1(prog:Program)(w:World)(s:Shared)(h:Heap)(v:Value)(d:PyData):Prop where
 |mk (t:Addr) (k:Str) (tk:Tok) (x:Value) (e:PyData) (pn:Addr→Prop) (hv:v=.ref t) (ht:s.heap.get? t=none) (hp:PlT h t #[.str k tk,x]) (hd:d=.tuple [.str k,e]) (hk:k.length≤sizeLine)
  (hn:∀ b,pn b→s.heap.get? b=none) (hl:∀ b,pn b→∃ o,h.get? b=some o) (hr:Dp prog w h pn x e):Pr1 prog w s h v d
inductive Pr2(prog:Program)(w:World)(h:Heap)(av pn:Addr→Prop)(v:Value)(d:PyData):Prop where
 |mk (t:Addr) (k:Str) (tk:Tok) (x:Value) (e:PyData) (hv:v=.ref t) (ht:¬ av t) (hp:PlT h t #[.str k tk,x]) (hd:d=.tuple [.str k,e]) (hk:k.length≤sizeLine) (hr:Dp prog w h pn x e):Pr2 prog w h av pn v d
structure Cs2(prog:Program)(w:World)(l:List Env)(s₁:Shared)(avn:Addr→Prop)(D C:Addr)(xs:List PyData)(pn:Nat→Addr→Prop)(ys:List Value)(st:Shared):Prop where
 k:K l s₁ st
 ns:∃ m,st.heap.Ns C m
 pl:st.heap.PlainList D ys.toArray
 len:ys.length=xs.length
 pin:∀ i b,pn i b→s₁.heap.get? b=none∧(∃ o,st.heap.get? b=some o)∧¬ avn b
 dis:∀ i j b,pn i b→pn j b→i=j
 prs:∀ (j:Nat) (v:Value) (d:PyData),ys[j]?=some v→xs[j]?=some d→Pr2 prog w st.heap avn (pn j) v d
theorem Pr2.mono{h h':Heap}{av pn pn':Addr→Prop}{v:Value}{d:PyData}(hk:∀ b o,¬ av b→h.get? b=some o→h'.get? b=some o)(hp:∀ b,pn b→¬ av b)(hu:∀ b,pn b→pn' b)(r:Pr2 prog w h av pn v d):Pr2 prog w h' av pn' v d:=by
 obtain⟨t,k,tk,x,e,hv,ht,hpl,hd,hk',hr⟩:=r;exact⟨t,k,tk,x,e,hv,ht,hpl.at fun o q=>hk t o ht q,hd,hk',(hr.mono fun b o hb q=>hk b o (hp b hb) q).up hu⟩
noncomputable def nG(prog:Program)(w:World)(mg mb:Str→Option Value)(base:Heap)(n:Nat)(hd:Bool)(l:List Env)(sc:Scope)(σ:aA)(e:Expr)(d:PyData):Prop :=
 ∀ (A:Around) (env:Env) (s:Shared) (av:Addr→Prop),Room n hd l A→Inv0 prog w mg mb base l env sc σ av s→∀ {Q:Value→Shared→Prop} {E:Value→Shared→Prop},(∀ v s',K l s s'→Pr1 prog w s s'.heap v d→Q v s')→wpAny (model prog w) A (eval e env) Q E s
inductive CTurn2(prog:Program)(w:World)(l:List Env)(s₁:Shared)(av':Addr→Prop)(D C:Addr)(fs:List PyData)(n:Nat)(St:Nat→Heap→Prop)(m:Nat)(st:Shared):Prop where
 |mk (i:Nat) (pn:Nat→Addr→Prop) (ys:List Value) (hi:i+m=n) (F:Cs2 prog w l s₁ av' D C (fs.take i) pn ys st) (hs:St i st.heap):CTurn2 prog w l s₁ av' D C fs n St m st
theorem Lx{A:Around}{env:Env}{sc sc':Scope}{σ:aA}{av:Addr→Prop}{s₁:Shared}{z:Tg}{target:Expr}{elt iter:Expr}{pos:Pos}{cl:List (Str×Addr)}{it:Value}{wr:Addr→Prop}{St:Nat→Heap→Prop}{ds fs:List PyData}{D C:Addr}
  (hA:Room n hd l A) (hh:A.handled=none) (htg:TgI target z) (I:Inv0 prog w mg mb base l env sc σ av s₁) (hok:CompOk sc sc' z) (hcl:∀ x c,(x,NameKind.free)∈sc'.names→env.cells.lookup x=some c→cl.lookup x=some c)
  (hfl:fs.length=ds.length) (hE:∀ (i:Nat) (d f:PyData),ds[i]?=some d→fs[i]?=some f→∃ σ',fS z d σ=some σ'∧nG prog w mg mb base n hd l sc' σ' elt f)
  (S:Src prog w A s₁.heap av target it wr St ds) (hwr:∀ b,wr b→s₁.heap.get? b=none)
  (hD:s₁.heap.get? D=none) (hC:s₁.heap.get? C=none) (hDC:D≠C) (hlen:ds.length≤sizeLine) (hDwr:¬ wr D) (hCwr:¬ wr C)
  {R:Result→Shared→Prop} (hR:∀ pn ys st',Cs2 prog w l s₁ (fun b=>av b∨wr b∨b=D∨b=C) D C fs pn ys st'→R (.ok .next) st')
  {st:Shared} (h:Cs2 prog w l s₁ (fun b=>av b∨wr b∨b=D∨b=C) D C [] (fun _ _=>False) [] st) (hst:St 0 st.heap) :
  codeAny (model prog w) A (.compLoop (.ListComp elt [⟨target,iter,[],0⟩] sc' pos) 0 it (.ref D) (compEnvC sc' cl C env)) R st:=by
 have nf:∀ b,(wr b∨b=D∨b=C)→¬ frs l b:=fun b hb f=>by
  obtain⟨o,e⟩:=I.gnd.avlt _ (I.gnd.fav _ f);rcases hb with hb | rfl | rfl
  ·rw[hwr b hb] at e;exact ns e
  ·rw[hD] at e;exact ns e
  ·rw[hC] at e;exact ns e
 have new:∀ b o,s₁.heap.get? b=some o→(av b∨wr b∨b=D∨b=C)→av b:=fun b o e hb=>by
  rcases hb with hb | hb | rfl | rfl
  ·exact hb
  ·rw[hwr b hb] at e;exact ns e
  ·rw[hD] at e;exact ns e
  ·rw[hC] at e;exact ns e
 refine zM (I:=CTurn2 prog w l s₁ (fun b=>av b∨wr b∨b=D∨b=C) D C fs ds.length St) ?_ ds.length ⟨0,fun _ _=>False,[],Nat.zero_add _,by rw[List.take_zero];exact h,hst⟩;clear h hst st
 rintro m st ⟨i,pn,ys,hi,F,hst⟩
 obtain⟨kk,⟨mm,hns⟩,hpl,hyl,hpin,hdis,hprs⟩:=F;have live:∀ (st':Shared),K l s₁ st'→(∃ m,st'.heap.Ns C m)→st'.heap.PlainList D ys.toArray→(∀ b,wr b→∃ o,st'.heap.get? b=some o)→∀ b,(av b∨wr b∨b=D∨b=C)→∃ o,st'.heap.get? b=some o:=fun st' kk hn hp hw b hb=>by
  rcases hb with hb | hb | rfl | rfl
  ·obtain⟨o,e⟩:=I.gnd.avlt b hb;obtain⟨sl,e'⟩:=kk.up e;exact⟨_,e'⟩
  ·exact hw b hb
  ·obtain⟨nn,e⟩:=hp;exact⟨_,e⟩
  ·obtain⟨_,o,_,_,e,_⟩:=hn;exact⟨o,e⟩
 by_cases hend:i=ds.length
 ·subst hend;rw[← hfl,List.take_length] at hyl hprs;have hk0:∀ h':Heap,(∀ b o,¬ wr b→st.heap.get? b=some o→h'.get? b=some o)→∀ b o,¬ (av b∨wr b∨b=D∨b=C)→st.heap.get? b=some o→h'.get? b=some o:=fun h' hk b o hb e=>hk b o (fun hw=>hb (.inr (.inl hw))) e;refine wpAny_mono (S.done st _ (fun s'=>R (.ok .next) s') hst fun h' tk hk=>hR pn ys _ ⟨kk.onw hwr hk,⟨mm,hns.at' fun o e=>hk C o hCwr e⟩,hpl.at fun o e=>hk D o hDwr e,hyl,fun i b hb=>?_,hdis,fun j v d e1 e2=>(hprs j v d e1 e2).mono (hk0 h' hk) (fun b hb=>(hpin j b hb).2.2) fun _ q=>q⟩) (fun r s₁ h₁=>?_) fun _ _ x=>x
  ·obtain⟨h1,⟨o,h2⟩,h3⟩:=hpin i b hb;exact⟨h1,⟨o,hk b o (fun hw=>h3 (.inr (.inl hw))) h2⟩,h3⟩
  ·cases r with
   |none=>exact h₁
   |some v=>exact h₁.elim
 ·have hlt:i < ds.length:=by exact lR hi hend
  have hlf:i < fs.length:=hfl▸hlt;obtain⟨σ',hbt,hEl⟩:=hE i ds[i] fs[i] (List.getElem?_eq_getElem hlt) (List.getElem?_eq_getElem hlf);refine wpAny_mono (S.item i ds[i] st _ ?QQ (List.getElem?_eq_getElem hlt) hst ?body) ?link fun _ _ x=>x
  case link =>
   intro r s₁ h₁;cases r with
   |none=>exact h₁.elim
   |some v=>exact h₁
  intro v h1 tk1 hk1 st1 hrep;have rv:=hrep (fun b=>av b∨wr b∨b=D∨b=C) (live st kk ⟨mm,hns⟩ hpl (S.live i _ hst)) new;refine zP (l:=l) (mg:=mg) hh htg hbt rv (.inr (.inr (.inr rfl))) (hns.at' fun o e=>hk1 C o hCwr e) (fun x hx=>⟨(hok.tgt x hx).1,by rw[iZ,(hok.tgt x hx).2];rfl⟩) hok.kind fun h2 tk2 m2 hn2 hk2 hm2=>?_;have k2:K l s₁ { st with heap:=h2,toks:=tk2 }:=K.on (s':={ st with heap:=h1,toks:=tk1 }) (c:=C) (kk.onw (tk:=tk1) hwr hk1) hC hk2;have st2:St (i+1) h2:=S.frame _ _ _ st1 (fun b o hb e=>hk2 b o (fun x=>hCwr ((show b=C from x)▸hb)) e) fun b o e hav=>k2.at (fun f=>hav (I.gnd.fav b f)) e;have pl2:h2.PlainList D ys.toArray:=hpl.at fun o e=>hk2 D o (fun x=>hDC x) (hk1 D o hDwr e);have k12:∀ b o,¬ (av b∨wr b∨b=D∨b=C)→st.heap.get? b=some o→h2.get? b=some o:=fun b o hb e=>hk2 b o (fun x=>hb (.inr (.inr (.inr x)))) (hk1 b o (fun hw=>hb (.inr (.inl hw))) e);have lv2:∀ b,(av b∨wr b∨b=D∨b=C)→∃ o,h2.get? b=some o:=live { st with heap:=h2,toks:=tk2 } k2 ⟨m2,hn2⟩ pl2 (S.live _ _ st2);have pv2:∀ i b,pn i b→∃ o,h2.get? b=some o:=fun i b hb=>by obtain⟨_,⟨o,e⟩,n⟩:=hpin i b hb;exact⟨o,k12 b o n e⟩
  have I2:Inv0 prog w mg mb base l (compEnvC sc' cl C env) sc' σ' (fun b=>av b∨wr b∨b=D∨b=C) { st with heap:=h2,toks:=tk2 } :=
   I.comp hok hbt hcl k2 new (fun _ x=>.inl x) lv2 hn2 hm2
  refine wpAny_tests_nil ?_;refine hEl A _ _ _ hA I2 fun xv s₄ k4 r4=>?_;have kk4:=k2.tr k4;have pl4:s₄.heap.PlainList D ys.toArray:=pl2.at fun o e=>k4.at (nf D (.inr (.inl rfl))) e;have hfr:∀ b,¬ (av b∨wr b∨b=D∨b=C)→¬ frs l b:=fun b hb f=>hb (.inl (I.gnd.fav b f));have hyi:ys.length=i:=by rw[hyl,List.length_take,Nat.min_eq_left (Nat.le_of_lt hlf)]
  refine wpAny_list_append_plain pl4 (fun h5 pl5 hs5=>?_) (by simp;omega);have k45:∀ b o,b≠D→s₄.heap.get? b=some o→h5.get? b=some o:=fun b o hb e=>by rw[hs5.2 b hb];exact e
  have kk5:K l s₁ { s₄ with heap:=h5 }:=kk4.on (tk:=s₄.toks) hD k45;have k25:∀ b o,¬ (av b∨wr b∨b=D∨b=C)→h2.get? b=some o→h5.get? b=some o:=fun b o hb e=>k45 b o (fun x=>hb (.inr (.inr (.inl x)))) (k4.at (hfr b hb) e);have ns5:h5.Ns C m2:=hn2.at' fun o e=>k45 C o (fun x=>hDC x.symm) (k4.at (nf C (.inr (.inr rfl))) e);have st5:St (i+1) h5:=S.frame _ _ _ st2 (fun b o hb e=>k45 b o (fun x=>hDwr (x▸hb)) (k4.at (nf b (.inl hb)) e)) fun b o e hav=>kk5.at (fun f=>hav (I.gnd.fav b f)) e;have tk:fs.take (i+1)=fs.take i++[fs[i]]:=by rw[List.take_add_one,List.getElem?_eq_getElem hlf];rfl
  have k45':∀ b o,¬ (av b∨wr b∨b=D∨b=C)→s₄.heap.get? b=some o→h5.get? b=some o:=fun b o hb e=>k45 b o (fun x=>hb (.inr (.inr (.inl x)))) e;have k15:∀ b o,¬ (av b∨wr b∨b=D∨b=C)→st.heap.get? b=some o→h5.get? b=some o:=fun b o hb e=>k25 b o hb (k12 b o hb e);obtain⟨tt,kk',tk',x,e,pn',hv,ht,hp,hd,hkl,hn',hl',hr⟩:=r4;have nav:∀ b,h2.get? b=none→¬ (av b∨wr b∨b=D∨b=C):=fun b hb hx=>by obtain⟨o,e⟩:=lv2 b hx;rw[hb] at e;exact ns e
  refine⟨m - 1,by exact jS hi hend,i+1,fun j b=>pn j b∨(j=ys.length∧pn' b),ys++[xv],by exact jT hi hend,⟨kk5,⟨m2,ns5⟩,by simpa using pl5,by rw[tk,List.length_append,List.length_append,hyl];rfl,fun j b hb=>?_,fun j j' b h1 h2=>?_,fun j v d e1 e2=>?_⟩,st5⟩
  ·rcases hb with hb | ⟨_,hb⟩
   ·obtain⟨q1,⟨o,q2⟩,q3⟩:=hpin j b hb;exact⟨q1,⟨o,k15 b o q3 q2⟩,q3⟩
   ·obtain⟨o,q⟩:=hl' b hb;exact⟨k2.non (hn' b hb),⟨o,k45' b o (nav b (hn' b hb)) q⟩,nav b (hn' b hb)⟩
  ·rcases h1 with h1 | ⟨h1,h1'⟩
   ·rcases h2 with h2 | ⟨h2,h2'⟩
    ·exact hdis j j' b h1 h2
    ·obtain⟨o,q⟩:=pv2 j b h1;rw[hn' b h2'] at q;exact Mine.ns q
   ·rcases h2 with h2 | ⟨h2,h2'⟩
    ·obtain⟨o,q⟩:=pv2 j' b h2;rw[hn' b h1'] at q;exact Mine.ns q
    ·rw[h1,h2]
  ·rw[tk] at e2;rcases Nat.lt_trichotomy j ys.length with hj | hj | hj
   ·rw[List.getElem?_append_left hj] at e1;rw[List.getElem?_append_left (hyl▸hj)] at e2;exact(hprs j v d e1 e2).mono k15 (fun b hb=>(hpin j b hb).2.2) fun _ q=>.inl q
   ·subst hj;rw[List.getElem?_append_right (Nat.le_refl _),Nat.sub_self] at e1;rw[List.getElem?_append_right (Nat.le_of_eq hyl.symm),hyl,Nat.sub_self] at e2;obtain rfl:=si e1;obtain rfl:=si e2;exact Pr2.mono k45' (fun b hb=>nav b (hn' b hb)) (fun _ q=>.inr ⟨rfl,q⟩) ⟨tt,kk',tk',x,e,hv,nav tt ht,hp,hd,hkl,hr⟩
   ·rw[List.getElem?_eq_none (by rw[List.length_append];exact hj)] at e1;exact Mine.ns e1
end
end Mine
namespace Mine
open PySem
section
variable {prog:Program} {w:World}
theorem Lz{A:Around}{s:Shared}{a:Addr}{vs:List Value}{nn:Nat}{kvs:List (Str×Value)}{Q:Value→Shared→Prop}{E:Value→Shared→Prop}(hh:A.handled=none)(h2:s.heap.get? a=some { cls:=.type "list", data:=.seq vs.toArray nn })(g1:fH s.heap vs kvs)(hz:kvs.length≤sizeLine)
  (hq:∀ s',Kp s s'→s'.heap.DictOf (strKind prog w) s.heap.objs.size (merged [] kvs)→Q (.ref s.heap.objs.size) s'):wpAny (model prog w) A (call (.type "dict") [.ref a]) Q E s:=by
 refine callType_codes (Q₁:=fun obj s₁=>obj=.ref s.heap.objs.size∧s₁={ s with heap:=s.heap.push { cls:=.type "dict", data:=.dict #[] } }) F.kt_called_dict (F.kt_typeCall_dict_1 _) F.entry_dict_init (kt_code_dict_new _ ⟨rfl,rfl⟩) ?_
 rintro obj s₁ ⟨rfl,rfl⟩
 have hnew:(s.heap.push { cls:=.type "dict", data:=.dict #[] }).DictOf (strKind prog w) s.heap.objs.size []:=Heap.DictOf.new s.heap;have h2':(s.heap.push { cls:=.type "dict", data:=.dict #[] }).get? a=some _:=Heap.get?_push_of_some _ h2;refine⟨hnew.typeIs,F.args_dict_init_2 _ _,?_⟩;unfold Builtin.«dict.__init__»;refine wpAny_bind ?_;unfold Builtin.Dict.selfAndRest;refine wpAny_bind (wpAny_notOrdered_dict hnew.typeIs ?_);show wpAny _ _ (pure (s.heap.objs.size,[Value.ref a])) _ _ _;refine wpAny_pure ?_;show wpAny _ _ (Builtin.Dict.updateFrom "dict.__init__" s.heap.objs.size (.ref a) [] .none) _ _ _;unfold Builtin.Dict.updateFrom;refine wpAny_bind (wpAny_typeOf (T := "list") ⟨_,h2',rfl⟩ ?_);rw[if_pos (by decide)];refine wpAny_bind (yV h2' hh fun h' tk hk=>?_);rw[if_pos (show(none:Option Value).isNone=true from rfl)];refine wpAny_bind (wpAny_rule ?_);have hD:=hnew.keep hk;have h2'':=hk _ _ h2';refine wpAny_bind (wpAny_pyIter_list ⟨_,h2'',rfl,nn,rfl⟩ (wpAny_pure ⟨plainId_quiet kI _,?_⟩));have lt1:s.heap.objs.size < h'.objs.size:=(by obtain⟨o,_,_,e,_⟩:=hD;exact Heap.lt_size e)
 have lt2:a < s.heap.objs.size:=Heap.lt_size h2;have old:∀ b o,s.heap.get? b=some o→(h'.push { cls:=.type "list_iterator", data:=.fields #[Value.ref a,rawInt 0] }).get? b=some o:=fun b o e=>Heap.get?_push_of_some _ (hk _ _ (Heap.get?_push_of_some _ e));refine yX (A:=A.in1) (I:=h'.objs.size) (l:=a) (D:=s.heap.objs.size) (vs:=vs) (kvs:=kvs) hh (Nat.ne_of_lt (Nat.lt_trans lt2 lt1)) (Nat.ne_of_lt lt1) (Nat.ne_of_gt lt2) hz g1 (bK _) (Heap.get?_none_of_le (Nat.le_of_lt lt1)) kvs.length 0 _ rfl (Nat.zero_le _)
  ⟨⟨_,cH _ _ rfl,rfl,rfl⟩,⟨_,Heap.get?_push_of_some _ h2'',rfl,nn,rfl⟩⟩ old (hD.push _) fun h'' tk' hk'' hd''=>⟨rfl,hq _ (Kp.mk' hk'') hd''⟩
end
end Mine
namespace Mine
open PySem
section
variable {prog:Program} {w:World} {mg mb:Str→Option Value} {base:Heap} {n:Nat} {l:List Env}
theorem L0{rec:Expr→R V}{sc sc':Scope}{σ:aA}{elt target iter:Expr}{z:Tg}{pos cpos:Pos}(hbad:∀ e,bad e=true→rec e=.no)
  (hit:aF prog w mg mb base n false l sc σ iter (rec iter)) (hsub:∀ f as kws q,iter=.Call f as kws q→∀ a∈as,aF prog w mg mb base n false l sc σ a (rec a)) (hn:gR target=some z) (c1:gT sc sc' z=true) {ds fs:List PyData} (hds:d6 rec false sc target iter=.ok ds)
  (hfl:fs.length=ds.length) (hE:∀ (i:Nat) (d f:PyData),ds[i]?=some d→fs[i]?=some f→∃ σ',fS z d σ=some σ'∧nG prog w mg mb base n false l sc' σ' elt f)
  {A:Around} {env:Env} {s:Shared} {av:Addr→Prop} (hA:Room n false l A) (I:Inv0 prog w mg mb base l env sc σ av s) {Q:Value→Shared→Prop} {E:Value→Shared→Prop} {use:Option (Value→Sem Unit)}
  (hq:∀ (s₁:Shared) (wr:Addr→Prop) (D C:Addr) (pn:Nat→Addr→Prop) (ys:List Value) (st':Shared),K l s s₁→s₁.heap.get? D=none→s₁.heap.get? C=none→D≠C→Cs2 prog w l s₁ (fun b=>av b∨wr b∨b=D∨b=C) D C fs pn ys st'→compPost (model prog w) A E use Q (.ref D) C (.ok .next) st') :
  wpAny (model prog w) A (comprehension (.ListComp elt [⟨target,iter,[],0⟩] sc' pos) sc' env cpos (newList []) (firstAsync [⟨target,iter,[],0⟩]) (firstIter [⟨target,iter,[],0⟩] env) use) Q E s:=by
 have htg:=zO hn;have hok:=zN c1;have hb:bad iter=false:=eU (fun e=>rK hbad e) (by rw[hds];nofun);obtain⟨cl,hclos,hcl⟩:=zL (env:=env) (scope:=sc') fun p hp hk=>(I.kinds p.1 (hok.free p hp hk)).2;have hs:∀ x,foldedSetIterable iter env x=pure x:=qN hb;refine wpAny_comprehension_free (g:=⟨target,iter,[],0⟩) (gs:=[]) rfl hs hclos hok.kind (fun p hp hk=>(hok.loc p hp hk).2) ?_;refine nD (target:=target) hbad hit hsub A env s av hA I (k:=R.ok) (fin:=.ok ds) ⟨by rw[hds];rfl,nofun⟩ (fun it s₂ ds' x h1=>?_) EH.ok;obtain rfl:ds'=ds:=by cases h1;rfl
 obtain⟨s₁,wr,St,k0,S,hst,hwr,k2,hlen⟩:=x;refine wpAny_newObj_type (wpAny_newFunctionEnv hok.cell (by intro y hy;simp at hy) (fun h₁ hns₁ hsb₁=>?_) hok.kind);dsimp only at hns₁ hsb₁ ⊢;generalize hH2:s₂.heap.push { cls:=.type "list", dict:=none,data:=.seq ([]:List Value).toArray }=H2 at hns₁ hsb₁ ⊢;have hC:H2.objs.size=s₂.heap.objs.size+1:=by rw[← hH2,Heap.size_push]
 have hDC:s₂.heap.objs.size≠H2.objs.size:=by rw[hC];exact Nat.ne_of_lt (Nat.lt_succ_self _)
 have below:∀ b,b < s₂.heap.objs.size→b≠H2.objs.size:=fun b hb=>by rw[hC];exact Nat.ne_of_lt (Nat.lt_succ_of_lt hb)
 have old:∀ b o,s₂.heap.get? b=some o→h₁.get? b=some o:=fun b o e=>hsb₁.extBut b o (below b (Heap.lt_size e)) (Heap.get?_push_of_some _ (hH2▸Heap.get?_push_of_some _ e));have hacc:h₁.PlainList s₂.heap.objs.size #[]:=⟨_,hsb₁.extBut _ _ hDC (Heap.get?_push_of_some _ (hH2▸Heap.get?_push_size _ rfl))⟩
 have hD2:s₂.heap.get? s₂.heap.objs.size=none:=bK _;have hC2:s₂.heap.get? H2.objs.size=none:=Heap.get?_none_of_le (by rw[hC];exact Nat.le_succ _);have kk2:K l s₁ s₂:=K.of k2;have hst₁:St 0 h₁:=S.frame _ _ _ hst (fun b o _ e=>old b o e) fun b o e _=>old b o (k2.heap b o e);have loop:∀ s₃:Shared,s₃={ s₂ with heap:=h₁,toks:=s₂.toks+([]:List (Str×Value)).length } →
   codeAny (model prog w) A (.compLoop (.ListComp elt [⟨target,iter,[],0⟩] sc' pos) 0 it (.ref s₂.heap.objs.size) (compEnvC sc' cl H2.objs.size env)) (compPost (model prog w) A E use Q (.ref s₂.heap.objs.size) H2.objs.size) s₃:=by
  rintro s₃ rfl
  refine Lx (s₁:=s₁) (wr:=wr) hA (hA.handled rfl) htg (I.k k0) hok hcl hfl hE S (fun b hb=>(hwr b hb).1) (kk2.non hD2) (kk2.non hC2) hDC hlen (fun hw=>?_) (fun hw=>?_) (fun pn ys st' F=>hq s₁ wr _ _ pn ys st' k0 (kk2.non hD2) (kk2.non hC2) hDC F) ⟨kk2.trp (Kp.mk' old),⟨_,hns₁⟩,hacc,rfl,nofun,nofun,nofun⟩ hst₁
  ·obtain⟨o,e⟩:=(hwr _ hw).2;rw[hD2] at e;exact ns e
  ·obtain⟨o,e⟩:=(hwr _ hw).2;rw[hC2] at e;exact ns e
 exact codeAny_compStart_list (loop _ rfl) (S.self 0 _ _ _ hst₁ (loop _ rfl))
end
end Mine
namespace Mine
open PySem
section
variable {prog:Program} {w:World} {mg mb:Str→Option Value} {base:Heap} {n:Nat} {l:List Env}
inductive PairsR(prog:Program)(w:World)(h:Heap)(pn:Nat→Addr→Prop)(ys:List Value)(fs:List PyData):Prop where
 |mk (kvs:List (Str×Value)) (p:fH h ys kvs) (l:kvs.length=fs.length) (r:∀ (j:Nat) (kv:Str×Value) (d:PyData),kvs[j]?=some kv→fs[j]?=some d→∃ e,d=.tuple [.str kv.1,e]∧kv.1.length≤sizeLine∧Dp prog w h (pn j) kv.2 e):PairsR prog w h pn ys fs
theorem L4{h:Heap}{av:Addr→Prop}:∀ {ys:List Value} {fs:List PyData} {pn:Nat→Addr→Prop},ys.length=fs.length→(∀ (j:Nat) (v:Value) (d:PyData),ys[j]?=some v→fs[j]?=some d→Pr2 prog w h av (pn j) v d)→PairsR prog w h pn ys fs:=by
 intro ys
 induction ys with
 |nil =>
  intro fs pn hl _;cases fs with
  |nil=>exact⟨[],trivial,rfl,fun j kv d e1 _=>ns e1⟩
  |cons=>exact nomatch hl
 |cons y ys ih =>
  intro fs pn hl hp;cases fs with
  |nil=>exact nomatch hl
  |cons f fs =>
   obtain⟨kvs,p,hl',r⟩:=ih (fs:=fs) (pn:=fun j=>pn (j+1)) (Nat.succ.inj hl) fun j v d e1 e2=>hp (j+1) v d e1 e2;obtain⟨t,k,tk,x,e,hv,ht,hpt,hd,hk,hr⟩:=hp 0 y f rfl rfl;refine⟨(k,x)::kvs,⟨⟨t,tk,hv,hpt⟩,p⟩,congrArg (·+1) hl',fun j kv d e1 e2=>?_⟩;cases j with
   |zero=>obtain rfl:=si e1;obtain rfl:=si e2;exact⟨e,hd,hk,hr⟩
   |succ j=>exact r j kv d e1 e2
theorem L5:∀ {ks:List Str} {kvs:List (Str×Value)},ks.map PyData.str=kvs.map (fun kv=>PyData.str kv.1)→ks=kvs.map (·.1):=by
 intro ks
 induction ks with
 |nil =>
  intro kvs h;cases kvs with
  |nil=>rfl
  |cons=>exact nomatch h
 |cons k ks ih =>
  intro kvs h;cases kvs with
  |nil=>exact nomatch h
  |cons kv kvs =>
   injection h with h1 h2
   injection h1 with h1
   rw[h1,ih h2];rfl
theorem L6{rec:Expr→R V}{sc sc':Scope}{σ:aA}{elt target iter:Expr}{z:Tg}{p pos cpos:Pos}(hbad:∀ e,bad e=true→rec e=.no)
  (hit:aF prog w mg mb base n false l sc σ iter (rec iter)) (hsub:∀ f as kws q,iter=.Call f as kws q→∀ a∈as,aF prog w mg mb base n false l sc σ a (rec a)) (hn:gR target=some z) (c1:gT sc sc' z=true) (hg:isG sc "dict" = true) {m:List (PyData×PyData)} {ks:List Str} (hks:m.map (·.1)=ks.map PyData.str) (hnd:ks.Nodup)
  (hds:d6 rec false sc target iter=.ok (m.map (·.1))) (hE:∀ (i:Nat) (d:PyData×PyData),m[i]?=some d→∃ σ',fS z d.1 σ=some σ'∧nG prog w mg mb base n false l sc' σ' elt (.tuple [d.1,d.2]))
  {A:Around} {env:Env} {s:Shared} {av:Addr→Prop} (hA:Room n false l A) (I:Inv0 prog w mg mb base l env sc σ av s) (hz:m.length≤sizeLine) {Q:Value→Shared→Prop} {E:Value→Shared→Prop}
  (hq:∀ a s',K l s s'→DpN prog w s s'.heap (.ref a) (.dict m)→Q (.ref a) s'):wpAny (model prog w) A (eval (.Call (.Name "dict" p) [.ListComp elt [⟨target,iter,[],0⟩] sc' pos] [] cpos) env) Q E s:=by
 refine PySem.Call_name1 rfl (cT I hg rfl (gB (.inr ⟨_,rfl⟩) ?_));rw[eval_ListComp];refine L0 hbad hit hsub hn c1 hds (fs:=m.map fun d=>.tuple [d.1,d.2]) (by rw[List.length_map,List.length_map]) (fun i d f e1 e2=>?_) hA I fun s₁ wr D C pn ys st' k0 hD hC hDC F=>?_
 ·rw[List.getElem?_map] at e1 e2;obtain⟨q,hq1,rfl⟩:=Option.map_eq_some_iff.mp e1;rw[hq1] at e2;obtain rfl:=si e2;exact hE i q hq1
 ·obtain⟨kk,⟨mm,hns⟩,hpl,hyl,hpin,hdis,hprs⟩:=F;refine⟨mm,hns,fun h' hs=>?_⟩;have hk:∀ b o,b≠C→st'.heap.get? b=some o→h'.get? b=some o:=fun b o hb e=>by rw[hs.2 b hb];exact e
  have hk':∀ b o,¬ (av b∨wr b∨b=D∨b=C)→st'.heap.get? b=some o→h'.get? b=some o:=fun b o hb e=>hk b o (fun x=>hb (.inr (.inr (.inr x)))) e;obtain⟨kvs,hp,hkl,hr⟩:=L4 hyl fun j v d e1 e2=>(hprs j v d e1 e2).mono hk' (fun b hb=>(hpin j b hb).2.2) fun _ q=>q;have hml:kvs.length=m.length:=by rw[hkl,List.length_map]
  have K1:K l s { st' with heap:=h' }:=k0.tr (kk.on (tk:=st'.toks) hC hk);have hkey:∀ (j:Nat) (kv:Str×Value) (d:PyData×PyData),kvs[j]?=some kv→m[j]?=some d→d.1=.str kv.1∧kv.1.length≤sizeLine∧Dp prog w h' (pn j) kv.2 d.2:=fun j kv d e1 e2=>by
   obtain⟨e,he,h1,h2⟩:=hr j kv (.tuple [d.1,d.2]) e1 (by rw[List.getElem?_map,e2];rfl);injection he with he
   injection he with he1 he
   injection he with he2 _
   exact⟨he1,h1,he2▸h2⟩
  have hkk:m.map (·.1)=kvs.map fun kv=>PyData.str kv.1:=by
   refine List.ext_getElem? fun j=>?_;rw[List.getElem?_map,List.getElem?_map]
   by_cases hj:j < m.length
   ·have hj':j < kvs.length:=hml▸hj;rw[List.getElem?_eq_getElem hj,List.getElem?_eq_getElem hj'];exact congrArg some (hkey j _ _ (List.getElem?_eq_getElem hj') (List.getElem?_eq_getElem hj)).1
   ·rw[List.getElem?_eq_none (Nat.not_lt.mp hj),List.getElem?_eq_none (hml▸Nat.not_lt.mp hj)];rfl
  have hnk:(kvs.map (·.1)).Nodup:=by
   have:=L5 (hks.symm.trans hkk);exact this▸hnd
  obtain⟨nn,hpl'⟩:=hpl.at (h':=h') fun o e=>hk D o hDC e;refine Lz (hA.handled rfl) hpl' hp (hml▸hz) fun s' k1 hd'=>?_;rw[merged_nil_of_nodup kvs hnk] at hd';have K2:K l s s':=K1.trp k1;have fr:h'.get? h'.objs.size=none:=bK _;have lv:∀ i b,pn i b→∃ o,h'.get? b=some o:=fun i b hb=>by obtain⟨_,⟨o,e⟩,n⟩:=hpin i b hb;exact⟨o,hk' b o n e⟩
  refine hq _ s' K2 ⟨fun b=>b=h'.objs.size∨∃ j,pn j b,fun b hb=>hb.elim (fun e=>e▸K1.non fr) fun hb=>by obtain⟨j,hb⟩:=hb;exact k0.non (hpin j b hb).1,fun b hb=>hb.elim (fun e=>by obtain⟨o,es,ep,e',_⟩:=hd';exact⟨o,e▸e'⟩) fun hb=>by obtain⟨j,hb⟩:=hb;obtain⟨o,e⟩:=lv j b hb;exact⟨o,k1.heap b o e⟩,
   .dict pn (.inl rfl) hd' ⟨hml▸hz,fun kv hkv=>?_⟩ (kH (s:={ st' with heap:=h' }) (I.gnd.k K1)) hkk (fun i b hb=>⟨.inr ⟨i,hb⟩,fun e=>?_⟩) hdis fun i kv d e1 e2=>(hkey i kv d e1 e2).2.2.mono fun b o _ e=>k1.heap b o e⟩
  ·obtain⟨j,hj,e⟩:=List.getElem_of_mem hkv;have hjm:j < m.length:=hml▸hj;exact(hkey j kv m[j] (by rw[List.getElem?_eq_getElem hj,e]) (List.getElem?_eq_getElem hjm)).2.1
  ·obtain⟨o,q⟩:=lv i b hb;rw[e,fr] at q;exact ns q
end
end Mine
namespace Mine
open PySem
section
variable {prog:Program} {w:World} {mg mb:Str→Option Value} {base:Heap} {n:Nat} {l:List Env}
theorem rM{rec:Scope→aA→Expr→R V}{C:Ctx}{sc:Scope}{σ:aA}{e:Expr}(h:bad e=true):fW rec C sc σ e=.no:=by
 cases e<;>first | rfl | cases h
theorem Vu{o:Option (Option V)}{x:X}(h:Hs o=some x):o=some (some (.ex x)):=by
 cases o with
 |none=>exact ns h
 |some v =>
  cases v with
  |none=>exact ns h
  |some v =>
   cases v with
   |ex y=>obtain rfl:=si h;rfl
   |_=>exact ns h
theorem Vv{fs:List (Str×PyData)}{p:Str}{d:PyData}(h:pX fs p=some d):(p,d)∈fs:=by
 induction fs with
 |nil=>exact ns h
 |cons q r ih =>
  obtain⟨y,e⟩:=q;replace h:(if p=y then some e else pX r p)=some d:=h
  by_cases hy:p=y
  ·rw[if_pos hy] at h;obtain rfl:=si h;rw[hy];exact List.mem_cons_self
  ·rw[if_neg hy] at h;exact List.mem_cons_of_mem _ (ih h)
theorem Rep.handed{h:Heap}{av:Addr→Prop}{v:Value}{d:PyData}(r:Rep prog w h av v d):handedOut v=pure v:=by cases r<;>rfl
theorem Vx{α:Type}{o:Option α}{x:α}(h:ofO o=.ok x):o=some x:=by
 cases o with
 |none=>exact pno h
 |some y=>obtain rfl:=pi h;rfl
theorem L7{C:Ctx}(hK:KSound prog w mg mb base n C){rec:Scope→aA→Expr→R V}(hbad:∀ sc σ e,bad e=true→rec sc σ e=.no)
  (ih:∀ sc σ e,aF prog w mg mb base n C.hd l sc σ e (rec sc σ e)∧bN prog w mg mb base n C.hd l sc σ e (rec sc σ e)) (sc:Scope) (σ:aA) (e:Expr) :
  aF prog w mg mb base n C.hd l sc σ e (fW rec C sc σ e)∧bN prog w mg mb base n C.hd l sc σ e (fW rec C sc σ e):=by
 have hE:∀ e,aF prog w mg mb base n C.hd l sc σ e (rec sc σ e):=fun e=>(ih sc σ e).1;have hT:∀ e,bN prog w mg mb base n C.hd l sc σ e (rec sc σ e):=fun e=>(ih sc σ e).2;have tv:∀ {e p},aF prog w mg mb base n C.hd l sc σ e p→(∀ env whole,PySem.isTrue e env whole=(do let v ← whole;standAt e.pos;holding [v] (truthy v)))→aF prog w mg mb base n C.hd l sc σ e p∧bN prog w mg mb base n C.hd l sc σ e p:=fun h he=>⟨h,xX h he⟩
 have tn:∀ {e},aF prog w mg mb base n C.hd l sc σ e .no∧bN prog w mg mb base n C.hd l sc σ e .no:=⟨fun _ _ _ _ _ _ _ _ _ _ _ hf=>hf.no.elim,fun _ _ _ _ _ _ _ _ _ _ _ hf=>(Fin.b hf).no.elim⟩
 cases e with
 |Constant c k p=>exact tv Iw fun _ _=>rfl
 |Name x p=>exact tv (Iv hK.const) fun _ _=>rfl
 |BoolOp op vs p =>
  cases op with
  |And=>exact⟨fun A env s av hA I _ _ _ _ _ hf hq he=>Je hA (fun e _=>hE e) I hf hq he,fun A env s av hA I _ _ _ _ _ hf hq he=>Jg hA (fun e _=>hT e) I hf hq he⟩
  |Or=>exact⟨fun A env s av hA I _ _ _ _ _ hf hq he=>Jf hA (fun e _=>hE e) I hf hq he,fun A env s av hA I _ _ _ _ _ hf hq he=>Jh hA (fun e _=>hT e) I hf hq he⟩
 |BinOp l op r p=>exact tv (Ja (hE l) (hE r)) fun _ _=>rfl
 |UnaryOp op x p =>
  refine⟨xW (hE x),?_⟩;cases op with
  |Not=>exact Jc (hT x)
  |_=>exact xX (xW (hE x)) fun _ _=>rfl
 |IfExp t b o p=>exact⟨Jb (hT t) (hE b) (hE o),Jd (hT t) (hT b) (hT o)⟩
 |Dict ks vs p=>exact tv (Lf (fun k _=>hE k) fun e _=>hE e) fun _ _=>rfl
 |List es p=>exact tv (Jl (hbad sc σ) fun e _=>hE e) fun _ _=>rfl
 |Tuple es k p=>exact tv (Jm (hbad sc σ) fun e _=>hE e) fun _ _=>rfl
 |ListComp elt gens sc' p =>
  cases gens with
  |nil=>exact tn
  |cons g gs =>
   cases gs with
   |nil=>exact tv (Lw (hbad sc σ) (hE _) (fun _ _ _ _ _ a _=>hE a) (fun c _ σ'=>(ih sc' σ' c).2) fun σ'=>(ih sc' σ' elt).1) fun _ _=>rfl
   |cons=>exact tn
 |Compare l ops es p=>exact⟨Ji (hbad sc σ) (hE l) fun e _=>hE e,Jj (hbad sc σ) (hE l) fun e _=>hE e⟩
 |Subscript o i p=>exact tv (Ju (hE o) (hE i) fun c _=>⟨fun x _=>hE x,fun x _=>hE x⟩) fun _ _=>rfl
 |Call f as kws p =>
  cases kws with
  |cons=>exact tn
  |nil =>
   show aF prog w mg mb base n C.hd l sc σ _ (match vw f with | .attr o m ap=>j9 (rec sc σ) o m ap as p | .name f=>fV (rec sc σ) C sc σ f as | _=>.no)∧bN prog w mg mb base n C.hd l sc σ _ (match vw f with | .attr o m ap=>j9 (rec sc σ) o m ap as p | .name f=>fV (rec sc σ) C sc σ f as | _=>.no);cases hv:vw f with
   |attr o m ap =>
    have ef:f=_:=cM hv;subst ef;exact tv (K6 (hbad sc σ) (hE o) fun e _=>hE e) fun _ _=>rfl
   |name x =>
    obtain⟨q,rfl⟩:=cM hv;exact tv (Lb hK (hbad sc σ) (fun e _=>hE e) fun _ _ _ _ _ _ _=>⟨fun x _=>hE x,fun o _ _ _=>hE o⟩) fun _ _=>rfl
   |_=>exact tn
 |_=>exact tn
theorem dF{C:Ctx}(hK:KSound prog w mg mb base n C):∀ (k:Nat) (sc:Scope) (σ:aA) (e:Expr),aF prog w mg mb base n C.hd l sc σ e (evE C k sc σ e)∧bN prog w mg mb base n C.hd l sc σ e (evE C k sc σ e):=by
 intro v0
 induction v0 with
 |zero =>
  intro _ _ _;exact⟨fun _ _ _ _ _ _ _ _ _ _ _ hf=>hf.no.elim,fun _ _ _ _ _ _ _ _ _ _ _ hf=>(Fin.b hf).no.elim⟩
 |succ k ih =>
  intro sc σ e;exact L7 hK (rec:=evE C k) (fun sc σ e hb=>by cases k with | zero=>rfl | succ k=>exact rM hb) (fun sc σ e=>ih sc σ e) sc σ e
end
end Mine
namespace Mine
open PySem
noncomputable def cpV(n:Nat)(d:PyData):R V:=if bJ n d then .ok (.dp d) else .no
noncomputable def C1(prog:Program)(n:Nat)(f:Str):Ctx:=⟨fun g vs=>if g=f then (match iU vs with | some d=>cpV n d | none=>.no) else .no,fun g=>g==f,fX prog.main.body,false,dW prog.main.body,fun c=>(bF c prog.main.body).map (·.2),fun _=>false,0⟩
section
variable {prog:Program} {w:World} {mg mb:Str→Option Value} {base:Heap} {n:Nat} {l:List Env}
noncomputable def nH(prog:Program)(w:World)(mg mb:Str→Option Value)(base:Heap)(ad:Addr)(n:Nat):Prop :=
 ∀ (A:Around) (l:List Env) (s:Shared) (av:Addr→Prop) (v:Value) (d:PyData),Room n false l A→Gnd prog w mg mb base l av s→Rep prog w s.heap av v d→bJ n d=true→∀ {Q:Value→Shared→Prop} {E:Value→Shared→Prop},(∀ v' s',K l s s'→DpN prog w s s'.heap v' d→Q v' s')→wpAny (model prog w) A (call (.ref ad) [v]) Q E s
theorem zT{us:List V}{d:PyData}(h:iU us=some d):us=[.fz d]:=by
 cases us with
 |nil=>exact ns h
 |cons u r =>
  cases r with
  |cons=>exact ns h
  |nil =>
   cases u with
   |fz e=>obtain rfl:=si h;rfl
   |_=>exact ns h
theorem KSound.c1{f:Str}{ad:Addr}{x:Arguments×List Stmt×Scope}(hf:b4 f prog.main.body=some x)(hm:mg f=some (.ref ad))(ih:nH prog w mg mb base ad n):KSound prog w mg mb base n (C1 prog n f) where
 const:=rfl
 init:=rfl
 sub:=rfl
 has:=fun g hg=>by obtain rfl:g=f:=eq_of_beq hg;obtain⟨a,b,sc⟩:=x;exact⟨a,b,sc,hf⟩
 call:=fun g us ad' hg hh A l s av vs hA G hargs β k fin Q E hfin hq he=>by
  obtain rfl:g=f:=eq_of_beq hh;rw[hm] at hg;obtain rfl:=Value.ref.inj (si hg);replace hfin:Fin (if g=g then (match iU us with | some d=>cpV n d | none=>.no) else .no) k fin:=hfin;rw[if_pos rfl] at hfin;refine ocs (iU us) (fun hu=>?_) fun d hu=>?_
  ·rw[hu] at hfin;exact hfin.no.elim
  rw[hu] at hfin;obtain rfl:=zT hu;obtain⟨hc,hfin⟩:=Fin.ite (show Fin (if bJ n d=true then R.ok (V.dp d) else .no) k fin from hfin);cases vs with
  |nil=>exact hargs.elim
  |cons v vs =>
   obtain⟨hv,hvs⟩:=hargs;cases vs with
   |cons=>exact hvs.elim
   |nil =>
    exact ih A l s av v d hA G hv.1 hc fun v' s' kk r=>hq _ _ (.dp d) kk r hfin.ok
end
end Mine
namespace Mine
open PySem
section
variable {prog:Program} {w:World} {mg mb:Str→Option Value} {base:Heap} {n:Nat} {l:List Env}
theorem i7{C:Ctx}{j:Nat}{sc:Scope}{σ:aA}{x:Str}{p:Pos}{d:PyData}(hl:isL sc x=true)(hg:aA.get σ x=some (some (.fz d))):evE C (j+1) sc σ (.Name x p)=.ok (.fz d):=by
 show ofP (if isL sc x then (match aA.get σ x with | some o=>(match o with | some v=>rdv v | none=>.no) | none=>.no) else _)=_;rw[if_pos hl,hg];rfl
theorem L8{sc:Scope}{σ:aA}{x:Str}{p:Pos}{d:PyData}(hg:aA.get σ x=some (some (.fz d))):j7 sc σ (.Name x p)=none:=by
 show gS sc σ x=none;unfold gS;rw[hg]
theorem zU{C:Ctx}{j:Nat}{sc:Scope}{σ:aA}{x y:Str}{p p' p'':Pos}{m:List (PyData×PyData)}{k:Str}{e:PyData}(hx:isL sc x=true)(hy:isL sc y=true)(gx:aA.get σ x=some (some (.fz (.dict m))))(gy:aA.get σ y=some (some (.fz (.str k))))(hk:bM m k=some e) :
  evE C (j+2) sc σ (.Subscript (.Name x p) (.Name y p') p'')=.ok (.fz e):=by
 show rb (iP (evE C (j+1) sc σ) sc σ (.Name x p)) (fun a=>pU (evE C (j+1) sc σ) a (.Name y p'))=_;unfold iP pU;rw[L8 gx,i7 hx gx];show rb (evE C (j+1) sc σ (.Name y p')) (fun i=>ofP (getItem (.dict m) (dOf i)))=_;rw[i7 hy gy];show ofP (frz (bM m k))=_;rw[hk];rfl
theorem L9{f:Str}{j:Nat}{sc:Scope}{σ:aA}{x y:Str}{p p' p'' q q':Pos}{m:List (PyData×PyData)}{k:Str}{e:PyData}(hg:isG sc f=true)(hf:f ≠ "isinstance" ∧ f ≠ "min" ∧ dY f=false)(hx:isL sc x=true)(hy:isL sc y=true)(gx:aA.get σ x=some (some (.fz (.dict m))))(gy:aA.get σ y=some (some (.fz (.str k))))(hk:bM m k=some e) :
  evE (C1 prog n f) (j+3) sc σ (.Call (.Name f q) [.Subscript (.Name x p) (.Name y p') p''] [] q')=cpV n e:=by
 show fV (evE (C1 prog n f) (j+2) sc σ) (C1 prog n f) sc σ f [.Subscript (.Name x p) (.Name y p') p'']=_;unfold fV;rw[if_pos hg,if_neg hf.1,if_neg hf.2.1,if_neg (by rw[hf.2.2];exact Bool.false_ne_true),if_neg (fun h=>h.elim (fun h=>Bool.false_ne_true h) fun h=>by rw[show(C1 prog n f).has f=(f==f) from rfl,beq_self_eq_true] at h;exact btf h)];show rb (rb (evE (C1 prog n f) (j+2) sc σ (.Subscript (.Name x p) (.Name y p') p'')) fun v=>.ok [v.clear]) (fun vs=>(C1 prog n f).call f vs)=_;rw[zU hx hy gx gy hk];show(if f=f then cpV n e else .no)=_;rw[if_pos rfl]
inductive CpC:PyData→Prop where
 |dict (m:List (PyData×PyData)):CpC (.dict m)
 |int (i:Int):CpC (.int i)
theorem zV{n:Nat}{e:PyData}(h:bJ n e=true):CpC e:=by
 cases n with
 |zero=>exact bft h
 |succ n =>
  cases e with
  |dict m=>exact .dict m
  |int i=>exact .int i
  |_=>exact bft h
theorem Ma{f P X:Str}{sc:Scope}{σ:aA}{q1 q2 q3 q4 q5 q6:Pos}{q7:Nat}{q8:Pos}{m:List (PyData×PyData)}{k:Str}{e:PyData}(hK:KSound prog w mg mb base n (C1 prog n f))(hg:isG sc f=true)(hf:f ≠ "isinstance" ∧ f ≠ "min" ∧ dY f=false)(hP:isL sc P=true)(hX:isL sc X=true)
  (gP:aA.get σ P=some (some (.fz (.dict m)))) (gX:aA.get σ X=some (some (.fz (.str k)))) (hk:bM m k=some e) (hc:bJ n e=true):nG prog w mg mb base n false l sc σ (.Tuple [.Name X q1,.Call (.Name f q2) [.Subscript (.Name P q3) (.Name X q4) q5] [] q6] q7 q8) (.tuple [.str k,e]):=by
 intro A env s av hA I Q E hq;refine wpAny_Tuple ?_;refine wpAny_items_cons ((dF hK 1 sc σ (.Name X q1)).1.val hA I (i7 hX gX) fun v1 s1 k1 r1=>wpAny_items_cons ((dF hK 3 sc σ _).1.val hA (I.k k1) (u:=.dp e) ?_ fun v2 s2 k2 r2=>wpAny_items_nil ⟨by show 2≤sizeLine;decide,?_⟩) rfl) rfl
 ·rw[L9 hg hf hP hX gP gX hk];show(if bJ n e=true then _ else _)=_;rw[if_pos hc]
 ·obtain⟨tk,rfl,hkl⟩:=(show Rep prog w s1.heap av v1 (.str k) from r1).str_inv;have k3:=k1.tr k2;have fr:s2.heap.get? s2.heap.objs.size=none:=bK _;have kp:∀ b o,s2.heap.get? b=some o→(s2.heap.push { cls:=.type "tuple", data:=.seq [Value.str k tk,v2].toArray }).get? b=some o:=fun b o q=>Heap.get?_push_of_some _ q;obtain⟨pn,hn,hl,hr⟩:=(show DpN prog w s1 s2.heap v2 e from r2)
  exact hq _ _ (k3.trp (Kp.mkh kp)) ⟨_,k,tk,v2,e,pn,rfl,k3.non fr,⟨0,cH _ _ rfl⟩,rfl,hkl,fun b hb=>k1.non (hn b hb),fun b hb=>by obtain⟨o,q⟩:=hl b hb;exact⟨o,kp b o q⟩,hr.mono fun b o _ q=>kp b o q⟩
end
end Mine
namespace Mine
open PySem
section
variable {prog:Program} {w:World} {mg mb:Str→Option Value} {base:Heap} {l₀:List Env} {env:Env} {sc:Scope} {av₀:Addr→Prop} {s₀:Shared}
theorem IsCell.uniq{h:Heap}{c:Addr}{v v':Option Value}(x:h.IsCell c v)(y:h.IsCell c v'):v=v':=by
 obtain⟨o,e,d⟩:=x;obtain⟨o',e',d'⟩:=y;rw[e] at e';cases e';rw[d] at d';cases d';rfl
theorem aM.uniq{h:Heap}{x:Str}{u u':Value}(a:aM env h x u)(b:aM env h x u'):u=u':=by
 rcases a with ⟨k,m,hn,e⟩ | ⟨k,c,e,hc⟩
 ·rcases b with ⟨k',m',hn',e'⟩ | ⟨k',c',e',hc'⟩
  ·rw[hn.eq_nsMap] at e;rw[hn'.eq_nsMap] at e';rw[e] at e';exact Option.some.inj e'
  ·rw[k] at k';rcases k' with k' | k'<;>cases k'
 ·rcases b with ⟨k',m',hn',e'⟩ | ⟨k',c',e',hc'⟩
  ·rw[k'] at k;rcases k with k | k<;>cases k
  ·rw[e] at e';cases e';exact Option.some.inj (IsCell.uniq hc hc')
noncomputable def Mn(env:Env)(b:Addr):Prop:=b=env.locals∨∃ y,env.cells.lookup y=some b
noncomputable def bH(env:Env)(σ:aA)(h:Heap)(x:Str)(a:Addr):Prop:=(∃ d,aA.get σ x=some (some (.own d)))∧aM env h x (.ref a)
structure Act(prog:Program)(w:World)(mg mb:Str→Option Value)(base:Heap)(l₀:List Env)(env:Env)(sc:Scope)(av₀:Addr→Prop)(s₀:Shared)(σ:aA)(av:Addr→Prop)(s:Shared):Prop where
 inv:Inv0 prog w mg mb base (env::l₀) env sc σ av s
 stay0:∀ b o,base.get? b=some o→s₀.heap.get? b=some o
 frm:env.frame=some env.locals
 fr0:∀ b,frs l₀ b→av₀ b∧∃ o,s₀.heap.get? b=some o
 k0:K l₀ s₀ s
 bas:∀ b,av₀ b→av b
 ns:∃ m,s.heap.Ns env.locals m
 cells:∀ x c,env.cells.lookup x=some c→c≠env.locals∧∃ v,s.heap.IsCell c v
 fresh:∀ b,Mn env b→av b∧s₀.heap.get? b=none∧¬ av₀ b
 capart:∀ x y c,env.cells.lookup x=some c→env.cells.lookup y=some c→x=y
 names:∀ x v,aA.get σ x=some v→isL sc x=true∧(env.kindOf x=some .local∨(env.kindOf x=some .cell∧∃ c,env.cells.lookup x=some c))
 ownA:∀ x a,bH env σ s.heap x a→av a∧s₀.heap.get? a=none∧¬ av₀ a∧¬ Mn env a
 ownI:∀ x y a,bH env σ s.heap x a→bH env σ s.heap y a→x=y
 loc:∀ x,sc.names.lookup x=some .local→env.kindOf x=some .local
theorem i8{b:Addr}(hf:env.frame=some env.locals):frs (env::l₀) b↔b=env.locals∨frs l₀ b:=by
 unfold frs;rw[List.filterMap_cons,hf,List.mem_cons]
theorem Act.liveMn{σ:aA}{av:Addr→Prop}{s:Shared}(X:Act prog w mg mb base l₀ env sc av₀ s₀ σ av s){b:Addr}(h:Mn env b):∃ o,s.heap.get? b=some o:=by
 rcases h with rfl | ⟨y,h⟩
 ·obtain⟨m,o,es,ep,e,_⟩:=X.ns;exact⟨o,e⟩
 ·obtain⟨_,v,o,e,_⟩:=X.cells y b h;exact⟨o,e⟩
theorem Act.newNot{σ:aA}{av:Addr→Prop}{s:Shared}(X:Act prog w mg mb base l₀ env sc av₀ s₀ σ av s){b:Addr}(h:s.heap.get? b=none):¬ Mn env b∧¬ av b∧¬ av₀ b∧s₀.heap.get? b=none∧¬ frs (env::l₀) b :=
 have hav:¬ av b:=fun x=>by obtain⟨o,e⟩:=X.inv.gnd.avlt b x;rw[h] at e;cases e
 ⟨fun x=>(by obtain⟨o,e⟩:=X.liveMn x;rw[h] at e;cases e),hav,fun x=>hav (X.bas b x),X.k0.non h,fun x=>hav (X.inv.gnd.fav b x)⟩
theorem bQ.mono'{l:List Env}{h h':Heap}{av av':Addr→Prop}(hk:∀ b o,¬ av b→h.get? b=some o→h'.get? b=some o)(ha:∀ b o,h.get? b=some o→av' b→av b){u:Value}{v:V}
  (hs:∀ d a,v=.own d→u=.ref a→∀ o,h.get? a=some o→h'.get? a=some o) (r:bQ prog w mg l h av u v):bQ prog w mg l h' av' u v:=by
 cases v with
 |fz d=>exact Rep.mono hk ha r
 |own d=>obtain⟨a,e,n,r⟩:=r;exact⟨a,e,n,r.mono hk ha (hs d a rfl e)⟩
 |dp d=>exact Rep.mono hk ha r
 |ex x=>obtain⟨e,h,r⟩:=r;exact⟨e,h,r.mono hk ha⟩
theorem FunFrames.to{h h' base:Heap}:∀ {l:List Env},h.FunFrames base l→(∀ b o,frs l b→h.get? b=some o→(∀ vs,o.data≠.fields vs)→∃ o',h'.get? b=some o'∧∀ vs,o'.data≠.fields vs)→h'.FunFrames base l
 := by
 intro l
 induction l with
 |nil=>exact fun _ _=>trivial
 |cons env r ih =>
  intro f k;obtain⟨hk,⟨L,o,hf,hn,ho,hd⟩,hr⟩:=f;obtain⟨o',ho',hd'⟩:=k L o (by unfold frs;rw[List.filterMap_cons,hf];exact List.mem_cons_self) ho hd;exact⟨hk,⟨L,o',hf,hn,ho',hd'⟩,ih hr fun b o f=>k b o (by unfold frs;rw[List.filterMap_cons,hf];exact List.mem_cons_of_mem _ f)⟩
theorem aM.kept{h h':Heap}{x:Str}{u:Value}(v:aM env h x u)(hk:∀ b o,Mn env b→h.get? b=some o→h'.get? b=some o):aM env h' x u:=by
 rcases v with ⟨k,m,hn,e⟩ | ⟨k,c,e,o,e1,e2⟩
 ·exact .inl ⟨k,m,hn.at' fun o e=>hk _ o (.inl rfl) e,e⟩
 ·exact .inr ⟨k,c,e,o,hk c o (.inr ⟨x,e⟩) e1,e2⟩
theorem Act.varBack{σ:aA}{av:Addr→Prop}{s:Shared}{h':Heap}(X:Act prog w mg mb base l₀ env sc av₀ s₀ σ av s){x:Str}{v:V}{u:Value}(hg:aA.get σ x=some (some v))(hk:∀ u,aM env s.heap x u→aM env h' x u)(hv:aM env h' x u):aM env s.heap x u:=by
 obtain⟨u',h1,_⟩:=X.inv.get x v (X.names x _ hg).1 hg;have:=aM.uniq (hk _ h1) hv;exact this▸h1
theorem Act.ownBack{σ:aA}{av:Addr→Prop}{s:Shared}{h':Heap}(X:Act prog w mg mb base l₀ env sc av₀ s₀ σ av s){x:Str}{a:Addr}(hk:∀ u,aM env s.heap x u→aM env h' x u)(h:bH env σ h' x a):bH env σ s.heap x a :=
 let ⟨⟨d,hg⟩,hv⟩:=h;⟨⟨d,hg⟩,X.varBack hg hk hv⟩
theorem K.drop{s s':Shared}(hf:env.frame=some env.locals)(h0:s₀.heap.get? env.locals=none)(x:K l₀ s₀ s)(y:K (env::l₀) s s'):K l₀ s₀ s':=by
 obtain⟨h,t,rfl,k,u⟩:=x;obtain⟨h',t',rfl,k',u'⟩:=y;refine⟨h',t',rfl,fun b o n e=>k' b o (fun f=>?_) (k b o n e),fun b o e=>by obtain⟨_,e1⟩:=u b o e;exact by obtain⟨sl,e2⟩:=u' b _ e1;exact⟨sl,e2⟩⟩;rcases(i8 hf).mp f with f | f
 ·simp only[f,h0] at e;exact ns e
 ·exact n f
theorem Act.k{σ:aA}{av:Addr→Prop}{s s':Shared}(X:Act prog w mg mb base l₀ env sc av₀ s₀ σ av s)(k:K (env::l₀) s s'):Act prog w mg mb base l₀ env sc av₀ s₀ σ av s' :=
 { X with
  inv:=X.inv.k k
  k0:=X.k0.drop X.frm (X.fresh _ (.inl rfl)).2.1 k
  ns:=by obtain⟨m,hn⟩:=X.ns;exact⟨m,k.upTo.ns hn⟩
  cells:=fun x c e=>by obtain⟨h1,v,o,h2,h3⟩:=X.cells x c e;exact by obtain⟨_,e'⟩:=k.up h2;exact⟨h1,v,_,e',h3⟩
  ownA:=fun x a h=>X.ownA x a (X.ownBack (fun u h=>h.k k) h)
  ownI:=fun x y a h1 h2=>X.ownI x y a (X.ownBack (fun u h=>h.k k) h1) (X.ownBack (fun u h=>h.k k) h2) }
theorem Gnd.grow{l:List Env}{av S:Addr→Prop}{s:Shared}(G:Gnd prog w mg mb base l av s)(hl:∀ a,S a→∃ o,s.heap.get? a=some o):Gnd prog w mg mb base l (fun b=>av b∨S b) s :=
 { G with fav:=fun b h=>.inl (G.fav b h),avlt:=fun b h=>h.elim (G.avlt b) (hl b),avS:=.inl G.avS }
theorem Act.growS{σ:aA}{av:Addr→Prop}{s s':Shared}{S:Addr→Prop}(X:Act prog w mg mb base l₀ env sc av₀ s₀ σ av s)(k:K (env::l₀) s s')(hn:∀ a,S a→s.heap.get? a=none)(hl:∀ a,S a→∃ o,s'.heap.get? a=some o) :
  Act prog w mg mb base l₀ env sc av₀ s₀ σ (fun b=>av b∨S b) s':=by
 have Y:=X.k k;refine { Y with inv:={ Y.inv with gnd:=Y.inv.gnd.grow hl,get:=fun x v hl' hg=>?_ },bas:=fun b hb=>.inl (X.bas b hb),fresh:=fun b h=>by obtain⟨h1,h2⟩:=X.fresh b h;exact⟨.inl h1,h2⟩,ownA:=fun x a h=>by obtain⟨h1,h2⟩:=Y.ownA x a h;exact⟨.inl h1,h2⟩ };obtain⟨u,h1,h2⟩:=X.inv.get x v hl' hg;refine⟨u,h1.k k,?_⟩;have h3:bQ prog w mg (env::l₀) s.heap (fun b=>av b∨S b) u v:=h2.mono' (fun _ _ _ e=>e) (fun b o e hb=>hb.elim id fun hb=>by rw[hn b hb] at e;cases e) fun _ _ _ _ _ e=>e;exact h3.k (fun b h=>.inl (X.inv.gnd.fav b h)) k
theorem aA.get_clear(xs:List Str)(x:Str):∀ σ:aA,aA.get (aA.clear σ xs) x=(aA.get σ x).map fun v=>if xs.contains x then v.map V.clear else v
 | []=>rfl
 | (y,v)::r=>by
  show(if x=y then some (if xs.contains y then v.map V.clear else v) else aA.get (aA.clear r xs) x)=(if x=y then some v else aA.get r x).map _
  by_cases h:x=y
  ·subst h;rw[if_pos rfl,if_pos rfl];rfl
  ·rw[if_neg h,if_neg h];exact aA.get_clear xs x r
theorem zW{xs:List Str}{x:Str}{σ:aA}{v:V}(h:aA.get (aA.clear σ xs) x=some (some v)):∃ v0,aA.get σ x=some (some v0)∧(v=v0∧(xs.contains x=true→∀ d,v0≠.own d)∨xs.contains x=true∧(∃ d,v0=.own d∧v=.fz d)∨∃ d,v0=.dp d∧v=.fz d):=by
 rw[aA.get_clear] at h;refine ocs (aA.get σ x) (fun hg=>?_) fun o hg=>?_
 ·try rewrite[hg]
  rw[hg] at h;exact ns h
 ·try rewrite[hg]
  rw[hg] at h;have h:=Option.some.inj h;cases o with
  |none=>revert h;cases xs.contains x<;>exact fun h=>by exact ns h
  |some v0 =>
   refine⟨v0,rfl,?_⟩
   revert h
   cases xs.contains x with
   |false=>exact fun h=>.inl ⟨(Option.some.inj h).symm,fun h=>by exact bft h⟩
   |true =>
    intro h;have h:v0.clear=v:=Option.some.inj h;cases v0 with
    |own d=>exact .inr (.inl ⟨rfl,d,rfl,h.symm⟩)
    |dp d=>exact .inr (.inr ⟨d,rfl,h.symm⟩)
    |_=>exact .inl ⟨h.symm,fun _ _ h=>by cases h⟩
theorem Act.clear{σ:aA}{av:Addr→Prop}{s:Shared}(X:Act prog w mg mb base l₀ env sc av₀ s₀ σ av s)(xs:List Str):∃ av1,Act prog w mg mb base l₀ env sc av₀ s₀ (aA.clear σ xs) av1 s∧∀ b,av1 b→av b:=by
 let Z:Addr→Prop:=fun b=>∃ x,xs.contains x=true∧bH env σ s.heap x b
 have back:∀ x a,bH env (aA.clear σ xs) s.heap x a→xs.contains x=false∧bH env σ s.heap x a:=fun x a ⟨⟨d,h⟩,hv⟩=>by
  obtain⟨v0,hg,⟨e,hc⟩ | ⟨_,d',_,e⟩ | ⟨d',_,e⟩⟩:=zW h
  ·exact⟨Bool.not_eq_true _▸fun h=>hc h d e.symm,⟨d,e▸hg⟩,hv⟩
  ·cases e
  ·cases e
 have nZ:∀ b,(s₀.heap.get? b≠none∨av₀ b∨Mn env b)→¬ Z b:=by
  rintro b hb ⟨x,_,h⟩
  obtain⟨_,h2,h3,h4⟩:=X.ownA x b h;rcases hb with hb | hb | hb
  ·exact hb h2
  ·exact h3 hb
  ·exact h4 hb
 have hmods:s₀.heap.get? sysModules≠none:=fun e=>by
  obtain⟨mm,o,es,ep,h,_⟩:=X.inv.gnd.glo.mods;rw[X.stay0 _ _ h] at e;exact sn e
 refine⟨fun b=>av b∧¬ Z b,{ X with inv:=?_,bas:=fun b hb=>⟨X.bas b hb,nZ b (.inr (.inl hb))⟩,fresh:=fun b h=>by obtain⟨h1,h2⟩:=X.fresh b h;exact⟨⟨h1,nZ b (.inr (.inr h))⟩,h2⟩,names:=fun x v h=>?_,ownA:=fun x a h=>?_,ownI:=fun x y a h1 h2=>X.ownI x y a (back x a h1).2 (back y a h2).2 },fun b h=>h.1⟩
 ·refine { X.inv with gnd:={ X.inv.gnd with fav:=fun b h=>?_,avlt:=fun b hb=>X.inv.gnd.avlt b hb.1,avS:=⟨X.inv.gnd.avS,nZ _ (.inl hmods)⟩ },get:=fun x v hl hg=>?_ }
  ·refine⟨X.inv.gnd.fav b h,nZ b ?_⟩;rcases(i8 X.frm).mp h with h | h
   ·exact .inr (.inr (.inl h))
   ·exact .inr (.inl (X.fr0 b h).1)
  ·obtain⟨v0,hg0,⟨rfl,hc⟩ | ⟨hc,d,rfl,rfl⟩ | ⟨d,rfl,rfl⟩⟩:=zW hg
   ·obtain⟨u,h1,h2⟩:=X.inv.get x v hl hg0;exact⟨u,h1,h2.mono' (fun _ _ n e=>e) (fun _ _ _ h=>h.1) fun _ _ _ _ _ e=>e⟩
   ·obtain⟨u,h1,a,rfl,_,r⟩:=X.inv.get x _ hl hg0;exact⟨_,h1,bG.rep (fun h=>h.2 ⟨x,hc,⟨d,hg0⟩,h1⟩) (r.mono (fun _ _ _ e=>e) (fun _ _ _ h=>h.1) fun _ e=>e)⟩
   ·obtain⟨u,h1,r⟩:=X.inv.get x _ hl hg0;exact⟨u,h1,Rep.mono (fun _ _ _ e=>e) (fun _ _ _ h=>h.1) r⟩
 ·rw[aA.get_clear] at h;obtain⟨v0,hg,_⟩:=Option.map_eq_some_iff.mp h;exact X.names x v0 hg
 ·obtain⟨hc,h⟩:=back x a h;obtain⟨h1,h2⟩:=X.ownA x a h;exact⟨⟨h1,fun hh=>by obtain⟨y,hcy,hy⟩:=hh;exact by rw[X.ownI x y a h hy,hcy] at hc;exact btf hc⟩,h2⟩
theorem Act.weaken{av₁:Addr→Prop}{σ:aA}{av:Addr→Prop}{s:Shared}(X:Act prog w mg mb base l₀ env sc av₁ s₀ σ av s)(h:∀ b,av₀ b→av₁ b)(hf:∀ b,frs l₀ b→av₀ b):Act prog w mg mb base l₀ env sc av₀ s₀ σ av s :=
 { X with fr0:=fun b hb=>⟨hf b hb,(X.fr0 b hb).2⟩,bas:=fun b hb=>X.bas b (h b hb),fresh:=fun b hb=>by obtain⟨h1,h2,h3⟩:=X.fresh b hb;exact⟨h1,h2,fun x=>h3 (h b x)⟩,ownA:=fun x a hb=>by obtain⟨h1,h2,h3,h4⟩:=X.ownA x a hb;exact⟨h1,h2,fun x=>h3 (h a x),h4⟩ }
theorem Act.pin{σ:aA}{av S:Addr→Prop}{s s':Shared}(X:Act prog w mg mb base l₀ env sc av₀ s₀ σ av s)(k:K (env::l₀) s s')(hn:∀ a,S a→s.heap.get? a=none)(hl:∀ a,S a→∃ o,s'.heap.get? a=some o) :
  Act prog w mg mb base l₀ env sc (fun b=>av₀ b∨S b) s₀ σ (fun b=>av b∨S b) s':=by
 have Y:=X.growS k hn hl;refine { Y with fr0:=fun b h=>by obtain⟨h1,h2⟩:=X.fr0 b h;exact⟨.inl h1,h2⟩,bas:=fun b hb=>hb.imp (X.bas b) id,fresh:=fun b h=>by obtain⟨h1,h2,h3⟩:=Y.fresh b h;exact⟨h1,h2,fun x=>x.elim h3 fun x=>(X.newNot (hn b x)).1 h⟩,ownA:=fun x a h=>?_ };obtain⟨h1,h2,h3,h4⟩:=X.ownA x a (X.ownBack (fun u h=>h.k k) h);exact⟨.inl h1,h2,fun x=>x.elim h3 fun x=>(X.newNot (hn a x)).2.1 h1,h4⟩
theorem Act.gndS{σ:aA}{av av' S:Addr→Prop}{s:Shared}{h':Heap}{tk:Nat}(X:Act prog w mg mb base l₀ env sc av₀ s₀ σ av s)(h0:∀ b,S b→s₀.heap.get? b=none)(hs:∀ b o,¬ S b→s.heap.get? b=some o→h'.get? b=some o)
  (hL:∃ m,h'.Ns env.locals m)
  (h1:∀ b,av' b→av b) (h2:∀ b,av b→¬ S b→av' b) (h3:∀ b,av' b→S b→∃ o,h'.get? b=some o) (h4:∀ b,frs (env::l₀) b→av' b):Gnd prog w mg mb base (env::l₀) av' { s with heap:=h',toks:=tk }∧K l₀ s₀ { s with heap:=h',toks:=tk }:=by
 have hbase:∀ b o,base.get? b=some o→¬ S b:=fun b o e h=>by have:=X.stay0 b o e;rw[h0 b h] at this;cases this
 refine⟨{ X.inv.gnd with stay:=fun b o e=>hs b o (hbase b o e) (X.inv.gnd.stay b o e),ff:=?_,fav:=h4,avlt:=fun b hb=>?_,avS:=h2 _ X.inv.gnd.avS ?_ },?_⟩
 ·refine FunFrames.to X.inv.gnd.ff fun b o f e hd=>?_;rcases(i8 X.frm).mp f with f | f
  ·obtain⟨m,o',es,ep,e',d',_⟩:=hL;exact⟨o',f▸e',fun vs q=>by rw[d'] at q;cases q⟩
  ·exact⟨o,hs b o (fun x=>by obtain⟨_,o',e'⟩:=X.fr0 b f;rw[h0 b x] at e';cases e') e,hd⟩
 ·by_cases hb':S b
  ·exact h3 b hb hb'
  ·obtain⟨o,e⟩:=X.inv.gnd.avlt b (h1 b hb);exact⟨o,hs b o hb' e⟩
 ·obtain⟨mm,o,es,ep,e,_⟩:=X.inv.gnd.glo.mods;exact hbase _ _ e
 ·obtain⟨h,t,rfl,k,u⟩:=X.k0;exact⟨h',tk,rfl,fun b o n e=>hs b o (fun x=>by rw[h0 b x] at e;cases e) (k b o n e),fun b o e=>by obtain⟨sl,e1⟩:=u b o e;exact⟨sl,hs b _ (fun x=>by rw[h0 b x] at e;cases e) e1⟩⟩
end
end Mine
namespace Mine
open PySem
section
variable {prog:Program} {w:World} {mg mb:Str→Option Value} {base:Heap} {l₀:List Env} {env:Env} {sc:Scope} {av₀:Addr→Prop} {s₀:Shared}
theorem Act.upd{σ σ':aA}{av av' S:Addr→Prop}{s:Shared}{h':Heap}{tk:Nat}(X:Act prog w mg mb base l₀ env sc av₀ s₀ σ av s)(h0:∀ b,S b→s₀.heap.get? b=none)(hs:∀ b o,¬ S b→s.heap.get? b=some o→h'.get? b=some o)
  (hL:∃ m,h'.Ns env.locals m) (hC:∀ x c,env.cells.lookup x=some c→∃ v,h'.IsCell c v) (h1:∀ b,av' b→av b) (h2:∀ b,av b→¬ S b→av' b) (h3:∀ b,av' b→S b→∃ o,h'.get? b=some o) (h4:∀ b,av₀ b→av' b) (hM:∀ b,Mn env b→av' b)
  (hN:∀ x v,aA.get σ' x=some v→∃ v0,aA.get σ x=some v0) (hG:∀ x v,isL sc x=true→aA.get σ' x=some (some v)→∃ u,aM env h' x u∧bQ prog w mg (env::l₀) h' av' u v)
  (hA:∀ x a,bH env σ' h' x a→av' a∧s₀.heap.get? a=none∧¬ av₀ a∧¬ Mn env a) (hI:∀ x y a,bH env σ' h' x a→bH env σ' h' y a→x=y):Act prog w mg mb base l₀ env sc av₀ s₀ σ' av' { s with heap:=h',toks:=tk }:=by
 have g:=X.gndS (tk:=tk) h0 hs hL h1 h2 h3 fun b f=>((i8 X.frm).mp f).elim (fun f=>hM b (.inl f)) fun f=>h4 b (X.fr0 b f).1;exact { X with inv:={ X.inv with gnd:=g.1,get:=hG },k0:=g.2,bas:=h4,ns:=hL,cells:=fun x c e=>⟨(X.cells x c e).1,hC x c e⟩,fresh:=fun b h=>⟨hM b h,(X.fresh b h).2⟩,names:=fun x v h=>by obtain⟨v0,e⟩:=hN x v h;exact X.names x v0 e,ownA:=hA,ownI:=hI }
theorem Act.wildS{σ:aA}{av av' S:Addr→Prop}{s:Shared}{h':Heap}{tk:Nat}(X:Act prog w mg mb base l₀ env sc av₀ s₀ σ av s)(hS:∀ b,S b→av b)(h0:∀ b,S b→s₀.heap.get? b=none)(hM:∀ b,Mn env b→¬ S b)
  (ho:∀ x a,bH env σ s.heap x a→¬ S a) (hs:∀ b o,¬ S b→s.heap.get? b=some o→h'.get? b=some o)
  (h1:∀ b,av' b→av b) (h2:∀ b,av b→¬ S b→av' b) (h3:∀ b,av' b→S b→∃ o,h'.get? b=some o) (h4:∀ b,av₀ b→av' b):Act prog w mg mb base l₀ env sc av₀ s₀ σ av' { s with heap:=h',toks:=tk }:=by
 have hvar:∀ y u,aM env s.heap y u→aM env h' y u:=fun y u h=>h.kept fun b o m e=>hs b o (hM b m) e;refine X.upd h0 hs (by obtain⟨m,hn⟩:=X.ns;exact⟨m,hn.at' fun o e=>hs _ o (hM _ (.inl rfl)) e⟩) (fun y c e=>by obtain⟨_,v,o,e1,e2⟩:=X.cells y c e;exact⟨v,o,hs c o (hM c (.inr ⟨y,e⟩)) e1,e2⟩) h1 h2 h3 h4 (fun b h=>h2 b (X.fresh b h).1 (hM b h)) (fun x v h=>⟨v,h⟩) (fun x v hl hg=>?_)
  (fun x a h=>?_) fun x y a hx hy=>X.ownI x y a (X.ownBack (hvar x) hx) (X.ownBack (hvar y) hy)
 ·obtain⟨u,g1,g2⟩:=X.inv.get x v hl hg;refine⟨u,hvar _ _ g1,g2.mono' (fun b o n e=>hs b o (fun h=>n (hS b h)) e) (fun b _ _ h=>h1 b h) fun d a e1 e2 o e=>hs a o (ho x a ⟨⟨d,e1▸hg⟩,e2▸g1⟩) e⟩
 ·have h:=X.ownBack (hvar x) h;obtain⟨q1,q2⟩:=X.ownA x a h;exact⟨h2 a q1 (ho x a h),q2⟩
theorem aA.get_set(x:Str)(u:V)(y:Str):∀ σ:aA,aA.get (aA.set σ x u) y=if y=x then (aA.get σ x).map (fun _=>some u) else aA.get σ y
 | []=>by
  show none=if y=x then none else none
  split<;>rfl
 | (z,v)::r=>by
  have ih:=aA.get_set x u y r
  by_cases hxz:x=z
  ·subst hxz;have e:aA.set ((x,v)::r) x u=(x,some u)::r:=if_pos rfl;rw[e]
   by_cases hy:y=x
   ·subst hy;rw[aA.get_cons_eq,if_pos rfl,aA.get_cons_eq];rfl
   ·rw[aA.get_cons_ne hy,if_neg hy,aA.get_cons_ne hy]
  ·have e:aA.set ((z,v)::r) x u=(z,v)::aA.set r x u:=if_neg hxz;rw[e,aA.get_cons_ne hxz]
   by_cases hy:y=z
   ·subst hy;rw[aA.get_cons_eq,if_neg (fun h=>hxz h.symm),aA.get_cons_eq]
   ·rw[aA.get_cons_ne hy,ih,aA.get_cons_ne hy]
theorem gC{σ:aA}{x y:Str}{u:V}{o:Option V}(hy:y≠x)(h:aA.get (aA.set σ x u) y=some o):aA.get σ y=some o:=by
 rw[aA.get_set,if_neg hy] at h;exact h
theorem kL{σ:aA}{x:Str}{u w:V}(h:aA.get (aA.set σ x u) x=some (some w)):w=u:=by
 rw[aA.get_set,if_pos rfl] at h;refine ocs (aA.get σ x) (fun hg=>?_) fun o hg=>?_
 ·try rewrite[hg]
  rw[hg] at h;exact ns h
 ·try rewrite[hg]
  rw[hg] at h;cases h;rfl
theorem rN{σ:aA}{x y:Str}{u:V}{o:Option V}(h:aA.get (aA.set σ x u) y=some o):∃ v0,aA.get σ y=some v0:=by
 by_cases hy:y=x
 ·subst hy;rw[aA.get_set,if_pos rfl] at h;refine ocs (aA.get σ y) (fun hg=>?_) fun o hg=>?_
  ·try rewrite[hg]
   rw[hg] at h;exact ns h
  ·try rewrite[hg]
   exact⟨o,rfl⟩
 ·exact⟨o,gC hy h⟩
theorem Act.put1{σ:aA}{av:Addr→Prop}{s:Shared}{x:Str}{u:Value}{v:V}{p:Addr}{h':Heap}{tk:Nat}(X:Act prog w mg mb base l₀ env sc av₀ s₀ σ av s)(hv:bQ prog w mg (env::l₀) s.heap av u v)
  (ho:∀ d a,v=.own d→u=.ref a→av a∧s₀.heap.get? a=none∧¬ av₀ a∧¬ Mn env a∧∀ y,y≠x→¬ bH env σ s.heap y a) (hp:Mn env p) (hs:Heap.SameBut p s.heap h') (hns:∃ m,h'.Ns env.locals m) (hcells:∀ y c,env.cells.lookup y=some c→∃ v,h'.IsCell c v)
  (hvx:aM env h' x u) (hvy:∀ y w',y≠x→aM env s.heap y w'→aM env h' y w'):Act prog w mg mb base l₀ env sc av₀ s₀ (aA.set σ x v) av { s with heap:=h',toks:=tk }:=by
 have kept:∀ b o,¬ b=p→s.heap.get? b=some o→h'.get? b=some o:=fun b o hb e=>by rw[hs.2 b hb];exact e
 obtain⟨p1,p2,p3⟩:=X.fresh p hp;have back:∀ y a,bH env (aA.set σ x v) h' y a→(y=x∧(∃ d,v=.own d)∧u=.ref a)∨(y≠x∧bH env σ s.heap y a):=fun y a ⟨⟨d,hg⟩,hv'⟩=>by
  by_cases hy:y=x
  ·subst hy;exact .inl ⟨rfl,⟨d,(kL hg).symm⟩,aM.uniq hvx hv'⟩
  ·have hg:=gC hy hg;exact .inr ⟨hy,⟨d,hg⟩,X.varBack hg (fun u=>hvy y u hy) hv'⟩
 refine X.upd (S:=fun b=>b=p) (fun b h=>h▸p2) kept hns hcells (fun _ h=>h) (fun _ h _=>h) (fun b _ h=>?_) X.bas (fun b h=>(X.fresh b h).1) (fun _ _ h=>rN h) (fun y w' hl h=>?_) (fun y a h=>?_) fun y z a h1 h2=>?_
 ·subst h;rcases hp with rfl | ⟨y,h⟩
  ·obtain⟨m,o,es,ep,e,_⟩:=hns;exact⟨o,e⟩
  ·obtain⟨v,o,e,_⟩:=hcells y b h;exact⟨o,e⟩
 ·have hk:∀ b o,¬ av b→s.heap.get? b=some o→h'.get? b=some o:=fun b o n e=>kept b o (fun h=>n (h▸p1)) e
  by_cases hy:y=x
  ·subst hy;cases kL h;exact⟨u,hvx,hv.mono' hk (fun _ _ _ h=>h) fun d a e1 e2 o e=>kept a o (fun h=>(ho d a e1 e2).2.2.2.1 (h▸hp)) e⟩
  ·have h:=gC hy h;obtain⟨u',h1,h2⟩:=X.inv.get y w' hl h;exact⟨u',hvy y u' hy h1,h2.mono' hk (fun _ _ _ h=>h) fun d a e1 e2 o e=>kept a o (fun h'=>(X.ownA y a ⟨⟨d,e1▸h⟩,e2▸h1⟩).2.2.2 (h'▸hp)) e⟩
 ·rcases back y a h with ⟨_,⟨d,e1⟩,e2⟩ | ⟨_,h⟩
  ·obtain⟨q1,q2,q3,q4,_⟩:=ho d a e1 e2;exact⟨q1,q2,q3,q4⟩
  ·exact X.ownA y a h
 ·rcases back y a h1 with ⟨ey,⟨d,e1⟩,e2⟩ | ⟨ny,h1⟩
  ·rcases back z a h2 with ⟨ez,_⟩ | ⟨nz,h2⟩
   ·rw[ey,ez]
   ·exact absurd h2 ((ho d a e1 e2).2.2.2.2 z nz)
  ·rcases back z a h2 with ⟨ez,⟨d,e1⟩,e2⟩ | ⟨nz,h2⟩
   ·exact absurd h1 ((ho d a e1 e2).2.2.2.2 y ny)
   ·exact X.ownI y z a h1 h2
theorem Act.store{A:Around}{E:Value→Shared→Prop}{σ:aA}{av:Addr→Prop}{s:Shared}{x:Str}{v0:Option V}{u:Value}{Q:Unit→Shared→Prop}(X:Act prog w mg mb base l₀ env sc av₀ s₀ σ av s)(hx:aA.get σ x=some v0)
  (fin:∀ (p:Addr) (h':Heap) (tk:Nat),Mn env p→Heap.SameBut p s.heap h'→(∃ m,h'.Ns env.locals m)→(∀ y c,env.cells.lookup y=some c→∃ v,h'.IsCell c v) →
   aM env h' x u→(∀ y w',y≠x→aM env s.heap y w'→aM env h' y w')→Q () { s with heap:=h',toks:=tk }):wpAny (model prog w) A (storeName env x u) Q E s:=by
 obtain⟨hlx,hkx⟩:=X.names x v0 hx;have hp:(env.scope.kind==.class||(env.scope.kind==.module&&env.locals != env.globals))=false:=by rw[X.inv.kind];rfl
 obtain⟨m,hn⟩:=X.ns;rcases hkx with hk | ⟨hk,c,hc⟩
 ·refine wpAny_storeName_local hk hn (fun h' hn' hs'=>?_) hp;refine fin env.locals h' _ (.inl rfl) hs' ⟨_,hn'⟩ (fun y c e=>?_) (.inl ⟨hk,_,hn',by simp⟩) fun y w' hy hv'=>?_
  ·obtain⟨q3,v,o,e1,e2⟩:=X.cells y c e;exact⟨v,o,by rw[hs'.2 c q3];exact e1,e2⟩
  ·rcases hv' with ⟨k',m',hn2,e⟩ | ⟨k',c',e,o,e1,e2⟩
   ·have:m'=m:=hn2.eq_nsMap.trans hn.eq_nsMap.symm;subst this;exact .inl ⟨k',_,hn',by simp[hy,e]⟩
   ·exact .inr ⟨k',c',e,o,by rw[hs'.2 c' (X.cells y c' e).1];exact e1,e2⟩
 ·obtain⟨q3,v1,q4⟩:=X.cells x c hc;refine wpAny_storeName_cell X.inv.kind hk hc q4 fun h' hc' hs'=>?_;have hn':h'.Ns env.locals m:=hn.at' fun o e=>by rw[hs'.2 _ (fun h=>q3 h.symm)];exact e
  refine fin c h' _ (.inr ⟨x,hc⟩) hs' ⟨m,hn'⟩ (fun y c' e=>?_) (.inr ⟨.inl hk,c,hc,hc'⟩) fun y w' hy hv'=>?_
  ·by_cases hcc:c'=c
   ·subst hcc;exact⟨_,hc'⟩
   ·obtain⟨_,v,o,e1,e2⟩:=X.cells y c' e;exact⟨v,o,by rw[hs'.2 c' hcc];exact e1,e2⟩
  ·rcases hv' with ⟨k',m',hn2,e⟩ | ⟨k',c',e,o,e1,e2⟩
   ·have:m'=m:=hn2.eq_nsMap.trans hn.eq_nsMap.symm;subst this;exact .inl ⟨k',_,hn',e⟩
   ·have hcc:c'≠c:=fun h=>hy (X.capart y x c (h▸e) hc);exact .inr ⟨k',c',e,o,by rw[hs'.2 c' hcc];exact e1,e2⟩
theorem Act.put{A:Around}{E:Value→Shared→Prop}{σ:aA}{av:Addr→Prop}{s:Shared}{x:Str}{v0:Option V}{u:Value}{v:V}{Q:Unit→Shared→Prop}(X:Act prog w mg mb base l₀ env sc av₀ s₀ σ av s)(hx:aA.get σ x=some v0)(hv:bQ prog w mg (env::l₀) s.heap av u v)
  (ho:∀ d a,v=.own d→u=.ref a→av a∧s₀.heap.get? a=none∧¬ av₀ a∧¬ Mn env a∧∀ y,y≠x→¬ bH env σ s.heap y a)
  (hq:∀ s',Act prog w mg mb base l₀ env sc av₀ s₀ (aA.set σ x v) av s'→(∀ b o,¬ Mn env b→s.heap.get? b=some o→s'.heap.get? b=some o)→aM env s'.heap x u→(∀ y w',y≠x→aM env s.heap y w'→aM env s'.heap y w')→Q () s'):wpAny (model prog w) A (storeName env x u) Q E s :=
 X.store hx fun p h' tk m hs hns hc hvx hvy=>hq _ (X.put1 hv ho m hs hns hc hvx hvy) (fun b o n e=>by show h'.get? b=_;rw[hs.2 b fun h=>n (h▸m)];exact e) hvx hvy
theorem bG.live{h:Heap}{av:Addr→Prop}{a:Addr}{d:PyData}(r:bG prog w h av a d):∃ o,h.get? a=some o:=by
 cases d with
 |list ds=>obtain⟨vs,⟨n,e⟩,_⟩:=r;exact⟨_,e⟩
 |dict ds=>obtain⟨kvs,⟨o,es,ep,e,_⟩,_⟩:=r;exact⟨_,e⟩
 |_=>exact r.elim
theorem Act.mut{σ:aA}{av:Addr→Prop}{s:Shared}{x:Str}{d d':PyData}{a:Addr}{h':Heap}{tk:Nat}(X:Act prog w mg mb base l₀ env sc av₀ s₀ σ av s)(hx:aA.get σ x=some (some (.own d)))(hv:aM env s.heap x (.ref a))
  (hs:Heap.SameBut a s.heap h') (hb:bG prog w h' av a d'):Act prog w mg mb base l₀ env sc av₀ s₀ (aA.set σ x (.own d')) av { s with heap:=h',toks:=tk }:=by
 have hox:bH env σ s.heap x a:=⟨⟨d,hx⟩,hv⟩
 obtain⟨q1,q2,q3,q4⟩:=X.ownA x a hox;have kept:∀ b o,¬ b=a→s.heap.get? b=some o→h'.get? b=some o:=fun b o hb e=>by rw[hs.2 b hb];exact e
 have nM:∀ b,Mn env b→¬ b=a:=fun b m h=>q4 (h▸m);have hvar:∀ y u,aM env s.heap y u→aM env h' y u:=fun y u h=>h.kept fun b o m e=>kept b o (nM b m) e;have back:∀ y b,bH env (aA.set σ x (.own d')) h' y b→bH env σ s.heap y b:=fun y b ⟨⟨e,hg⟩,h⟩=>by
  by_cases hy:y=x
  ·subst hy;exact X.ownBack (hvar y) ⟨⟨d,hx⟩,h⟩
  ·exact X.ownBack (hvar y) ⟨⟨e,gC hy hg⟩,h⟩
 refine X.upd (S:=fun b=>b=a) (fun b h=>h▸q2) kept (by obtain⟨m,hn⟩:=X.ns;exact⟨m,hn.at' fun o e=>kept _ o (nM _ (.inl rfl)) e⟩) (fun y c e=>by obtain⟨_,v,o,e1,e2⟩:=X.cells y c e;exact⟨v,o,kept c o (nM c (.inr ⟨y,e⟩)) e1,e2⟩) (fun _ h=>h) (fun _ h _=>h) (fun b _ h=>h▸hb.live) X.bas
  (fun b h=>(X.fresh b h).1) (fun _ _ h=>rN h) (fun y w' hl h=>?_) (fun y b h=>X.ownA y b (back y b h)) fun y z b h1 h2=>X.ownI y z b (back y b h1) (back z b h2)
 by_cases hy:y=x
 ·subst hy;cases kL h;obtain⟨u,h1,a',e,f,_⟩:=X.inv.get y _ hl hx;cases e;cases aM.uniq h1 hv;exact⟨.ref a,hvar _ _ hv,a,rfl,f,hb⟩
 ·have h:=gC hy h;obtain⟨u',h1,h2⟩:=X.inv.get y w' hl h;exact⟨u',hvar _ _ h1,h2.mono' (fun b o n e=>kept b o (fun h=>n (h▸q1)) e) (fun _ _ _ h=>h) fun e b e1 e2 o eo=>kept b o (fun hba=>hy (X.ownI y x a ⟨⟨e,e1▸h⟩,hba▸e2▸h1⟩ hox)) eo⟩
end
end Mine
namespace Mine
open PySem
section
variable {prog:Program} {w:World} {mg mb:Str→Option Value} {base:Heap} {n:Nat} {hd:Bool} {l₀:List Env} {env:Env} {sc:Scope} {av₀:Addr→Prop} {s₀:Shared} {σ:aA} {av:Addr→Prop} {s:Shared}
structure Fr(l:List Env)(av₀:Addr→Prop)(s:Shared)(av:Addr→Prop)(s':Shared)(av':Addr→Prop):Prop where
 keep:∀ b o,s.heap.get? b=some o→¬ av b→s'.heap.get? b=some o
 grow:∀ b o,s.heap.get? b=some o→av' b→av b
 pins:∀ b o,av₀ b→¬ frs l b→s.heap.get? b=some o→s'.heap.get? b=some o
theorem Fr.tr{l:List Env}{s s' s'':Shared}{av av' av'':Addr→Prop}(x:Fr l av₀ s av s' av')(y:Fr l av₀ s' av' s'' av''):Fr l av₀ s av s'' av'' where
 keep:=fun b o e hb=>y.keep b o (x.keep b o e hb) fun h=>hb (x.grow b o e h)
 grow:=fun b o e h=>Classical.byContradiction fun hb=>hb (x.grow b o e (y.grow b o (x.keep b o e hb) h))
 pins:=fun b o hb n e=>y.pins b o hb n (x.pins b o hb n e)
theorem Fr.rf(l:List Env)(s:Shared)(av:Addr→Prop):Fr l av₀ s av s av:=⟨fun _ _ e _=>e,fun _ _ _ h=>h,fun _ _ _ _ e=>e⟩
theorem Fr.sub{l:List Env}{s:Shared}{av av1:Addr→Prop}(h:∀ b,av1 b→av b):Fr l av₀ s av s av1:=⟨fun _ _ e _=>e,fun b _ _ x=>h b x,fun _ _ _ _ e=>e⟩
theorem Fr.weaken{l:List Env}{av₁:Addr→Prop}{s s':Shared}{av av':Addr→Prop}(h:∀ b,av₀ b→av₁ b)(x:Fr l av₁ s av s' av'):Fr l av₀ s av s' av':=⟨x.keep,x.grow,fun b o hb n e=>x.pins b o (h b hb) n e⟩
theorem Fr.ofK{l:List Env}{s s':Shared}{av:Addr→Prop}(fav:∀ b,frs l b→av b)(k:K l s s'):Fr l av₀ s av s' av:=⟨fun b o e n=>k.at (fun f=>n (fav b f)) e,fun _ _ _ h=>h,fun b o _ n e=>k.at n e⟩
theorem Act.frk(X:Act prog w mg mb base l₀ env sc av₀ s₀ σ av s){s':Shared}(k:K (env::l₀) s s'):Fr (env::l₀) av₀ s av s' av:=Fr.ofK X.inv.gnd.fav k
theorem Act.frPut(X:Act prog w mg mb base l₀ env sc av₀ s₀ σ av s){s':Shared}(f:∀ b o,¬ Mn env b→s.heap.get? b=some o→s'.heap.get? b=some o):Fr (env::l₀) av₀ s av s' av :=
 ⟨fun b o e n=>f b o (fun m=>n (X.fresh b m).1) e,fun _ _ _ h=>h,fun b o hb _ e=>f b o (fun m=>(X.fresh b m).2.2 hb) e⟩
theorem Act.frMut(X:Act prog w mg mb base l₀ env sc av₀ s₀ σ av s){s':Shared}{x:Str}{d:PyData}{a:Addr}(hx:aA.get σ x=some (some (.own d)))(hv:aM env s.heap x (.ref a))(hs:Heap.SameBut a s.heap s'.heap):Fr (env::l₀) av₀ s av s' av :=
 have hk:∀ b o,b≠a→s.heap.get? b=some o→s'.heap.get? b=some o:=fun b o hb e=>by rw[hs.2 b hb];exact e
 have q:=X.ownA x a ⟨⟨d,hx⟩,hv⟩
 ⟨fun b o e hb=>hk b o (fun h=>hb (h▸q.1)) e,fun _ _ _ h=>h,fun b o hb _ e=>hk b o (fun h=>q.2.2.1 (h▸hb)) e⟩
noncomputable def Mk(h:Heap)(e:Addr):Prop:=∃ oe vs,h.get? e=some oe∧oe.data=.fields vs∧vs[1]?=some .none
inductive Upx(prog:Program)(w:World)(mg:Str→Option Value)(base:Heap)(l₀:List Env)(env:Env)(s₀:Shared)(av₀:Addr→Prop)(x:X)(v:Value)(s':Shared):Prop where
 |mk (k:K l₀ s₀ s') (ff:s'.heap.FunFrames base (env::l₀)) (st:∀ b o,base.get? b=some o→s'.heap.get? b=some o) (e:Addr) (a:v=.ref e) (n:s₀.heap.get? e=none) (xa:ExAt prog w mg s'.heap (fun b=>av₀ b∨frs (env::l₀) b) e x) (t:Tb s₀ s'.heap e .none∨Mk s'.heap e):Upx prog w mg base l₀ env s₀ av₀ x v s'
theorem Upx.weaken{av₁:Addr→Prop}{x:X}{v:Value}{s':Shared}(h:∀ b,av₀ b→av₁ b)(u:Upx prog w mg base l₀ env s₀ av₁ x v s'):Upx prog w mg base l₀ env s₀ av₀ x v s' :=
 by obtain⟨h1,h2,h3,e,h4,h5,h6,h7⟩:=u;exact⟨h1,h2,h3,e,h4,h5,h6.mono (fun _ _ _ e=>e) fun b _ _ x=>x.imp (h b) id,h7⟩
theorem Act.up(X:Act prog w mg mb base l₀ env sc av₀ s₀ σ av s){x:Mine.X}{v:Value}{s':Shared}(f:Fly prog w mg (env::l₀) s av x v s'):Upx prog w mg base l₀ env s₀ av₀ x v s':=by
 obtain⟨k,e,h1,h2,h3,oe,vs,T,oT,ts,g1,g2,g3,g4,g5,g6,g7,g8⟩:=f;have Y:=X.k k;exact⟨Y.k0,Y.inv.gnd.ff,Y.inv.gnd.stay,e,h1,X.k0.non h2,h3.mono (fun _ _ _ e=>e) fun b _ _ x=>x.elim (X.bas b) (X.inv.gnd.fav b),.inl ⟨oe,vs,T,oT,ts,g1,g2,g3,X.k0.non g4,g5,g6,g7,g8⟩⟩
variable (prog w mg mb base) in
noncomputable def aQ(n:Nat)(hd:Bool)(l₀:List Env)(env:Env)(sc:Scope)(s₀:Shared)(σ:aA)(t:Sem Flow)(r:KN→KR→R V):Prop :=
 ∀ (av₀:Addr→Prop) (A:Around) (s:Shared) (av:Addr→Prop),Room n hd (env::l₀) A→Act prog w mg mb base l₀ env sc av₀ s₀ σ av s →
  ∀ {kn:KN} {kr:KR} {fin:R V} {Q:Flow→Shared→Prop} {E:Value→Shared→Prop},r kn kr=fin→fin≠.no→PassesOwn (model prog w) A env E →
  (∀ s' σ' av',Act prog w mg mb base l₀ env sc av₀ s₀ σ' av' s'→Fr (env::l₀) av₀ s av s' av'→kn σ'=fin→Q .next s') →
  (∀ v s' u,K l₀ s₀ s'→aY prog w s₀ s'.heap av₀ v u→kr u=fin→Q (.ret v) s') →
  (∀ x v s',fin=.exc x→Upx prog w mg base l₀ env s₀ av₀ x v s'→E v s')→wpAny (model prog w) A t Q E s
theorem aQ.no{t:Sem Flow}:aQ prog w mg mb base n hd l₀ env sc s₀ σ t fun _ _=>.no:=fun _ _ _ _ _ _ _ _ _ _ _ hf hne _=>absurd hf.symm hne
theorem kM{rec:Stmt→aA→KN→KR→R V}:∀ {b:List Stmt} {σ:aA},(∀ st∈b,∀ σ,aQ prog w mg mb base n hd l₀ env sc s₀ σ (exec st env) (rec st σ))→aQ prog w mg mb base n hd l₀ env sc s₀ σ (execs b env) (blk rec b σ)
 | [],σ,_=>fun av₀ A s av hA X _ _ _ _ _ hf hne hp hn hr he=>wpAny_execs_nil (hn s σ av X (Fr.rf _ s av) hf)
 |st::r,σ,h=>fun av₀ A s av hA X kn kr fin Q E hf hne hp hn hr he=>by
  refine wpAny_execs_cons (h st List.mem_cons_self σ av₀ A s av hA X hf hne hp (fun s' σ' av' Y fr e=>?_) (fun v s' u k r e=>hr v s' u k r e) he);exact kM (b:=r) (fun st hst=>h st (List.mem_cons_of_mem _ hst)) av₀ A s' av' hA Y e hne hp (fun s'' σ'' av'' Z fr' e'=>hn s'' σ'' av'' Z (fr.tr fr') e') hr he
theorem aY.out(X:Act prog w mg mb base l₀ env sc av₀ s₀ σ av s){h:Heap}{v:Value}{u:V}(r:aY prog w s h av v u):aY prog w s₀ h av₀ v u:=by
 have r':=r.back X.k0;cases u with
 |ex x=>exact r
 |fz d=>exact(show Rep prog w h av v d from r).mono (fun _ _ _ e=>e) fun b _ _ x=>X.bas b x
 |dp d=>exact r'
 |own d =>
  obtain⟨a,e,hn,rb⟩:=r';exact⟨a,e,hn,rb.mono (fun _ _ _ e=>e) (fun b _ _ x=>x.imp (X.bas b) id) fun _ e=>e⟩
theorem aF.st{e:Expr}{r:R V}(h:aF prog w mg mb base n hd (env::l₀) sc σ e r){A:Around}(hA:Room n hd (env::l₀) A)(X:Act prog w mg mb base l₀ env sc av₀ s₀ σ av s){k:V→R V}{fin:R V}{Q:Value→Shared→Prop}{E:Value→Shared→Prop}(hf:rb r k=fin)(hne:fin≠.no)
  (hq:∀ v s' u,K (env::l₀) s s'→aY prog w s s'.heap av v u→k u=fin→Q v s') (he:∀ x v s',fin=.exc x→Upx prog w mg base l₀ env s₀ av₀ x v s'→E v s'):wpAny (model prog w) A (eval e env) Q E s :=
 h A env s av hA X.inv ⟨hf,hne⟩ hq fun x v s' e f=>he x v s' e (X.up f)
theorem zX{e:Expr}{pos:Pos}{xs:List Str}{p:R V}(h:aF prog w mg mb base n hd (env::l₀) sc (aA.clear σ xs) e p):aQ prog w mg mb base n hd l₀ env sc s₀ σ (exec (.Return (some e) pos) env) fun _ kr=>rb p kr:=by
 intro av₀ A s av hA X kn kr fin Q E hf hne hp hn hr he;obtain⟨av1,Y,_⟩:=X.clear xs;exact wpAny_Return_some (h.st hA Y hf hne (fun v s' u k r e=>hr v s' u (Y.k k).k0 (r.out Y) e) he)
theorem zY:∀ σ:aA,aA.clear σ []=σ
 | []=>rfl
 | (_,_)::r=>congrArg _ (zY r)
theorem Mb{ev:EV}{F:Nat}{e:Expr}{pos:Pos}(h:∀ σ,aF prog w mg mb base n hd (env::l₀) sc σ e (ev σ e)):aQ prog w mg mb base n hd l₀ env sc s₀ σ (exec (.Return (some e) pos) env) fun _ kr=>pY ev F sc σ e kr:=by
 unfold pY;refine ocs (bD e) (fun hx=>?_) fun x hx=>?_
 ·try rewrite[hx]
  exact zX (h _)
 ·try rewrite[hx]
  obtain⟨p,rfl⟩:=dE hx;show aQ prog w mg mb base n hd l₀ env sc s₀ σ _ fun _ kr=>match gS sc σ x with
   |some d=>kr (.own d)
   |none=>rb (ev σ (.Name x p)) kr
  refine ocs (gS sc σ x) (fun ho=>?_) fun d ho=>?_
  ·try rewrite[ho]
   exact zX (xs:=[]) (p:=ev σ (.Name x p)) ((zY σ).symm▸h σ)
  ·try rewrite[ho]
   intro av₀ A s av hA X kn kr fin Q E hf hne hp hn hr he;obtain⟨hl,hg⟩:=yH ho;obtain⟨u,h1,a,rfl,_,h2⟩:=X.inv.get x _ hl hg;obtain⟨q1,q2,_⟩:=X.ownA x a ⟨⟨d,hg⟩,h1⟩;exact wpAny_Return_some (cC X.inv hl h1 (hr _ _ (.own d) X.k0 ⟨a,rfl,q2,h2.mono (fun _ _ _ e=>e) (fun b _ _ h=>h.elim (X.bas b) fun h=>h▸q1) fun _ e=>e⟩ hf))
theorem hU{x:Str}{u:V}{σ σ':aA}(h:dL x u σ=.ok σ'):∃ v0,aA.get σ x=some v0∧σ'=aA.set σ x u:=by
 unfold dL at h;refine ocs (aA.get σ x) (fun hg=>?_) fun v0 hg=>?_
 ·try rewrite[hg]
  rw[hg] at h;exact pno h
 ·try rewrite[hg]
  rw[hg] at h;obtain rfl:=pi h;exact⟨v0,rfl,rfl⟩
theorem cU{α:Type}{p:P α}{k:α→R V}{fin:R V}(h:rb (ofP p) k=fin)(hne:fin≠.no):∃ a,p=.ok a∧k a=fin:=Fin.p ⟨h,hne⟩
theorem Act.bindVal{A:Around}{E:Value→Shared→Prop}{s₁:Shared}{x:Str}{v0:Option V}{v:Value}{u:V}{Q:Unit→Shared→Prop}(X:Act prog w mg mb base l₀ env sc av₀ s₀ σ av s)(k:K (env::l₀) s s₁)(r:aY prog w s s₁.heap av v u)
  (hx:aA.get σ x=some v0) (hq:∀ s' av',Act prog w mg mb base l₀ env sc av₀ s₀ (aA.set σ x u) av' s'→Fr (env::l₀) av₀ s av s' av'→Q () s'):wpAny (model prog w) A (storeName env x v) Q E s₁:=by
 cases u with
 |ex x=>exact r.elim
 |fz d=>exact(X.k k).put hx (show bQ prog w mg (env::l₀) s₁.heap av v (.fz d) from r) (fun _ _ e=>by cases e) fun s' Y f _ _=>hq s' av Y ((X.frk k).tr ((X.k k).frPut f))
 |dp d=>exact(X.k k).put hx (show bQ prog w mg (env::l₀) s₁.heap av v (.dp d) from DpN.rep X.inv.gnd.avlt r) (fun _ _ e=>by cases e) fun s' Y f _ _=>hq s' av Y ((X.frk k).tr ((X.k k).frPut f))
 |own d =>
  obtain⟨a,rfl,hn,rb⟩:=r;have Y:=X.growS (S:=fun b=>b=a) k (fun b h=>h▸hn) fun b h=>h▸rb.live;obtain⟨n1,n2,n3,n4,n5⟩:=X.newNot hn;have g:Fr (env::l₀) av₀ s av s₁ (fun b=>av b∨b=a):=⟨(X.frk k).keep,fun b o e h=>h.elim id (fun h=>by simp only[h,hn] at e;cases e),(X.frk k).pins⟩
  refine Y.put hx (show bQ prog w mg (env::l₀) s₁.heap _ (.ref a) (.own d) from ⟨a,rfl,n5,rb⟩) (fun d' a' e1 e2=>?_) fun s' Z f _ _=>hq s' _ Z (g.tr (Y.frPut f));cases e2;exact⟨.inr rfl,n4,n3,n1,fun y _ h=>n2 (X.ownA y a (X.ownBack (fun u h=>h.k k) h)).1⟩
theorem Mc{e:Expr}{x:Str}{p pos:Pos}{xs:List Str}{q:R V}(hs:swapsWith e (some (.Name x p)) pos.line env=pure false)(h:aF prog w mg mb base n hd (env::l₀) sc (aA.clear σ xs) e q) :
  aQ prog w mg mb base n hd l₀ env sc s₀ σ (exec (.Assign [.Name x p] e pos) env) fun kn _=>rb q fun v=>rb (ofP (dL x v (aA.clear σ xs))) kn:=by
 intro av₀ A s av hA X kn kr fin Q E hf hne hp hn hr he;obtain⟨av1,Y,hsub⟩:=X.clear xs;refine wpAny_Assign_Name (h.st hA Y hf hne (fun v s' u k r e=>?_) he) hs;obtain⟨σ',hσ,e⟩:=cU e hne;obtain⟨v0,hg,rfl⟩:=hU hσ;exact Y.bindVal k r hg fun s'' av' Z fr=>hn _ _ _ Z ((Fr.sub hsub).tr fr) e
theorem Md{t:Expr}{b o:List Stmt}{pos:Pos}{xs:List Str}{q:R V}{kb ko:KN→KR→R V}(h:bN prog w mg mb base n hd (env::l₀) sc (aA.clear σ xs) t q)
  (hb:aQ prog w mg mb base n hd l₀ env sc s₀ (aA.clear σ xs) (execs b env) kb) (ho:aQ prog w mg mb base n hd l₀ env sc s₀ (aA.clear σ xs) (execs o env) ko) :
  aQ prog w mg mb base n hd l₀ env sc s₀ σ (exec (.If t b o pos) env) fun kn kr=>rb (tst q) fun c=>if c then kb kn kr else ko kn kr:=by
 intro av₀ A s av hA X kn kr fin Q E hf hne hp hn hr he;obtain⟨av1,Y,hsub⟩:=X.clear xs;refine wpAny_If (h A env s av1 hA Y.inv ⟨hf,hne⟩ (fun c s' k e=>?_) fun x v s' e f=>he x v s' e (Y.up f));have fr:Fr (env::l₀) av₀ s av s' av1:=(Fr.sub hsub).tr (Y.frk k);cases c with
 |true=>exact hb av₀ A s' av1 hA (Y.k k) e hne hp (fun s'' σ' av' Z f e'=>hn s'' σ' av' Z (fr.tr f) e') hr he
 |false=>exact ho av₀ A s' av1 hA (Y.k k) e hne hp (fun s'' σ' av' Z f e'=>hn s'' σ' av' Z (fr.tr f) e') hr he
theorem Me{e:Expr}{pos:Pos}{xs:List Str}{q:R V}(hc:iN e=false)(h:aF prog w mg mb base n hd (env::l₀) sc (aA.clear σ xs) e q) :
  aQ prog w mg mb base n hd l₀ env sc s₀ σ (exec (.Expr e pos) env) fun kn _=>rb q fun _=>kn (aA.clear σ xs):=by
 intro av₀ A s av hA X kn kr fin Q E hf hne hp hn hr he;obtain⟨av1,Y,hsub⟩:=X.clear xs;have hsw:swapsWith e none pos.line env=pure false:=by
  unfold swapsWith;cases e<;>first | rfl | cases hc
 exact wpAny_Expr_any (h.st hA Y hf hne (fun v s' u k r e=>hn _ _ _ (Y.k k) ((Fr.sub hsub).tr (Y.frk k)) e) he) (by unfold interactive;rw[X.inv.kind];rfl) hsw
end
end Mine
namespace Mine
open PySem
section
variable {prog:Program} {w:World} {mg mb:Str→Option Value} {base:Heap} {n:Nat} {hd:Bool} {l₀:List Env} {env:Env} {sc:Scope} {av₀:Addr→Prop} {s₀:Shared} {σ:aA} {av:Addr→Prop} {s:Shared}
theorem rO{x:Str}{d:PyData}(h:fZ σ x=.ok d):aA.get σ x=some (some (.own d)):=by
 unfold fZ at h;refine ocs (aA.get σ x) (fun hg=>?_) fun o hg=>?_
 ·try rewrite[hg]
  rw[hg] at h;exact pno h
 ·try rewrite[hg]
  rw[hg] at h;cases o with
  |none=>exact pno h
  |some v =>
   cases v with
   |own d'=>obtain rfl:=pi h;rfl
   |_=>exact pno h
theorem Mf{y:Str}{v:Value}{r:List (Str×Value)}{k:Str}(hn:(((y,v)::r).map (·.1)).Nodup):without ((y,v)::r) k=if k=y then r else (y,v)::without r k:=by
 by_cases h:k=y
 ·subst h;rw[if_pos rfl];have hnot:k∉r.map (·.1):=(List.nodup_cons.mp (show(k::r.map (·.1)).Nodup from hn)).1;have:without ((k,v)::r) k=without r k:=by
   unfold without;simp
  rw[this,without_of_not_mem r k hnot]
 ·rw[if_neg h];unfold without;have:(decide ((y,v).1≠k))=true:=by simp;exact fun e=>h e.symm
  rw[List.filter_cons,if_pos this]
theorem KV.del{h:Heap}{av:Addr→Prop}{k:Str}:∀ {kvs:List (Str×Value)} {ds:List (PyData×PyData)},(kvs.map (·.1)).Nodup→KV prog w h av kvs ds→KV prog w h av (without kvs k) (eO ds k)
 | [],[],_,_=>trivial
 | (y,v0)::r,(dk,d0)::t,hn,x=>by
  obtain⟨x1,x2,x3⟩:=x;have x1:dk=.str y:=x1;subst x1;rw[Mf hn];show KV prog w h av _ (if k=y then t else (.str y,d0)::eO t k)
  split
  ·exact x3
  ·exact⟨rfl,x2,KV.del (List.nodup_cons.mp (show(y::r.map (·.1)).Nodup from hn)).2 x3⟩
 | [],_::_,_,x=>x.elim
 |_::_,[],_,x=>x.elim
theorem KV.ps{h:Heap}{av:Addr→Prop}:∀ {kvs:List (Str×Value)} {ds:List (PyData×PyData)} {ps:List (Str×PyData)},KV prog w h av kvs ds→(∀ kv∈kvs,kv.1.length≤sizeLine)→keys? ds=some ps→PS prog w h av kvs ps
 | [],[],_,_,_,e=>by obtain rfl:=si e;trivial
 | (y,v)::r,(dk,d)::t,ps,x,hz,e=>by
  obtain⟨x1,x2,x3⟩:=x;have x1:dk=.str y:=x1;subst x1;have e:(keys? t).map ((y,d)::·)=some ps:=e;obtain⟨ps',e1,rfl⟩:=Option.map_eq_some_iff.mp e;exact⟨rfl,hz _ List.mem_cons_self,x2,KV.ps x3 (fun kv h=>hz kv (List.mem_cons_of_mem _ h)) e1⟩
 | [],_::_,_,x,_,_=>x.elim
 |_::_,[],_,x,_,_=>x.elim
theorem i9{h:Heap}{a:Addr}{kvs:List (Str×Value)}(x:h.DictOf (strKind prog w) a kvs):(kvs.map (·.1)).Nodup:=by
 obtain⟨o,es,ep,_,_,_,_,_,hn⟩:=x;exact hn
theorem fJ{h h':Heap}{a:Addr}(ha:av a)(hs:Heap.SameBut a h h')(b:Addr)(o:Obj)(hb:¬ av b)(e:h.get? b=some o):h'.get? b=some o:=by rw[hs.2 b (fun h=>hb (h▸ha))];exact e
theorem rQ{h':Heap}{a:Addr}{kvs:List (Str×Value)}{ds:List (PyData×PyData)}(hd:h'.DictOf (strKind prog w) a kvs)(hz:kvs.length≤sizeLine∧∀ kv∈kvs,kv.1.length≤sizeLine)(hm:(a==sysModules)=false)(x:KV prog w h' av kvs ds):bG prog w h' av a (.dict ds) :=
 by obtain⟨g1,g2⟩:=x.out;exact⟨kvs,hd,hz,hm,g1,g2⟩
theorem Mg{A:Around}{a:Addr}{v:Value}{l:List (PyData×PyData)}{k:Str}{d:PyData}{Q:Value→Shared→Prop}{E:Value→Shared→Prop}(ha:av a)(hb:bG prog w s.heap av a (.dict l))(r:Rep prog w s.heap av v (.str k))(hg:bM l k=some d)
  (hq:∀ u h' tk,Heap.SameBut a s.heap h'→Rep prog w h' av u d→bG prog w h' av a (.dict (eO l k))→Q u { s with heap:=h',toks:=tk }):wpAny (model prog w) A (call (.builtin "dict.pop") [.ref a,v]) Q E s:=by
 obtain⟨kvs,h2,h3,h4,h5,h6⟩:=hb;obtain⟨t,rfl,hkl⟩:=r.str_inv;rcases mY k h5 with ⟨_,hno⟩ | ⟨i,u,d',hu,hd',e1,e2⟩
 ·rw[hno] at hg;exact ns hg
 ·rw[hd'] at hg;obtain rfl:=si hg;refine call_meetsIn F.slot_dict_pop h2.typeIs F.entry_dict_pop (F.args_dict_pop_2 _ _) (meets_dict_pop_there (strKind prog w) a (dM k t) [] (.inl rfl) rfl) ⟨kvs,u,h2,h3.1,hu,fun h' hdo hs=>?_⟩;refine hq u h' _ hs ((h6 i _ _ e1 e2).mono (fJ ha hs) fun _ _ _ x=>x) (rQ hdo ⟨Nat.le_trans (List.length_filter_le _ _) h3.1,fun kv hkv=>h3.2 kv (List.mem_filter.mp hkv).1⟩ h4 ((KV.del (k:=k) (i9 h2) (KV.of h5 h6)).mono (fJ ha hs) fun _ _ _ x=>x))
theorem zZ{A:Around}{a:Addr}{v:Value}{l:List PyData}{d:PyData}{Q:Value→Shared→Prop}{E:Value→Shared→Prop}(ha:av a)(hb:bG prog w s.heap av a (.list l))(rv:Rep prog w s.heap av v d)(hl:l.length < aX)
  (hq:∀ h',Heap.SameBut a s.heap h'→bG prog w h' av a (.list (l++[d]))→Q .none { s with heap:=h' }):wpAny (model prog w) A (call (.builtin "list.append") [.ref a,v]) Q E s:=by
 obtain⟨xs,hp,hxl,hxz,hxr⟩:=hb;refine wpAny_list_append_plain hp (fun h' hp' hs=>hq h' hs ⟨xs++[v],by simpa using hp',by simp[hxl],?_,zQ hxl (fun i u du e1 e2=>(hxr i u du e1 e2).mono (fJ ha hs) fun _ _ _ x=>x) (rv.mono (fJ ha hs) fun _ _ _ x=>x)⟩) (by simp;exact hxz);have:aX=sizeLine:=rfl;rw[List.length_append,hxl];exact this▸hl
theorem Mh{A:Around}{a:Addr}{v:Value}{l m:List (PyData×PyData)}{ps:List (Str×PyData)}{Q:Value→Shared→Prop}{E:Value→Shared→Prop}(ha:av a)(hb:bG prog w s.heap av a (.dict l))(rv:Rep prog w s.heap av v (.dict m))(hk:keys? m=some ps)(hl:l.length+ps.length < 4096)
  (hq:∀ h',Heap.SameBut a s.heap h'→bG prog w h' av a (.dict (cK ps l))→Q .none { s with heap:=h' }):wpAny (model prog w) A (call (.builtin "dict.update") [.ref a,v]) Q E s:=by
 obtain⟨kvs,h2,h3,h4,h5,h6⟩:=hb;obtain⟨o,mvs,rfl,g1,g2,g3,g4,g5,g6⟩:=rv.dict_inv;have ps':=KV.ps (KV.of g5 g6) g3.2 hk;have e1:kvs.length=l.length:=by have:=congrArg List.length h5;simpa using this.symm
 have e2:mvs.length=ps.length:=ps'.length;have hsz:kvs.length+mvs.length≤sizeLine:=by
  have:sizeLine=16777216:=rfl;exact Eu hl e1 e2 this
 refine call_meetsIn F.slot_dict_update h2.typeIs F.entry_dict_update (F.args_dict_update_2 _ _) (meets_dict_update (strKind prog w) a o (fun e=>g1 (e▸ha)) g4) ⟨kvs,mvs,h2,g2,hsz,fun h' hdo _ hs=>hq h' hs ?_⟩;obtain⟨q1,q2⟩:=KV.sets ps' (i9 h2) (KV.of h5 h6) h3.2;exact rQ hdo ⟨Nat.le_trans (merged_length_le kvs mvs) hsz,q2⟩ h4 (q1.mono (fJ ha hs) fun _ _ _ x=>x)
inductive MutThere(prog:Program)(w:World)(m:Str)(od:PyData):Prop where
 |mk (T id) (a:PlainAttrs T) (b:Slot T m id) (c:typeOf (.builtin id)=pure (.type "method_descriptor")) (d:∀ (s:Shared) (av:Addr→Prop) (a:Addr),bG prog w s.heap av a od→s.TypeIs (.ref a) T∧∃ ob,s.heap.get? a=some ob∧ob.dict=none)
  (e:∀ (A:Around) (s:Shared) (av:Addr→Prop) (a:Addr) (vs:List Value) (ds:List PyData) (od':PyData) (Q:Value→Shared→Prop) (E:Value→Shared→Prop),av a→bG prog w s.heap av a od→RL prog w s.heap av vs ds→gV m od ds=.ok od' →
   (∀ v h' tk,Heap.SameBut a s.heap h'→bG prog w h' av a od'→Q v { s with heap:=h',toks:=tk })→wpAny (model prog w) A (call (.builtin id) (.ref a::vs)) Q E s):MutThere prog w m od
theorem z7{l:List (PyData×PyData)}{s:Shared}{av:Addr→Prop}{a:Addr}(hb:bG prog w s.heap av a (.dict l)):s.TypeIs (.ref a) "dict" ∧ ∃ ob,s.heap.get? a=some ob∧ob.dict=none:=by
 obtain⟨kvs,h2,_⟩:=hb;refine⟨h2.typeIs,?_⟩;obtain⟨ob,es,ep,e,c,_⟩:=h2;exact⟨ob,e,c.2.1⟩
theorem rR{m:Str}{od:PyData}{ds:List PyData}{od':PyData}(h:gV m od ds=.ok od'):∃ d,ds=[d]:=by
 cases ds with
 |nil=>exact pno h
 |cons d r =>
  cases r with
  |nil=>exact⟨d,rfl⟩
  |cons=>exact pno h
theorem Mi{m:Str}{od:PyData}(hm:mE m od=true):MutThere prog w m od:=by
 cases od with
 |list l =>
  obtain rfl:m = "append" := of_decide_eq_true hm;refine⟨"list", "list.append", F.plainAttrs_list,F.slot_list_append,by kernel_rfl,fun s av a hb=>?_,fun A s av a vs ds od' Q E ha hb r hmu hq=>?_⟩
  ·obtain⟨vs,⟨n,e⟩,_⟩:=hb;exact⟨⟨_,e,rfl⟩,_,e,rfl⟩
  ·obtain⟨d,rfl⟩:=rR hmu;obtain⟨v,vs,rfl,rv,r⟩:=r.cons;obtain rfl:=r.nil;replace hmu:(if l.length < aX then P.ok (.list (l++[d])) else .no)=.ok od':=hmu
   by_cases hc:l.length < aX
   ·rw[if_pos hc] at hmu;obtain rfl:=pi hmu;exact zZ ha hb rv hc fun h' hs hb'=>hq _ h' _ hs hb'
   ·rw[if_neg hc] at hmu;exact pno hmu
 |dict l =>
  rcases Bool.or_eq_true_iff.mp hm with hm | hm
  ·obtain rfl:m = "pop" := of_decide_eq_true hm;refine⟨"dict", "dict.pop", F.plainAttrs_dict,F.slot_dict_pop,by kernel_rfl,fun s av a hb=>z7 hb,fun A s av a vs ds od' Q E ha hb r hmu hq=>?_⟩;obtain⟨d,rfl⟩:=rR hmu;obtain⟨v,vs,rfl,rv,r⟩:=r.cons;obtain rfl:=r.nil;replace hmu:wS l d=.ok od':=hmu;cases d with
   |str k =>
    replace hmu:(if (bM l k).isSome then P.ok (.dict (eO l k)) else .no)=.ok od':=hmu;refine ocs (bM l k) (fun hg=>?_) fun d hg=>?_
    ·try rewrite[hg]
     rw[hg] at hmu;exact pno hmu
    ·try rewrite[hg]
     rw[hg] at hmu;obtain rfl:=pi hmu;exact Mg ha hb rv hg fun u h' tk hs _ hb'=>hq u h' tk hs hb'
   |_=>exact pno hmu
  ·obtain rfl:m = "update" := of_decide_eq_true hm;refine⟨"dict", "dict.update", F.plainAttrs_dict,F.slot_dict_update,by kernel_rfl,fun s av a hb=>z7 hb,fun A s av a vs ds od' Q E ha hb r hmu hq=>?_⟩;obtain⟨d,rfl⟩:=rR hmu;obtain⟨v,vs,rfl,rv,r⟩:=r.cons;obtain rfl:=r.nil;replace hmu:wT l d=.ok od':=hmu;cases d with
   |dict m =>
    replace hmu:((ofO (keys? m)).bind fun m=>if l.length+m.length < 4096 then P.ok (.dict (cK m l)) else .no)=.ok od':=hmu;refine ocs (keys? m) (fun hk=>?_) fun ps hk=>?_
    ·try rewrite[hk]
     rw[hk] at hmu;exact pno hmu
    ·try rewrite[hk]
     rw[hk] at hmu;replace hmu:(if l.length+ps.length < 4096 then P.ok (.dict (cK ps l)) else .no)=.ok od':=hmu
     by_cases hc:l.length+ps.length < 4096
     ·rw[if_pos hc] at hmu;obtain rfl:=pi hmu;exact Mh ha hb rv hk hc fun h' hs hb'=>hq _ h' _ hs hb'
     ·rw[if_neg hc] at hmu;exact pno hmu
   |_=>exact pno hmu
 |_=>exact bft hm
theorem P.bind_ok{α β:Type}{p:P α}{f:α→P β}{b:β}(h:p.bind f=.ok b):∃ a,p=.ok a∧f a=.ok b:=by
 cases p with
 |no=>exact pno h
 |ok a=>exact⟨a,rfl,h⟩
theorem Mj{ev:EV}(hbad:∀ σ e,bad e=true→ev σ e=.no){x m:Str}{as:List Expr}{xp ap cp pos:Pos}{xs:List Str}(h:∀ e∈as,aF prog w mg mb base n hd (env::l₀) sc (aA.clear σ xs) e (ev (aA.clear σ xs) e)) :
  aQ prog w mg mb base n hd l₀ env sc s₀ σ (exec (.Expr (.Call (.Attribute (.Name x xp) m ap) as [] cp) pos) env) fun kn _=>mH ev (aA.clear σ xs) x m ap as cp kn:=by
 intro av₀ A s av hA X kn kr fin Q E hf hne hp hn hr he;obtain⟨av1,Y,hsub⟩:=X.clear xs;replace hf:mH ev (aA.clear σ xs) x m ap as cp kn=fin:=hf;unfold mH at hf
 by_cases hc:(ap.endLine==cp.line)=false∨as.any bad=true∨3 < as.length
 ·rw[if_pos hc] at hf;exact absurd hf.symm hne
 rw[if_neg hc] at hf;simp only[not_or,Bool.not_eq_true,Bool.not_eq_false,Nat.not_lt] at hc;obtain⟨c3,c4,c5⟩:=hc;obtain⟨od,hod,hf⟩:=cU hf hne;have hg:=rO hod;obtain⟨hlx,_⟩:=Y.names x _ hg;obtain⟨u,hv,a,rfl,hfr,hb⟩:=Y.inv.get x _ hlx hg;have ha:=(Y.ownA x a ⟨⟨od,hg⟩,hv⟩).1;refine bcs (mE m od) (fun hm=>?_) fun hm=>?_
 ·try rewrite[hm]
  rw[hm] at hf;exact absurd hf.symm hne
 ·try rewrite[hm]
  rw[hm] at hf;replace hf:rb (evs (ev (aA.clear σ xs)) as) _=fin:=hf;obtain⟨T,id,t1,t2,t3,t4,t5⟩:=Mi (prog:=prog) (w:=w) hm;obtain⟨q1,q2⟩:=t4 s av1 a hb;refine wpAny_Expr_any ?_ (by unfold interactive;rw[X.inv.kind];rfl) rfl;refine wpAny_Call_method_lateS rfl (kJ c4 c5 cp env) c3 (cC Y.inv hlx hv ⟨T,id,t1,t2,t3,q1,fun a' e=>by cases e;exact q2,fI c4 (iX (hbad _) hA h Y.inv ⟨hf,hne⟩ (fun vs s₂ us k2 r1 r2 e2=>?_) fun x v s' e f=>he x v s' e (Y.up f))⟩);obtain⟨od',hmu,e2⟩:=cU e2 hne;obtain⟨σ',hσ,e3⟩:=cU e2 hne;obtain⟨v0,_,rfl⟩:=hU hσ;have Y2:=Y.k k2;refine t5 A s₂ av1 a vs _ od' _ E ha (hb.k Y.inv.gnd.fav k2 hfr) ⟨r1,r2⟩ hmu fun v h' tk hs hb'=>?_;exact hn _ _ _ (Y2.mut (tk:=tk) hg (hv.k k2) hs hb') ((Fr.sub hsub).tr ((Y.frk k2).tr (Y2.frMut (s':={ s₂ with heap:=h',toks:=tk }) hg (hv.k k2) hs))) e3
end
end Mine
namespace Mine
open PySem
section
variable {prog:Program} {w:World} {mg mb:Str→Option Value} {base:Heap} {n:Nat} {hd:Bool} {l₀:List Env} {env:Env} {sc:Scope} {av₀:Addr→Prop} {s₀:Shared} {σ:aA} {av:Addr→Prop} {s:Shared}
theorem Ml(f:Array Value→Array Value)(its:Array Value)(n:Nat):∃ n',Obj.mapSeq f { cls:=.type "list", data:=.seq its n }={ cls:=.type "list", data:=.seq (f its) n' }:=⟨_,rfl⟩
theorem Mm{A:Around}{E:Value→Shared→Prop}{s:Shared}{l:Addr}{items:Array Value}{k:Int}{t:Tok}{v:Value}{Q:Unit→Shared→Prop}(hp:s.heap.PlainList l items)
  (h0:0≤k) (hfit:k < 2 ^ 63) (hn:k < items.size)
  (hQ:∀ h',h'.PlainList l (items.setIfInBounds k.toNat v)→Heap.SameBut l s.heap h'→Q () { s with heap:=h' }) :
  wpAny (model prog w) A (PySem.setItem (.ref l) (.int k t) v) Q E s:=by
 have hl:=hp.isList;obtain⟨ne,ho⟩:=hp;unfold PySem.setItem
 try with_reducible refine wpAny_holding ?_
 first | refine wpAny_bind (wpAny_pure ?_) | skip
 refine wpAny_bind (wpAny_sequenceKey hl.typeIs (by decide) ?_);refine wpAny_bind (wpAny_callSpecial?_slot (name:=Str.ofString "__setitem__") hl.typeIs slot_list_setitem
  (wpAny_call_entry slot_list_setitem hl.typeIs entry_list_setitem ?_ (args_list_setitem _ _ _)))
 show wpAny _ _ (Builtin.List.listSubscript? (.int k t) >>= _) _ _ s;refine wpAny_bind (wpAny_listSubscript_int (fitsIndex_of h0 hfit) ?_);clear hfit;obtain⟨j,rfl⟩:=Int.eq_ofNat_of_zero_le h0;have hj:j < items.size:=by exact Ev hn
 have hx':items[j]?=some items[j]:=Array.getElem?_eq_getElem hj;show wpAny _ _ ((seqItemAt l j >>= fun r=>pure (r.map (j,·))) >>= _) _ _ s;refine wpAny_bind (wpAny_bind (wpAny_seqItemAt ho rfl (wpAny_pure ?_)));rw[hx'];show wpAny _ _ (setSeqItemAt l j v >>= _) _ _ s;obtain⟨n',hm⟩:=Ml (·.setIfInBounds j v) items ne;have hfin:(s.heap.update l (Obj.mapSeq (·.setIfInBounds j v))).PlainList l (items.setIfInBounds j v) :=
  ⟨n',by rw[Heap.get?_update_self _ ho (by rw[hm];rfl),hm]⟩
 refine wpAny_bind (wpAny_setSeqItemAt ho rfl ?_)
 first
  |exact wpAny_bind (wpAny_pure (wpAny_pure ⟨.none,rfl,wpAny_pure (hQ _ hfin (Heap.SameBut.update ..))⟩))
  |exact wpAny_pure ⟨.none,rfl,wpAny_pure (hQ _ hfin (Heap.SameBut.update ..))⟩
theorem Mo(kvs:List (Str×Value))(k:Str)(v:Value):(stored kvs k v).length≤kvs.length+1:=by
 unfold stored
 split
 ·simp
 ·simp
theorem Mp{A:Around}{a:Addr}{vi vd:Value}{o i d o':PyData}{Q:Unit→Shared→Prop}{E:Value→Shared→Prop}(ha:av a)(hb:bG prog w s.heap av a o)(ri:Rep prog w s.heap av vi i)(rd:Rep prog w s.heap av vd d)
  (hs:setItem o i d=.ok o') (hq:∀ h' tk,Heap.SameBut a s.heap h'→bG prog w h' av a o'→Q () { s with heap:=h',toks:=tk }):wpAny (model prog w) A (PySem.setItem (.ref a) vi vd) Q E s:=by
 cases o with
 |dict l =>
  replace hs:wQ l d i=.ok o':=hs;cases i with
  |str k =>
   replace hs:(if l.length < aX then P.ok (.dict (dT l k d)) else .no)=.ok o':=hs
   by_cases hc:l.length < aX
   ·rw[if_pos hc] at hs;obtain rfl:=pi hs;obtain⟨kvs,h2,h3,h4,h5,h6⟩:=hb;obtain⟨t,rfl,hkl⟩:=ri.str_inv;have hlen:kvs.length=l.length:=by
     have:=congrArg List.length h5;simpa using this.symm
    refine wpAny_setItem_pairs (dM k t) h2 (fun h' hd' hsb=>hq h' _ hsb (rQ hd' ⟨?_,yY h3.2 hkl⟩ h4 (KV.set (k:=k) (rd.mono (fJ ha hsb) fun _ _ _ x=>x) (i9 h2) ((KV.of h5 h6).mono (fJ ha hsb) fun _ _ _ x=>x)))) h3.1;have h1:=Mo kvs k vd;have h2:aX=sizeLine:=rfl;exact Ew hc hlen h1 h2
   ·rw[if_neg hc] at hs;exact pno hs
  |_=>exact pno hs
 |list l =>
  replace hs:wR l d i=.ok o':=hs;cases i with
  |int k =>
   replace hs:(if 0≤k∧k < l.length then P.ok (.list (l.set k.toNat d)) else .no)=.ok o':=hs
   by_cases hc:0≤k∧k < l.length
   ·rw[if_pos hc] at hs;obtain rfl:=pi hs;obtain⟨xs,hp,hxl,hxz,hxr⟩:=hb;obtain⟨t,rfl⟩:=ri.int_inv;have hN:sizeLine=16777216:=rfl;refine Mm hp hc.1 (by lia) (by simp;exact Ex hc hxl) fun h' hp' hsb=>hq h' _ hsb ⟨xs.set k.toNat vd,?_,by simp[hxl],by simpa using hxz,fun i u du e1 e2=>?_⟩
    ·have:(xs.set k.toNat vd).toArray=xs.toArray.setIfInBounds k.toNat vd:=by simp
     rw[this];exact hp'
    ·rw[List.getElem?_set] at e1 e2
     by_cases hj:k.toNat=i
     ·rw[if_pos hj] at e1 e2
      split at e1
      ·split at e2
       ·obtain rfl:=si e1;obtain rfl:=si e2;exact rd.mono (fJ ha hsb) fun _ _ _ x=>x
       ·exact ns e2
      ·exact ns e1
     ·rw[if_neg hj] at e1 e2;exact(hxr i u du e1 e2).mono (fJ ha hsb) fun _ _ _ x=>x
   ·rw[if_neg hc] at hs;exact pno hs
  |_=>exact pno hs
 |_=>exact pno hs
theorem Mq{A:Around}{x:Str}{i:Expr}{xp:Pos}{vd:Value}{d:PyData}{ri:R V}(hi:aF prog w mg mb base n hd (env::l₀) sc σ i ri)(hA:Room n hd (env::l₀) A)(X:Act prog w mg mb base l₀ env sc av₀ s₀ σ av s)(rd:Rep prog w s.heap av vd d)
  {kn:KN} {fin:R V} {Q:Flow→Shared→Prop} {E:Value→Shared→Prop} (hf:rb (ofP (fZ σ x)) (fun o=>rb ri fun iv=>rb (ofP (setItem o (dOf iv) d)) fun o=>rb (ofP (dL x (.own o) σ)) kn)=fin) (hne:fin≠.no)
  (hn:∀ s' σ' av',Act prog w mg mb base l₀ env sc av₀ s₀ σ' av' s'→Fr (env::l₀) av₀ s av s' av'→kn σ'=fin→Q .next s') (he:∀ x v s',fin=.exc x→Upx prog w mg base l₀ env s₀ av₀ x v s'→E v s') :
  wpAny (model prog w) A (eval (.Name x xp) env) (fun ov s₂=>wpAny (model prog w) A (eval i env) (fun iv s₃=>wpAny (model prog w) A (PySem.setItem ov iv vd) (fun _=>Q Flow.next) E s₃) E s₂) E s:=by
 obtain⟨od,hod,hf⟩:=cU hf hne;have hg:=rO hod;obtain⟨hlx,_⟩:=X.names x _ hg;obtain⟨u',hv,a,rfl,hfr,hb⟩:=X.inv.get x _ hlx hg;have ha:=(X.ownA x a ⟨⟨od,hg⟩,hv⟩).1;refine cC X.inv hlx hv (hi.st hA X hf hne (fun iv s₂ ui k2 r2 e2=>?_) he);obtain⟨od',hso,e2⟩:=cU e2 hne;obtain⟨σ',hσ,e3⟩:=cU e2 hne;obtain⟨v0,_,rfl⟩:=hU hσ;have X2:=X.k k2;refine Mp ha (hb.k X.inv.gnd.fav k2 hfr) (r2.rep X.inv.gnd.avlt) (rd.k X.inv.gnd.fav k2) hso fun h' tk hs hb'=>?_;exact hn _ _ _ (X2.mut (tk:=tk) hg (hv.k k2) hs hb') ((X.frk k2).tr (X2.frMut (s':={ s₂ with heap:=h',toks:=tk }) hg (hv.k k2) hs)) e3
theorem Mr{α:Type}{c:Prop}[Decidable c]{r fin:R α}(h:(if c then .no else r)=fin)(hne:fin≠.no):¬ c∧r=fin:=by
 by_cases hc:c
 ·rw[if_pos hc] at h;exact absurd h.symm hne
 ·rw[if_neg hc] at h;exact⟨hc,h⟩
theorem z8(e o i:Expr)(p:Pos)(line:Nat):swapsWith e (some (.Subscript o i p)) line env=pure false:=by
 unfold swapsWith;cases e<;>rfl
theorem Ms{ev:EV}{x:Str}{i e:Expr}{xp p pos:Pos}{xs:List Str}(h:∀ σ e,aF prog w mg mb base n hd (env::l₀) sc σ e (ev σ e)) :
  aQ prog w mg mb base n hd l₀ env sc s₀ σ (exec (.Assign [.Subscript (.Name x xp) i p] e pos) env) fun kn _=>wU ev (aA.clear σ xs) x i e kn:=by
 intro av₀ A s av hA X kn kr fin Q E hf hne hp hn hr he;obtain⟨av1,Y,hsub⟩:=X.clear xs;obtain⟨_,hf⟩:=Mr hf hne;refine wpAny_Assign_Subscript ((h _ e).st hA Y hf hne (fun v s₁ u k1 r e1=>?_) he) (z8 ..);exact Mq (h _ i) hA (Y.k k1) ((r.rep Y.inv.gnd.avlt)) e1 hne (fun s' σ' av' Z f e=>hn s' σ' av' Z ((Fr.sub hsub).tr ((Y.frk k1).tr f)) e) he
theorem Vy{d:PyData}{l:List (PyData×PyData)}(h:Hv d=.ok l):d=.dict l:=by
 cases d with
 |dict l'=>obtain rfl:=pi h;rfl
 |_=>exact pno h
end
end Mine
namespace Mine
open PySem
section
variable {prog:Program} {w:World} {mg mb:Str→Option Value} {base:Heap} {n:Nat} {hd:Bool} {l₀:List Env} {env:Env} {sc:Scope} {av₀:Addr→Prop} {s₀:Shared} {σ:aA} {av:Addr→Prop} {s:Shared}
theorem z9(e:Expr)(x:Str)(p:Pos)(line:Nat):∃ b:Bool,swapsWith e (some (.Name x p)) line env=pure b:=by
 unfold swapsWith;cases e<;>exact⟨_,rfl⟩
theorem Aa{e:Expr}{x:Str}{p:Pos}{line:Nat}(h:swapsWith e (some (.Name x p)) line env=pure true):iN e=true:=by
 have hne:(pure false:Sem Bool)≠pure true:=fun h=>by cases h
 cases e<;>first
  |rfl
  |exact absurd h hne
theorem Mt{elt:Expr}{g:Comprehension}{sc':Scope}{cpos:Pos}{x:Str}{p pos:Pos}{xs:List Str}{rec:Scope→aA→Expr→R V}
  (hs:swapsWith (.ListComp elt [g] sc' cpos) (some (.Name x p)) pos.line env=pure true) (hbad:∀ e,bad e=true→rec sc (aA.clear σ xs) e=.no)
  (hit:aF prog w mg mb base n hd (env::l₀) sc (aA.clear σ xs) g.iter (rec sc (aA.clear σ xs) g.iter)) (hsub:∀ f as kws q,g.iter=.Call f as kws q→∀ a∈as,aF prog w mg mb base n hd (env::l₀) sc (aA.clear σ xs) a (rec sc (aA.clear σ xs) a))
  (hT:∀ c∈g.ifs,∀ σ',bN prog w mg mb base n hd (env::l₀) sc' σ' c (rec sc' σ' c)) (hE:∀ σ',aF prog w mg mb base n hd (env::l₀) sc' σ' elt (rec sc' σ' elt)) :
  aQ prog w mg mb base n hd l₀ env sc s₀ σ (exec (.Assign [.Name x p] (.ListComp elt [g] sc' cpos) pos) env) fun kn _=>rb (iS rec hd sc (aA.clear σ xs) elt g sc') fun v=>rb (ofP (dL x v (aA.clear σ xs))) kn:=by
 intro av₀ A s av hA X kn kr fin Q E hf hne hp hn hr he;obtain⟨av1,Y,hsb⟩:=X.clear xs;rw[exec_Assign_Name_used _ _ _ _ hs];refine wpAny_bind (wpAny_standAt (wpAny_bind ?_));rw[arm_evalThenUse_ListComp];refine wpAny_bind (wpAny_mono (zS (Q:=fun _ s'=>Q .next s') hbad hit hsub hT hE hA Y.inv ⟨hf,hne⟩ (fun x v s' e f=>he x v s' e (Y.up f)) fun s₁ wr D C zs st' k0 hD hC hDC hz F e=>?_) (fun _ s' hq=>wpAny_pure (wpAny_pure hq)) fun _ _ e=>e);obtain⟨σ',hσ,e⟩:=cU e hne;obtain⟨v0,hg,rfl⟩:=hU hσ;obtain⟨kk,⟨mC,hnsC⟩,ys,hpl,hyl,hys⟩:=F;have k:=k0.tr kk;have sD:=k0.non hD;have sC:=k0.non hC;obtain⟨d1,d2,d3,d4,d5⟩:=Y.newNot sD;obtain⟨c1,c2,c3,c4,c5⟩:=Y.newNot sC;have Z:=Y.growS (S:=fun b=>b=D∨b=C) k (fun a ha=>ha.elim (fun h=>h▸sD) fun h=>h▸sC) (fun a ha=>ha.elim (fun h=>by obtain⟨n,e⟩:=hpl;exact⟨_,h▸e⟩) fun h=>by obtain⟨o,es,ep,e,_⟩:=hnsC;exact⟨o,h▸e⟩);have notO:∀ b,¬ av1 b→∀ y,¬ bH env (aA.clear σ xs) st'.heap y b:=fun b hb y h=>hb (Y.ownA y b (Y.ownBack (fun u h=>h.k k) h)).1;have g:Fr (env::l₀) av₀ s av1 st' (fun b=>av1 b∨b=D∨b=C):=⟨(Y.frk k).keep,fun b o e h=>h.elim id (fun h=>by
  rcases h with h | h
  ·rw[h,sD] at e;exact ns e
  ·rw[h,sC] at e;exact ns e),(Y.frk k).pins⟩
 refine wpAny_assign_Name (Z.put hg (v:=.own (.list zs)) ⟨D,rfl,d5,ys,hpl,hyl,by rw[hyl];exact hz,fun j v d e1 e2=>?_⟩ (fun d a e1 e2=>?_) fun s' Z' f hvx hvy=>?_)
 ·exact(hys j v d e1 e2).mono (fun _ _ _ e=>e) fun b o _ hb=>hb.imp id .inr
 ·cases e2;exact⟨.inr (.inl rfl),d4,d3,d1,fun y _=>notO D d2 y⟩
 ·have hown:∀ y a,bH env (aA.set (aA.clear σ xs) x (.own (.list zs))) s'.heap y a→¬ a=C:=fun y a ⟨⟨d',hgy⟩,hv⟩ ha=>by
   subst ha
   by_cases hyx:y=x
   ·subst hyx;cases aM.uniq hvx hv;exact hDC rfl
   ·have hgy:=gC hyx hgy;exact notO a c2 y ⟨⟨d',hgy⟩,Z.varBack hgy (fun u=>hvy y u hyx) hv⟩
  refine⟨mC,hnsC.at' fun o e=>f C o c1 e,fun h' hs'=>?_⟩;have hkeep:∀ b o,¬ b=C→s'.heap.get? b=some o→h'.get? b=some o:=fun b o hb e=>by rw[hs'.2 b hb];exact e
  have W:=Z'.wildS (S:=fun b=>b=C) (av':=fun b=>(av1 b∨b=D∨b=C)∧b≠C) (h':=h') (tk:=s'.toks) (fun b hb=>.inr (.inr hb)) (fun b hb=>hb▸c4) (fun b m h=>c1 (h▸m)) hown hkeep
   (fun b hb=>hb.1) (fun b hb hb'=>⟨hb,hb'⟩) (fun b hb hb'=>absurd hb' hb.2) (fun b hb=>⟨.inl (Y.bas b hb),fun h=>c3 (h▸hb)⟩)
  have fr:Fr (env::l₀) av₀ s' (fun b=>av1 b∨b=D∨b=C) { s' with heap:=h' } (fun b=>(av1 b∨b=D∨b=C)∧b≠C):=⟨fun b o e hb=>hkeep b o (fun h=>hb (.inr (.inr h))) e,fun _ _ _ h=>h.1,fun b o hb _ e=>hkeep b o (fun h=>c3 (h▸hb)) e⟩
  exact hn _ _ _ W ((Fr.sub hsb).tr (g.tr ((Z.frPut f).tr fr))) e
theorem Mu:∀ {es:List Expr} {xs:List Str},dZ es=some xs→(assignEach es env).length=xs.length∧(assignEach es env).findIdx? (·.1)=none:=by
 intro v0
 induction v0 with
 |nil =>
  intro xs h;obtain rfl:=si h;exact⟨rfl,rfl⟩
 |cons e es ih =>
  intro xs h;replace h:((bD e).bind fun x=>(dZ es).map (x::·))=some xs:=h;refine ocs (bD e) (fun hx=>?_) fun x hx=>?_
  ·try rewrite[hx]
   rw[hx] at h;exact ns h
  ·try rewrite[hx]
   rw[hx] at h;obtain⟨p,rfl⟩:=dE hx;have h:(dZ es).map (x::·)=some xs:=h;obtain⟨ys,h1,rfl⟩:=Option.map_eq_some_iff.mp h;obtain⟨g1,g2⟩:=ih h1;have e0:assignEach (.Name x p::es) env=(false,assign (.Name x p) env)::assignEach es env:=rfl;rw[e0];refine⟨by simp[g1],?_⟩;rw[List.findIdx?_cons];simp[g2]
theorem Act.putF{A:Around}{E:Value→Shared→Prop}{x:Str}{v0:Option V}{u:Value}{d:PyData}{Q:Unit→Shared→Prop}(X:Act prog w mg mb base l₀ env sc av₀ s₀ σ av s)(hx:aA.get σ x=some v0)(hv:Rep prog w s.heap av u d)
  (hq:∀ s',Act prog w mg mb base l₀ env sc av₀ s₀ (aA.set σ x (.fz d)) av s'→Fr (env::l₀) av₀ s av s' av→Q () s'):wpAny (model prog w) A (storeName env x u) Q E s :=
 X.put hx (show bQ prog w mg (env::l₀) s.heap av u (.fz d) from hv) (fun _ _ e=>by cases e) fun s' Y f _ _=>hq s' Y (X.frPut f)
theorem Mv{A:Around}{E:Value→Shared→Prop}{Q:Unit→Shared→Prop}:∀ {es:List Expr} {xs:List Str} {ds:List PyData} {vs:List Value} {σ σ':aA} {s:Shared},dZ es=some xs→mD xs ds σ=.ok σ'→RL prog w s.heap av vs ds →
  Act prog w mg mb base l₀ env sc av₀ s₀ σ av s→(∀ s',Act prog w mg mb base l₀ env sc av₀ s₀ σ' av s'→Fr (env::l₀) av₀ s av s' av→Q () s')→wpAny (model prog w) A (assignInOrder ((assignEach es env).map (·.2)) vs) Q E s:=by
 intro v0
 induction v0 with
 |nil =>
  intro xs ds vs σ σ' s hn hs r X hq;obtain rfl:=si hn;cases ds with
  |cons=>exact pno hs
  |nil =>
   obtain rfl:=pi hs;obtain rfl:=r.nil;exact wpAny_assignInOrder_none (hq s X (Fr.rf _ s av))
 |cons e es ih =>
  intro xs ds vs σ σ' s hn hs r X hq;replace hn:((bD e).bind fun x=>(dZ es).map (x::·))=some xs:=hn;refine ocs (bD e) (fun hx=>?_) fun x hx=>?_
  ·try rewrite[hx]
   rw[hx] at hn;exact ns hn
  ·try rewrite[hx]
   rw[hx] at hn;obtain⟨p,rfl⟩:=dE hx;have hn:(dZ es).map (x::·)=some xs:=hn;obtain⟨ys,h1,rfl⟩:=Option.map_eq_some_iff.mp hn;cases ds with
   |nil=>exact pno hs
   |cons d ds =>
    obtain⟨v,vs,rfl,rv,r⟩:=r.cons;obtain⟨σ1,h2,h3⟩:=P.bind_ok hs;obtain⟨v0,hg,rfl⟩:=hU h2;show wpAny _ A (assignInOrder (assign (.Name x p) env::(assignEach es env).map (·.2)) (v::vs)) Q E s;refine wpAny_assignInOrder_more (wpAny_assign_Name (X.putF hg rv fun s1 Y1 f1=>?_));exact ih h1 h3 ⟨r.1,fun i v' d' e1 e2=>(r.2 i v' d' e1 e2).mono (fun b o hb e=>f1.keep b o e hb) fun _ _ _ h=>h⟩ Y1 fun s' Z fr=>hq s' Z (f1.tr fr)
theorem Ab:∀ {xs:List Str} {ds:List PyData} {σ σ':aA},mD xs ds σ=.ok σ'→xs.length=ds.length
 | [],[],_,_,_=>rfl
 | [],_::_,_,_,h=>by exact pno h
 |_::_,[],_,_,h=>by exact pno h
 |x::xs,d::ds,σ,σ',h=>by
  obtain⟨σ1,_,h2⟩:=P.bind_ok h;have:=Ab h2;simp[this]
theorem Mw{d:PyData}{l:List PyData}(h:wF d=.ok l):d=.tuple l:=by
 cases d with
 |tuple l'=>obtain rfl:=pi h;rfl
 |_=>exact pno h
theorem Ac{A:Around}{E:Value→Shared→Prop}{σ':aA}{target:Expr}{v:Value}{d:PyData}{Q:Unit→Shared→Prop}(hh:A.handled=none)(X:Act prog w mg mb base l₀ env sc av₀ s₀ σ av s)(r:Rep prog w s.heap av v d)(ha:aW target d σ=.ok σ')
  (hq:∀ s',Act prog w mg mb base l₀ env sc av₀ s₀ σ' av s'→Fr (env::l₀) av₀ s av s' av→Q () s'):wpAny (model prog w) A (assign target env v) Q E s:=by
 unfold aW at ha;cases hv:vw target with
 |name x =>
  rw[hv] at ha;obtain⟨p,rfl⟩:=cM hv;obtain⟨v0,hg,rfl⟩:=hU ha;exact wpAny_assign_Name (X.putF hg r hq)
 |tup es =>
  rw[hv] at ha;obtain⟨k,p,rfl⟩:=cM hv;obtain⟨ds,h1,ha1⟩:=P.bind_ok ha;clear ha;cases Mw h1;obtain⟨xs,h2,ha⟩:=P.bind_ok ha1;clear ha1;refine ocs (dZ es) (fun hn=>?_) fun ys hn=>?_
  ·try rewrite[hn]
   rw[hn] at h2;exact pno h2
  ·try rewrite[hn]
   rw[hn] at h2;obtain rfl:=pi h2;obtain⟨ad,vs,rfl,g1,g2,g3,g4,g5⟩:=r.tuple_inv;obtain⟨e1,e2⟩:=Mu (env:=env) hn;refine wpAny_assign_Tuple hh g2.isTuple (by rw[e1,Ab ha,← g3];simp) e2 fun h1 he=>?_;have k1:∀ b o,s.heap.get? b=some o→h1.get? b=some o:=fun b o e=>he b o (nC e) e;have kk:K (env::l₀) s { s with heap:=h1 }:=K.of ⟨h1,s.toks,rfl,k1⟩;exact Mv hn ha ⟨g3,fun i v d q1 q2=>(g5 i v d q1 q2).keeps k1⟩ (X.k kk) fun s' Z fr=>hq s' Z ((X.frk kk).tr fr)
 |_=>rw[hv] at ha;exact pno ha
theorem Mx{e:Expr}(h:pJ e=true):∃ f as kws q,e=.Call f as kws q:=by
 unfold pJ at h;cases hv:vw e with
 |call f as kws q=>exact⟨f,as,kws,q,cM hv⟩
 |_=>rw[hv] at h;exact bft h
theorem gD{α:Type}{c:Prop}[Decidable c]{r fin:R α}(h:(if c then r else .no)=fin)(hne:fin≠.no):c∧r=fin:=by
 by_cases hc:c
 ·rw[if_pos hc] at h;exact⟨hc,h⟩
 ·rw[if_neg hc] at h;exact absurd h.symm hne
theorem My{ev:EV}{es:List Expr}{k:Nat}{p:Pos}{e:Expr}{pos:Pos}{xs:List Str}(h:aF prog w mg mb base n hd (env::l₀) sc (aA.clear σ xs) e (ev (aA.clear σ xs) e)) :
  aQ prog w mg mb base n hd l₀ env sc s₀ σ (exec (.Assign [.Tuple es k p] e pos) env) fun kn _=>wV ev hd (aA.clear σ xs) (.Tuple es k p) e kn:=by
 intro av₀ A s av hA X kn kr fin Q E hf hne hp hn hr he;obtain⟨av1,Y,hsub⟩:=X.clear xs;obtain⟨hc,hf⟩:=gD hf hne;obtain⟨f,as,kws,q,rfl⟩:=Mx hc.1;refine wpAny_Assign_stores (h.st hA Y hf hne (fun v s₁ u k1 r e1=>?_) he) rfl rfl;obtain⟨σ',hσ,e2⟩:=cU e1 hne;exact Ac (hA.handled hc.2) (Y.k k1) (r.rep Y.inv.gnd.avlt) hσ fun s' Z fr=>hn _ _ _ Z ((Fr.sub hsub).tr ((Y.frk k1).tr fr)) e2
theorem Mz{rec:Scope→aA→Expr→R V}{C:Ctx}{F:Nat}(hbad:∀ sc σ e,bad e=true→rec sc σ e=.no)(hc:C.hd=hd)
  (ihr:∀ sc σ e,aF prog w mg mb base n hd (env::l₀) sc σ e (rec sc σ e)∧bN prog w mg mb base n hd (env::l₀) sc σ e (rec sc σ e))
  (h:∀ σ e,aF prog w mg mb base n hd (env::l₀) sc σ e (fW rec C sc σ e)) {t e:Expr} {pos:Pos}:aQ prog w mg mb base n hd l₀ env sc s₀ σ (exec (.Assign [t] e pos) env) fun kn _=>pZ (fW rec C sc) F hd σ t e kn:=by
 unfold pZ;cases hv:vw t with
 |name x =>
  obtain⟨p,rfl⟩:=cM hv;obtain⟨b,hsw⟩:=z9 (env:=env) e x p pos.line;cases b with
  |false=>exact Mc hsw (h _ e)
  |true =>
   have hcomp:=Aa hsw;cases e with
   |ListComp elt gens sc' cpos =>
    cases gens with
    |nil=>exact aQ.no
    |cons g gs =>
     cases gs with
     |cons=>exact aQ.no
     |nil =>
      show aQ prog w mg mb base n hd l₀ env sc s₀ σ _ fun kn _=>rb (iS rec C.hd sc _ elt g sc') fun v=>rb (ofP (dL x v _)) kn;rw[hc];exact Mt hsw (hbad sc _) (ihr _ _ _).1 (fun _ _ _ _ _ a _=>(ihr _ _ a).1) (fun c _ σ'=>(ihr _ _ c).2) fun σ'=>(ihr _ _ elt).1
   |SetComp=>exact aQ.no
   |DictComp=>exact aQ.no
   |_=>exact bft hcomp
 |sub o i =>
  obtain⟨p,rfl⟩:=cM hv;show aQ prog w mg mb base n hd l₀ env sc s₀ σ _ fun kn _=>match bD o with | some x=>mG (fW rec C sc) F σ x i e kn | none=>.no
  cases hn:bD o with
  |none=>exact aQ.no
  |some x =>
   obtain⟨q,rfl⟩:=dE hn;show aQ prog w mg mb base n hd l₀ env sc s₀ σ _ fun kn _=>mG (fW rec C sc) F σ x i e kn;unfold mG;exact Ms h
 |tup es =>
  obtain⟨k,p,rfl⟩:=cM hv;exact My (h _ e)
 |_=>exact aQ.no
theorem M0{ev:EV}(hbad:∀ σ e,bad e=true→ev σ e=.no)(h:∀ σ e,aF prog w mg mb base n hd (env::l₀) sc σ e (ev σ e)){F:Nat}{e:Expr}{pos:Pos}:aQ prog w mg mb base n hd l₀ env sc s₀ σ (exec (.Expr e pos) env) fun kn _=>qA ev F σ e kn:=by
 unfold qA;cases hm:mF e with
 |some c =>
  obtain⟨x,m,ap,as,cp⟩:=c;obtain⟨xp,rfl⟩:=xI hm;exact Mj hbad fun e _=>h _ e
 |none =>
  cases hc:iN e with
  |true=>exact aQ.no
  |false=>exact Me hc (h _ e)
end
end Mine
namespace Mine
open PySem
theorem hY(x y:Str)(σ:aA):aA.get (hide σ x) y=(aA.get σ y).map fun o=>if x=y then none else o:=by
 induction σ with
 |nil=>rfl
 |cons p r ih =>
  obtain⟨z,v⟩:=p;show aA.get ((if x=z then (z,none) else (z,v))::hide r x) y=(if y=z then some v else aA.get r y).map _
  by_cases h:x=z
  ·subst h;rw[if_pos rfl];show(if y=x then some none else aA.get (hide r x) y)=_
   by_cases h2:y=x
   ·subst h2;rw[if_pos rfl,if_pos rfl];simp
   ·rw[if_neg h2,if_neg h2];exact ih
  ·rw[if_neg h];show(if y=z then some v else aA.get (hide r x) y)=_
   by_cases h2:y=z
   ·subst h2;rw[if_pos rfl,if_pos rfl];simp[h]
   ·rw[if_neg h2,if_neg h2];exact ih
theorem Ad{x y:Str}{σ:aA}{v:V}(h:aA.get (hide σ x) y=some (some v)):aA.get σ y=some (some v):=by
 rw[hY] at h;obtain⟨o,h1,h⟩:=Option.map_eq_some_iff.mp h
 by_cases e:x=y
 ·rw[if_pos e] at h;exact ns h
 ·rw[if_neg e] at h;rw[h1,h]
theorem M1{x y:Str}{σ:aA}(h:(aA.get σ y).isSome=true):(aA.get (hide σ x) y).isSome=true:=by
 rw[hY,Option.isSome_map];exact h
theorem Ae{x:Str}{σ:aA}(h:(aA.get σ x).isSome=true):aA.get (hide σ x) x=some none:=by
 rw[hY];obtain⟨o,e⟩:=Option.isSome_iff_exists.mp h;rw[e];simp
theorem M2{x y:Str}{σ:aA}(h:aA.get σ x=some none):aA.get (hide σ y) x=some none:=by
 rw[hY,h];show some (if y=x then none else none)=_;rw[ite_self]
section
variable {prog:Program} {w:World} {mg mb:Str→Option Value} {base:Heap} {n:Nat} {hd:Bool} {l₀:List Env} {env:Env} {sc:Scope} {av₀:Addr→Prop} {s₀:Shared} {σ:aA} {av:Addr→Prop} {s:Shared}
theorem Act.hide(X:Act prog w mg mb base l₀ env sc av₀ s₀ σ av s)(x:Str):Act prog w mg mb base l₀ env sc av₀ s₀ (hide σ x) av s:=by
 have back:∀ y c,bH env (Mine.hide σ x) s.heap y c→bH env σ s.heap y c:=fun y c h=>by
  obtain⟨⟨d,hg⟩,hv⟩:=h;exact⟨⟨d,Ad hg⟩,hv⟩
 refine { X with inv:={ X.inv with get:=fun y v hl hg=>X.inv.get y v hl (Ad hg) },names:=fun y v h=>?_,ownA:=fun y c h=>X.ownA y c (back y c h),ownI:=fun y z c h1 h2=>X.ownI y z c (back y c h1) (back z c h2) };rw[hY] at h;obtain⟨o,h,_⟩:=Option.map_eq_some_iff.mp h;exact X.names y o h
theorem Act.putH{A:Around}{E:Value→Shared→Prop}{x:Str}{u:Value}{Q:Unit→Shared→Prop}(X:Act prog w mg mb base l₀ env sc av₀ s₀ σ av s)(hx:aA.get σ x=some none)
  (hq:∀ s',Act prog w mg mb base l₀ env sc av₀ s₀ σ av s'→(∀ b o,¬ Mn env b→s.heap.get? b=some o→s'.heap.get? b=some o)→aM env s'.heap x u→(∀ y w',y≠x→aM env s.heap y w'→aM env s'.heap y w')→Q () s'):wpAny (model prog w) A (storeName env x u) Q E s:=by
 refine X.store hx fun p h' tk hp hs hns hcells hvx hvy=>?_;have kept:∀ b o,¬ b=p→s.heap.get? b=some o→h'.get? b=some o:=fun b o hb e=>by rw[hs.2 b hb];exact e
 obtain⟨p1,p2,p3⟩:=X.fresh p hp;have ne:∀ y v,aA.get σ y=some (some v)→y≠x:=fun y v h e=>by rw[e,hx] at h;exact Mine.ns (Option.some.inj h)
 have back:∀ y a,bH env σ h' y a→bH env σ s.heap y a:=fun y a h=>by
  obtain⟨⟨d,hg⟩,hv⟩:=h;exact⟨⟨d,hg⟩,X.varBack hg (fun u=>hvy y u (ne y _ hg)) hv⟩
 refine hq _ (X.upd (S:=fun b=>b=p) (fun b h=>h▸p2) kept hns hcells (fun _ h=>h) (fun _ h _=>h) (fun b _ h=>?_) X.bas (fun b h=>(X.fresh b h).1) (fun _ v h=>⟨v,h⟩) (fun y w' hl h=>?_) (fun y a h=>X.ownA y a (back y a h)) fun y z a h1 h2=>X.ownI y z a (back y a h1) (back z a h2)) (fun b o n e=>kept b o (fun h=>n (h▸hp)) e) hvx hvy
 ·subst h;rcases hp with rfl | ⟨y,h⟩
  ·obtain⟨m,o,es,ep,e,_⟩:=hns;exact⟨o,e⟩
  ·obtain⟨v,o,e,_⟩:=hcells y b h;exact⟨o,e⟩
 ·obtain⟨u',h1,h2⟩:=X.inv.get y w' hl h;exact⟨u',hvy y u' (ne y _ h) h1,h2.mono' (fun b o n e=>kept b o (fun h=>n (h▸p1)) e) (fun _ _ _ h=>h) fun d a e1 e2 o e=>kept a o (fun h'=>(X.ownA y a ⟨⟨d,e1▸h⟩,e2▸h1⟩).2.2.2 (h'▸hp)) e⟩
theorem Act.one{av':Addr→Prop}{y:Str}{v0:Option V}{v:Value}{d:PyData}(H:Act prog w mg mb base l₀ env sc av₀ s₀ σ av' s)(sub:∀ b,av b→av' b)(bas:∀ b,av₀ b→av b)(fav:∀ b,frs (env::l₀) b→av b)(mn:∀ b,Mn env b→av b)(avS:av sysModules)
  (hy:aA.get σ y=some v0) (hv:aM env s.heap y v) (r:Rep prog w s.heap av v d):Act prog w mg mb base l₀ env sc av₀ s₀ [(y,some (.fz d))] av s:=by
 have one:∀ z u,aA.get [(y,some (V.fz d))] z=some u→z=y∧u=some (.fz d):=fun z u h=>by
  by_cases e:z=y
  ·subst e;rw[aA.get_cons_eq] at h;exact⟨rfl,(Option.some.inj h).symm⟩
  ·rw[aA.get_cons_ne e] at h;exact Mine.ns h
 have noo:∀ z a,¬ bH env [(y,some (.fz d))] s.heap z a:=fun z a h=>by
  obtain⟨⟨e,hg⟩,_⟩:=h;cases (one z _ hg).2
 refine { H with inv:={ H.inv with gnd:={ H.inv.gnd with fav:=fav,avlt:=fun b h=>H.inv.gnd.avlt b (sub b h),avS:=avS },get:=fun z u hl hg=>?_ },bas:=bas,fresh:=fun b h=>⟨mn b h,(H.fresh b h).2⟩,names:=fun z u h=>?_,ownA:=fun z a h=>(noo z a h).elim,ownI:=fun z _ a h _=>(noo z a h).elim }
 ·obtain⟨rfl,e⟩:=one z _ hg;cases e;exact⟨v,hv,r⟩
 ·obtain⟨rfl,_⟩:=one z _ h;exact H.names z v0 hy
end
end Mine
namespace Mine
open PySem
section
variable {prog:Program} {w:World} {mg mb:Str→Option Value} {base:Heap} {n:Nat} {hd:Bool} {l₀:List Env} {env:Env} {sc:Scope} {av₀:Addr→Prop} {s₀:Shared} {σ:aA} {av:Addr→Prop} {s:Shared}
theorem aY.weaken{av₁:Addr→Prop}{h:Heap}{v:Value}{u:V}(hw:∀ b,av₀ b→av₁ b)(r:aY prog w s₀ h av₁ v u):aY prog w s₀ h av₀ v u:=by
 cases u with
 |ex x=>exact r
 |fz d=>exact(show Rep prog w h av₁ v d from r).mono (fun _ _ _ e=>e) fun b _ _ x=>hw b x
 |own d=>obtain⟨a,e,hn,rb⟩:=r;exact⟨a,e,hn,rb.mono (fun _ _ _ e=>e) (fun b _ _ x=>x.imp (hw b) id) fun _ e=>e⟩
 |dp d=>exact r
theorem M3{A:Around}{s₂:Shared}{t:Expr}{b:List Stmt}{it:Value}{wr:Addr→Prop}{St:Nat→Heap→Prop}{ds:List PyData}{body:aA→KN→KR→R V}
  (hA:Room n hd (env::l₀) A) (hh:A.handled=none) (Y:Act prog w mg mb base l₀ env sc av₀ s₀ σ av s) (hb:∀ σ,aQ prog w mg mb base n hd l₀ env sc s₀ σ (execs b env) (body σ))
  (k:Kp s s₂) (S:Src prog w A s.heap av t it wr St ds) (hst:St 0 s₂.heap) (hwr:∀ b,wr b→s.heap.get? b=none∧∃ o,s₂.heap.get? b=some o)
  {kn:KN} {kr:KR} {fin:R V} {Q:Flow→Shared→Prop} {E:Value→Shared→Prop} (hf:aS body t ds σ kn kr=fin) (hne:fin≠.no) (hp:PassesOwn (model prog w) A env E)
  (hn:∀ s' σ' av',Act prog w mg mb base l₀ env sc av₀ s₀ σ' av' s'→Fr (env::l₀) av₀ s av s' av'→kn σ'=fin→Q .next s') (hr:∀ v s' u,K l₀ s₀ s'→aY prog w s₀ s'.heap av₀ v u→kr u=fin→Q (.ret v) s')
  (he:∀ x v s',fin=.exc x→Upx prog w mg base l₀ env s₀ av₀ x v s'→E v s') :
  codeAny (model prog w) A (.forLoop t it b [] env) (fun r s'=>match r with | .ok f=>Q f s' | .error e=>cameBackBy (model prog w) A env E e s') s₂:=by
 have kk:K (env::l₀) s s₂:=K.of k;have Z:=Y.pin (S:=wr) kk (fun a ha=>(hwr a ha).1) (fun a ha=>(hwr a ha).2);have fr0:Fr (env::l₀) av₀ s av s₂ (fun b=>av b∨wr b):=⟨(Y.frk kk).keep,fun b o e h=>h.elim id (fun h=>by rw[(hwr b h).1] at e;exact ns e),(Y.frk kk).pins⟩
 have nw:∀ b,wr b→¬ Mn env b∧¬ av b∧¬ av₀ b∧s₀.heap.get? b=none∧¬ frs (env::l₀) b:=fun b h=>Y.newNot (hwr b h).1;have hM:∀ b,Mn env b→¬ wr b:=fun b m h=>(nw b h).1 m;have not0:∀ b,av₀ b→¬ wr b:=fun b x h=>(nw b h).2.2.1 x;have hf0:∀ b,frs l₀ b→av₀ b:=fun b h=>(Y.fr0 b h).1;refine codeAny_forLoop_any (fun k st=>∃ (i:Nat) (σi:aA) (avi:Addr→Prop),i+k=ds.length∧Act prog w mg mb base l₀ env sc (fun b=>av₀ b∨wr b) s₀ σi avi st∧Fr (env::l₀) av₀ s av st avi∧St i st.heap∧aS body t (ds.drop i) σi kn kr=fin) ?_ ds.length
  ⟨0,σ,_,Nat.zero_add _,Z,fr0,hst,hf⟩
 rintro k' st ⟨i,σi,avi,hi,X,fr,sti,hfi⟩
 by_cases hend:i=ds.length
 ·subst hend;rw[List.drop_length] at hfi;refine wpAny_mono (S.done st _ (fun s'=>Q .next s') sti fun h' tk hk=>hn _ σi (fun b=>avi b∧¬ wr b) ?_ (fr.tr ⟨fun b o e hb=>hk b o (fun hw=>hb (X.bas b (.inr hw))) e,fun _ _ _ h=>h.1,fun b o hb _ e=>hk b o (not0 b hb) e⟩) hfi) (fun r s₁ h₁=>?_) fun _ _ x=>x
  ·exact(X.weaken (fun b hb=>.inl hb) hf0).wildS (S:=wr) (fun b hb=>X.bas b (.inr hb)) (fun b h=>(nw b h).2.2.2.1) hM (fun x a h hw=>(X.ownA x a h).2.2.1 (.inr hw)) hk (fun b hb=>hb.1) (fun b hb hw=>⟨hb,hw⟩) (fun b hb hw=>absurd hw hb.2) (fun b hb=>⟨X.bas b (.inl hb),not0 b hb⟩)
  ·cases r with
   |none=>exact wpAny_execs_nil h₁
   |some v=>exact h₁.elim
 ·have hlt:i < ds.length:=by exact lR hi hend
  rw[List.drop_eq_getElem_cons hlt] at hfi;obtain⟨σ1,hasg,hfi⟩:=cU (show rb (ofP (aW t ds[i] σi)) (fun σ=>body σ (fun σ=>aS body t (ds.drop (i+1)) σ kn kr) kr)=fin from hfi) hne;refine wpAny_mono (S.item i ds[i] st _ ?QQ (List.getElem?_eq_getElem hlt) sti ?body) ?link fun _ _ x=>x
  case link =>
   intro r s₁ h₁;cases r with
   |none=>exact h₁.elim
   |some v=>exact h₁
  intro v h1 tk1 hk1 st1 hrep;have X1:Act prog w mg mb base l₀ env sc (fun b=>av₀ b∨wr b) s₀ σi avi { st with heap:=h1,toks:=tk1 } :=
   X.wildS (S:=wr) (fun b hb=>X.bas b (.inr hb)) (fun b h=>(nw b h).2.2.2.1) hM (fun x a h hw=>(X.ownA x a h).2.2.1 (.inr hw)) hk1 (fun b hb=>hb) (fun b hb _=>hb) (fun b _ hw=>S.live _ _ st1 b hw) X.bas
  have rv:=hrep avi X.inv.gnd.avlt fr.grow;have fr1:Fr (env::l₀) av₀ st avi { st with heap:=h1,toks:=tk1 } avi:=⟨fun b o e hb=>hk1 b o (fun hw=>hb (X.bas b (.inr hw))) e,fun _ _ _ h=>h,fun b o hb _ e=>hk1 b o (not0 b hb) e⟩
  refine Ac hh X1 rv hasg fun s2 Y2 fr2=>wpAny_passesOwn hp ?_;refine hb σ1 _ A s2 avi hA Y2 hfi hne hp (fun s3 σ3 av3 Y3 fr3 e3=>?_) (fun v s' u k r e=>hr v s' u k (r.weaken fun _ h=>.inl h) e) fun x v s' e u=>he x v s' e (u.weaken fun _ h=>.inl h);have frA:=fr1.tr ((fr2.weaken fun b hb=>.inl hb).tr (fr3.weaken fun b hb=>.inl hb));refine⟨k' - 1,by exact jS hi hend,i+1,σ3,av3,by exact jT hi hend,Y3,fr.tr frA,S.frame _ _ _ st1 (fun b o hw e=>fr3.pins b o (.inr hw) (nw b hw).2.2.2.2 (fr2.pins b o (.inr hw) (nw b hw).2.2.2.2 e)) (fr.tr frA).keep,e3⟩
theorem M4{rec:Expr→R V}{t it:Expr}{k:List PyData→R V}{fin:R V}(h:rb (d6 rec hd sc t it) k=fin)(hne:fin≠.no):hd=false:=by
 cases hd with
 |false=>rfl
 |true=>exact absurd h.symm hne
theorem M5{ev:EV}(hbad:∀ σ e,bad e=true→ev σ e=.no)(h:∀ σ e,aF prog w mg mb base n hd (env::l₀) sc σ e (ev σ e)){t it:Expr}{b:List Stmt}{pos:Pos}{xs:List Str}{body:aA→KN→KR→R V}
  (hb:∀ σ,aQ prog w mg mb base n hd l₀ env sc s₀ σ (execs b env) (body σ)) :
  aQ prog w mg mb base n hd l₀ env sc s₀ σ (exec (.For t it b [] pos) env) fun kn kr=>rb (d6 (ev (aA.clear σ xs)) hd sc t it) fun l=>aS body t l (aA.clear σ xs) kn kr:=by
 intro av₀ A s av hA X kn kr fin Q E hf hne hp hn hr he;obtain⟨av1,Y,hsb⟩:=X.clear xs;have hh:=hA.handled (M4 hf hne);have hb':bad it=false:=eU (fun e=>rK (hbad _) e) (Fin.ne ⟨hf,hne⟩);have hs:∀ x,foldedSetIterable it env x=pure x:=qN hb';refine wpAny_For (nD (target:=t) (hbad _) (h _ it) (fun _ _ _ _ _ a _=>h _ a) A env s av1 hA Y.inv ⟨hf,hne⟩ (fun itv s₂ ds x e=>?_) fun x v s' e f=>he x v s' e (Y.up f)) hs;obtain⟨s₁,wr,St,k0,S,hst,hwr,k2,_⟩:=x;exact M3 hA hh (Y.k k0) hb k2 S hst hwr e hne hp (fun s' σ' av' Z f e=>hn s' σ' av' Z ((Fr.sub hsb).tr ((Y.frk k0).tr f)) e) hr he
end
end Mine
namespace Mine
open PySem
section
variable {M:Model} {A:Around} {E:Value→Shared→Prop} {env:Env}
variable {nm q:Str} {C N:Addr} {bs bm:List Value} {hdct:Bool} {sn:List Str} {sub:List Value} {ab:Bool} {col:Option Bool} {dd:Option Addr} {k0 k1 k2 k3 k5:Option Value} {newId:String}
theorem M6{s:Shared}{x:Sem Value}{Q:Flow→Shared→Prop}(hbase:bm.contains (.type "BaseException")=true)(hh:A.handled=none)
  (h:wpAny M A x (fun v s₁=>∃ (e:Addr) (dx:Option Addr) (t:Addr),v=.ref e∧s₁.heap.get? C=some (excClassObj nm q C N bs bm hdct sn sub ab col dd k0 k1 k2 k3 k5 newId)∧s₁.heap.get? e=some { cls:=.ref C,dict:=dx,data:=.fields #[.ref t,.none,.none,.none,.bool false,.none] }∧E (.ref e) s₁) E s) :
  wpAny M A (raiseStmt env (some x) none) Q E s:=by
 have hcB:(Value.ref C::bm).contains (.type "BaseException")=true:=by rw[List.contains_cons,hbase,Bool.or_true]
 unfold raiseStmt;refine wpAny_bind (wpAny_mono h (fun v s₁ h₁=>?_) fun _ _ x=>x);obtain⟨e,dx,t,rfl,hC,he,hE⟩:=h₁;obtain⟨hp,g,d,tk,os⟩:=s₁
 repeat (first | with_reducible refine wpAny_loadPart_at he ?_ | with_reducible refine wpAny_loadPart_at hC ?_ | (with_reducible refine wpAny_isSubtype_exc hC ?_;rw[hcB]) | wp_step)
 exact wpAny_raiseNew_none hh hE
theorem M7{s:Shared}{x:Str}{np cpos pos:Pos}{args:List Expr}{Q:Flow→Shared→Prop}(hbase:bm.contains (.type "BaseException")=true)(hh:A.handled=none)(hs:args.any bad=false)
  (h:wpAny M A (eval (.Name x np) env) (fun f s₁=>f=.ref C∧wpAny M A (spliced (backTo cpos (starEach args env))) (fun vs s₂=>s₂.heap.get? C=some (excClassObj nm q C N bs bm hdct sn sub ab col dd k0 k1 k2 k3 k5 newId) ∧
   wpAny M A (call (.ref C) vs) (fun v s₃=>∃ (e:Addr) (dx:Option Addr) (t:Addr),v=.ref e∧s₃.heap.get? C=some (excClassObj nm q C N bs bm hdct sn sub ab col dd k0 k1 k2 k3 k5 newId)∧s₃.heap.get? e=some { cls:=.ref C,dict:=dx,data:=.fields #[.ref t,.none,.none,.none,.bool false,.none] }∧E (.ref e) s₃) E s₂) E s₁) E s) :
  wpAny M A (exec (.Raise (some (.Call (.Name x np) args [] cpos)) none pos) env) Q E s:=by
 have hplain:=rF (env:=env) (pos:=cpos) hs;rw[arm_exec_Raise];refine wpAny_bind (wpAny_standAt (M6 (C:=C) (nm:=nm) (q:=q) (N:=N) (bs:=bs) (bm:=bm) (hdct:=hdct) (sn:=sn) (sub:=sub) (ab:=ab) (col:=col) (dd:=dd) (k0:=k0) (k1:=k1) (k2:=k2) (k3:=k3) (k5:=k5) (newId:=newId) hbase hh ?_));refine wpAny_bind (wpAny_mono (wpAny_Call_ofName (wpAny_mono h (fun f s₁ h₁=>?_) fun _ _ x=>x)) (fun v s₃ h₃=>wpAny_bind (wpAny_standAt (wpAny_pure h₃))) fun _ _ x=>x);obtain⟨rfl,h₁⟩:=h₁;unfold callWith;refine wpAny_bind (wpAny_holding (hJ hs (wpAny_mono h₁ (fun a s₂ h₂=>wpAny_bind (wpAny_standAt ?_)) fun _ _ x=>x)));obtain⟨hC,h₂⟩:=h₂;simp only[hplain];obtain⟨hp,g,d,tk,os⟩:=s₂;refine wpAny_bind (wpAny_keeperOf_exc hC ?_);exact wpAny_bind (wpAny_mono h₂ (fun v s₃ h₃=>wpAny_bind (wpAny_holding (wpAny_point (wpAny_pure h₃)))) fun _ _ x=>x)
end
section
variable {prog:Program} {w:World} {A:Around} {E:Value→Shared→Prop} {h:Heap} {g:Array GenState} {d:Drawn} {t:Nat} {os:OsState}
variable {nm q:Str} {C N:Addr} {bs bm bmB:List Value} {hdct:Bool} {sn:List Str} {sub:List Value} {ab:Bool} {col:Option Bool} {dd:Option Addr} {k0 k1 k2 k3 k5:Option Value} {B newId initId:String}
end
end Mine
namespace Mine
open PySem Builtin Builtin.ObjectAttr
inductive TailN(h:Heap)(bmB:List Value)(ns:List Str):List Value→Prop
 |base:TailN h bmB ns bmB
 |own {A:Addr} {c0:Value} {dd:Option Addr} {cd:ClassData} {sl:Array (Option Value)} {mA:Str→Option Value} {tl:List Value} :
   h.get? A=some { cls:=c0,dict:=dd,data:=.cls cd,slots:=sl }→h.Ns cd.ns mA→(∀ n∈ns,mA n=none)→TailN h bmB ns tl→TailN h bmB ns (.ref A::tl)
theorem TailN.tail{h:Heap}{bmB tl:List Value}{ns:List Str}(hi:Str.ofString "__init__" ∈ ns)(T:TailN h bmB ns tl):OwnTail h bmB tl:=by
 induction T with
 |base=>exact .base
 |own h1 h2 h3 _ ih=>exact .own h1 h2 (h3 _ hi) ih
theorem TailN.keeps{h h':Heap}{bmB tl:List Value}{ns:List Str}(hk:∀ b o,h.get? b=some o→h'.get? b=some o)(T:TailN h bmB ns tl):TailN h' bmB ns tl:=by
 induction T with
 |base=>exact .base
 |own h1 h2 h3 _ ih=>exact .own (hk _ _ h1) (h2.keeps hk) h3 ih
theorem TailN.less{h:Heap}{bmB tl:List Value}{ns ns':List Str}(hs:∀ n∈ns',n∈ns)(T:TailN h bmB ns tl):TailN h bmB ns' tl:=by
 induction T with
 |base=>exact .base
 |own h1 h2 h3 _ ih=>exact .own h1 h2 (fun n hn=>h3 n (hs n hn)) ih
theorem TailN.refuse{h:Heap}{bmB tl:List Value}{ns:List Str}(T:TailN h bmB ns tl){self:Value}{what:Str}(hp:refuseLoop self what bmB=pure ()):refuseLoop self what tl=pure ():=by
 induction T with
 |base=>exact hp
 |own _ _ _ _ ih=>rw[refuseLoop_ref];exact ih
section
variable {M:Model} {A:Around} {E:Value→Shared→Prop} {h:Heap} {g:Array GenState} {d:Drawn} {t:Nat} {os:OsState}
variable {nm q:Str} {C N:Addr} {bs bm bmB:List Value} {hdct:Bool} {sn:List Str} {sub:List Value} {ab:Bool} {col:Option Bool} {dd:Option Addr} {k0 k1 k2 k3 k5:Option Value} {B newId:String} {mN:Str→Option Value} {ns:List Str}
theorem M8{tl:List Value}{n:Str}{y:Option Value}{Q:Option Value→Shared→Prop}(T:TailN h bmB ns tl)(hn:n∈ns)(hrest:lookupAlong bmB n=pure y)(hq:Q y ⟨h,g,d,t,os⟩):wpAny M A (lookupAlong tl n) Q E ⟨h,g,d,t,os⟩:=by
 induction T with
 |base=>rw[hrest];exact wpAny_pure hq
 |own h1 h2 h3 _ ih =>
  rw[lookupAlong_cons];refine wpAny_bind (wpAny_classOwn_cls h1 h2 ?_);rw[h3 n hn];exact ih
theorem rS{n:Str}{y:Option Value}{Q:Option Value→Shared→Prop}(hC:h.get? C=some (excClassObj nm q C N bs bm hdct sn sub ab col dd k0 k1 k2 k3 k5 newId))(hN:h.Ns N mN)(T:TailN h bmB ns bm)(hbm:mroOf (.type B)=pure bmB)(hn:n∈ns)(h0:mN n=none)
  (hB:typeLookup (.type B) n=pure y) (hq:Q y ⟨h,g,d,t,os⟩):wpAny M A (typeLookup (.ref C) n) Q E ⟨h,g,d,t,os⟩:=by
 have hrest:lookupAlong bmB n=pure y:=by rw[typeLookup_eq,hbm] at hB;exact hB
 rw[typeLookup_eq];refine wpAny_bind (wpAny_mroOf_exc hC ?_);rw[lookupAlong_cons];refine wpAny_bind (wpAny_classOwn_exc hC hN ?_);rw[h0];exact M8 T hn hrest hq
end
end Mine
namespace Mine
open PySem
theorem rT{α:Type}:∀ {ps:List Str} {us:List α} {x:Str} {v:α},(ps.zip us).lookup x=some v→∃ i:Nat,ps[i]?=some x∧us[i]?=some v
 | [],_,_,_,h=>by simp at h
 |_::_,[],_,_,h=>by simp at h
 |p::ps,u::us,x,v,h=>by
  rw[List.zip_cons_cons,List.lookup_cons] at h;refine bcs (x==p) (fun hb=>?_) fun hb=>?_
  ·try rewrite[hb]
   rw[hb] at h;obtain⟨i,h1,h2⟩:=rT h;exact⟨i+1,by simpa using h1,by simpa using h2⟩
  ·try rewrite[hb]
   rw[hb] at h;obtain rfl:=si h;exact⟨0,by simp[beq_iff_eq.mp hb],rfl⟩
theorem rU{α:Type}:∀ {ps:List Str} {us:List α} {x:Str} {v:α} {i:Nat},ps.Nodup→ps[i]?=some x→us[i]?=some v→(ps.zip us).lookup x=some v
 | [],_,_,_,_,_,h,_=>by simp at h
 |_::_,[],_,_,_,_,_,h=>by simp at h
 |p::ps,u::us,x,v,i,hn,h1,h2=>by
  rw[List.zip_cons_cons,List.lookup_cons];cases i with
  |zero =>
   simp at h1 h2;subst h1;subst h2;simp
  |succ i =>
   simp at h1 h2;have hne:(x==p)=false:=by
    rw[beq_eq_false_iff_ne];intro e;subst e;exact(List.nodup_cons.mp hn).1 (List.mem_of_getElem? h1)
   rw[hne];exact rU (List.nodup_cons.mp hn).2 h1 h2
theorem Af:∀ (ps:List Str) (vs:List Value) (f:Str→Option Value),ps.length=vs.length→(∀ (i:Nat) x v,ps[i]?=some x→vs[i]?=some v→f x=some v)→(ps.filterMap fun n=>(f n).map (n,·))=ps.zip vs
 | [],[],_,_,_=>rfl
 | [],_::_,_,h,_=>by simp at h
 |_::_,[],_,h,_=>by simp at h
 |p::ps,v::vs,f,hl,h=>by
  have h0:=h 0 p v rfl rfl;rw[List.filterMap_cons,h0,List.zip_cons_cons];simp only[Option.map_some];rw[Af ps vs f (by simpa using hl) fun i x v' h1 h2=>h (i+1) x v' (by simpa using h1) (by simpa using h2)]
theorem Ag{α:Type}{c:Bool}{x y z:α}(h:c=false)(e:y=z):(if c=true then x else y)=z:=by rw[h];exact e
theorem Ah{fd:FuncData}{as:List Arg}{kwd:List (Option Expr)}{dfl:List Expr}{vals:List Value}(hp:fd.params=⟨[],as,none,[],kwd,none,dfl⟩)(hd:fd.defaults=.none)(hl:as.length=vals.length)(hn:(as.map (·.arg)).Nodup) :
  bindArgs fd ⟨vals,[]⟩=pure ((as.map (·.arg)).zip vals):=by
 have hf:((as.map (·.arg)).filterMap fun n=>(((as.map (·.arg)).zip vals).lookup n).map (n,·))=(as.map (·.arg)).zip vals :=
  Af _ _ _ (by simpa using hl) fun i x v h1 h2=>rU hn h1 h2
 have hm:((as.map (·.arg)).filter fun n=>(((as.map (·.arg)).zip vals).lookup n).isNone)=[]:=by
  rw[List.filter_eq_nil_iff];intro x hx;obtain⟨i,hi⟩:=List.mem_iff_getElem?.mp hx;have hlt:i < vals.length:=by
   have:=(List.getElem?_eq_some_iff.mp hi).1;simp at this;exact Ey hl this
  rw[rU hn hi (List.getElem?_eq_getElem hlt)];simp
 obtain⟨nm,qn,pr,bd,sc,gl,cl,df,kd,dc,pm,an,cd,ct,bt⟩:=fd;obtain rfl:pr=_:=hp;obtain rfl:df=_:=hd;refine Ag (c:=decide (vals.length > (as.map (·.arg)).length)&&true) (by simp[hl]) ?_;dsimp only [List.map_nil,List.nil_append,Option.getD_none,Array.toList_empty,List.length_nil,List.append_nil];simp only[List.drop_nil];refine Ag (c:=!(List.filter (fun n=>(((as.map (·.arg)).zip vals).lookup n).isNone) (List.take ((as.map (·.arg)).length - 0) (as.map (·.arg)))).isEmpty) ?_ ?_
 ·rw[Nat.sub_zero,List.take_length];exact congrArg (fun l=>!List.isEmpty l) hm
 ·dsimp only [List.length_nil,Nat.sub_zero];simp only[List.drop_length];exact congrArg (pure (f:=Sem)) ((congrArg (List.filterMap _) (List.append_nil _)).trans hf)
theorem Ai{kindOf:Str→Option NameKind}:∀ {ps:List Str} {vs:List Value} {m:Str→Option Value} {x:Str},x∉ps→bindL kindOf (ps.zip vs) m x=m x
 | [],_,_,_,_=>rfl
 |_::_,[],_,_,_=>rfl
 |p::ps,v::vs,m,x,h=>by
  show bindL kindOf (ps.zip vs) _ x=m x;simp at h;rw[Ai h.2]
  split
  ·exact if_neg h.1
  ·rfl
theorem rV{kindOf:Str→Option NameKind}:∀ {ps:List Str} {vs:List Value} {m:Str→Option Value} {x:Str} {v:Value} {i:Nat},ps.Nodup→ps[i]?=some x→vs[i]?=some v→kindOf x=some .local→bindL kindOf (ps.zip vs) m x=some v
 | [],_,_,_,_,_,_,h,_,_=>by simp at h
 |_::_,[],_,_,_,_,_,_,h,_=>by simp at h
 |p::ps,u::vs,m,x,v,i,hn,h1,h2,hk=>by
  show bindL kindOf (ps.zip vs) _ x=some v;obtain⟨n1,n2⟩:=List.nodup_cons.mp hn;cases i with
  |zero =>
   simp at h1 h2;subst h1;subst h2;rw[Ai n1,if_pos hk];exact if_pos rfl
  |succ i=>exact rV n2 (by simpa using h1) (by simpa using h2) hk
end Mine
namespace Mine
open PySem Builtin Builtin.ObjectAttr
section
variable {prog:Program} {w:World} {A:Around} {E:Value→Shared→Prop} {h:Heap} {g:Array GenState} {d:Drawn} {t:Nat} {os:OsState} {a dx:Addr} {o:Obj} {vs:Array Value}
 {nm q:Str} {C N:Addr} {bs bm:List Value} {hdct:Bool} {sn:List Str} {sub:List Value} {ab:Bool} {col:Option Bool} {dd:Option Addr} {k0 k1 k2 k3 k5:Option Value} {newId:String} {mN m:Str→Option Value} {ns:List Str} {name:Str} {v:Value}
theorem M9{M:Model}{nameV:Value}{Q:Unit→Shared→Prop}(hC:h.get? C=some (excClassObj nm q C N bs bm hdct sn sub ab col dd k0 k1 k2 k3 k5 newId))(hbm:bm.contains (.type "BaseException")=true)
  (hx:h.get? a=some o) (hc:o.cls=.ref C) (hq:Q () ⟨h,g,d,t,os⟩):wpAny M A (checkBuiltinCall "BaseException.__getattribute__" ⟨[.ref a,nameV],[]⟩) Q E ⟨h,g,d,t,os⟩:=by
 have hk:builtinKind "BaseException.__getattribute__" = some .slot:=by decide +kernel
 have hsplit:splitId "BaseException.__getattribute__" = some ("BaseException", "__getattribute__"):=by decide +kernel
 have hcB:(Value.ref C::bm).contains (.type "BaseException")=true:=by rw[List.contains_cons,hbm,Bool.or_true]
 have ha:=F.args_bexc_ga (.ref a) nameV;simp only[checkBuiltinCall,hk,hsplit];refine wpAny_bind ?_;unfold isInstance
 repeat (first | (with_reducible refine wpAny_loadPart_at hx ?_;rw[hc]) | (with_reducible refine wpAny_isSubtype_exc hC ?_;rw[hcB]) | wp_step)
 exact hq
end
end Mine
namespace Mine
open PySem Builtin Builtin.ObjectAttr
section
variable {prog:Program} {w:World} {A:Around} {E:Value→Shared→Prop} {h:Heap} {g:Array GenState} {d:Drawn} {t:Nat} {os:OsState} {a:Addr} {o:Obj} {vs:Array Value}
 {nm q:Str} {C N:Addr} {bs bm:List Value} {hdct:Bool} {sn:List Str} {sub:List Value} {ab:Bool} {col:Option Bool} {dd:Option Addr} {k0 k1 k2 k3 k5:Option Value} {newId:String} {mN:Str→Option Value} {ns:List Str}
theorem Na:typeLookup (.type "ValueError") "__class__" = pure (some (.builtin "object.__class__")):=by rw[typeLookup_type,builtinLookup_eq_fast];kernel_rfl
theorem Nb{R:Result→Shared→Prop}(hC:h.get? C=some (excClassObj nm q C N bs bm hdct sn sub ab col dd k0 k1 k2 k3 k5 newId))(hbo:bm.contains (.type "object")=true)
  (hx:h.get? a=some o) (hc:o.cls=.ref C) (hq:R (.ok (.ret (.ref C))) ⟨h,g,d,t,os⟩) :
  codeAny (model prog w) A (.call (.builtin "getset_descriptor.__get__") ⟨[.builtin "object.__class__", .ref a,.ref C],[]⟩) R ⟨h,g,d,t,os⟩:=by
 have hT5:(⟨h,g,d,t,os⟩:Shared).TypeIs (.builtin "object.__class__") "getset_descriptor" := F.typeOf_object_class;have hcB:(Value.ref C::bm).contains (.type (".".intercalate ("object.__class__".cutAt '.').dropLast))=true:=by rw[F.owner_object_class,List.contains_cons,hbo,Bool.or_true]
 refine codeAny_call_builtin F.slot_gs_get.plain F.entry_gs_get (F.slot_gs_get.check _ _ _ _ _ _ _ _ hT5 (F.args_gs_get _ _ _) ?_)
 repeat (any_goals (first | assumption | (with_reducible refine wpAny_loadPart_at hx ?_;rw[hc]) | (with_reducible refine wpAny_isSubtype_exc hC ?_;rw[hcB]) | wp_step))
 refine⟨Code.quiet_builtin _ (by decide +kernel),codeAny_builtin F.entry_object_class ?_⟩
 repeat (any_goals (first | assumption | (with_reducible refine wpAny_loadPart_at hx ?_;rw[hc]) | wp_step))
theorem Nc{tk:Tok}{Q:PySem.Fin→Shared→Prop}(hC:h.get? C=some (excClassObj nm q C N bs bm hdct sn sub ab col dd k0 k1 k2 k3 k5 newId))(hN:h.Ns N mN)(T:TailN h bmV ns bm)(hn0:Str.ofString "__class__" ∈ ns)(hn1:mN "__class__" = none)(hbo:bm.contains (.type "object")=true)
  (hx:h.get? a=some o) (hc:o.cls=.ref C) (hq:Q (.done (.ret (.ref C))) ⟨h,g,d,t,os⟩) :
  wpAny (model prog w) A (Builtin.«object.__getattribute__» ⟨[.ref a,.str "__class__" tk],[]⟩) Q E ⟨h,g,d,t,os⟩:=by
 have hT5:(⟨h,g,d,t,os⟩:Shared).TypeIs (.builtin "object.__class__") "getset_descriptor" := F.typeOf_object_class;have f5:=F.typeOf_object_class;have f6:=F.slot_gs_get.lookup;have f7:=F.slot_gs_set.lookup;unfold Builtin.«object.__getattribute__»
 repeat (any_goals (first | assumption | (with_reducible refine wpAny_loadPart_at hx ?_;rw[hc]) | with_reducible refine rS hC hN T F.excBase_ValueError.mroIs hn0 hn1 Na ?_ | wp_step))
 refine Nb hC hbo hx hc ?_
 repeat (any_goals (first | assumption | wp_step))
theorem Nd{tk:Tok}{Q:Value→Shared→Prop}(hC:h.get? C=some (excClassObj nm q C N bs bm hdct sn sub ab col dd k0 k1 k2 k3 k5 newId))(hN:h.Ns N mN)(T:TailN h bmV ns bm)(hbm:bm.contains (.type "BaseException")=true)(hg0:Str.ofString "__getattribute__" ∈ ns)(hg1:mN "__getattribute__" = none)(hh0:Str.ofString "__getattr__" ∈ ns)(hh1:mN "__getattr__" = none)(hn0:Str.ofString "__class__" ∈ ns)(hn1:mN "__class__" = none)(hbo:bm.contains (.type "object")=true)
  (hx:h.get? a=some o) (hc:o.cls=.ref C) (hq:Q (.ref C) ⟨h,g,d,t,os⟩):wpAny (model prog w) A (getAttrBy (.ref a) (.str "__class__" tk) false) Q E ⟨h,g,d,t,os⟩:=by
 have f3:=F.attrBase_ValueError.ga.bind (.ref a);have hx2:(Value.builtin "BaseException.__getattribute__" == Value.builtin "object.__getattribute__")=false:=by decide +kernel
 have hx1:(onTheHeap (Value.ref C)&&Value.builtin "BaseException.__getattribute__" == Value.builtin "object.__getattribute__")=false:=by rw[hx2];rfl
 repeat (any_goals (first | assumption | (with_reducible refine wpAny_loadPart_at hx ?_;rw[hc]) | with_reducible refine rS hC hN T F.excBase_ValueError.mroIs hg0 hg1 F.attrBase_ValueError.ga.lookup ?_ | with_reducible refine rS hC hN T F.excBase_ValueError.mroIs hh0 hh1 F.attrBase_ValueError.noGetattr ?_ | (rw[if_neg (by rw[hx1];exact Bool.false_ne_true)]) | wp_step))
 refine codeAny_call_builtin F.attrBase_ValueError.ga.plain F.entry_bexc_ga (M9 hC hbm hx hc (Nc hC hN T hn0 hn1 hbo hx hc ?_))
 repeat (any_goals (first | assumption | wp_step))
theorem Nf{Q:Option Value→Shared→Prop}(hC:h.get? C=some (excClassObj nm q C N bs bm hdct sn sub ab col dd k0 k1 k2 k3 k5 newId))(hN:h.Ns N mN)(T:TailN h bmV ns bm)(hbm:bm.contains (.type "BaseException")=true)(hg0:Str.ofString "__getattribute__" ∈ ns)(hg1:mN "__getattribute__" = none)(hh0:Str.ofString "__getattr__" ∈ ns)(hh1:mN "__getattr__" = none)(hn0:Str.ofString "__class__" ∈ ns)(hn1:mN "__class__" = none)(hbo:bm.contains (.type "object")=true)
  (hx:h.get? a=some o) (hc:o.cls=.ref C) (hq:Q (some (.ref C)) ⟨h,g,d,t+1,os⟩):wpAny (model prog w) A (getAttr? (.ref a) "__class__") Q E ⟨h,g,d,t,os⟩:=by
 unfold getAttr? getAttrBy?
 repeat (any_goals (first | assumption | with_reducible apply Nd hC hN T hbm hg0 hg1 hh0 hh1 hn0 hn1 hbo hx hc | wp_step))
theorem Ng{D:Addr}{od:Obj}{cdD:ClassData}{dep:Int}{tk:Tok}{b:Bool}{Q:PySem.Fin→Shared→Prop}(hC:h.get? C=some (excClassObj nm q C N bs bm hdct sn sub ab col dd k0 k1 k2 k3 k5 newId))(hN:h.Ns N mN)(T:TailN h bmV ns bm)(hbm:bm.contains (.type "BaseException")=true)(hg0:Str.ofString "__getattribute__" ∈ ns)(hg1:mN "__getattribute__" = none)(hh0:Str.ofString "__getattr__" ∈ ns)(hh1:mN "__getattr__" = none)(hn0:Str.ofString "__class__" ∈ ns)(hn1:mN "__class__" = none)(hbo:bm.contains (.type "object")=true)
  (hx:h.get? a=some o) (hc:o.cls=.ref C) (hD:h.get? D=some od) (hDc:od.cls=.type "type") (hDd:od.data=.cls cdD) (hsub:(Value.ref C::bm).contains (.ref D)=b) (hq:∀ tk,Q (.done (.ret (.bool b))) ⟨h,g,d,tk,os⟩) :
  wpAny (model prog w) A (Builtin.«isinstance.nested» ⟨[.ref a,.ref D,.int dep tk],[]⟩) Q E ⟨h,g,d,t,os⟩:=by
 have hq0:=hq t;have hq1:=hq (t+1)
 by_cases he:C=D
 ·subst he;have hb:b=true:=by rw[← hsub,List.contains_cons,beq_self_eq_true,Bool.true_or]
  subst hb
  repeat (any_goals (first | assumption | (with_reducible refine wpAny_loadPart_at hx ?_;rw[hc]) | wp_step))
 ·have hne:(Value.ref C==Value.ref D)=false:=beq_false_of_ne fun e=>he (Value.ref.inj e);cases b with
  |true=>repeat (any_goals (first | assumption | (with_reducible refine wpAny_loadPart_at hx ?_;rw[hc]) | (with_reducible refine wpAny_loadPart_at hD ?_;rw[hDc]) | (with_reducible refine wpAny_loadPart_at hD ?_;rw[hDd]) | (with_reducible refine wpAny_isSubtype_exc hC ?_;rw[hsub]) | wp_step))
  |false=>repeat (any_goals (first | assumption | (with_reducible refine wpAny_loadPart_at hx ?_;rw[hc]) | (with_reducible refine wpAny_loadPart_at hD ?_;rw[hDc]) | (with_reducible refine wpAny_loadPart_at hD ?_;rw[hDd]) | (with_reducible refine wpAny_isSubtype_exc hC ?_;rw[hsub]) | with_reducible refine Nf hC hN T hbm hg0 hg1 hh0 hh1 hn0 hn1 hbo hx hc ?_ | wp_step))
theorem Nh{dep:Int}{tk:Tok}{Q:PySem.Fin→Shared→Prop}(hC:h.get? C=some (excClassObj nm q C N bs bm hdct sn sub ab col dd k0 k1 k2 k3 k5 newId))(hx:h.get? a=some o)(hc:o.cls=.ref C)(hbv:bm.contains (.type "ValueError")=true)(hq:Q (.done (.ret (.bool true))) ⟨h,g,d,t,os⟩) :
  wpAny (model prog w) A (Builtin.«isinstance.nested» ⟨[.ref a,.type "ValueError", .int dep tk],[]⟩) Q E ⟨h,g,d,t,os⟩:=by
 have hsub:(Value.ref C::bm).contains (.type "ValueError")=true:=by rw[List.contains_cons,hbv,Bool.or_true]
 have hty:typeOf (.type "ValueError")=pure (.type "type"):=by kernel_rfl
 have hne:(Value.ref C==Value.type "ValueError")=false:=rfl
 repeat (any_goals (first | assumption | (with_reducible refine wpAny_loadPart_at hx ?_;rw[hc]) | (with_reducible refine wpAny_isSubtype_exc hC ?_;rw[hsub]) | wp_step))
end
section
variable {prog:Program} {w:World} {A:Around} {E:Value→Shared→Prop} {s:Shared} {Q:Value→Shared→Prop} {a C N D:Addr} {o od:Obj} {cdD:ClassData}
 {nm q:Str} {bs bm:List Value} {hdct:Bool} {sn:List Str} {sub:List Value} {ab:Bool} {col:Option Bool} {dd:Option Addr} {k0 k1 k2 k3 k5:Option Value} {newId:String} {mN:Str→Option Value} {ns:List Str} {b:Bool}
theorem Aj(hC:s.heap.get? C=some (excClassObj nm q C N bs bm hdct sn sub ab col dd k0 k1 k2 k3 k5 newId))(hN:s.heap.Ns N mN)(T:TailN s.heap bmV ns bm)(hbm:bm.contains (.type "BaseException")=true)(hg0:Str.ofString "__getattribute__" ∈ ns)(hg1:mN "__getattribute__" = none)(hh0:Str.ofString "__getattr__" ∈ ns)(hh1:mN "__getattr__" = none)(hn0:Str.ofString "__class__" ∈ ns)(hn1:mN "__class__" = none)(hbo:bm.contains (.type "object")=true)
  (hx:s.heap.get? a=some o) (hc:o.cls=.ref C) (hD:s.heap.get? D=some od) (hDc:od.cls=.type "type") (hDd:od.data=.cls cdD) (hsub:(Value.ref C::bm).contains (.ref D)=b) (hq:∀ tk,Q (.bool b) { s with toks:=tk }):wpAny (model prog w) A (call (.builtin "isinstance") [.ref a,.ref D]) Q E s:=by
 obtain⟨h,g,d,t,os⟩:=s;refine call_isinstance (S:=fun _ R s=>(∃ tk,s=⟨h,g,d,tk,os⟩)∧∀ tk,R (.ok (.ret (.bool b))) ⟨h,g,d,tk,os⟩) (fun _ _ _ _ s hs=>?_) ⟨⟨t,rfl⟩,fun tk=>hq tk⟩;obtain⟨⟨tk,rfl⟩,hs⟩:=hs;exact isinstance_outer (Ng hC hN T hbm hg0 hg1 hh0 hh1 hn0 hn1 hbo hx hc hD hDc hDd hsub fun tk=>hs tk) (by intro q;cases q)
theorem Ak(hC:s.heap.get? C=some (excClassObj nm q C N bs bm hdct sn sub ab col dd k0 k1 k2 k3 k5 newId))(hx:s.heap.get? a=some o)(hc:o.cls=.ref C)(hbv:bm.contains (.type "ValueError")=true)(hq:∀ tk,Q (.bool true) { s with toks:=tk }):wpAny (model prog w) A (call (.builtin "isinstance") [.ref a,.type "ValueError"]) Q E s:=by
 obtain⟨h,g,d,t,os⟩:=s;refine call_isinstance (S:=fun _ R s=>(∃ tk,s=⟨h,g,d,tk,os⟩)∧∀ tk,R (.ok (.ret (.bool true))) ⟨h,g,d,tk,os⟩) (fun _ _ _ _ s hs=>?_) ⟨⟨t,rfl⟩,fun tk=>hq tk⟩;obtain⟨⟨tk,rfl⟩,hs⟩:=hs;exact isinstance_outer (Nh hC hx hc hbv (hs tk)) (by intro q;cases q)
end
end Mine
namespace Mine
open PySem
section
variable {prog:Program} {w:World} {A:Around} {E:Value→Shared→Prop}
inductive ClsI(h:Heap)(C:Addr)(bm:List Value)(ps:List Str):Prop where
 |mk (N nm q bs hdct sn sub ab col dd k0 k1 k2 k3 k5 mN) (a:h.get? C=some (excClassObj nm q C N bs bm hdct sn sub ab col dd k0 k1 k2 k3 k5 "ValueError.__new__")) (b:h.Ns N mN) (d:∀ n∈hid,mN n=none) (e:TailN h bmV (Str.ofString "__init__" :: hid) bm):ClsI h C bm ps
inductive ClsP(h:Heap)(C:Addr)(bm:List Value):Prop where
 |mk (N nm q bs hdct sn sub ab col dd k0 k1 k2 k3 k5 mN) (a:h.get? C=some (excClassObj nm q C N bs bm hdct sn sub ab col dd k0 k1 k2 k3 k5 "ValueError.__new__")) (b:h.Ns N mN) (c:mN "__init__" = none) (d:∀ n∈hid,mN n=none) (e:TailN h bmV (Str.ofString "__init__" :: hid) bm):ClsP h C bm
theorem OwnTail.has{h:Heap}{bm:List Value}(T:OwnTail h bmV bm){X:String}(hx:bmV.contains (.type X)=true):bm.contains (.type X)=true:=T.hasType hx
theorem ClsI.ok{base:Heap}{C:Addr}{bm:List Value}{ps:List Str}(x:ClsI base C bm ps):ClsOk prog w base C bm (some ps):=by
 obtain⟨N,nm,q,bs,hdct,sn,sub,ab,col,dd,k0,k1,k2,k3,k5,mN,hC,hN,hn,TT⟩:=x;have T:=TT.tail (.head _);exact⟨⟨nm,q,N,bs,hdct,sn,sub,ab,col,dd,k0,k1,k2,k3,k5,_,hC⟩,OwnTail.has T (by decide +kernel),OwnTail.has T (by decide +kernel),fun A vals s E Q hd hb ha hq=>ha.elim,fun A s e o D bm' b E Q hb hx hc hD hs hq=>by
  obtain⟨_,_,_,_,_,_,_,_,_,_,_,_,_,_,_,_,hD⟩:=hD;exact Aj (hb _ _ hC) (hN.keeps hb) (TT.keeps hb) (OwnTail.has T (by decide +kernel)) (.tail _ (.head _)) (hn _ (.head _)) (.tail _ (.tail _ (.head _))) (hn _ (.tail _ (.head _))) (.tail _ (.tail _ (.tail _ (.head _)))) (hn _ (.tail _ (.tail _ (.head _)))) (OwnTail.has T (by decide +kernel)) hx hc (hb _ _ hD) rfl rfl hs hq,
  fun A s e o E Q hb hx hc hq=>Ak (hb _ _ hC) hx hc (OwnTail.has T (by decide +kernel)) hq⟩
theorem ClsP.ok{base:Heap}{C:Addr}{bm:List Value}(x:ClsP base C bm):ClsOk prog w base C bm none:=by
 obtain⟨N,nm,q,bs,hdct,sn,sub,ab,col,dd,k0,k1,k2,k3,k5,mN,hC,hN,hni,hn,TT⟩:=x;have T:=TT.tail (.head _);refine⟨⟨nm,q,N,bs,hdct,sn,sub,ab,col,dd,k0,k1,k2,k3,k5,_,hC⟩,OwnTail.has T (by decide +kernel),OwnTail.has T (by decide +kernel),fun A vals s E Q hd hb ha hq=>?_,fun A s e o D bm' b E Q hb hx hc hD hs hq=>by
  obtain⟨_,_,_,_,_,_,_,_,_,_,_,_,_,_,_,_,hD⟩:=hD;exact Aj (hb _ _ hC) (hN.keeps hb) (TT.keeps hb) (OwnTail.has T (by decide +kernel)) (.tail _ (.head _)) (hn _ (.head _)) (.tail _ (.tail _ (.head _))) (hn _ (.tail _ (.head _))) (.tail _ (.tail _ (.tail _ (.head _)))) (hn _ (.tail _ (.tail _ (.head _)))) (OwnTail.has T (by decide +kernel)) hx hc (hb _ _ hD) rfl rfl hs hq,
  fun A s e o E Q hb hx hc hq=>Ak (hb _ _ hC) hx hc (OwnTail.has T (by decide +kernel)) hq⟩
 have ha:vals.length=1:=ha;obtain⟨h,g,d,t,os⟩:=s;refine wpAny_call_exc_subT F.excBase_ValueError (T.keeps hb) (hb _ _ hC) (hN.keeps hb) hni (fun h' e m=>?_) (by have hZ:sizeLine=16777216:=rfl;exact Ez ha hZ);obtain⟨tt,he,_,_⟩:=m.there;exact hq _ _ ⟨⟨h',t,rfl,m.keeps⟩,e,none,tt,rfl,m.new,he⟩
end
end Mine
namespace Mine
open PySem PyProof.Rows.TI
section
variable {prog:Program} {w:World} {mg mb:Str→Option Value} {base:Heap} {l l₀:List Env} {env:Env}
noncomputable def dG(h:Heap)(l:List Env)(e T:Addr):Heap:=gone h (e::T::l.filterMap (·.frame))
theorem nI{h:Heap}{e T:Addr}:(dG h l e T).StaysIn h:=fun _ _ x=>(gone_some x).2
theorem rW{h:Heap}{e T:Addr}:(dG h l e T).get? e=none:=gone_none List.mem_cons_self
theorem rX{h:Heap}{e T:Addr}:(dG h l e T).get? T=none:=gone_none (List.mem_cons_of_mem _ List.mem_cons_self)
theorem nJ{h:Heap}{e T b:Addr}(f:frs l b):(dG h l e T).get? b=none:=gone_none (List.mem_cons_of_mem _ (List.mem_cons_of_mem _ f))
theorem rY{h:Heap}{e T b:Addr}{o:Obj}(h1:b≠e)(h2:b≠T)(h3:¬ frs l b)(x:h.get? b=some o):(dG h l e T).get? b=some o :=
 (gone_get fun m=>by
  rcases List.mem_cons.mp m with m | m
  ·exact h1 m
  ·rcases List.mem_cons.mp m with m | m
   ·exact h2 m
   ·exact h3 m).trans x
theorem nK{h B:Heap}:∀ {l:List Env},h.FunFrames base l→(∀ b,frs l b→B.get? b=none)→h.FunFrames B l
 := by
 intro l
 induction l with
 |nil=>exact fun _ _=>trivial
 |cons env r ih =>
  intro f k;obtain⟨hk,⟨L,o,hf,_,ho,hd⟩,hr⟩:=f;exact⟨hk,⟨L,o,hf,k L (by unfold frs;rw[List.filterMap_cons,hf];exact List.mem_cons_self),ho,hd⟩,ih hr fun b f=>k b (by unfold frs;rw[List.filterMap_cons,hf];exact List.mem_cons_of_mem _ f)⟩
theorem Rep.monoF{h h':Heap}{av:Addr→Prop}(hk:∀ b o,¬ av b→(∀ vs,o.data≠.fields vs)→h.get? b=some o→h'.get? b=some o){v:Value}{d:PyData}(r:Rep prog w h av v d):Rep prog w h' av v d:=by
 induction r with
 |none=>exact .none
 |bool b=>exact .bool b
 |int i t=>exact .int i t
 |str x t hx=>exact .str x t hx
 |list h1 h2 h3 h4 _ ih=>obtain⟨k,e⟩:=h2;exact .list h1 ⟨k,hk _ _ h1 nofun e⟩ h3 h4 ih
 |tuple h1 h2 h3 h4 _ ih=>obtain⟨k,e⟩:=h2;exact .tuple h1 ⟨k,hk _ _ h1 nofun e⟩ h3 h4 ih
 |dict h1 h2 h3 h4 h5 _ ih =>
  obtain⟨o,es,ep,e,x,hd,r⟩:=h2;exact .dict h1 ⟨o,es,ep,hk _ o h1 (fun vs q=>by rw[hd] at q;cases q) e,x,hd,r⟩ h3 h4 h5 ih
theorem fE.fly{h h':Heap}{av:Addr→Prop}{e T:Addr}{od:Option Addr}{fs:List (Str×PyData)}(f:fE prog w h av od fs)(st:(dG h l e T).StaysIn h')(fav:∀ b,frs l b→av b)
  (hE:∀ o,h.get? e=some o→∃ vs,o.data=.fields vs) (hT:∀ o,h.get? T=some o→∃ vs,o.data=.fields vs):fE prog w h' av od fs:=by
 have hk:∀ b o,¬ av b→(∀ vs,o.data≠.fields vs)→h.get? b=some o→h'.get? b=some o:=fun b o n hd e'=>st b o (rY (fun x=>by obtain⟨vs,q⟩:=hE o (x▸e');exact hd vs q) (fun x=>by obtain⟨vs,q⟩:=hT o (x▸e');exact hd vs q) (fun f=>n (fav b f)) e');rcases f with f | ⟨d,m,e1,n,hn,r⟩
 ·exact .inl f
 ·obtain⟨o,es,ep,ho,hd,hr⟩:=hn;refine .inr ⟨d,m,e1,n,⟨o,es,ep,hk d o n (fun vs q=>by rw[hd] at q;cases q) ho,hd,hr⟩,fun p x hp=>?_⟩;obtain⟨v,g1,g2⟩:=r p x hp;exact⟨v,g1,g2.monoF hk⟩
theorem Ni{s s':Shared}{h':Heap}{e T C:Addr}{a0 fl:Value}(k:K l s s')(ff:s'.heap.FunFrames base l)(se:s.heap.get? e=none)(sT:s.heap.get? T=none)
  (st:(dG s'.heap l e T).StaysIn h') (up:s'.heap.UpToSlots h') (tr:h'.TracedAtW (dG s'.heap l e T) e (.ref C) a0 fl) :
  K l s { s' with heap:=h' }∧Tb s h' e fl∧∃ oe vs,h'.get? e=some oe∧oe.cls=.ref C∧oe.data=.fields vs:=by
 have ne:∀ {b:Addr} {o:Obj},s.heap.get? b=some o→b≠e∧b≠T:=fun x=>⟨fun y=>(by rw[y,se] at x;exact ns x),fun y=>(by rw[y,sT] at x;exact ns x)⟩
 have at1:∀ b o,¬ frs l b→s.heap.get? b=some o→h'.get? b=some o:=fun b o n x=>st b o (rY (ne x).1 (ne x).2 n (k.at n x));have at2:∀ b o,frs l b→s.heap.get? b=some o→∃ sl,h'.get? b=some { o with slots:=sl }∧∀ vs,o.data≠.fields vs:=fun b o f x=>by
  obtain⟨sl,x'⟩:=k.up x;obtain⟨_,o',e1,e2⟩:=ff.mem f;rw[x'] at e1;obtain rfl:=si e1;obtain⟨sl',x''⟩:=up b _ x' e2;exact⟨sl',x'',e2⟩
 obtain⟨oe,vs,T',oT,ts,g1,⟨g2,g3⟩,g4,g5,g6,g7,g8,g9,g10⟩:=tr;refine⟨?_,⟨oe,vs,T',oT,ts,g1,g4,g5,?_,g7,g8,g9,g10⟩,oe,vs,g1,g2,g4⟩
 ·obtain⟨h,t,rfl,_,_⟩:=k;refine⟨h',t,rfl,at1,fun b o x=>?_⟩
  by_cases f:frs l b
  ·obtain⟨sl,h,_⟩:=at2 b o f x;exact⟨sl,h⟩
  ·exact⟨o.slots,at1 b o f x⟩
 ·refine ocs (s.heap.get? T') (fun x=>?_) fun o x=>?_
  ·try rewrite[x]
   rfl
  ·try rewrite[x]
   by_cases f:frs l T'
   ·obtain⟨sl,y,z⟩:=at2 T' o f x;rw[g8] at y;obtain rfl:=si y;exact absurd g9 (z ts)
   ·have:=at1 T' o f x;rw[rY (ne x).1 (ne x).2 f (k.at f x)] at g6;exact sn g6
theorem Tb.tr{s:Shared}{h B:Heap}{e C:Addr}{fl:Value}{oe:Obj}(x:Tb s h e fl)(he:h.get? e=some oe)(hc:oe.cls=.ref C)(hB:∀ T,(∃ vs,oe.data=.fields vs∧vs[1]?=some (.ref T))→B.get? T=none):∃ a0,h.TracedAtW B e (.ref C) a0 fl:=by
 obtain⟨oe',vs,T,oT,ts,g1,g2,g3,g4,g5,g6,g7,g8⟩:=x;rw[he] at g1;obtain rfl:=si g1;have hs:=(Array.getElem?_eq_some_iff.mp g3).1;exact⟨vs[0],oe,vs,T,oT,ts,he,⟨hc,Array.getElem?_eq_getElem (by omega)⟩,g2,g3,hB T ⟨vs,g2,g3⟩,g5,g6,g7,g8⟩
theorem Tb.place{s:Shared}{h:Heap}{e:Addr}{fl:Value}{oe:Obj}(x:Tb s h e fl)(he:h.get? e=some oe):∃ T,s.heap.get? T=none∧∀ T',(∃ vs,oe.data=.fields vs∧vs[1]?=some (.ref T'))→T'=T:=by
 obtain⟨oe',vs,T,oT,ts,g1,g2,g3,g4,_⟩:=x;rw[he] at g1;obtain rfl:=si g1;refine⟨T,g4,fun T' ⟨vs',h1,h2⟩=>?_⟩;rw[g2] at h1;cases h1;rw[g3] at h2;cases h2;rfl
end
end Mine
namespace Mine
open PySem
inductive Calm{α:Type}:Sem α→Prop where
 |pure (a:α):Calm (.pure a)
 |raise (e:Value):Calm (.raise e)
 |unsup (w:String):Calm (.unsupported w)
 |reg (a:Addr) (k:Unit→Sem α):Calm (.register a k)
 |load {a:Addr} {p:Option Value} {k:Obj→Sem α} (h:∀ o,Calm (k o)):Calm (.load a p k)
 |upd {a:Addr} {p:Option Value} {f:Obj→Obj} {k:Unit→Sem α} (hf:∀ o:Obj,(f o).dict=o.dict∧(f o).isFreed=o.isFreed) (h:Calm (k ())):Calm (.update a p f k)
 |alloc {o:Obj} {k:Addr→Sem α} (h:∀ a,Calm (k a)):Calm (.alloc o k)
 |stack {k:List (Code×Pos)→Sem α} (h:∀ l,Calm (k l)):Calm (.stack k)
noncomputable def DK(s s':Shared):Prop:=∀ b o,s.heap.get? b=some o→∃ o',s'.heap.get? b=some o'∧o'.dict=o.dict
theorem DK.rf(s:Shared):DK s s:=fun _ o e=>⟨o,e,rfl⟩
theorem DK.tr{s s' s'':Shared}(x:DK s s')(y:DK s' s''):DK s s'':=fun b o e=>by
 obtain⟨o1,e1,d1⟩:=x b o e;obtain⟨o2,e2,d2⟩:=y b o1 e1;exact⟨o2,e2,d2.trans d1⟩
theorem Calm.bind{α β:Type}{t:Sem α}{f:α→Sem β}(c:Calm t)(h:∀ a,Calm (f a)):Calm (t.bind f):=by
 induction c with
 |pure a=>exact h a
 |raise e=>exact .raise e
 |unsup w=>exact .unsup w
 |reg a k=>exact .reg a _
 |load _ ih=>exact .load fun o=>ih o
 |upd hf _ ih=>exact .upd hf ih
 |alloc _ ih=>exact .alloc fun a=>ih a
 |stack _ ih=>exact .stack fun l=>ih l
theorem DK.push(s:Shared)(o:Obj):DK s { s with heap:=s.heap.push o }:=fun _ x e=>⟨x,Heap.get?_push_of_some o e,rfl⟩
theorem DK.upd(s:Shared){a:Addr}{f:Obj→Obj}(hf:∀ o:Obj,(f o).dict=o.dict∧(f o).isFreed=o.isFreed):DK s { s with heap:=s.heap.update a f }:=fun b x e=>by
 by_cases h:a=b
 ·subst h;exact⟨f x,Heap.get?_update_self f e ((hf x).2.trans (Heap.get?_some_iff.mp e).2),(hf x).1⟩
 ·exact⟨x,(Heap.get?_update_other s.heap f h).trans e,rfl⟩
theorem Calm.keeps{α:Type}{M:Model}{Γ:PySem.Ctx}{t:Sem α}(c:Calm t):∀ {Q:α→Pos→Shared→Prop} {E:Value→Pos→Shared→Prop} {p:Pos} {s s0:Shared},DK s0 s→Sem.wp M Γ t Q E p s→Sem.wp M Γ t (fun a p s'=>Q a p s'∧DK s0 s') (fun e p s'=>E e p s'∧DK s0 s') p s:=by
 induction c with
 |pure a=>intro Q E p s s0 d h;exact⟨h,d⟩
 |raise e=>intro Q E p s s0 d h;exact⟨h,d⟩
 |unsup w=>intro Q E p s s0 d h;exact h.elim
 |reg a k=>intro Q E p s s0 d h;exact h.elim
 |load _ ih=>intro Q E p s s0 d h;obtain⟨o,e,h⟩:=h;exact⟨o,e,ih o d h⟩
 |upd hf _ ih=>intro Q E p s s0 d h;exact⟨h.1,ih (d.tr (DK.upd s hf)) h.2⟩
 |alloc _ ih=>intro Q E p s s0 d h;exact ih _ (d.tr (DK.push s _)) h
 |stack _ ih=>intro Q E p s s0 d h;exact ih _ d h
theorem Calm.any{α:Type}{M:Model}{A:Around}{t:Sem α}(c:Calm t){Q:α→Shared→Prop}{E:Value→Shared→Prop}{s:Shared}(h:wpAny M A t Q E s):wpAny M A t (fun a s'=>Q a s'∧DK s s') (fun e s'=>E e s'∧DK s s') s :=
 fun Γ p hΓ=>c.keeps (DK.rf s) (h Γ p hΓ)
theorem fK{α:Type}{c:Prop}[Decidable c]{a b:Sem α}(h1:Calm a)(h2:Calm b):Calm (if c then a else b):=by
 by_cases h:c
 ·rw[if_pos h];exact h1
 ·rw[if_neg h];exact h2
theorem nN(v:Value)(i:Nat):Calm (field v i):=by
 refine Calm.bind ?_ fun vs=>?_
 ·cases v with
  |ref a =>
   refine .load fun o=>?_;show Calm (match o.data with | .fields vs=>pure vs | _=>unsupported "internal:no-fields");cases o.data with
   |fields vs=>exact .pure _
   |_=>exact .unsup _
  |_=>exact .unsup _
 ·cases vs[i]? with
  |none=>exact .unsup _
  |some x=>exact .pure _
theorem Nj(f:Array Value→Array Value)(o:Obj):(Obj.mapFields f o).dict=o.dict∧(Obj.mapFields f o).isFreed=o.isFreed:=by
 obtain⟨c,d,dt,sl⟩:=o;cases dt<;>exact⟨rfl,rfl⟩
theorem Al(a:Addr){f:Obj→Obj}(hf:∀ o:Obj,(f o).dict=o.dict∧(f o).isFreed=o.isFreed):Calm (update a f):=.upd hf (.pure _)
theorem rZ(v:Value)(i:Nat)(x:Value):Calm (setField v i x):=by
 cases v with
 |ref a =>
  refine .load fun o=>?_;show Calm (match o.data with | .fields vs=>if i < vs.size then update a (Obj.mapFields (·.setIfInBounds i x)) else unsupported "internal:no-such-field" | _=>unsupported "internal:write-to-non-record");cases o.data with
  |fields vs=>exact fK (Al a (Nj _)) (.unsup _)
  |_=>exact .unsup _
 |_=>exact .unsup _
theorem r6(v:Value)(f:Option Addr):Calm (setFlight v f) :=
 Calm.bind (nN v 1) fun _=>fK (rZ ..) (.pure _)
theorem Nk(ty:String)(vs:List Value):Calm (newFields ty vs):=by
 unfold newFields newObj;exact fK (.unsup _) (.alloc fun _=>.pure _)
theorem Nl(env:Env)(outer:List Env):Calm (behindIsImport env outer) :=
 fK (.pure _) (fK (.pure _) (Calm.bind (nN _ _) fun _=>.pure _))
theorem Nm(env:Env)(b:Bool)(outer:List Env):Calm (keptBack env b outer):=by
 cases outer with
 |nil=>exact fK (.pure _) (Calm.bind (Calm.bind (.stack fun _=>.pure _) fun _=>.pure _) fun _=>.pure _)
 |cons=>exact .pure _
theorem Nn(l:List Env):Calm (readyFrames l):=by
 induction l with
 |nil=>exact .pure _
 |cons env outer ih =>
  unfold readyFrames;cases env.frame with
  |none=>exact .unsup _
  |some f =>
   refine .load fun o=>fK (.pure _) (Calm.bind (Nl ..) fun b=>Calm.bind (Nm ..) fun v=>Calm.bind (Al f fun o=>⟨rfl,by obtain⟨c,d,dt,sl⟩:=o;cases dt<;>rfl⟩) fun _=>ih)
theorem No(env:Env):Calm (frameOf env):=by
 refine Calm.bind (Calm.bind (.stack fun _=>.pure _) fun l=>.pure _) fun l=>Calm.bind ?_ fun o=>?_
 ·cases l.dropWhile (·.frame != env.frame) with
  |nil=>exact .pure _
  |cons e r=>exact Calm.bind (Nn _) fun _=>.pure _
 ·cases o with
  |none=>exact .unsup _
  |some f=>exact .pure _
theorem Np(f:Addr)(b:Bool):Calm (entryPlaceOf f b):=by
 refine .stack fun acts=>?_;show Calm (match acts.find? fun (c,_)=>c.env?.bind (·.frame)==some f with | some (_,pos)=>_ | none=>_);cases acts.find? fun (c,_)=>c.env?.bind (·.frame)==some f with
 |none=>exact .pure _
 |some x=>exact .pure _
theorem Am(e:Value)(env:Env):Calm (noteFrame e env):=by
 have last:∀ (f:Addr) (head:Value),Calm (do PySem.setField e 1 (← EntryCells.newEntry head (← frameOf env) .none (rawInt f) .none (← entryPlaceOf f (head != .none)))):=fun f head =>
  Calm.bind (No env) fun _=>Calm.bind (Np ..) fun _=>Calm.bind (Nk ..) fun _=>rZ ..
 unfold noteFrame;cases env.frame with
 |none=>exact .unsup _
 |some f =>
  refine Calm.bind (nN e 1) fun head=>fK (Calm.bind (nN head 3) fun x=>fK (.pure _) (Calm.bind (rZ ..) fun _=>last f head)) (last f head)
theorem Nq(env:Env)(e:Value):Calm (leaving env e):=Calm.bind (Am e env) fun _=>r6 ..
end Mine
namespace Mine
open PySem PyProof.Rows.TI
section
variable {prog:Program} {w:World} {mg mb:Str→Option Value} {base:Heap} {n:Nat} {hd:Bool} {l₀:List Env} {env:Env} {sc:Scope} {av₀:Addr→Prop} {s₀:Shared} {σ:aA} {av:Addr→Prop} {s:Shared}
theorem K.wide{s s':Shared}(k:K l₀ s s'):K (env::l₀) s s':=by
 obtain⟨h,t,rfl,k,u⟩:=k;refine⟨h,t,rfl,fun b o n e=>k b o (fun f=>n ?_) e,u⟩;unfold frs at f ⊢;rw[List.filterMap_cons];cases env.frame with
 |none=>exact f
 |some L=>exact List.mem_cons_of_mem _ f
inductive Stn(s₀:Shared)(l:List Env)(e C:Addr)(s' s'':Shared):Prop where
 |mk (T:Addr) (h':Heap) (a0:Value) (sT:s₀.heap.get? T=none) (hT:∀ o,s'.heap.get? T=some o→∃ vs,o.data=.fields vs) (es:s''={ s' with heap:=h' }) (st:(dG s'.heap l e T).StaysIn h') (up:s'.heap.UpToSlots h') (tr:h'.TracedW (dG s'.heap l e T) e (.ref C) a0):Stn s₀ l e C s' s''
theorem Tb.placeF{s:Shared}{h:Heap}{e:Addr}{fl:Value}{oe:Obj}(x:Tb s h e fl)(he:h.get? e=some oe):∃ T,s.heap.get? T=none∧(∀ T',(∃ vs,oe.data=.fields vs∧vs[1]?=some (.ref T'))→T'=T)∧∀ o,h.get? T=some o→∃ vs,o.data=.fields vs:=by
 obtain⟨oe',vs,T,oT,ts,g1,g2,g3,g4,g5,g6,g7,g8⟩:=x;rw[he] at g1;obtain rfl:=si g1;refine⟨T,g4,fun T' h=>?_,fun o ho=>?_⟩
 ·obtain⟨vs',h1,h2⟩:=h;rw[g2] at h1;obtain rfl:=Data.fields.inj h1;rw[g3] at h2;exact(Value.ref.inj (si h2)).symm
 ·rw[g6] at ho;obtain rfl:=si ho;exact⟨ts,g7⟩
theorem Stn.on{s₀ s' s'':Shared}{l:List Env}{av:Addr→Prop}{e C:Addr}{x:X}{oe:Obj}{vs:Array Value}(S:Stn s₀ l e C s' s'')(dk:DK s' s'')(k:K l s₀ s')(ff:s'.heap.FunFrames base l)(se:s₀.heap.get? e=none)(fav:∀ b,frs l b→av b)
  (na:¬ av e) (he:s'.heap.get? e=some oe) (hd:oe.data=.fields vs) (hm:mg x.cls=some (.ref C)) (hx:fE prog w s'.heap av oe.dict x.fields):K l s₀ s''∧Tb s₀ s''.heap e .none∧ExAt prog w mg s''.heap av e x:=by
 obtain⟨T,h',a0,sT,hT,rfl,st,up,tr⟩:=S;obtain⟨k',t',oe',vs',e1,e2,e3⟩:=Ni k ff se sT st up tr.at;obtain⟨o2,f1,f2⟩:=dk e oe he;replace f1:h'.get? e=some o2:=f1;rw[e1] at f1;obtain rfl:=si f1;exact⟨k',t',na,oe',vs',C,e1,e3,e2,hm,f2.symm▸hx.fly st fav (fun o ho=>by rw[he] at ho;obtain rfl:=si ho;exact⟨vs,hd⟩) hT⟩
theorem Nr{A:Around}{x:X}{v:Value}{s':Shared}{Q:Unit→Shared→Prop}{E:Value→Shared→Prop}(hfr:A.frames=some (env::l₀))(hf:env.frame=some env.locals)(hL:s₀.heap.get? env.locals=none)(u:Upx prog w mg base l₀ env s₀ av₀ x v s')
  (hq:∀ s'',Fly prog w mg l₀ s₀ av₀ x v s''→Q () s''):wpAny (model prog w) A (leaving env v) Q E s':=by
 obtain⟨k,ff,st,e,rfl,se,⟨na,oe,vs,C,he,hd,hc,hm,hx⟩,ht⟩:=u;have key:wpAny (model prog w) A (leaving env (.ref e)) (fun _ s''=>Stn s₀ (env::l₀) e C s' s'') E s':=by
  rcases ht with ht | ⟨oe',vs',e1,e2,e3⟩
  ·obtain⟨T,sT,hT,hTf⟩:=ht.placeF he;obtain⟨a0,tr⟩:=ht.tr (B:=dG s'.heap (env::l₀) e T) he hc fun T' h=>hT T' h▸rX;exact wpAny_leaves_onW hfr hf ⟨nI,rW,nK ff fun b f=>nJ f,tr⟩ fun h' fl up=>⟨T,h',a0,sT,hTf,rfl,fl.1,up,fl.2.2.2⟩
  ·rw[he] at e1;obtain rfl:=si e1;have hs:=(Array.getElem?_eq_some_iff.mp e3).1;exact wpAny_leaving_firstW (base:=dG s'.heap (env::l₀) e e) (a0:=vs'[0]) hfr (nK ff fun b f=>nJ f) hf he nI rW e2 e3 (Array.getElem?_eq_getElem (by exact E0 hs)) fun h' h=>⟨e,h',_,se,fun o ho=>by rw[he] at ho;obtain rfl:=si ho;exact⟨_,hd⟩,rfl,h.1,h.2.2.2,hc▸h.2.2.1⟩
 refine wpAny_mono ((Nq env (.ref e)).any key) (fun _ s'' y=>?_) fun _ _ y=>y.1;obtain⟨k',t',xa⟩:=y.1.on y.2 k.wide ff se (fun b f=>.inr f) na he hd hm hx;exact hq _ ⟨K.drop hf hL (K.rf l₀ s₀) k',e,rfl,se,xa.mono (fun _ _ _ e=>e) fun b _ _ h=>.inl h,t'⟩
theorem Nt{A:Around}{x:X}{v:Value}{s':Shared}{Q:Unit→Shared→Prop}{E:Value→Shared→Prop}(hfr:A.frames=some (env::l₀))(hf:env.frame=some env.locals)(G:Gnd prog w mg mb base (env::l₀) av s)(u:Fly prog w mg (env::l₀) s av x v s')
  (hq:∀ s'',Fly prog w mg (env::l₀) s av x v s''→Q () s''):wpAny (model prog w) A (noteFrame v env) (fun _ s₂=>wpAny (model prog w) A (setFlight v none) Q E s₂) E s':=by
 obtain⟨k,e,rfl,se,⟨na,oe,vs,C,he,hd,hc,hm,hx⟩,ht⟩:=u;have ff:=(G.k k).ff;obtain⟨T,sT,hT,hTf⟩:=ht.placeF he;obtain⟨a0,tr⟩:=ht.tr (B:=dG s'.heap (env::l₀) e T) he hc fun T' h=>hT T' h▸rX;have key:wpAny (model prog w) A (noteFrame (.ref e) env) (fun _ s₂=>wpAny (model prog w) A (setFlight (.ref e) none) (fun _ s₃=>Stn s (env::l₀) e C s' s₃) (fun _ _=>False) s₂) (fun _ _=>False) s':=by
  refine wpAny_looks_onW hfr hf ⟨nI,rW,nK ff fun b f=>nJ f,tr⟩ fun h' hh up=>?_;exact wpAny_landsW (s:={ s' with heap:=h' }) hh fun h'' fl up'=>⟨T,h'',a0,sT,hTf,rfl,fl.1,up.trans up',fl.2.2.2⟩
 refine wpAny_mono ((Am (.ref e) env).any key) (fun _ s₂ y=>?_) fun _ _ y=>y.1.elim;refine wpAny_mono ((r6 (.ref e) none).any y.1) (fun _ s₃ z=>?_) fun _ _ z=>z.1.elim;obtain⟨k',t',xa⟩:=z.1.on (y.2.tr z.2) k ff se G.fav na he hd hm hx;exact hq _ ⟨k',e,rfl,se,xa,t'⟩
theorem Nu{A:Around}{x:X}{v:Value}{s':Shared}{Q:Unit→Shared→Prop}{E:Value→Shared→Prop}(G:Gnd prog w mg mb base (env::l₀) av s)(u:Fly prog w mg (env::l₀) s av x v s')
  (hq:∀ s'',Fly prog w mg (env::l₀) s av x v s''→Q () s''):wpAny (model prog w) A (setFlight v none) Q E s':=by
 obtain⟨k,e,rfl,se,⟨na,oe,vs,C,he,hd,hc,hm,hx⟩,ht⟩:=u;have ff:=(G.k k).ff;obtain⟨T,sT,hT,hTf⟩:=ht.placeF he;obtain⟨a0,tr⟩:=ht.tr (B:=dG s'.heap (env::l₀) e T) he hc fun T' h=>hT T' h▸rX;have key:wpAny (model prog w) A (setFlight (.ref e) none) (fun _ s₃=>Stn s (env::l₀) e C s' s₃) (fun _ _=>False) s' :=
  wpAny_setFlight_noneW (nI (l:=env::l₀) (e:=e) (T:=T)) (nK ff fun b f=>nJ f) tr fun h' h1 h2 h3 h4=>⟨T,h',a0,sT,hTf,rfl,h1,fun b o e hn=>⟨o.slots,h4 b o e hn⟩,h3⟩
 refine wpAny_mono ((r6 (.ref e) none).any key) (fun _ s₃ z=>?_) fun _ _ z=>z.1.elim;obtain⟨k',t',xa⟩:=z.1.on z.2 k ff se G.fav na he hd hm hx;exact hq _ ⟨k',e,rfl,se,xa,t'⟩
theorem Nv{ev:EV}{C:Ctx}(hK:KSound prog w mg mb base n C)(hh:C.hd=hd)(hbad:∀ σ e,bad e=true→ev σ e=.no)(h:∀ σ e,aF prog w mg mb base n hd (env::l₀) sc σ e (ev σ e)){F:Nat}{e:Expr}{pos:Pos} :
  aQ prog w mg mb base n hd l₀ env sc s₀ σ (exec (.Raise (some e) none pos) env) fun _ _=>mI ev F C sc σ e:=by
 intro av₀ A s av hA X kn kr fin Q E hf hne hp hn hr he;replace hf:mI ev F C sc σ e=fin:=hf;unfold mI at hf;refine ocs (fD e) (fun hc=>?_) fun c hc=>?_
 ·try rewrite[hc]
  rw[hc] at hf;exact absurd hf.symm hne
 ·try rewrite[hc]
  obtain⟨c,as⟩:=c;rw[hc] at hf;obtain⟨p,q,rfl⟩:=kF hc;obtain⟨⟨c1,c2,c3⟩,hf⟩:=gD hf hne;have hini:C.init c=(bF c prog.main.body).map (·.2):=by rw[hK.init]
  rw[hini] at hf;refine ocs (bF c prog.main.body) (fun hcl=>?_) fun pc hcl=>?_
  ·try rewrite[hcl]
   rw[hcl] at hf;exact absurd hf.symm hne
  ·try rewrite[hcl]
   rw[hcl] at hf;obtain⟨av1,Y,hsub⟩:=X.clear (as.flatMap (esc F));obtain⟨Ca,bm,g1,g2,_⟩:=Y.inv.gnd.glo.cls c pc hcl;obtain⟨nm,qn,N,bs,hdct,sn,sub,ab,col,dd,k0,k1,k2,k3,k5,newId,hC⟩:=g2.obj;obtain⟨b0,ini⟩:=pc;cases ini with
   |some ps=>exact absurd hf.symm hne
   |none =>
   replace hf:rb (evs (ev (aA.clear σ (as.flatMap (esc F)))) as) (fun vs=>if vs.length=1 then .exc ⟨c,[]⟩ else .no)=fin:=hf;refine M7 (C:=Ca) (bm:=bm) g2.exc (hA.handled (hh▸c3)) c2 (fF Y.inv c1 g1 ⟨rfl,iX (hbad _) hA (fun e _=>h _ e) Y.inv ⟨hf,hne⟩ (fun vs s₂ us k2' r1 r2 e2=>⟨(Y.inv.gnd.k k2').stay _ _ hC,?_⟩) fun x v s' e f=>he x v s' e (Y.up f)⟩);have hlen:vs.length=us.length:=by rw[r1];exact List.length_map _
   obtain⟨ha0,hfin⟩:=gD e2 hne;have ha:xM none vs.length:=hlen.trans ha0;replace hfin:=hfin.symm;have Y2:=Y.k k2';refine g2.make A vs s₂ E _ (by have:=hA.depth;exact E1 this) Y2.inv.gnd.stay ha fun v s₃ m=>?_;obtain⟨k3',e,dx,t,rfl,en,et⟩:=m;have nn:∀ {b:Addr},s₂.heap.get? b=none→¬ (av₀ b∨frs (env::l₀) b):=fun h x=>x.elim (Y2.newNot h).2.2.1 (Y2.newNot h).2.2.2.2;have flds:fE prog w s₃.heap (fun b=>av₀ b∨frs (env::l₀) b) dx []:=.inl rfl;have Y3:=Y2.k (K.of k3');exact⟨e,dx,t,rfl,Y3.inv.gnd.stay _ _ hC,et,he _ _ _ hfin ⟨Y3.k0,Y3.inv.gnd.ff,Y3.inv.gnd.stay,e,rfl,(Y2.newNot en).2.2.2.1,⟨nn en,_,_,Ca,et,rfl,rfl,g1,flds⟩,.inr ⟨_,_,et,rfl,rfl⟩⟩⟩
end
end Mine
namespace Mine
open PySem
section
variable {M:Model} {A:Around} {E:Value→Shared→Prop}
variable {nm q nm' q':Str} {C N D N':Addr} {bs bm bs' bm':List Value} {hdct hdct':Bool} {sn sn':List Str} {sub sub':List Value} {ab ab':Bool} {col col':Option Bool} {dd dd':Option Addr} {k0 k1 k2 k3 k5 k0' k1' k2' k3' k5':Option Value} {newId newId':String}
theorem Nw{h:Heap}{g:Array GenState}{d:Drawn}{t:Nat}{os:OsState}{e:Addr}{oe:Obj}{Q:Bool→Shared→Prop}
  (hC:h.get? C=some (excClassObj nm q C N bs bm hdct sn sub ab col dd k0 k1 k2 k3 k5 newId)) (hD:h.get? D=some (excClassObj nm' q' D N' bs' bm' hdct' sn' sub' ab' col' dd' k0' k1' k2' k3' k5' newId')) (he:h.get? e=some oe) (hcls:oe.cls=.ref C) (hbase:bm'.contains (.type "BaseException")=true)
  (hcD:(Value.ref C::bm).contains (.ref D)=true) (hq:Q true ⟨h,g,d,t,os⟩):wpAny M A (excMatches (.ref e) (.ref D)) Q E ⟨h,g,d,t,os⟩:=by
 have hcB:(Value.ref D::bm').contains (.type "BaseException")=true:=by rw[List.contains_cons,hbase,Bool.or_true]
 have f:=tc_notTuple;unfold excMatches
 repeat (first | (with_reducible refine wpAny_loadPart_at he ?_;rw[hcls]) | with_reducible refine wpAny_loadPart_at hD ?_ | (with_reducible refine wpAny_isSubtype_exc hD ?_;rw[hcB]) | (with_reducible refine wpAny_isSubtype_exc hC ?_;rw[hcD]) | wp_step)
 exact hq
theorem Nx{base:Heap}{s:Shared}{C D e:Addr}{bm bm':List Value}{oe:Obj}{Q:Bool→Shared→Prop}(c2:ClsObj base C bm)(d2:ClsObj base D bm')(st:∀ a o,base.get? a=some o→s.heap.get? a=some o)
  (he:s.heap.get? e=some oe) (hcls:oe.cls=.ref C) (hbase:bm'.contains (.type "BaseException")=true) (hcD:(Value.ref C::bm).contains (.ref D)=true) (hq:Q true s):wpAny M A (excMatches (.ref e) (.ref D)) Q E s:=by
 obtain⟨_,_,_,_,_,_,_,_,_,_,_,_,_,_,_,_,hC⟩:=c2;obtain⟨_,_,_,_,_,_,_,_,_,_,_,_,_,_,_,_,hD⟩:=d2;exact Nw (st _ _ hC) (st _ _ hD) he hcls hbase hcD hq
end
section
variable {prog:Program} {w:World} {mg mb:Str→Option Value} {base:Heap} {n:Nat} {hd:Bool} {l₀:List Env} {env:Env} {sc:Scope} {av₀:Addr→Prop} {s₀:Shared} {σ:aA} {av:Addr→Prop} {s:Shared}
theorem Room.mark{l:List Env}{A:Around}(h:Room n hd l A)(e:Option Value):Room n true l (A.mark e):=⟨h.depth,h.units,nofun,h.guards,h.frames⟩
theorem An{b:List Stmt}{e:Expr}(h:f0 b=some e):∃ pos,b=[.Return (some e) pos]:=by
 cases b with
 |nil=>exact ns h
 |cons s r =>
  cases r with
  |cons=>exact ns h
  |nil =>
   cases s with
   |Return o pos=>cases o with
    |none=>exact ns h
    |some e'=>obtain rfl:=si h;exact⟨pos,rfl⟩
   |_=>exact ns h
theorem Ny{hs:List ExceptHandler}{c:Str×Option Str×Expr}(h:mJ hs=some c):∃ p pos pos2,hs=[.ExceptHandler (some (.Name c.1 p)) c.2.1 [.Return (some c.2.2) pos2] pos]:=by
 cases hs with
 |nil=>exact ns h
 |cons hh r =>
  cases r with
  |cons=>exact ns h
  |nil =>
   obtain⟨t,x,b,pos⟩:=hh;cases t with
   |none=>exact ns h
   |some t =>
    replace h:(match bD t with | some c=>(match f0 b with | some e=>some (c,x,e) | none=>none) | none=>none)=some c:=h;refine ocs (bD t) (fun hn=>?_) fun y hn=>?_
    ·try rewrite[hn]
     rw[hn] at h;exact ns h
    ·try rewrite[hn]
     rw[hn] at h;replace h:(match f0 b with | some e=>some (y,x,e) | none=>none)=some c:=h;refine ocs (f0 b) (fun hr=>?_) fun e hr=>?_
     ·try rewrite[hr]
      rw[hr] at h;exact ns h
     ·try rewrite[hr]
      rw[hr] at h;obtain rfl:=si h;obtain⟨p,rfl⟩:=dE hn;obtain⟨pos2,rfl⟩:=An hr;exact⟨p,pos,pos2,rfl⟩
theorem aY.same{s:Shared}{h h':Heap}{av:Addr→Prop}{L:Addr}{v:Value}{u:V}(hL:av L)(hlt:∃ o,s.heap.get? L=some o)(hs:Heap.SameBut L h h')(r:aY prog w s h av v u):aY prog w s h' av v u:=by
 have hk:∀ b o,¬ av b→h.get? b=some o→h'.get? b=some o:=fun b o n e=>(hs.2 b fun x=>n (x▸hL)).trans e;cases u with
 |ex x=>exact r
 |fz d=>exact(show Rep prog w h av v d from r).mono hk fun _ _ _ x=>x
 |dp d =>
  obtain⟨pn,hn,hl,r⟩:=r;have hk':∀ b o,pn b→h.get? b=some o→h'.get? b=some o:=fun b o hb e=>(hs.2 b fun x=>by obtain⟨o,ho⟩:=hlt;rw[← x,hn b hb] at ho;exact ns ho).trans e;exact⟨pn,hn,fun b hb=>by obtain⟨o,e⟩:=hl b hb;exact⟨o,hk' b o hb e⟩,r.mono hk'⟩
 |own d =>
  obtain⟨a,e,hn,rb⟩:=r;refine⟨a,e,hn,rb.mono (fun b o n e=>hk b o (fun x=>n (.inl x)) e) (fun _ _ _ x=>x) fun o e=>(hs.2 a fun x=>?_).trans e⟩;obtain⟨o,ho⟩:=hlt;simp only[x,ho] at hn;exact sn hn
theorem Nz{ev':EV}(h':∀ σ e,aF prog w mg mb base n true (env::l₀) sc σ e (ev' σ e)){F:Nat}{e':Expr}{c z:Str}{p pos2 pos3:Pos}{A:Around}{Q:Flow→Shared→Prop}{E:Value→Shared→Prop}{y:X}{v:Value}{s':Shared}{pd pc:Str×Option (List Str)}{v0:Option V}{u:V}
  (hA:Room n hd (env::l₀) A) (Y:Act prog w mg mb base l₀ env sc av₀ s₀ σ av s) (hg:isG sc c=true) (hcd:bF c prog.main.body=some pd) (hcc:bF y.cls prog.main.body=some pc) (hsb:fY prog.main.body 4 y.cls c=true)
  (hz:sc.names.lookup z=some .local) (hg0:σ.get z=some v0) (hu:ev' (aA.clear (σ.set z (.ex y)) (esc F e')) e'=.ok u) (hr:∀ v s',K l₀ s₀ s'→aY prog w s₀ s'.heap av₀ v u→Q (.ret v) s') (fly:Fly prog w mg (env::l₀) s av y v s') :
  wpAny (model prog w) A (noteFrame v env) (fun _ s₂=>wpAny (model prog w) A (setFlight v none) (fun _ s₃=>wpAny (model prog w) A (handleBy v env [.ExceptHandler (some (.Name c p)) (some z) [.Return (some e') pos2] pos3]) Q E s₃) E s₂) E s':=by
 obtain⟨D,bmD,d1,d2,_⟩:=Y.inv.gnd.glo.cls c pd hcd;obtain⟨Ca,bmC,c1,c2,c3⟩:=Y.inv.gnd.glo.cls y.cls pc hcc;have hcon:=(c3 c pd D hcd d1).trans hsb;refine Nt hA.frames Y.frm Y.inv.gnd fly fun s₂ fly2=>?_;obtain⟨k2',e2,rfl,se,⟨na,oe,vs,C',o1,o2,o3,o4,o5⟩,tb⟩:=id fly2;obtain rfl:=Value.ref.inj (si (c1.symm.trans o4));have Y2:=Y.k k2';refine wpAny_handleBy_cons (codeAny_handlers_test (fF Y2.inv hg d1 ?_)) (by intro q;cases q);refine Nx c2.obj d2.obj (fun a o h=>Y2.inv.gnd.stay _ _ h) o1 o3 d2.exc hcon ?_;clear o1 o2 o3 o5 hcon c1 c2 c3 d1 d2;refine codeAny_handlers_suite_as (Nu Y.inv.gnd fly2 fun s₃ fly3=>?_);obtain⟨k3'',e3,ee,_,xa,_⟩:=id fly3;obtain rfl:=Value.ref.inj ee;refine(Y.k k3'').put hg0 (v:=.ex y) ⟨_,rfl,xa⟩ (fun _ _ q=>by cases q) fun s4 Z _ _ _=>wpAny_execs_cons (wpAny_Return_some ?_);obtain⟨av3,Y4,_⟩:=Z.clear (esc F e');refine(h' _ e').val (hA.mark _) Y4.inv hu fun v s' k r=>?_;have Y5:=Y4.k k;obtain⟨mL,hnL⟩:=Y5.ns;refine wpAny_nameGoes (Y5.loc z hz) hnL (by rw[Y5.inv.kind];rfl) fun h'' m' _ hs=>?_;obtain⟨f1,f2,_⟩:=Y5.fresh env.locals (.inl rfl);exact hr v _ (Y5.k0.on f2 fun b o hb eb=>(hs.2 b hb).trans eb) ((r.same f1 (Y4.liveMn (.inl rfl)) hs).out Y4)
theorem N0{ev ev':EV}{C:Ctx}(hK:KSound prog w mg mb base n C)(h:∀ σ e,aF prog w mg mb base n hd (env::l₀) sc σ e (ev σ e))(h':∀ σ e,aF prog w mg mb base n true (env::l₀) sc σ e (ev' σ e)){F:Nat}{e e':Expr}{c:Str}{x:Option Str}{p pos pos1 pos2 pos3:Pos} :
  aQ prog w mg mb base n hd l₀ env sc s₀ σ (exec (.Try [.Return (some e) pos1] [.ExceptHandler (some (.Name c p)) x [.Return (some e') pos2] pos3] [] [] pos) env) fun _ kr=>mK ev ev' F C sc σ e c x e' kr:=by
 intro av₀ A s av hA X kn kr fin Q E hf hne hp hn hr he;obtain⟨hg,hf⟩:=gD (show(if isG sc c=true∧(C.init c).isSome=true then _ else R.no)=fin from hf) hne;obtain⟨hg,hin⟩:=hg;obtain⟨av1,Y,hsub⟩:=X.clear (esc F e);refine wpAny_Try_except (wpAny_execs_cons (wpAny_Return_some ?_));have hE:=h (aA.clear σ (esc F e)) e;cases hev:ev (aA.clear σ (esc F e)) e with
 |no=>rw[hev] at hf;exact absurd hf.symm hne
 |ok v0 =>
  rw[hev] at hf;exact hE.val hA Y.inv hev fun v s' k r=>hr v s' v0 (Y.k k).k0 (r.out Y) hf
 |exc y =>
  rw[hev] at hf;refine hE A env s av1 hA Y.inv (k:=R.ok) (fin:=R.exc y) ⟨by rw[hev];rfl,nofun⟩ (fun v s' u _ _ e=>by cases e) fun y' v s' ey fly=>?_;cases ey;dsimp only at hf;rw[show C.sub y.cls c=dW prog.main.body y.cls c by rw[hK.sub]] at hf;have hini:C.init c=(bF c prog.main.body).map (·.2):=by rw[hK.init]
  rw[hini] at hin;cases hcd:bF c prog.main.body with
  |none=>rw[hcd] at hin;exact bft hin
  |some pd =>
   refine ocs (bF y.cls prog.main.body) (fun hcc=>?_) fun pc hcc=>?_
   ·try rewrite[hcc]
    have:dW prog.main.body y.cls c=none:=by unfold dW;rw[hcc,Option.isSome_none,Bool.and_false];rfl
    rw[this] at hf;exact absurd hf.symm hne
   ·try rewrite[hcc]
    have hso:dW prog.main.body y.cls c=some (fY prog.main.body 4 y.cls c):=by unfold dW;rw[hcc,hcd];rfl
    rw[hso] at hf;refine bcs (fY prog.main.body 4 y.cls c) (fun hsb=>?_) fun hsb=>?_
    ·try rewrite[hsb]
     rw[hsb] at hf;exact absurd hf.symm hne
    ·try rewrite[hsb]
     rw[hsb] at hf;cases x with
     |some z =>
      obtain⟨hz,hf⟩:=gD (show(if sc.names.lookup z=some .local then rb (ofP (dL z (.ex y) (aA.clear σ (esc F e)))) fun σ=>rb (nx (ev' (aA.clear σ (esc F e')) e')) kr else R.no)=fin from hf) hne;obtain⟨σ1,hs1,hf⟩:=cU hf hne;obtain⟨v0,hg0,rfl⟩:=hU hs1;obtain⟨u,hu,hf⟩:=Fin.nx ⟨hf,hne⟩;exact Nz h' hA Y hg hcd hcc hsb hz hg0 hu (fun v s' k r=>hr v s' u k r hf) fly
     |none=>exact absurd (show R.no=fin from hf).symm hne
end
end Mine
namespace Mine
open PySem
theorem Ao{kindOf:Str→Option NameKind}:∀ {ps:List Str} {vs:List Value} {m:Str→Option Value} {x:Str},x∉ps→bindC kindOf (ps.zip vs) m x=m x
 | [],_,_,_,_=>rfl
 |_::_,[],_,_,_=>rfl
 |p::ps,v::vs,m,x,h=>by
  show bindC kindOf (ps.zip vs) _ x=m x;simp at h;rw[Ao h.2]
  split
  ·rfl
  ·exact if_neg h.1
theorem r7{kindOf:Str→Option NameKind}:∀ {ps:List Str} {vs:List Value} {m:Str→Option Value} {x:Str} {v:Value} {i:Nat},ps.Nodup→ps[i]?=some x→vs[i]?=some v→kindOf x≠some .local→bindC kindOf (ps.zip vs) m x=some v
 | [],_,_,_,_,_,_,h,_,_=>by simp at h
 |_::_,[],_,_,_,_,_,_,h,_=>by simp at h
 |p::ps,u::vs,m,x,v,i,hn,h1,h2,hk=>by
  show bindC kindOf (ps.zip vs) _ x=some v;obtain⟨n1,n2⟩:=List.nodup_cons.mp hn;cases i with
  |zero =>
   simp at h1 h2;subst h1;subst h2;rw[Ao n1,if_neg hk];exact if_pos rfl
  |succ i=>exact r7 n2 (by simpa using h1) (by simpa using h2) hk
theorem N1:∀ (names:List (Str×NameKind)) (k:Nat) (acc:List (Str×Addr)) (x:Str),(acc.lookup x).isSome=true→((cellsFrom k names acc).lookup x).isSome=true:=by
 intro v0
 induction v0 with
 |nil =>
  intro _ _ _ h;exact h
 |cons pp r ih =>
  obtain⟨y,kd⟩:=pp;intro k acc x h;unfold cellsFrom
  split
  ·refine ih _ _ x ?_;simp only[List.lookup_cons]
   split
   ·rfl
   ·exact h
  ·exact ih _ _ x h
theorem jA:∀ (names:List (Str×NameKind)) (k:Nat) (acc:List (Str×Addr)) (x:Str),(x,NameKind.cell)∈names→((cellsFrom k names acc).lookup x).isSome=true
 | (y,kd)::r,k,acc,x,h=>by
  unfold cellsFrom;rcases List.mem_cons.mp h with e | h
  ·cases e;rw[if_pos (by rfl)];refine N1 r _ _ _ ?_;simp only[List.lookup_cons];simp
  ·split
   ·exact jA r _ _ x h
   ·exact jA r _ _ x h
theorem nO{ps:List Str}{us:List V}:∀ {names:List (Str×NameKind)} {x:Str} {v:Option V},aA.get (dD ps us names) x=some v→v=(ps.zip us).lookup x∧((x,NameKind.local)∈names∨(x,NameKind.cell)∈names):=by
 intro v0
 induction v0 with
 |nil =>
  intro _ _ h;exact ns h
 |cons pp r ih =>
  obtain⟨y,k⟩:=pp;intro x v h;have step:∀ {k'},(k'=NameKind.local∨k'=NameKind.cell)→aA.get ((y,(ps.zip us).lookup y)::dD ps us r) x=some v→v=(ps.zip us).lookup x∧((x,NameKind.local)∈(y,k')::r∨(x,NameKind.cell)∈(y,k')::r):=fun hk' h=>by
   by_cases hxy:x=y
   ·subst hxy;rw[aA.get_cons_eq] at h;obtain rfl:=si h;refine⟨rfl,?_⟩;rcases hk' with rfl | rfl
    ·exact .inl List.mem_cons_self
    ·exact .inr List.mem_cons_self
   ·rw[aA.get_cons_ne hxy] at h;obtain⟨h1,h2⟩:=ih h;exact⟨h1,h2.imp (List.mem_cons_of_mem _) (List.mem_cons_of_mem _)⟩
  have skip:∀ {k'},aA.get (dD ps us r) x=some v→v=(ps.zip us).lookup x∧((x,NameKind.local)∈(y,k')::r∨(x,NameKind.cell)∈(y,k')::r):=fun h=>by
   obtain⟨h1,h2⟩:=ih h;exact⟨h1,h2.imp (List.mem_cons_of_mem _) (List.mem_cons_of_mem _)⟩
  cases k with
  | «local»=>exact step (.inl rfl) h
  |cell=>exact step (.inr rfl) h
  |_=>exact skip h
theorem Ap:∀ {l:List Str},kC l=true→l.Nodup:=by
 intro v0
 induction v0 with
 |nil =>
  intro _;exact List.nodup_nil
 |cons x r ih =>
  intro h;have h:(!r.contains x&&kC r)=true:=h;simp only[Bool.and_eq_true,Bool.not_eq_true',Bool.eq_false_iff] at h;exact List.nodup_cons.mpr ⟨by simpa using h.1,ih h.2⟩
theorem kN{α:Type}:∀ {l:List (Str×α)} {x:Str} {k:α},(l.map (·.1)).Nodup→(x,k)∈l→l.lookup x=some k
 | (y,d)::r,x,k,hn,h=>by
  obtain⟨n1,n2⟩:=List.nodup_cons.mp (show(y::r.map (·.1)).Nodup from hn);rcases List.mem_cons.mp h with e | h
  ·cases e;simp[List.lookup]
  ·have hne:(x==y)=false:=by
    rw[beq_eq_false_iff_ne];intro e;exact n1 (by rw[← e];exact List.mem_map.mpr ⟨(x,k),h,rfl⟩)
   rw[List.lookup_cons,hne];exact kN n2 h
structure FnOk(a:Arguments)(sc:Scope):Prop where
 params:∃ kwd dfl,a=⟨[],a.args,none,[],kwd,none,dfl⟩
 kind:sc.kind=.function
 gen:sc.isGenerator=false
 cor:sc.isCoroutine=false
 nodup:(sc.names.map (·.1)).Nodup
 anodup:(a.args.map (·.arg)).Nodup
 nofree:∀ p∈sc.names,p.2≠.free
 akind:∀ x∈a.args,sc.names.lookup x.arg=some .local∨sc.names.lookup x.arg=some .cell
 dbg:sc.names.lookup (Str.ofString "__debug__")=none
 cld:sc.names.lookup (Str.ofString "__classdict__")=none
theorem Aq{a:Arguments}{sc:Scope}(h:f9 a sc=true):FnOk a sc:=by
 unfold f9 at h;simp only[Bool.and_eq_true] at h;obtain⟨⟨⟨⟨⟨⟨⟨⟨⟨⟨⟨⟨⟨⟨h1,h2⟩,h3⟩,h4⟩,h5⟩,h6⟩,h7⟩,h8⟩,h9⟩,h10⟩,h11⟩,h12⟩,h13⟩,h14⟩,h15⟩:=h;refine⟨?_,by simpa using h7,by simpa using h8,by simpa using h9,Ap h10,Ap h11,fun p hp=>by simpa using List.all_eq_true.mp h12 p hp,fun x hx=>?_,by simpa using h14,by simpa using h15⟩
 ·obtain⟨po,as,va,ko,kd,kw,df⟩:=a;simp only[List.isEmpty_iff,Option.isNone_iff_eq_none] at h1 h2 h3 h4;subst h1;subst h2;subst h3;subst h4;exact⟨kd,df,rfl⟩
 ·have:=List.all_eq_true.mp h13 x hx
  split at this
  ·rename_i e;exact .inl e
  ·rename_i e;exact .inr e
  ·exact bft this
section
variable {prog:Program} {w:World} {mg mb:Str→Option Value} {base:Heap} {l:List Env}
theorem Ar{s s₁:Shared}{av:Addr→Prop}{a:Arguments}{b:List Stmt}{sc:Scope}{f:Str}{pm cd doc:Value}{ad:Addr}{vs:List Value}{us:List V}{env:Env}(hE:env=callEnvC (Calls.docDef f a b sc pm cd doc) s.heap.objs.size ad)(G:Gnd prog w mg mb base l av s)
  (hargs:eB (CA prog w mg l av) s vs us) (hok:FnOk a sc) (hin:InCallC s env.locals (bindL env.kindOf ((a.args.map (·.arg)).zip vs) fun _=>none) env.cells (bindC env.kindOf ((a.args.map (·.arg)).zip vs) fun _=>none) s₁) :
  ∃ av1,Act prog w mg mb base l env sc av s (dD (a.args.map (·.arg)) us sc.names) av1 s₁:=by
 have hkind:∀ x,env.kindOf x=sc.names.lookup x:=fun _=>by rw[hE];rfl
 have hL:env.locals=s.heap.objs.size:=by rw[hE];rfl
 have hcells:env.cells=cellsFrom (s.heap.objs.size+1) sc.names []:=by rw[hE];rfl
 have ek:env.scope.kind=.function:=by rw[hE];exact hok.kind
 have eg:env.globals=mainGlobals:=by rw[hE];rfl
 have eb:env.builtins=builtinsNs:=by rw[hE];rfl
 have hfrm:env.frame=some env.locals:=by rw[hE];rfl
 clear hE;have dead:∀ b,Mn env b→s.heap.get? b=none:=fun b h=>by
  rcases h with h | ⟨x,h⟩
  ·rw[h,hL];exact bK _
  ·exact Heap.get?_none_of_le (by
    have:=hin.above x b (cQ h);rw[hL] at this;exact Nat.le_of_lt this)
 have notav:∀ b,Mn env b→¬ av b:=fun b h x=>by obtain⟨o,e⟩:=G.avlt b x;rw[dead b h] at e;exact ns e
 have neL:∀ x c,env.cells.lookup x=some c→c≠env.locals:=fun x c e=>Nat.ne_of_gt (hin.above x c (cQ e));have notown:∀ x d,aA.get (dD (a.args.map (·.arg)) us sc.names) x≠some (some (.own d)):=fun x d h=>by
  obtain⟨h1,_⟩:=nO h;obtain⟨i,_,h3⟩:=rT h1.symm;have hlt':i < vs.length:=by
   have:=(List.getElem?_eq_some_iff.mp h3).1;rw[hargs.len];exact this
  exact(hargs.at i _ _ (List.getElem?_eq_getElem hlt') h3).2 d rfl
 have cellOfName:∀ x,sc.names.lookup x=some .cell→∃ c,env.cells.lookup x=some c:=fun x hx=>by
  have:=jA sc.names (s.heap.objs.size+1) [] x (cQ hx);rw[← hcells] at this;exact Option.isSome_iff_exists.mp this
 have keep:=hin.toInCall.keep;have k0:Kp s s₁:=by obtain⟨h,t,e⟩:=hin.toInCall.same;subst e;exact⟨h,t,rfl,keep⟩
 have back:∀ b o,s.heap.get? b=some o→(av b∨Mn env b)→av b:=fun b o e h=>h.elim id fun h=>by rw[dead b h] at e;exact ns e
 have bfr:base.get? env.locals=none:=by
  refine ocs (base.get? env.locals) (fun e=>?_) fun o e=>?_
  ·try rewrite[e]
   rfl
  ·try rewrite[e]
   have:=G.stay _ _ e;rw[dead _ (.inl rfl)] at this;exact ns this
 obtain⟨oL,esL,epL,e1,e2,e3⟩:=id hin.toInCall.ns;have noO:∀ {P:Prop} x a',bH env (dD (a.args.map (·.arg)) us sc.names) s₁.heap x a'→P:=fun x a' ⟨⟨d,e⟩,_⟩=>absurd e (notown x d);have frb:∀ b,frs l b→av b∧∃ o,s.heap.get? b=some o:=fun b h=>⟨G.fav b h,by obtain⟨_,o,e,_⟩:=G.ff.mem h;exact⟨o,e⟩⟩
 refine⟨fun b=>av b∨Mn env b,{ inv:=?_,stay0:=G.stay,frm:=hfrm,fr0:=fun b h=>frb b h,k0:=K.of k0,bas:=fun b h=>Or.inl h,ns:=⟨_,hin.toInCall.ns⟩,cells:=fun x c e=>⟨neL x c e,_,hin.cell x c e⟩,fresh:=fun b h=>⟨.inr h,dead b h,notav b h⟩,capart:=fun x y c hx hy=>name_of_addr hin.apart (cQ hx) (cQ hy),names:=fun x v h=>?_,ownA:=fun x a h=>noO x a h,ownI:=fun x y a h=>noO x a h,loc:=fun x h=>(hkind x).trans h }⟩
 ·refine { gnd:={ G.k (K.of k0) with ff:=⟨by rw[ek];nofun,⟨env.locals,oL,hfrm,bfr,e1,fun vs q=>by rw[e2] at q;cases q⟩,(G.k (K.of k0)).ff⟩,fav:=fun b h=>((i8 hfrm).mp h).elim (fun h=>.inr (.inl h)) fun h=>.inl (G.fav b h),avlt:=fun b h=>?_,avS:=.inl G.avS },kind:=ek,eg:=eg,eb:=eb,dbg:=hok.dbg,cld:=hok.cld,glob:=fun x hx=>?_,kinds:=fun x hx=>?_,get:=fun x v hl hg=>?_ }
  ·rcases h with h | h | ⟨x,h⟩
   ·exact(G.k (K.of k0)).avlt b h
   ·exact⟨oL,h▸e1⟩
   ·obtain⟨o,e,_⟩:=hin.cell x b h;exact⟨o,e⟩
  ·unfold isG at hx;rw[hkind];exact eq_of_beq hx
  ·rw[hkind];refine⟨hx,?_⟩;refine ocs (sc.names.lookup x) (fun hk=>?_) fun k hk=>?_
   ·try rewrite[hk]
    rw[hk] at hx;exact bft hx
   ·try rewrite[hk]
    rw[hk] at hx;cases k with
    |cell=>exact cellOfName x hk
    |free=>exact absurd rfl (hok.nofree _ (cQ hk))
    |_=>exact bft hx
  ·obtain⟨h1,h2⟩:=nO hg;obtain⟨i,h3,h4⟩:=rT h1.symm;have hlt':i < vs.length:=by
    have:=(List.getElem?_eq_some_iff.mp h4).1;rw[hargs.len];exact this
   have h5:=List.getElem?_eq_getElem hlt';obtain⟨r,hno⟩:=hargs.at i _ _ h5 h4;refine⟨vs[i],?_,?_⟩
   ·rcases h2 with h2 | h2
    ·have hk:=kN hok.nodup h2;exact .inl ⟨by rw[hkind];exact hk,_,hin.toInCall.ns,rV hok.anodup h3 h5 (by rw[hkind];exact hk)⟩
    ·have hk:=kN hok.nodup h2;obtain⟨c,hc⟩:=cellOfName x hk;refine .inr ⟨.inl (by rw[hkind];exact hk),c,hc,?_⟩;have:=hin.cell x c hc
     rwa [r7 hok.anodup h3 h5 (by rw[hkind,hk];intro e;cases e)] at this
   ·cases v with
    |fz d=>exact(show Rep prog w s.heap av _ d from r).mono (fun b o _ e=>keep b o e) back
    |own d=>exact absurd rfl (hno d)
    |dp d=>exact(show Rep prog w s.heap av _ d from r).mono (fun b o _ e=>keep b o e) back
    |ex x=>obtain⟨e,h,r⟩:=r;exact⟨e,h,r.mono (fun b o _ e=>keep b o e) back⟩
 ·obtain⟨_,h2⟩:=nO h;rcases h2 with h2 | h2
  ·have hk:=kN hok.nodup h2;exact⟨by unfold isL;rw[hk],.inl (by rw[hkind];exact hk)⟩
  ·have hk:=kN hok.nodup h2;exact⟨by unfold isL;rw[hk],.inr ⟨by rw[hkind];exact hk,cellOfName x hk⟩⟩
end
end Mine
namespace Mine
open PySem
section
variable {prog:Program} {w:World} {mg mb:Str→Option Value} {base:Heap} {n:Nat} {l:List Env}
theorem sA{C:Ctx}{j:Nat}{sc:Scope}{σ:aA}{x:Str}{p p' q q':Pos}{d:PyData}(h1:isG sc "isinstance" = true)(h2:isG sc "dict" = true)(hx:isL sc x=true)(gx:aA.get σ x=some (some (.fz d))):evE C (j+2) sc σ (.Call (.Name "isinstance" p) [.Name x q,.Name "dict" q'] [] p')=.ok (.fz (.bool (bE d))):=by
 show fV (evE C (j+1) sc σ) C sc σ "isinstance" [.Name x q,.Name "dict" q']=_;unfold fV;rw[if_pos h1,if_pos rfl];show(if isG sc "dict" then (match eS sc σ (.Name x q) with | some x=>ofP (isX C x.cls "dict") | none=>rb (evE C (j+1) sc σ (.Name x q)) fun v=>ofP (iQ "dict" (dOf v))) else .no)=_;rw[if_pos h2,show eS sc σ (.Name x q)=none from by show l7 sc σ x=none;unfold l7;rw[gx],i7 hx gx];rfl
theorem As{k:Str}{e:PyData}:∀ {m:List (PyData×PyData)} {ks:List Str} {i:Nat},m.map (·.1)=ks.map PyData.str→ks.Nodup→m[i]?=some (.str k,e)→bM m k=some e:=by
 intro m
 induction m with
 |nil=>intro ks i _ _ h;exact ns h
 |cons p m ih =>
  intro ks i hk hn h;cases ks with
  |nil=>exact nomatch hk
  |cons x ks =>
   obtain⟨p1,p2⟩:=p;injection hk with hk1 hk2
   replace hk1:p1=.str x:=hk1;subst hk1;obtain⟨n1,n2⟩:=List.nodup_cons.mp hn;show(if k=x then some p2 else bM m k)=_;cases i with
   |zero=>injection h with h;injection h with h1 h2;injection h1 with h1;rw[if_pos h1.symm,h2]
   |succ i =>
    have hm:PyData.str k∈m.map (·.1):=List.mem_map.mpr ⟨(.str k,e),List.mem_of_getElem? h,rfl⟩;rw[if_neg (fun q=>n1 (by subst q;rw[hk2] at hm;obtain⟨y,hy,e⟩:=List.mem_map.mp hm;injection e with e;exact e▸hy))];exact ih hk2 n2 h
theorem At{x:Str}{ps:List Str}{us:List V}:∀ {names:List (Str×NameKind)},(x,NameKind.local)∈names∨(x,NameKind.cell)∈names→aA.get (dD ps us names) x=some ((ps.zip us).lookup x):=by
 intro names
 induction names with
 |nil=>exact fun h=>h.elim (fun h=>cD h) fun h=>cD h
 |cons p r ih =>
  obtain⟨y,k⟩:=p;intro h;have step:aA.get ((y,(ps.zip us).lookup y)::dD ps us r) x=some ((ps.zip us).lookup x)∨x≠y:=by
   by_cases hxy:x=y
   ·subst hxy;exact .inl aA.get_cons_eq
   ·exact .inr hxy
  have tl:x≠y→(x,NameKind.local)∈r∨(x,NameKind.cell)∈r:=fun hne=>h.imp (fun h=>(List.mem_cons.mp h).elim (fun e=>absurd (congrArg Prod.fst e) hne) id) fun h=>(List.mem_cons.mp h).elim (fun e=>absurd (congrArg Prod.fst e) hne) id;cases k with
  | «local»=>exact step.elim id fun s=>(aA.get_cons_ne s).trans (ih (tl s))
  |cell=>exact step.elim id fun s=>(aA.get_cons_ne s).trans (ih (tl s))
  |_ =>
   refine ih (h.imp (fun h=>?_) fun h=>?_)<;>exact(List.mem_cons.mp h).elim (fun e=>nomatch e) id
theorem Au{C:Ctx}{k:Nat}{sc:Scope}{σ:aA}{e:Expr}(h:bad e=true):evE C k sc σ e=.no:=by
 cases k with
 |zero=>rfl
 |succ k=>exact rM h
theorem Room.deeper{hd:Bool}{l:List Env}{A:Around}(h:Room (n+1) hd l A)(env:Env):Room n hd (env::l) (A.deeper env) where
 depth:=by have:=h.depth;show A.depth+1+n+1 < _;exact E2 this
 units:=by have:=h.units;show A.units+3+16*n+300 < _;exact E3 this
 handled:=h.handled
 guards:=h.guards
 frames:=Around.frames_deeper h.frames
theorem nP{sc:Scope}{x:Str}(h:lcl sc x=true):isL sc x=true∧((x,NameKind.local)∈sc.names∨(x,NameKind.cell)∈sc.names):=by
 rcases(Bool.or_eq_true _ _).mp h with h | h
 ·have e:=eq_of_beq h;exact⟨by unfold isL;rw[e],.inl (cQ e)⟩
 ·have e:=eq_of_beq h;exact⟨by unfold isL;rw[e],.inr (cQ e)⟩
theorem N2{sc:Scope}{x:Str}(h:sc.names.lookup x=some .local∨sc.names.lookup x=some .cell):isL sc x=true:=by
 rcases h with h | h<;>(unfold isL;rw[h])
theorem N3{s s₁:Shared}{a:Arguments}{b:List Stmt}{sc:Scope}{f:Str}{pm cd doc:Value}{ad:Addr}{vs:List Value}{env:Env}(hE:env=callEnvC (Calls.docDef f a b sc pm cd doc) s.heap.objs.size ad)(hok:FnOk a sc)
  (hin:InCallC s env.locals (bindL env.kindOf ((a.args.map (·.arg)).zip vs) fun _=>none) env.cells (bindC env.kindOf ((a.args.map (·.arg)).zip vs) fun _=>none) s₁) {i:Nat} {x:Str} {v:Value} (h3:(a.args.map (·.arg))[i]?=some x) (h5:vs[i]?=some v) (hk:sc.names.lookup x=some .local∨sc.names.lookup x=some .cell):aM env s₁.heap x v:=by
 have hkind:∀ x,env.kindOf x=sc.names.lookup x:=fun _=>by rw[hE];rfl
 have hcells:env.cells=cellsFrom (s.heap.objs.size+1) sc.names []:=by rw[hE];rfl
 rcases hk with hk | hk
 ·exact .inl ⟨by rw[hkind];exact hk,_,hin.toInCall.ns,rV hok.anodup h3 h5 (by rw[hkind];exact hk)⟩
 ·have:=jA sc.names (s.heap.objs.size+1) [] x (cQ hk);rw[← hcells] at this;obtain⟨c,hc⟩:=Option.isSome_iff_exists.mp this;refine .inr ⟨.inl (by rw[hkind];exact hk),c,hc,?_⟩;have:=hin.cell x c hc
  rwa [r7 hok.anodup h3 h5 (by rw[hkind,hk];intro e;cases e)] at this
theorem sB{f:Str}{ad:Addr}{a:Arguments}{b:List Stmt}{sc:Scope}(hfd:b4 f prog.main.body=some (a,b,sc))(hm:mg f=some (.ref ad))(hfn:f9 a sc=true){P:Str}(hargs:a.args.map (·.arg)=[P]){A:Around}{s:Shared}{av:Addr→Prop}{v:Value}{d:PyData}(hA:Room (n+1) false l A)(G:Gnd prog w mg mb base l av s)(r:Rep prog w s.heap av v d){Q:Value→Shared→Prop}{E:Value→Shared→Prop}
  (h:∀ (env:Env) (s₁:Shared) (av1:Addr→Prop) (σ:aA) (EE:Value→Shared→Prop),Act prog w mg mb base l env sc av s σ av1 s₁→Kp s s₁→aM env s₁.heap P v→isL sc P=true→aA.get σ P=some (some (.fz d))→(∀ x,P≠x→lcl sc x=true→aA.get σ x=some none)→(∀ x u,P≠x→aA.get σ x≠some (some u))→PassesOwn (model prog w) (A.deeper env) env EE →
   wpAny (model prog w) (A.deeper env) (execs b env) (fun f s'=>Q (match f with | .ret v=>v | _=>.none) s') EE s₁):wpAny (model prog w) A (call (.ref ad) [v]) Q E s:=by
 obtain⟨ad',o,pm,cd',doc,g1,g2,g3,g4⟩:=G.glo.fn f a b sc hfd;rw[hm] at g1;obtain rfl:=Value.ref.inj (si g1);have hok:=Aq hfn;obtain⟨kwd,dfl,hpar⟩:=hok.params;have hal:a.args.length=1:=by have:=congrArg List.length hargs;rwa [List.length_map] at this
 refine wpAny_call (codeAny_call_cells (binds:=(a.args.map (·.arg)).zip [v]) (by have:=hA.depth;exact vG this) (G.stay _ _ g2) g3 (G.glo.nolimit.keeps G.stay) (g4.keeps G.stay) rfl (Ah hpar rfl (by rw[hal];rfl) hok.anodup) rfl (fun x hx=>?_) (fun s₁ hin=>?_) hok.cor hok.gen hok.kind)
 ·obtain⟨ar,har,e⟩:=List.mem_map.mp (List.of_mem_zip hx).1;show sc.names.lookup x.1=_∨_;rw[← e];rcases hok.akind ar har with h | h
  ·exact .inl h
  ·exact .inr ⟨h,jA _ _ _ _ (cQ h)⟩
 ·obtain⟨av1,Y⟩:=Ar (vs:=[v]) (us:=[.fz d]) rfl G (show eB (CA prog w mg l av) s [v] [.fz d] from ⟨⟨r,fun d h=>nomatch h⟩,trivial⟩) hok hin;obtain⟨ar,har,eP⟩:=List.mem_map.mp (show P∈a.args.map (·.arg) by rw[hargs];exact List.mem_singleton.mpr rfl);have hvP:=N3 rfl hok hin (i:=0) (x:=P) (v:=v) (by rw[hargs];rfl) rfl (eP▸hok.akind ar har);have kp0:Kp s s₁:=by obtain⟨h,t,e⟩:=hin.toInCall.same;exact e▸⟨h,t,rfl,fun b o e'=>by have:=hin.toInCall.keep b o e';rw[e] at this;exact this⟩
  refine h _ s₁ av1 _ _ Y kp0 hvP (eP▸N2 (hok.akind ar har)) ?_ (fun x hx lx=>?_) (fun x u hx hg=>?_) PassesOwn.leaving
  ·rw[At (x:=P),hargs]
   ·simp
   ·rw[← eP];exact(hok.akind ar har).imp cQ cQ
  ·rw[At (x:=x) (nP lx).2,hargs];simp[hx.symm]
  ·have:=(nO hg).1;rw[hargs] at this;have hx':(x==P)=false:=beq_false_of_ne fun e=>hx e.symm;simp[List.lookup,hx'] at this
theorem N4{f:Str}{ad:Addr}{a:Arguments}{b:List Stmt}{sc:Scope}(hfd:b4 f prog.main.body=some (a,b,sc))(cd:CpDef f a b sc)(hm:mg f=some (.ref ad)):∀ n,nH prog w mg mb base ad n:=by
 intro n
 induction n with
 |zero=>exact fun A l s av v d _ _ _ hc=>bft hc
 |succ n ih =>
  intro A l s av v d hA G r hc Q E hq;have hK:KSound prog w mg mb base n (C1 prog n f):=KSound.c1 hfd hm ih;obtain⟨P,X,sc',p1,p2,p3,p4,p5,p6,p7,p8,p9,p10,q1,q2,q3,q4,q5,q6,q7,q8,q9,q10,q11,hargs,hfn,gi,gd,lP,cok,gf,lP',lX,ne,nf,eb⟩:=cd;refine sB hfd hm hfn hargs hA G r fun env s₁ av1 σ EE Y _ _ _ hP _ _ _=>?_;have hA':=hA.deeper env;rw[eb];refine wpAny_execs_cons (wpAny_If ((dF hK 2 sc σ _).2 (A.deeper env) env s₁ av1 hA' Y.inv (k:=R.ok) (fin:=.ok (bE d)) ⟨by rw[sA gi gd lP hP];rfl,nofun⟩ (fun c s₂ k2 e=>?_) EH.ok));obtain rfl:c=bE d:=by injection e
  have Y2:=Y.k k2;cases zV hc with
  |dict m =>
   show wpAny (model prog w) (A.deeper env) (execs [.Return _ p7] env) _ _ s₂;obtain⟨vP,hvP,rP⟩:=Y2.inv.get P (.fz (.dict m)) lP hP;obtain⟨aP,kvP,rfl,h1,h2,h3,h4,h5,h6⟩:=(show Rep prog w s₂.heap av1 vP (.dict m) from rP).dict_inv;have hks:m.map (·.1)=(kvP.map (·.1)).map PyData.str:=by rw[h5,List.map_map];rfl
   have hnd:(kvP.map (·.1)).Nodup:=i9 h2;have hml:m.length≤sizeLine:=by have:=congrArg List.length h5;rw[List.length_map,List.length_map] at this;rw[this];exact h3.1
   refine wpAny_execs_cons (wpAny_Return_some (L6 (rec:=evE (C1 prog n f) 2 sc σ) (fun e hb=>Au hb) (dF hK 2 sc σ _).1 (fun _ _ _ _ q=>by cases q) (z:=.one X) rfl cok gd hks hnd ?_ (fun j q hj=>?_) hA' Y2.inv hml fun a' s' kk o=>?_))
   ·show rb (evE (C1 prog n f) 2 sc σ (.Name P q10)) (fun v=>ofP (items (dOf v)))=_;rw[i7 lP hP];rfl
   ·have hq1:q.1∈m.map (·.1):=List.mem_map.mpr ⟨q,List.mem_of_getElem? hj,rfl⟩;rw[hks] at hq1;obtain⟨k,_,hk⟩:=List.mem_map.mp hq1;obtain⟨q1',qe⟩:=q;obtain rfl:PyData.str k=q1':=hk;refine⟨bnd X (.str k) σ,rfl,Ma hK gf nf lP' lX ?_ ?_ (As hks hnd hj) (List.all_eq_true.mp (show(m.all fun p=>bJ n p.2)=true from hc) _ (List.mem_of_getElem? hj))⟩
    ·exact(aA.get_cons_ne ne.2.1).trans ((aA.get_cons_ne ne.1).trans hP)
    ·exact(aA.get_cons_ne ne.2.2).trans aA.get_cons_eq
   ·exact hq _ _ (Y2.k kk).k0 (aY.back (u:=.dp (.dict m)) (av:=av1) Y2.k0 o)
  |int i =>
   show wpAny (model prog w) (A.deeper env) (execs [] env) _ _ s₂;refine wpAny_execs_nil ?_;show wpAny (model prog w) (A.deeper env) (execs [.Return (some (.Name P p9)) p10] env) _ _ s₂;obtain⟨vP,hvP,rP⟩:=Y2.inv.get P (.fz (.int i)) lP hP;obtain⟨t,rfl⟩:=(show Rep prog w s₂.heap av1 vP (.int i) from rP).int_inv;exact wpAny_execs_cons (wpAny_Return_some (cC Y2.inv lP hvP (hq _ _ Y2.k0 ⟨fun _=>False,fun _ h=>h.elim,fun _ h=>h.elim,.int i t⟩)))
end
end Mine
namespace Mine
open PySem
section
variable {prog:Program} {w:World} {mg mb:Str→Option Value} {base:Heap} {n:Nat} {l:List Env}
theorem Av{A:Around}{env:Env}{h0:Heap}{av0 wr:Addr→Prop}{t:Expr}{b:List Stmt}{it:Value}{St:Nat→Heap→Prop}{ds:List PyData}(S:Src prog w A h0 av0 t it wr St ds){Q:Flow→Shared→Prop}{E:Value→Shared→Prop}(hp:PassesOwn (model prog w) A env E)
  (J:Nat→Shared→Prop) (hst:∀ i st,J i st→St i st.heap)
  (hd:∀ st h' tk,J ds.length st→(∀ b o,¬ wr b→st.heap.get? b=some o→h'.get? b=some o)→Q .next { st with heap:=h',toks:=tk })
  (ht:∀ i st d,ds[i]?=some d→J i st→∀ v h1 tk1,(∀ b o,¬ wr b→st.heap.get? b=some o→h1.get? b=some o)→St (i+1) h1→(∀ avn:Addr→Prop,(∀ b,avn b→∃ o,st.heap.get? b=some o)→(∀ b o,h0.get? b=some o→avn b→av0 b)→Rep prog w h1 avn v d) →
   ∀ E':Value→Shared→Prop,wpAny (model prog w) A (assign t env v) (fun _ s2=>wpAny (model prog w) A (execs b env) (fun f s3=>match f with | .next=>J (i+1) s3 | _=>False) E s2) E' { st with heap:=h1,toks:=tk1 })
  {s₂:Shared} (h:J 0 s₂):codeAny (model prog w) A (.forLoop t it b [] env) (fun r s'=>match r with | .ok f=>Q f s' | .error e=>cameBackBy (model prog w) A env E e s') s₂:=by
 refine codeAny_forLoop_any (fun k st=>∃ i,i+k=ds.length∧J i st) ?_ ds.length ⟨0,Nat.zero_add _,h⟩
 rintro k' st ⟨i,hi,hj⟩
 by_cases hend:i=ds.length
 ·subst hend;refine wpAny_mono (S.done st _ (fun s'=>Q .next s') (hst _ _ hj) fun h' tk hk=>hd st h' tk hj hk) (fun r s₁ h₁=>?_) fun _ _ x=>x;cases r with
  |none=>exact wpAny_execs_nil h₁
  |some v=>exact h₁.elim
 ·have hlt:i < ds.length:=by exact lR hi hend
  refine wpAny_mono (S.item i ds[i] st _ ?QQ (List.getElem?_eq_getElem hlt) (hst _ _ hj) ?body) ?link fun _ _ x=>x
  case link =>
   intro r s₁ h₁;cases r with
   |none=>exact h₁.elim
   |some v=>exact h₁
  intro v h1 tk1 hk1 st1 hrep;refine wpAny_mono (ht i st ds[i] (List.getElem?_eq_getElem hlt) hj v h1 tk1 hk1 st1 hrep _) (fun _ s2 h2=>wpAny_passesOwn hp (wpAny_mono h2 (fun f s3 h3=>?_) fun _ _ x=>x)) fun _ _ x=>x;cases f with
  |next=>exact⟨k' - 1,by exact jS hi hend,i+1,by exact jT hi hend,h3⟩
  |_=>exact h3.elim
theorem N5{k:Str}{v:Value}:∀ {kvs:List (Str×Value)},k∉kvs.map (·.1)→stored kvs k v=kvs++[(k,v)]:=by
 intro kvs h;unfold stored;rw[if_neg];intro hc;obtain⟨p,hp,e⟩:=List.any_eq_true.mp hc;exact h (List.mem_map.mpr ⟨p,hp,of_decide_eq_true e⟩)
theorem DictOf.at'{h h':Heap}{a:Addr}{kvs:List (Str×Value)}(p:h.DictOf (strKind prog w) a kvs)(hs:∀ o,h.get? a=some o→h'.get? a=some o):h'.DictOf (strKind prog w) a kvs:=by
 obtain⟨o,es,ep,e,r⟩:=p;exact⟨o,es,ep,hs _ e,r⟩
variable (prog w mg mb base l) in
structure CdI(env:Env)(sc:Scope)(av:Addr→Prop)(s:Shared)(P X F:Str)(m:List (PyData×PyData))(a:Addr)(wr av1:Addr→Prop)(h1:Heap)(St:Nat→Heap→Prop)(i:Nat)(σ:aA)(kvs:List (Str×Value))(pn:Nat→Addr→Prop)(st:Shared):Prop where
 act:Act prog w mg mb base l env sc (fun b=>(av b∨b=a)∨wr b) s σ (fun b=>(av1 b∨b=a)∨wr b) st
 gP:aA.get σ P=some (some (.fz (.dict m)))
 gX:∃ v0,aA.get σ X=some v0
 gF:aA.get σ F=some none
 var:aM env st.heap F (.ref a)
 sti:St i st.heap
 old:∀ b o,h1.get? b=some o→¬ (av1 b∨b=a)→st.heap.get? b=some o
 dic:st.heap.DictOf (strKind prog w) a kvs
 len:kvs.length=i
 pin:∀ j b,pn j b→(s.heap.get? b=none∧∃ o,st.heap.get? b=some o)∧¬ Mn env b∧¬ frs (env::l) b∧b≠a∧¬ wr b
 dis:∀ i j b,pn i b→pn j b→i=j
 kv:∀ (j:Nat) (kv:Str×Value) (d:PyData×PyData),kvs[j]?=some kv→m[j]?=some d→d.1=.str kv.1∧kv.1.length≤sizeLine∧Dp prog w st.heap (pn j) kv.2 d.2
theorem N6{C:Ctx}{j:Nat}{sc:Scope}{σ:aA}{x:Str}{p p' p'' q q':Pos}{d:PyData}(h1:isG sc "isinstance" = true)(h2:isG sc "dict" = true)(hx:isL sc x=true)(gx:aA.get σ x=some (some (.fz d))):evE C (j+3) sc σ (.UnaryOp .Not (.Call (.Name "isinstance" p) [.Name x q,.Name "dict" q'] [] p') p'')=.ok (.fz (.bool (!bE d))):=by
 show rb (evE C (j+2) sc σ (.Call (.Name "isinstance" p) [.Name x q,.Name "dict" q'] [] p')) (fun v=>ofP (d8 .Not v))=_;rw[sA h1 h2 hx gx];rfl
theorem N7{f:Str}{ad:Addr}{a:Arguments}{b:List Stmt}{sc:Scope}(hfd:b4 f prog.main.body=some (a,b,sc))(cd:CdDef f a b sc)(hm:mg f=some (.ref ad)):∀ n,nH prog w mg mb base ad n:=by
 intro n
 induction n with
 |zero=>exact fun A l s av v d _ _ _ hc=>bft hc
 |succ n ih =>
  intro A l s av v d hA G r hc Q E hq;have hK:KSound prog w mg mb base n (C1 prog n f):=KSound.c1 hfd hm ih;obtain⟨ad',o,pm,cd',doc,g1,g2,g3,g4⟩:=G.glo.fn f a b sc hfd;rw[hm] at g1;obtain rfl:=Value.ref.inj (si g1);obtain⟨P,X,F,p1,p2,p3,p4,p5,p6,p7,p8,p9,p10,p11,q1,q2,q3,q4,q5,q6,q7,q8,q9,q10,q11,q12,q13,q14,hargs,hfn,gi,gd,gf,lX,lF,ne,nf,eb⟩:=cd;refine sB hfd hm hfn hargs hA G r fun env s₁ av1 σ EE Y _ _ lP hP hno _ hpo=>?_;have hX:=hno X ne.1 lX;have hF:=hno F ne.2.1 lF;have hA':=hA.deeper env;rw[eb];refine wpAny_execs_cons (wpAny_If ((dF hK 3 sc σ _).2 (A.deeper env) env s₁ av1 hA' Y.inv (k:=R.ok) (fin:=.ok (!bE d)) ⟨by rw[N6 gi gd lP hP];rfl,nofun⟩ (fun c s₂ k2 e=>?_) EH.ok));obtain rfl:c=!bE d:=by injection e
  have Y2:=Y.k k2;cases zV hc with
  |int i =>
   show wpAny (model prog w) (A.deeper env) (execs [.Return (some (.Name P p6)) p7] env) _ _ s₂;obtain⟨vP,hvP,rP⟩:=Y2.inv.get P (.fz (.int i)) lP hP;obtain⟨t,rfl⟩:=(show Rep prog w s₂.heap av1 vP (.int i) from rP).int_inv;exact wpAny_execs_cons (wpAny_Return_some (cC Y2.inv lP hvP (hq _ _ Y2.k0 ⟨fun _=>False,fun _ h=>h.elim,fun _ h=>h.elim,.int i t⟩)))
  |dict m =>
   show wpAny (model prog w) (A.deeper env) (execs [] env) _ _ s₂;refine wpAny_execs_nil ?_;refine wpAny_execs_cons (wpAny_Assign_Name ((dF hK 1 sc σ (.Dict [] [] p10)).1.val hA' Y2.inv (u:=.own (.dict [])) rfl fun va s₃ k3 r3=>?_) rfl);obtain⟨da,rfl,dn,db⟩:=r3;obtain⟨kv0,d1,d2,d3,d4,_⟩:=(show BodyD prog w s₃.heap _ da [] from db)
   obtain rfl:kv0=[]:=by cases kv0 with | nil=>rfl | cons=>exact nomatch d4
   obtain⟨nM,nv,nv0,n0,nF⟩:=Y2.newNot dn;have Z:=Y2.pin (S:=fun b=>b=da) k3 (fun b hb=>hb▸dn) fun b hb=>by obtain⟨o,es,ep,e',_⟩:=d1;exact⟨o,hb▸e'⟩
   refine Z.putH hF fun s₄ W fs hvF _=>?_;have d1':s₄.heap.DictOf (strKind prog w) da []:=DictOf.at' d1 fun o e=>fs da o nM e;obtain⟨vP,hvP,rP⟩:=W.inv.get P (.fz (.dict m)) lP hP;obtain⟨aP,kvP,rfl,h1,h2,h3,h4,h5,h6⟩:=(show Rep prog w s₄.heap _ vP (.dict m) from rP).dict_inv;have hks:m.map (·.1)=(kvP.map (·.1)).map PyData.str:=by rw[h5,List.map_map];rfl
   have hnd:(kvP.map (·.1)).Nodup:=i9 h2;have hml:m.length≤sizeLine:=by have:=congrArg List.length h5;rw[List.length_map,List.length_map] at this;rw[this];exact h3.1
   have hsI:∀ x,foldedSetIterable (.Name P q2) env x=pure x:=fun x=>rfl;refine wpAny_execs_cons (wpAny_For (nD (target:=.Name X q1) (rec:=evE (C1 prog n f) 2 sc σ) (fun e hb=>Au hb) (dF hK 2 sc σ (.Name P q2)).1 (fun _ _ _ _ q=>by cases q) (A.deeper env) env s₄ _ hA' W.inv (k:=R.ok) (fin:=.ok (m.map (·.1))) ⟨?_,nofun⟩ (fun itv s₅ ds x e=>?_) EH.ok) hsI)
   ·show rb (rb (evE (C1 prog n f) 2 sc σ (.Name P q2)) (fun v=>ofP (items (dOf v)))) R.ok=_;rw[i7 lP hP];rfl
   obtain rfl:ds=m.map (·.1):=by injection e
   obtain⟨s₆,wr,St,k6,S,hst,hwr,k7,_⟩:=x;have W1:=W.k k6;have nw:∀ b,wr b→¬ Mn env b∧¬ frs (env::l) b∧s.heap.get? b=none∧b≠da:=fun b h=>by
    obtain⟨w1,w2,w3,w4,w5⟩:=W1.newNot (hwr b h).1;exact⟨w1,w5,w4,fun e=>w2 (.inr e)⟩
   have Z1:=W1.pin (S:=wr) (K.of k7) (fun b hb=>(hwr b hb).1) fun b hb=>(hwr b hb).2;have lX':=(nP lX).1;have lF':=(nP lF).1;refine Av S hpo (fun i st=>∃ σ kvs pn,CdI prog w mg mb base l env sc av s P X F m da wr av1 s₆.heap St i σ kvs pn st) (fun i st h=>by obtain⟨_,_,_,h⟩:=h;exact h.sti) (fun st h' tk h hk=>?_) (fun i st dk hdk h v h1' tk1 hk1 st1 hrep E'=>?_)
    ⟨σ,[],fun _ _=>False,Z1,hP,⟨_,hX⟩,hF,((hvF.k k6).k (K.of (l:=env::l) k7)),hst,fun b o e n=>k7.heap b o e,DictOf.at' d1' fun o e=>k7.heap _ o (k6.at nF e),rfl,fun _ _ h=>h.elim,fun _ _ _ h=>h.elim,fun j kv d e1 _=>ns e1⟩
   ·obtain⟨σ',kvs,pn,H⟩:=h;have hlen:kvs.length=m.length:=by rw[H.len,List.length_map]
    have kp:∀ b o,¬ wr b→st.heap.get? b=some o→h'.get? b=some o:=hk;have V:=(H.act.weaken (av₀:=av) (fun b hb=>.inl (.inl hb)) fun b hb=>(Y.fr0 b hb).1).wildS (S:=wr) (av':=fun b=>((av1 b∨b=da)∨wr b)∧¬ wr b) (h':=h') (tk:=tk) (fun b hb=>.inr hb) (fun b hb=>(nw b hb).2.2.1) (fun b hb hw=>(nw b hw).1 hb) (fun z c o hw=>(H.act.ownA z c o).2.2.1 (.inr hw)) kp (fun b hb=>hb.1) (fun b hb hw=>⟨hb,hw⟩) (fun b hb hw=>absurd hw hb.2) (fun b hb=>⟨.inl (.inl (Y.bas b hb)),fun hw=>?_⟩)
    ·have hv:aM env h' F (.ref da):=H.var.kept fun b o hb e=>kp b o (fun hw=>(nw b hw).1 hb) e;refine wpAny_execs_cons (wpAny_Return_some (cC V.inv lF' hv (hq _ _ V.k0 ⟨fun b=>b=da∨∃ j,pn j b,fun b hb=>hb.elim (fun e=>e▸n0) fun hb=>by obtain⟨j,hb⟩:=hb;exact(H.pin j b hb).1.1,fun b hb=>hb.elim (fun e=>?_) fun hb=>?_,.dict pn (.inl rfl) (DictOf.at' H.dic fun o e=>kp da o (fun hw=>(nw da hw).2.2.2 rfl) e) ⟨?_,fun kv hkv=>?_⟩ d3 ?_ (fun i b hb=>⟨.inr ⟨i,hb⟩,(H.pin i b hb).2.2.2.1⟩) H.dis fun i kv d e1 e2=>(H.kv i kv d e1 e2).2.2.mono fun b o hb e=>kp b o (H.pin i b hb).2.2.2.2 e⟩)))
     ·obtain⟨o,es,ep,e',_⟩:=H.dic;exact⟨o,e▸kp da o (fun hw=>(nw da hw).2.2.2 rfl) e'⟩
     ·obtain⟨j,hb⟩:=hb;obtain⟨⟨_,o,e⟩,q⟩:=H.pin j b hb;exact⟨o,kp b o q.2.2.2 e⟩
     ·exact hlen▸hml
     ·obtain⟨j,hj,e⟩:=List.getElem_of_mem hkv;have hjm:j < m.length:=hlen▸hj;exact(H.kv j kv m[j] (by rw[List.getElem?_eq_getElem hj,e]) (List.getElem?_eq_getElem hjm)).2.1
     ·refine List.ext_getElem? fun j=>?_;rw[List.getElem?_map,List.getElem?_map]
      by_cases hj:j < m.length
      ·have hj':j < kvs.length:=hlen▸hj;rw[List.getElem?_eq_getElem hj,List.getElem?_eq_getElem hj'];exact congrArg some (H.kv j _ _ (List.getElem?_eq_getElem hj') (List.getElem?_eq_getElem hj)).1
      ·rw[List.getElem?_eq_none (Nat.not_lt.mp hj),List.getElem?_eq_none (hlen▸Nat.not_lt.mp hj)];rfl
    ·obtain⟨_,_,w3,_,_⟩:=W1.newNot (hwr b hw).1;exact w3 (.inl hb)
   ·obtain⟨σ',kvs,pn,H⟩:=h;rw[List.getElem?_map] at hdk;obtain⟨md,hmd,rfl⟩:=Option.map_eq_some_iff.mp hdk;obtain⟨k,hk0,hke⟩:=List.mem_map.mp (show md.1∈(kvP.map (·.1)).map PyData.str by rw[← hks];exact List.mem_map.mpr ⟨md,List.mem_of_getElem? hmd,rfl⟩);obtain⟨mk,e⟩:=md;obtain rfl:PyData.str k=mk:=hke;have X1:Act prog w mg mb base l env sc (fun b=>(av b∨b=da)∨wr b) s σ' (fun b=>(av1 b∨b=da)∨wr b) { st with heap:=h1',toks:=tk1 } :=
     H.act.wildS (S:=wr) (fun b hb=>.inr hb) (fun b hb=>(nw b hb).2.2.1) (fun b hb hw=>(nw b hw).1 hb) (fun z c o hw=>(H.act.ownA z c o).2.2.1 (.inr hw)) hk1 (fun b hb=>hb) (fun b hb _=>hb) (fun b _ hw=>S.live _ _ st1 b hw) H.act.bas
    have rv:=hrep (fun b=>(av1 b∨b=da)∨wr b) H.act.inv.gnd.avlt fun b o e hb=>hb.elim id fun hb=>by rw[(hwr b hb).1] at e;exact ns e
    obtain⟨t,rfl,hkl⟩:=rv.str_inv;obtain⟨v0,gX⟩:=H.gX;refine wpAny_assign_Name (X1.put gX (show bQ prog w mg (env::l) h1' _ (.str k t) (.fz (.str k)) from .str k t hkl) (fun _ _ e=>nomatch e) fun s2 Y2 f2 hvX hvy=>?_);have gP2:aA.get (aA.set σ' X (.fz (.str k))) P=some (some (.fz (.dict m))):=by rw[aA.get_set,if_neg ne.1];exact H.gP
    have gX2:aA.get (aA.set σ' X (.fz (.str k))) X=some (some (.fz (.str k))):=by rw[aA.get_set,if_pos rfl,gX];rfl
    have gF2:aA.get (aA.set σ' X (.fz (.str k))) F=some none:=by rw[aA.get_set,if_neg ne.2.2.symm];exact H.gF
    refine wpAny_execs_cons (wpAny_Assign_Subscript (wpAny_Call_NameR (fF Y2.inv gf hm (Calls.callWith_function (o:=o) (fd:=Calls.docDef f a b sc pm cd' doc) (hJ rfl (wpAny_items_cons ((dF hK 2 sc _ (.Subscript (.Name P q7) (.Name X q8) q9)).1.val hA' Y2.inv (zU lP lX' gP2 gX2 (As hks hnd hmd)) fun v2 s3 k3 r3=>wpAny_items_nil ⟨⟨(Y2.inv.gnd.k k3).stay _ _ g2,g3⟩,?_⟩) rfl))))) (z8 ..));have Y3:=Y2.k k3;refine ih (A.deeper env) (env::l) s3 _ v2 e hA' Y3.inv.gnd r3 (List.all_eq_true.mp (show(m.all fun p=>bJ n p.2)=true from hc) _ (List.mem_of_getElem? hmd)) fun v3 s4 k4 dn3=>?_;have Y4:=Y3.k k4;obtain⟨pn',hn',hl',hr'⟩:=dn3;have k34:=k3.tr k4;have hvF4:aM env s4.heap F (.ref da):=(hvy F _ ne.2.2.symm (H.var.kept fun b o hb e=>hk1 b o (fun hw=>(nw b hw).1 hb) e)).k k34;refine cC Y4.inv lF' hvF4 (cC Y4.inv lX' (hvX.k k34) ?_);have kept:∀ b o,¬ wr b→¬ Mn env b→¬ frs (env::l) b→st.heap.get? b=some o→s4.heap.get? b=some o:=fun b o h1 h2 h3 e=>k34.at h3 (f2 b o h2 (hk1 b o h1 e));have dic4:s4.heap.DictOf (strKind prog w) da kvs:=DictOf.at' H.dic fun o e=>kept da o (fun hw=>(nw da hw).2.2.2 rfl) nM nF e;have hni:k∉kvs.map (·.1):=fun hk=>by
     obtain⟨p,hp,hpe⟩:=List.mem_map.mp hk;obtain⟨j,hj,hje⟩:=List.getElem_of_mem hp;have hjm:j < m.length:=by
      have:=(List.getElem?_eq_some_iff.mp hmd).1;rw[H.len] at hj;omega
     have q1:=(H.kv j p m[j] (by rw[List.getElem?_eq_getElem hj,hje]) (List.getElem?_eq_getElem hjm)).1;have hi:=(List.getElem?_eq_some_iff.mp hmd)
     have e1:(m.map (·.1))[j]?=some (.str k):=by rw[List.getElem?_map,List.getElem?_eq_getElem hjm];show some m[j].1=_;rw[q1,hpe]
     have e2:(m.map (·.1))[i]?=some (.str k):=by rw[List.getElem?_map,hmd];rfl
     rw[hks] at e1 e2;have hnd':((kvP.map (·.1)).map PyData.str).Nodup:=List.pairwise_map.mpr (List.Pairwise.imp (fun h e=>h (by injection e)) hnd);have u1:=List.getElem?_eq_some_iff.mp e1;have u2:=List.getElem?_eq_some_iff.mp e2;have:=(List.getElem_inj (h₀:=u1.1) (h₁:=u2.1) hnd').mp (u1.2.trans u2.2.symm);rw[H.len] at hj;omega
    have hkl2:kvs.length≤sizeLine:=by
     have:=(List.getElem?_eq_some_iff.mp hmd).1;rw[H.len];omega
    refine wpAny_setItem_pairs (dM k t) dic4 (fun h' hd' hsb=>?_) hkl2;rw[N5 hni] at hd';have kept':∀ b o,¬ b=da→s4.heap.get? b=some o→h'.get? b=some o:=fun b o hb e=>by rw[hsb.2 b hb];exact e
    have new4:∀ b,s3.heap.get? b=none→¬ Mn env b∧¬ frs (env::l) b∧b≠da∧¬ wr b∧s.heap.get? b=none:=fun b hb=>by
     obtain⟨z1,z2,z3,z4,z5⟩:=Y3.newNot hb;exact⟨z1,z5,fun e=>z2 (.inl (.inr e)),fun e=>z2 (.inr e),z4⟩
    refine wpAny_execs_nil ⟨aA.set σ' X (.fz (.str k)),kvs++[(k,v3)],fun j b=>pn j b∨(j=i∧pn' b),?_,gP2,⟨_,gX2⟩,gF2,hvF4.kept fun b o hb e=>kept' b o (fun e'=>nM (e'▸hb)) e,?_,fun b o e hb=>?_,hd',by rw[List.length_append,H.len];rfl,fun j b hb=>?_,fun j j' b q1 q2=>?_,fun j kv d e1 e2=>?_⟩
    ·exact Y4.wildS (S:=fun b=>b=da) (fun b hb=>.inl (.inr hb)) (fun b hb=>hb▸n0) (fun b hb e=>nM (e▸hb)) (fun z c o hw=>(Y4.ownA z c o).2.2.1 (.inl (.inr hw))) kept' (fun _ h=>h) (fun _ h _=>h) (fun b _ e=>by obtain⟨o,es,ep,e',_⟩:=hd';exact⟨o,e▸e'⟩) Y4.bas
    ·exact S.frame _ _ _ st1 (fun b o hw e=>kept' b o (nw b hw).2.2.2 (k34.at (nw b hw).2.1 (f2 b o (nw b hw).1 e))) fun b o e hb=>kept' b o (fun e'=>hb (.inr e')) (k34.at (fun fr=>hb (.inl (Y.inv.gnd.fav b fr))) (f2 b o (fun mn=>hb (.inl (Y.fresh b mn).1)) (hk1 b o (fun hw=>by rw[(hwr b hw).1] at e;exact ns e) (H.old b o e hb))))
    ·exact kept' b o (fun e'=>hb (.inr e')) (k34.at (fun fr=>hb (.inl (Y.inv.gnd.fav b fr))) (f2 b o (fun mn=>hb (.inl (Y.fresh b mn).1)) (hk1 b o (fun hw=>by rw[(hwr b hw).1] at e;exact ns e) (H.old b o e hb))))
    ·rcases hb with hb | ⟨_,hb⟩
     ·obtain⟨⟨z0,o,z1⟩,z2,z3,z4,z5⟩:=H.pin j b hb;exact⟨⟨z0,o,kept' b o z4 (kept b o z5 z2 z3 z1)⟩,z2,z3,z4,z5⟩
     ·obtain⟨z1,z2,z3,z4,z5⟩:=new4 b (hn' b hb);obtain⟨o,q⟩:=hl' b hb;exact⟨⟨z5,o,kept' b o z3 q⟩,z1,z2,z3,z4⟩
    ·have apart:∀ j b,pn j b→pn' b→False:=fun j b h1 h2=>by
      obtain⟨⟨z0,o,z1⟩,z2,z3,z4,z5⟩:=H.pin j b h1;have:=k3.at z3 (f2 b o z2 (hk1 b o z5 z1));rw[hn' b h2] at this;exact ns this
     rcases q1 with q1 | ⟨q1,q1'⟩
     ·rcases q2 with q2 | ⟨q2,q2'⟩
      ·exact H.dis j j' b q1 q2
      ·exact(apart j b q1 q2').elim
     ·rcases q2 with q2 | ⟨q2,q2'⟩
      ·exact(apart j' b q2 q1').elim
      ·rw[q1,q2]
    ·rcases Nat.lt_trichotomy j kvs.length with hj | hj | hj
     ·rw[List.getElem?_append_left hj] at e1;obtain⟨z1,z2,z3⟩:=H.kv j kv d e1 e2;exact⟨z1,z2,(z3.mono fun b o hb e=>by obtain⟨_,y2,y3,y4,y5⟩:=H.pin j b hb;exact kept' b o y4 (kept b o y5 y2 y3 e)).up fun _ q=>.inl q⟩
     ·subst hj;rw[List.getElem?_append_right (Nat.le_refl _),Nat.sub_self] at e1;obtain rfl:=si e1;rw[H.len,hmd] at e2;obtain rfl:=si e2;exact⟨rfl,hkl,(hr'.mono fun b o hb e=>kept' b o (new4 b (hn' b hb)).2.2.1 e).up fun _ q=>.inr ⟨H.len,q⟩⟩
     ·rw[List.getElem?_eq_none (by rw[List.length_append];exact hj)] at e1;exact ns e1
end
end Mine
namespace Mine
open PySem
open Classical in
noncomputable def cut(h:Heap)(pn:Addr→Prop):Heap:={ h with objs:=h.objs.mapIdx fun i o=>if pn i then { o with data:=.freed } else o }
theorem Aw(h:Heap){pn:Addr→Prop}{b:Addr}(hb:pn b):(cut h pn).get? b=none:=by
 unfold cut Heap.get?;simp only[Array.getElem?_mapIdx];cases h.objs[b]? with
 |none=>rfl
 |some o=>simp[hb]
theorem nQ(h:Heap){pn:Addr→Prop}{b:Addr}(hb:¬ pn b):(cut h pn).get? b=h.get? b:=by
 unfold cut Heap.get?;simp only[Array.getElem?_mapIdx];cases h.objs[b]? with
 |none=>rfl
 |some o=>simp[hb]
structure KE(pn:Addr→Prop)(s s':Shared):Prop where
 same:∃ h t,s'={ s with heap:=h,toks:=t }
 keep:∀ b o,¬ pn b→s.heap.get? b=some o→s'.heap.get? b=some o
 live:∀ b,pn b→(∃ o,s.heap.get? b=some o)→∃ o,s'.heap.get? b=some o
theorem KE.on{pn:Addr→Prop}{s s' s'':Shared}(x:KE pn s s')(sh:∃ h t,s''={ s with heap:=h,toks:=t })(hk:∀ b o,(∃ o,s.heap.get? b=some o)→s'.heap.get? b=some o→s''.heap.get? b=some o):KE pn s s'' :=
 ⟨sh,fun b o n e=>hk b o ⟨o,e⟩ (x.keep b o n e),fun b hb hl=>by obtain⟨o,e⟩:=x.live b hb hl;exact⟨o,hk b o hl e⟩⟩
theorem KE.tr{pn pn':Addr→Prop}(hp:∀ b,pn' b→pn b){s s' s'':Shared}(x:KE pn s s')(y:KE pn' s' s''):KE pn s s'':=by
 obtain⟨⟨h,t,rfl⟩,k,v⟩:=x;obtain⟨⟨h',t',rfl⟩,k',v'⟩:=y;refine⟨⟨h',t',rfl⟩,fun b o n e=>k' b o (fun q=>n (hp b q)) (k b o n e),fun b hb hl=>?_⟩
 by_cases hb':pn' b
 ·exact v' b hb' (v b hb hl)
 ·obtain⟨o,e⟩:=v b hb hl;exact⟨o,k' b o hb' e⟩
theorem Kp.same{s s':Shared}(y:Kp s s'):∃ h t,s'={ s with heap:=h,toks:=t }:=by obtain⟨h,t,e,_⟩:=y;exact⟨h,t,e⟩
theorem sE{s s' s'':Shared}(x:∃ h t,s'={ s with heap:=h,toks:=t })(y:∃ h t,s''={ s' with heap:=h,toks:=t }):∃ h t,s''={ s with heap:=h,toks:=t }:=by
 obtain⟨h,t,rfl⟩:=x;obtain⟨h',t',rfl⟩:=y;exact⟨h',t',rfl⟩
theorem K.nil{s s':Shared}(k:K [] s s'):Kp s s':=by
 obtain⟨h,t,rfl,kk,_⟩:=k;exact⟨h,t,rfl,fun b o e=>kk b o (fun f=>nomatch f) e⟩
theorem N8{k:Str}{v:Value}:∀ {kvs:List (Str×Value)} {i:Nat},(kvs.map (·.1)).Nodup→kvs[i]?=some (k,v)→valueAt kvs k=some v:=by
 intro kvs
 induction kvs with
 |nil=>intro i _ h;exact ns h
 |cons p r ih =>
  intro i hn h;obtain⟨n1,n2⟩:=List.nodup_cons.mp (show(p.1::r.map (·.1)).Nodup from hn);unfold valueAt;cases i with
  |zero =>
   obtain rfl:=si h;rw[List.find?_cons_of_pos (by simp)];rfl
  |succ i =>
   have hm:k∈r.map (·.1):=List.mem_map.mpr ⟨(k,v),List.mem_of_getElem? h,rfl⟩;have hne:p.1≠k:=fun e=>n1 (by rw[e];exact hm);rw[List.find?_cons_of_neg (by simpa using hne)];exact ih n2 h
section
variable {prog:Program} {w:World} {mg mb:Str→Option Value} {base:Heap} {n:Nat} {l:List Env}
theorem Act.rebase{env:Env}{sc:Scope}{av₀:Addr→Prop}{s₀ sb:Shared}{σ:aA}{av:Addr→Prop}{s:Shared}(X:Act prog w mg mb base l env sc av₀ s₀ σ av s)(k:K l sb s₀)(st:∀ b o,base.get? b=some o→sb.heap.get? b=some o)(fr:∀ b,frs l b→∃ o,sb.heap.get? b=some o):Act prog w mg mb base l env sc av₀ sb σ av s :=
 { X with stay0:=st,fr0:=fun b h=>⟨(X.fr0 b h).1,fr b h⟩,k0:=k.tr X.k0,fresh:=fun b h=>⟨(X.fresh b h).1,k.non (X.fresh b h).2.1,(X.fresh b h).2.2⟩,ownA:=fun x a h=>⟨(X.ownA x a h).1,k.non (X.ownA x a h).2.1,(X.ownA x a h).2.2⟩ }
theorem Act.grow0{env:Env}{sc:Scope}{av₀ pn:Addr→Prop}{s₀:Shared}{σ:aA}{av:Addr→Prop}{s:Shared}(X:Act prog w mg mb base l env sc av₀ s₀ σ av s)(hn:∀ x v,aA.get σ x≠some (some v))(hl:∀ b,pn b→∃ o,s.heap.get? b=some o)(hM:∀ b,pn b→¬ Mn env b):Act prog w mg mb base l env sc (fun b=>av₀ b∨pn b) s₀ σ (fun b=>av b∨pn b) s:=by
 have noo:∀ {P:Prop} z a,bH env σ s.heap z a→P:=fun z a h=>by obtain⟨⟨d,e⟩,_⟩:=h;exact absurd e (hn z _)
 exact { X with inv:={ X.inv with gnd:=X.inv.gnd.grow hl,get:=fun x v _ hg=>absurd hg (hn x v) },fr0:=fun b h=>⟨.inl (X.fr0 b h).1,(X.fr0 b h).2⟩,bas:=fun b h=>h.imp (X.bas b) id,fresh:=fun b h=>⟨.inl (X.fresh b h).1,(X.fresh b h).2.1,fun q=>q.elim (X.fresh b h).2.2 fun q=>hM b q h⟩,ownA:=fun x a h=>noo x a h,ownI:=fun x y a h=>noo x a h }
noncomputable def EmC(prog:Program)(w:World)(mg mb:Str→Option Value)(base:Heap)(ad:Addr)(n:Nat):Prop :=
 ∀ (A:Around) (l:List Env) (s:Shared) (av pn:Addr→Prop) (v:Value) (m:List (PyData×PyData)),Room n false l A→Gnd prog w mg mb base l av s→(∀ b,pn b→base.get? b=none∧¬ av b∧∃ o,s.heap.get? b=some o)→Dp prog w s.heap pn v (.dict m)→bJ n (.dict m)=true →
  ∀ {Q:Value→Shared→Prop} {E:Value→Shared→Prop},(∀ s',KE pn s s'→Q .none s')→wpAny (model prog w) A (call (.ref ad) [v]) Q E s
inductive DpD(prog:Program)(w:World)(h:Heap)(pn:Addr→Prop)(v:Value)(ds:List (PyData×PyData)):Prop where
 |mk (a:Addr) (kvs:List (Str×Value)) (f:Nat→Addr→Prop) (hv:v=.ref a) (h1:pn a) (h2:h.DictOf (strKind prog w) a kvs) (h3:kvs.length≤sizeLine∧∀ kv∈kvs,kv.1.length≤sizeLine) (h4:(a==sysModules)=false) (h5:ds.map (·.1)=kvs.map (fun kv=>PyData.str kv.1)) (h6:∀ i b,f i b→pn b∧b≠a) (h7:∀ i j b,f i b→f j b→i=j)
  (h8:∀ (i:Nat) (kv:Str×Value) (d:PyData×PyData),kvs[i]?=some kv→ds[i]?=some d→Dp prog w h (f i) kv.2 d.2):DpD prog w h pn v ds
theorem Dp.inv{h:Heap}{pn:Addr→Prop}{v:Value}{ds:List (PyData×PyData)}(r:Dp prog w h pn v (.dict ds)):DpD prog w h pn v ds:=by
 cases r with
 |dict f h1 h2 h3 h4 h5 h6 h7 h8=>exact⟨_,_,f,rfl,h1,h2,h3,h4,h5,h6,h7,h8⟩
variable (prog w mg mb base l) in
structure EmI(env:Env)(sc:Scope)(av pn:Addr→Prop)(sv s:Shared)(P X:Str)(m:List (PyData×PyData))(a:Addr)(kvs:List (Str×Value))(f:Nat→Addr→Prop)(wr av1:Addr→Prop)(h0:Heap)(St:Nat→Heap→Prop)(i:Nat)(σ:aA)(st:Shared):Prop where
 act:Act prog w mg mb base l env sc (fun b=>(av b∨pn b)∨wr b) sv σ (fun b=>(av1 b∨pn b)∨wr b) st
 gX:∃ v0,aA.get σ X=some v0
 var:aM env st.heap P (.ref a)
 sti:St i st.heap
 old:∀ b o,h0.get? b=some o→¬ (av1 b∨pn b)→st.heap.get? b=some o
 dic:st.heap.DictOf (strKind prog w) a kvs
 ke:KE pn s st
 kid:∀ (j:Nat) (kv:Str×Value) (d:PyData×PyData),i≤j→kvs[j]?=some kv→m[j]?=some d→Dp prog w st.heap (f j) kv.2 d.2
inductive DpT(d:PyData):Prop where
 |no (h:bE d=false):DpT d
 |yes (m:List (PyData×PyData)) (h:d=.dict m):DpT d
theorem Dp.two{h:Heap}{pn:Addr→Prop}{v:Value}{d:PyData}(r:Dp prog w h pn v d):DpT d:=by
 cases r with
 |int i t=>exact .no rfl
 |dict f h1 h2 h3 h4 h5 h6 h7 h8=>exact .yes _ rfl
theorem Ax{A:Around}{env:Env}{sc:Scope}{σ:aA}{av:Addr→Prop}{s:Shared}{P X:Str}{p q r:Pos}{a:Addr}{kvs:List (Str×Value)}{k:Str}{t:Tok}{v:Value}(I:Inv0 prog w mg mb base l env sc σ av s)(lP:isL sc P=true)(lX:isL sc X=true)(hP:aM env s.heap P (.ref a))(hX:aM env s.heap X (.str k t))(hd:s.heap.DictOf (strKind prog w) a kvs)(hv:valueAt kvs k=some v)
  {Q:Value→Shared→Prop} {E:Value→Shared→Prop} (hq:Q v { s with toks:=s.toks+1 }):wpAny (model prog w) A (eval (.Subscript (.Name P p) (.Name X q) r) env) Q E s :=
 qY ⟨_,fun _ _=>xF rfl⟩ (cC I lP hP (cC I lX hX ⟨⟨"dict", _,hd.typeIs,F.slot_dict_getitem.lookup⟩,wpAny_getItem_of (dM k t) hd.mapOf hv hq⟩))
end
end Mine
namespace Mine
open PySem
section
variable {prog:Program} {w:World} {mg mb:Str→Option Value} {base:Heap} {n:Nat} {l:List Env}
theorem N9{m:Str}{ad:Addr}{a:Arguments}{b:List Stmt}{sc:Scope}(hfd:b4 m prog.main.body=some (a,b,sc))(ed:EmDef m a b sc)(hm:mg m=some (.ref ad)):∀ n,EmC prog w mg mb base ad n:=by
 intro n
 induction n with
 |zero=>exact fun A l s av pn v ms _ _ _ _ hc=>bft hc
 |succ n ih =>
  intro A l s av pn v ms hA G hpn hD hc Q E hq;obtain⟨ad',o,pm,cd',doc,g1,g2,g3,g4⟩:=G.glo.fn m a b sc hfd;rw[hm] at g1;obtain rfl:=Value.ref.inj (si g1);obtain⟨P,X,p1,p2,p3,p4,p5,p6,p7,p8,p9,p10,q1,q2,q3,q4,q5,q6,q7,q8,q9,q10,ap,cp,hline,hargs,hfn,gi,gd,gl,gm,lX,ne,nm,eb⟩:=ed;have r:Rep prog w s.heap av v (.dict ms):=hD.rep fun b hb=>(hpn b hb).2.1;obtain⟨da,kvs,f,rfl,h1,h2,h3,h4,h5,h6,h7,h8⟩:=hD.inv;have hnd:(kvs.map (·.1)).Nodup:=i9 h2;refine sB hfd hm hfn hargs hA G r fun env s₁ av1 σ EE Y kp0 hvP0 lP hP hno hno2 hpo=>?_;have hX:aA.get (hide σ P) X=some none:=by rw[hY,hno X ne lX];simp[ne]
  have hnone:∀ x v,aA.get (hide σ P) x≠some (some v):=fun x v hg=>by
   rw[hY] at hg;obtain⟨o',e1,e2⟩:=Option.map_eq_some_iff.mp hg
   by_cases hx:P=x
   ·rw[if_pos hx] at e2;exact ns e2
   ·rw[if_neg hx] at e2;subst e2;exact hno2 x v hx e1
  have hA':=hA.deeper env;rw[eb];have lX':=(nP lX).1;have npM:∀ b,pn b→¬ Mn env b:=fun b hb hM=>by obtain⟨_,_,o,e⟩:=hpn b hb;rw[(Y.fresh b hM).2.1] at e;exact ns e
  have npF:∀ b,pn b→¬ frs (env::l) b:=fun b hb hf=>by
   rcases(i8 Y.frm).mp hf with hf | hf
   ·exact npM b hb (.inl hf)
   ·exact(hpn b hb).2.1 (G.fav b hf)
  have pl1:∀ b,pn b→∃ o,s₁.heap.get? b=some o:=fun b hb=>by obtain⟨_,_,o,e⟩:=hpn b hb;exact⟨o,kp0.heap b o e⟩
  have kv:K l { s with heap:=cut s.heap pn } s:=K.of ⟨s.heap,s.toks,rfl,fun b o e=>by
   by_cases hb:pn b
   ·rw[Aw _ hb] at e;exact ns e
   ·rw[nQ _ hb] at e;exact e⟩
  have Yb:=Y.rebase kv (fun b o e=>(nQ _ fun hb=>by rw[(hpn b hb).1] at e;exact ns e).trans (G.stay b o e)) fun b hb=>by
   obtain⟨_,o,e⟩:=Y.fr0 b hb;exact⟨o,(nQ _ fun q=>(hpn b q).2.1 (G.fav b hb)).trans e⟩
  have Z:=(Yb.hide P).grow0 (pn:=pn) hnone pl1 npM;have hsI:∀ x,foldedSetIterable (.Call (.Name "list" p2) [.Name P p3] [] p4) env x=pure x:=fun x=>rfl;refine wpAny_execs_cons (wpAny_For (PySem.Call_name1 rfl (cT Z.inv gl rfl (gB (.inr ⟨_,rfl⟩) (cC Z.inv lP hvP0 ?_)))) hsI);refine Yd.fin (yU (hA'.handled rfl) (r.keeps kp0.heap)) (k:=R.ok) (fin:=.ok (.own (.list (ms.map (·.1))))) ⟨rfl,nofun⟩ fun vL s₂ u hL e=>?_;obtain⟨k2,rL⟩:=hL;obtain rfl:u=.own (.list (ms.map (·.1))):=by injection e
  obtain⟨aL,rfl,nL,bL⟩:=rL;obtain⟨vs,pl,ln,z,rr⟩:=(show BodyL prog w s₂.heap _ aL _ from bL)
  have repL:Rep prog w s₂.heap (fun b=>av1 b∨pn b) (.ref aL) (.list (ms.map (·.1))):=by
   refine .list (fun q=>?_) pl ln z fun i v d e1 e2=>?_
   ·rcases q with q | q
    ·obtain⟨o,e⟩:=Y.inv.gnd.avlt _ q;rw[nL] at e;exact ns e
    ·obtain⟨o,e⟩:=pl1 _ q;rw[nL] at e;exact ns e
   ·have rd:=rr i v d e1 e2;rw[h5,List.getElem?_map] at e2;obtain⟨kv,_,rfl⟩:=Option.map_eq_some_iff.mp e2;obtain⟨t,rfl,hk⟩:=rd.str_inv;exact .str _ _ hk
  refine zG (l:=[]) (target:=.Name X p1) (K.rf [] s₂) (hA'.handled rfl) repL (show items (.list (ms.map (·.1)))=.ok (ms.map (·.1)) from rfl) fun itv s₃ x=>?_;obtain⟨s₆,wr,St,k6,S,hst,hwr,k7,_⟩:=x;have kp6:Kp s₁ s₆:=k2.tr (K.nil k6);have W1:=Z.k (K.of kp6);have nw:∀ b,wr b→¬ Mn env b∧¬ frs (env::l) b∧¬ pn b∧s.heap.get? b=none∧(cut s.heap pn).get? b=none:=fun b h=>by
   obtain⟨w1,w2,w3,w4,w5⟩:=W1.newNot (hwr b h).1;have hp:¬ pn b:=fun e=>w2 (.inr e);exact⟨w1,w5,hp,(nQ _ hp).symm.trans w4,w4⟩
  have Z1:=W1.pin (S:=wr) (K.of k7) (fun b hb=>(hwr b hb).1) fun b hb=>(hwr b hb).2;have kp7:Kp s s₃:=(kp0.tr kp6).tr k7;have hE1:∀ {b:Addr},Mn env b→s.heap.get? b=none:=fun {b} hb=>(Y.fresh b hb).2.1;have fl:∀ {st:Shared},KE pn s st→∀ b,pn b→∃ o,st.heap.get? b=some o:=fun {st} ke b hb=>ke.live b hb (hpn b hb).2.2;refine Av S hpo (fun i st=>∃ σ,EmI prog w mg mb base l env sc av pn { s with heap:=cut s.heap pn } s P X ms da kvs f wr av1 s₆.heap St i σ st) (fun i st h=>by obtain⟨_,h⟩:=h;exact h.sti) (fun st h' tk h hk=>?_) (fun i st dk hdk h v h1' tk1 hk1 st1 hrep E'=>?_)
   ⟨_,Z1,⟨_,hX⟩,hvP0.keeps (kp6.tr k7).heap,hst,fun b o e _=>k7.heap b o e,DictOf.at' h2 fun o e=>kp7.heap _ o e,⟨kp7.same,fun b o _ e=>kp7.heap b o e,fun b _ hl=>by obtain⟨o,e⟩:=hl;exact⟨o,kp7.heap b o e⟩⟩,fun j kv d _ e1 e2=>(h8 j kv d e1 e2).mono fun b o _ e=>kp7.heap b o e⟩
  ·obtain⟨σ',H⟩:=h;have V:=(H.act.weaken (av₀:=fun b=>av b∨pn b) (fun b hb=>.inl hb) fun b hb=>.inl (Y.fr0 b hb).1).wildS (S:=wr) (av':=fun b=>((av1 b∨pn b)∨wr b)∧¬ wr b) (h':=h') (tk:=tk) (fun b hb=>.inr hb) (fun b hb=>(nw b hb).2.2.2.2) (fun b hb hw=>(nw b hw).1 hb) (fun z c o hw=>(H.act.ownA z c o).2.2.1 (.inr hw)) hk (fun b hb=>hb.1) (fun b hb hw=>⟨hb,hw⟩) (fun b hb hw=>absurd hw hb.2) (fun b hb=>⟨hb.elim (fun hb=>.inl (.inl (Y.bas b hb))) fun hb=>.inl (.inr hb),fun hw=>hb.elim (fun hb=>?_) fun hb=>(nw b hw).2.2.1 hb⟩)
   ·have hv:aM env h' P (.ref da):=H.var.kept fun b o hb e=>hk b o (fun hw=>(nw b hw).1 hb) e;have dic':h'.DictOf (strKind prog w) da kvs:=DictOf.at' H.dic fun o e=>hk da o (fun hw=>(nw da hw).2.2.1 h1) e;refine wpAny_execs_cons (wpAny_Expr_any (wpAny_Call_method_lateS (nA rfl "clear" env) (kJ rfl (Nat.zero_le _) cp env) hline (cC V.inv lP hv ⟨"dict", "dict.clear", F.plainAttrs_dict,F.slot_dict_clear,F.type_dict_clear,dic'.typeIs,rH dic',fI rfl (wpAny_items_nil (call_meetsIn F.slot_dict_clear dic'.typeIs F.entry_dict_clear (F.args_dict_clear_1 _) (meets_dict_clear (strKind prog w) da) ⟨kvs,dic',h3.1,fun h2' hd2 hs2=>?_⟩))⟩)) (by unfold interactive;rw[V.inv.kind];rfl) rfl);refine wpAny_execs_nil (hq _ ?_);have ke1:KE pn s { st with heap:=h',toks:=tk }:=H.ke.on (sE H.ke.same ⟨h',tk,rfl⟩) fun b o hl e=>hk b o (fun hw=>by obtain⟨o',e'⟩:=hl;rw[(nw b hw).2.2.2.1] at e';exact ns e') e;refine ke1.tr (pn':=pn) (fun _ q=>q) ⟨⟨h2',tk,rfl⟩,fun b o hb e=>by show h2'.get? b=_;rw[hs2.2 b fun q=>hb (q▸h1)];exact e,fun b hb hl=>?_⟩
    by_cases hbd:b=da
    ·obtain⟨o,es,ep,e',_⟩:=hd2;exact⟨o,hbd▸e'⟩
    ·obtain⟨o,e⟩:=hl;exact⟨o,by show h2'.get? b=_;rw[hs2.2 b hbd];exact e⟩
   ·obtain⟨_,_,w3,_,_⟩:=W1.newNot (hwr b hw).1;exact w3 (.inl hb)
  ·obtain⟨σ',H⟩:=h;rw[List.getElem?_map] at hdk;obtain⟨md,hmd,rfl⟩:=Option.map_eq_some_iff.mp hdk;obtain⟨kv,hkv,hke⟩:∃ kv,kvs[i]?=some kv∧PyData.str kv.1=md.1:=by
    have e1:(ms.map (·.1))[i]?=some md.1:=by rw[List.getElem?_map,hmd];rfl
    rw[h5,List.getElem?_map] at e1;exact Option.map_eq_some_iff.mp e1
   obtain⟨k,cv⟩:=kv;have X1:Act prog w mg mb base l env sc (fun b=>(av b∨pn b)∨wr b) { s with heap:=cut s.heap pn } σ' (fun b=>(av1 b∨pn b)∨wr b) { st with heap:=h1',toks:=tk1 } :=
    H.act.wildS (S:=wr) (fun b hb=>.inr hb) (fun b hb=>(nw b hb).2.2.2.2) (fun b hb hw=>(nw b hw).1 hb) (fun z c o hw=>(H.act.ownA z c o).2.2.1 (.inr hw)) hk1 (fun b hb=>hb) (fun b hb _=>hb) (fun b _ hw=>S.live _ _ st1 b hw) H.act.bas
   have rv:=hrep (fun b=>(av1 b∨pn b)∨wr b) H.act.inv.gnd.avlt fun b o e hb=>hb.elim id fun hb=>by rw[(hwr b hb).1] at e;exact ns e
   rw[← hke] at rv;obtain⟨t,rfl,hkl⟩:=rv.str_inv;obtain⟨v0,gX⟩:=H.gX;refine wpAny_assign_Name (X1.put gX (show bQ prog w mg (env::l) h1' _ (.str k t) (.fz (.str k)) from .str k t hkl) (fun _ _ e=>nomatch e) fun s2 Y2 f2 hvX hvy=>?_);have kept:∀ b o,¬ wr b→¬ Mn env b→st.heap.get? b=some o→s2.heap.get? b=some o:=fun b o h1 h2 e=>f2 b o h2 (hk1 b o h1 e);have pk:∀ b o,pn b→st.heap.get? b=some o→s2.heap.get? b=some o:=fun b o hb e=>kept b o (fun hw=>(nw b hw).2.2.1 hb) (npM b hb) e;have hP2:aM env s2.heap P (.ref da):=hvy P _ ne (H.var.kept fun b o hb e=>hk1 b o (fun hw=>(nw b hw).1 hb) e);have iK:s2.heap.DictOf (strKind prog w) da kvs:=DictOf.at' H.dic fun o e=>pk da o h1 e;have hva:=N8 hnd hkv;have kd:Dp prog w s2.heap (f i) cv md.2:=(H.kid i _ _ (Nat.le_refl _) hkv hmd).mono fun b o hb e=>pk b o (h6 i b hb).1 e;have sh2:∃ h t,s2={ s with heap:=h,toks:=t }:=by obtain⟨h,t,e,_⟩:=Y2.k0;exact⟨h,t,e⟩
   have ke2:KE pn s s2:=H.ke.on sh2 fun b o hl e=>kept b o (fun hw=>by obtain⟨o',e'⟩:=hl;rw[(nw b hw).2.2.2.1] at e';exact ns e') (fun hM=>by obtain⟨o',e'⟩:=hl;rw[hE1 hM] at e';exact ns e') e;have gX2:aA.get (aA.set σ' X (.fz (.str k))) X=some (some (.fz (.str k))):=by rw[aA.get_set,if_pos rfl,gX];rfl
   have st2:St (i+1) s2.heap:=S.frame _ _ _ st1 (fun b o hw e=>f2 b o (nw b hw).1 e) fun b o e hb=>f2 b o (fun mn=>hb (.inl (Y.fresh b mn).1)) (hk1 b o (fun hw=>by rw[(hwr b hw).1] at e;exact ns e) (H.old b o e hb));have old2:∀ b o,s₆.heap.get? b=some o→¬ (av1 b∨pn b)→s2.heap.get? b=some o:=fun b o e hb=>f2 b o (fun mn=>hb (.inl (Y.fresh b mn).1)) (hk1 b o (fun hw=>by rw[(hwr b hw).1] at e;exact ns e) (H.old b o e hb));have kid2:∀ (j:Nat) (kv:Str×Value) (d:PyData×PyData),i+1≤j→kvs[j]?=some kv→ms[j]?=some d→Dp prog w s2.heap (f j) kv.2 d.2:=fun j kv d hj e1 e2=>(H.kid j kv d (Nat.le_of_succ_le hj) e1 e2).mono fun b o hb e=>pk b o (h6 j b hb).1 e;have I2:=Y2.inv;refine wpAny_execs_cons (wpAny_If (wpAny_isTrue_value (wpAny_Call_NameR (cT I2 gi rfl (fI rfl (wpAny_items_cons (Ax I2 lP lX' hP2 hvX iK hva (wpAny_items_cons (cT (I2.k (K.of (Kp.tok' s2 (s2.toks+1)))) gd rfl (wpAny_items_nil ((yL (prog:=prog) (w:=w) (A:=A.deeper env) (s:={ s2 with toks:=s2.toks+1 }) (av:=fun _=>False) (kd.rep fun _ _ h=>h)).1 _ _ fun tk=>wpAny_truthy_bool ?_))) rfl)) rfl)))) rfl));have Y3:=Y2.k (K.of (Kp.tok' s2 tk));cases kd.two with
   |no hno =>
    rw[hno];show wpAny (model prog w) (A.deeper env) (execs [] env) _ _ _;exact wpAny_execs_nil (wpAny_execs_nil ⟨_,Y3,⟨_,gX2⟩,hP2,st2,old2,iK,ke2.on (sE sh2 ⟨s2.heap,tk,rfl⟩) fun b o _ e=>e,kid2⟩)
   |yes dm hdm =>
    rw[hdm];show wpAny (model prog w) (A.deeper env) (execs [.Expr (.Call (.Name m q1) [.Subscript (.Name P q2) (.Name X q3) q4] [] q5) q6] env) _ _ _;rw[hdm] at kd;refine wpAny_execs_cons (wpAny_Expr_any (wpAny_Call_NameR (fF Y3.inv gm hm (Calls.callWith_function (o:=o) (fd:=Calls.docDef m a b sc pm cd' doc) (hJ rfl (wpAny_items_cons (Ax Y3.inv lP lX' hP2 hvX iK hva (wpAny_items_nil ⟨⟨Y3.inv.gnd.stay _ _ g2,g3⟩,?_⟩)) rfl))))) (by unfold interactive;rw[Y3.inv.kind];rfl) rfl);have Y4:=Y3.k (K.of (Kp.tok' { s2 with toks:=tk } (tk+1)));have nf:∀ b,f i b→¬ frs (env::l) b:=fun b hb=>npF b (h6 i b hb).1;have hce:bJ n (.dict dm)=true:=by
     have:=List.all_eq_true.mp (show(ms.all fun p=>bJ n p.2)=true from hc) _ (List.mem_of_getElem? hmd);rw[hdm] at this;exact this
    refine ih (A.deeper env) (env::l) { s2 with toks:=tk+1 } (fun b=>((av1 b∨pn b)∨wr b)∧¬ f i b) (f i) cv dm hA' { Y4.inv.gnd with fav:=fun b hb=>⟨.inl (.inl (Y.inv.gnd.fav b hb)),fun q=>nf b q hb⟩,avlt:=fun b hb=>Y4.inv.gnd.avlt b hb.1,avS:=⟨.inl (.inl Y.inv.gnd.avS),fun q=>?_⟩ } (fun b hb=>⟨(hpn b (h6 i b hb).1).1,fun q=>q.2 hb,ke2.live b (h6 i b hb).1 (hpn b (h6 i b hb).1).2.2⟩) kd hce fun s5 ke5=>?_
    ·obtain⟨mm,oo,es,ep,e',_⟩:=G.glo.mods;rw[(hpn _ (h6 i _ q).1).1] at e';exact ns e'
    ·obtain⟨⟨h5',t5,rfl⟩,k5,v5⟩:=ke5;have Y5:=Y4.wildS (S:=f i) (h':=h5') (tk:=t5) (fun b hb=>.inl (.inr (h6 i b hb).1)) (fun b hb=>Aw _ (h6 i b hb).1) (fun b hb q=>npM b (h6 i b q).1 hb) (fun z c o q=>(Y4.ownA z c o).2.2.1 (.inl (.inr (h6 i c q).1))) (fun b o hb e=>k5 b o hb e) (fun _ h=>h) (fun _ h _=>h) (fun b _ q=>v5 b q (ke2.live b (h6 i b q).1 (hpn b (h6 i b q).1).2.2)) Y4.bas;refine wpAny_execs_nil (wpAny_execs_nil ⟨_,Y5,⟨_,gX2⟩,hP2.kept fun b o hb e=>k5 b o (fun q=>npM b (h6 i b q).1 hb) e,S.frame _ _ _ st2 (fun b o hw e=>k5 b o (fun q=>(nw b hw).2.2.1 (h6 i b q).1) e) fun b o e hb=>k5 b o (fun q=>hb (.inr (h6 i b q).1)) (old2 b o e hb),fun b o e hb=>k5 b o (fun q=>hb (.inr (h6 i b q).1)) (old2 b o e hb),DictOf.at' iK fun o e=>k5 da o (fun q=>(h6 i da q).2 rfl) e,?_,fun j kv d hj e1 e2=>(kid2 j kv d hj e1 e2).mono fun b o hb e=>k5 b o (fun q=>?_) e⟩)
     ·exact(ke2.on (s'':={ s2 with toks:=tk+1 }) (sE sh2 ⟨s2.heap,tk+1,rfl⟩) fun b o _ e=>e).tr (fun b q=>(h6 i b q).1) ⟨⟨h5',t5,rfl⟩,k5,v5⟩
     ·have:=h7 i j b q hb;omega
end
end Mine
namespace Mine
open PySem
theorem sF{u:V}{d:PyData}(h:dpD u=.ok d):u=.dp d:=by
 cases u with
 |dp e=>exact congrArg V.dp (pi h)
 |_=>exact pno h
section
variable {prog:Program} {w:World} {mg mb:Str→Option Value} {base:Heap} {n:Nat} {hd:Bool} {l₀:List Env} {env:Env} {sc:Scope} {av₀ P:Addr→Prop} {s₀:Shared} {σ:aA} {av:Addr→Prop} {s:Shared} {x y:Str} {v:Value} {d:PyData}
variable (env l₀ av₀ s₀ av) in
structure UnS(P:Addr→Prop):Prop where
 new:∀ b,P b→s₀.heap.get? b=none∧¬ Mn env b∧¬ frs (env::l₀) b∧¬ av₀ b∧¬ av b
 fr0:∀ b,frs l₀ b→av₀ b
 bas:∀ b,av₀ b→av b
 fav:∀ b,frs (env::l₀) b→av b
 mn:∀ b,Mn env b→av b
 avS:av sysModules
variable (prog w mg mb base l₀ env sc av₀ s₀ σ av) in
abbrev UnA(P:Addr→Prop)(s:Shared):Prop:=Act prog w mg mb base l₀ env sc (fun b=>av₀ b∨P b) s₀ σ (fun b=>av b∨P b) s
theorem Act.drop(U:UnS l₀ env av₀ s₀ av P)(H:UnA prog w mg mb base l₀ env sc av₀ s₀ σ av P s):Act prog w mg mb base l₀ env sc av₀ s₀ σ av s:=by
 refine { H with inv:={ H.inv with gnd:={ H.inv.gnd with fav:=U.fav,avlt:=fun b h=>H.inv.gnd.avlt b (.inl h),avS:=U.avS },get:=fun x v hl hg=>?_ },fr0:=fun b h=>⟨U.fr0 b h,(H.fr0 b h).2⟩,bas:=U.bas,fresh:=fun b h=>⟨U.mn b h,(H.fresh b h).2.1,fun q=>(H.fresh b h).2.2 (.inl q)⟩,ownA:=fun x a h=>?_ }
 ·obtain⟨u,h1,h2⟩:=H.inv.get x v hl hg;exact⟨u,h1,h2.mono' (fun _ _ _ e=>e) (fun b _ _ h=>.inl h) fun _ _ _ _ _ e=>e⟩
 ·obtain⟨q1,q2,q3,q4⟩:=H.ownA x a h;exact⟨q1.resolve_right fun q=>q3 (.inr q),q2,fun q=>q3 (.inl q),q4⟩
theorem Act.setFz(L:Act prog w mg mb base l₀ env sc av₀ s₀ σ av s)(hx:aA.get σ x=some none)(hv:aM env s.heap x v)(r:Rep prog w s.heap av v d):Act prog w mg mb base l₀ env sc av₀ s₀ (aA.set σ x (.fz d)) av s:=by
 have back:∀ z a,bH env (aA.set σ x (.fz d)) s.heap z a→bH env σ s.heap z a:=fun z a h=>by
  obtain⟨⟨e,hg⟩,hv⟩:=h
  by_cases hz:z=x
  ·subst hz;cases kL hg
  ·exact⟨⟨e,gC hz hg⟩,hv⟩
 refine { L with inv:={ L.inv with get:=fun z u hl hg=>?_ },names:=fun z u h=>?_,ownA:=fun z a h=>L.ownA z a (back z a h),ownI:=fun z z' a h1 h2=>L.ownI z z' a (back z a h1) (back z' a h2) }
 ·by_cases hz:z=x
  ·subst hz;cases kL hg;exact⟨v,hv,r⟩
  ·exact L.inv.get z u hl (gC hz hg)
 ·obtain⟨v0,e⟩:=rN h;exact L.names z v0 e
theorem UnA.assoc{P1 P2:Addr→Prop}(H:Act prog w mg mb base l₀ env sc (fun b=>(av₀ b∨P1 b)∨P2 b) s₀ σ (fun b=>(av b∨P1 b)∨P2 b) s):UnA prog w mg mb base l₀ env sc av₀ s₀ σ av (fun b=>P1 b∨P2 b) s:=by
 have e1:(fun b=>(av₀ b∨P1 b)∨P2 b)=fun b=>av₀ b∨(P1 b∨P2 b):=funext fun b=>propext or_assoc;have e2:(fun b=>(av b∨P1 b)∨P2 b)=fun b=>av b∨(P1 b∨P2 b):=funext fun b=>propext or_assoc;unfold UnA;rw[← e1,← e2];exact H
theorem Oa{e:Expr}{x:Str}{p:Pos}{line:Nat}(h:iN e=false):swapsWith e (some (.Name x p)) line env=pure false:=by
 obtain⟨b,hb⟩:=z9 (env:=env) e x p line;cases b with
 |false=>exact hb
 |true=>have:=Aa hb;rw[h] at this;exact bft this
theorem Ay{A:Around}{C:Ctx}{m:Str}{pn:Addr→Prop}{st:Stmt}(hK:KSound prog w mg mb base n C)(hh:C.hd=false)(hA:Room n false (env::l₀) A)(U:UnS l₀ env av₀ s₀ av P)(H:UnA prog w mg mb base l₀ env sc av₀ s₀ σ av P s)(hsub:∀ b,pn b→P b)(hx:aA.get σ x=some none)(hv:aM env s.heap x v)(hD:Dp prog w s.heap pn v d)
  (hc:bJ n d=true) (g1:isG sc "isinstance" = true) (g2:isG sc "dict" = true) (gm:isG sc m=true) (hm:ShpD (EmDef m) prog.main.body m) (hE:EmS st x m) {Q:Flow→Shared→Prop} {E:Value→Shared→Prop}
  (hn:∀ s',UnA prog w mg mb base l₀ env sc av₀ s₀ σ av P s'→(∀ b o,¬ pn b→¬ frs (env::l₀) b→s.heap.get? b=some o→s'.heap.get? b=some o)→(∀ z u,aM env s.heap z u→aM env s'.heap z u)→Q .next s'):wpAny (model prog w) A (exec st env) Q E s:=by
 obtain⟨a,b,sc',hfd,hem⟩:=hm;obtain⟨ad,o,pm,cdd,doc,f1,f2,f3,f4⟩:=H.inv.gnd.glo.fn m a b sc' hfd;have EC:=N9 (w:=w) (mb:=mb) (base:=base) hfd hem f1 n;obtain⟨p1,p2,p3,p4,p5,p6,p7,p8,p9,rfl⟩:=hE;have lx:=(H.names x _ hx).1;have L:=(H.drop U).setFz hx hv (hD.rep fun b hb=>(U.new b (hsub b hb)).2.2.2.2);have gx:aA.get (aA.set σ x (.fz d)) x=some (some (.fz d)):=by rw[aA.get_set,if_pos rfl,hx];rfl
 refine wpAny_If ((dF hK 2 sc (aA.set σ x (.fz d)) _).2 A env s av (hh▸hA) L.inv (k:=R.ok) (fin:=.ok (bE d)) ⟨by rw[sA g1 g2 lx gx];rfl,nofun⟩ (fun c s₂ k2 e=>?_) EH.ok);obtain rfl:c=bE d:=by injection e
 have H2:=H.k k2;cases hD.two with
 |no hno =>
  rw[hno];exact wpAny_execs_nil (hn _ H2 (fun b o _ hf e=>k2.at hf e) fun z u h=>h.k k2)
 |yes dm hdm =>
  subst hdm;show wpAny (model prog w) A (execs [.Expr (.Call (.Name m p5) [.Name x p6] [] p7) p8] env) _ _ _;refine wpAny_execs_cons (wpAny_Expr_any (wpAny_Call_NameR (fF H2.inv gm f1 (Calls.callWith_function (o:=o) (fd:=Calls.docDef m a b sc' pm cdd doc) (hJ rfl (wpAny_items_cons (cC H2.inv lx (hv.k k2) (wpAny_items_nil ⟨⟨H2.inv.gnd.stay _ _ f2,f3⟩,?_⟩)) rfl))))) (by unfold interactive;rw[H2.inv.kind];rfl) rfl);have pl:∀ b,pn b→∃ o,s₂.heap.get? b=some o:=fun b hb=>H2.inv.gnd.avlt b (.inr (hsub b hb));have bn:∀ b,pn b→base.get? b=none:=fun b hb=>by
   refine ocs (base.get? b) id fun o e=>?_;have:=H.stay0 b o e;rw[(U.new b (hsub b hb)).1] at this;exact ns this
  refine EC A (env::l₀) s₂ (fun b=>(av b∨P b)∧¬ pn b) pn v dm hA { H2.inv.gnd with fav:=fun b hb=>⟨.inl (U.fav b hb),fun q=>(U.new b (hsub b q)).2.2.1 hb⟩,avlt:=fun b hb=>H2.inv.gnd.avlt b hb.1,avS:=⟨.inl U.avS,fun q=>(U.new _ (hsub _ q)).2.2.2.2 U.avS⟩ } (fun b hb=>⟨bn b hb,fun q=>q.2 hb,pl b hb⟩) (hD.mono fun b o hb e=>k2.at (U.new b (hsub b hb)).2.2.1 e) hc fun s' ke=>?_;obtain⟨⟨h',t',rfl⟩,kk,vv⟩:=ke;refine wpAny_execs_nil (hn _ (H2.wildS (S:=pn) (h':=h') (tk:=t') (fun b hb=>.inr (hsub b hb)) (fun b hb=>(U.new b (hsub b hb)).1) (fun b hb q=>(U.new b (hsub b q)).2.1 hb) (fun z c o q=>(H2.ownA z c o).2.2.1 (.inr (hsub c q))) (fun b o hb e=>kk b o hb e) (fun _ h=>h) (fun _ h _=>h) (fun b _ q=>vv b q (pl b q)) H2.bas) (fun b o hp hf e=>kk b o hp (k2.at hf e)) fun z u h=>(h.k k2).kept fun b o hb e=>kk b o (fun q=>(U.new b (hsub b q)).2.1 hb) e)
end
end Mine
namespace Mine
open PySem
theorem Ob{σ:aA}{x:Str}{l:List PyData}(h:mP σ x=.ok l):fZ σ x=.ok (.list l):=by
 unfold mP at h;refine pcs (fZ σ x) (fun e=>?_) fun o e=>?_
 ·rw[e] at h;exact pno h
 ·rw[e] at h;cases o with
  |list m=>rw[e];exact congrArg (fun m=>P.ok (PyData.list m)) (pi h)
  |_=>exact pno h
section
variable {prog:Program} {w:World} {mg mb:Str→Option Value} {base:Heap} {n:Nat} {hd:Bool} {l₀:List Env} {env:Env} {sc:Scope} {av₀ P:Addr→Prop} {s₀:Shared} {σ:aA} {av:Addr→Prop} {s:Shared}
theorem Oc{A:Around}{ev:EV}{σx:aA}{hx:Str}{g dd:Expr}{hd:Bool}(h:∀ σ e,aF prog w mg mb base n hd (env::l₀) sc σ e (ev σ e))(hA:Room n hd (env::l₀) A)(U:UnS l₀ env av₀ s₀ av P)(H:UnA prog w mg mb base l₀ env sc av₀ s₀ σ av P s)(L:Act prog w mg mb base l₀ env sc av₀ s₀ σx av s)
  (cg:bad g=false) (cd:bad dd=false) {ap cp p11 p12 p13:Pos} {k:Nat} (hline:(ap.endLine==cp.line)=true) {kk:PyData→R V} {fin:R V} {Q:Flow→Shared→Prop} {E:Value→Shared→Prop}
  (hf:rb (ofP (mP σ hx)) (fun l=>rb (ev σx g) fun u3=>rb (ofP (dpD u3)) fun d3=>rb (ev σ dd) fun dv=>if l.length < aX then kk (.list (l++[.tuple [d3,dOf dv]])) else .no)=fin) (hne:fin≠.no)
  (hn:∀ s' o a,UnA prog w mg mb base l₀ env sc av₀ s₀ (aA.set σ hx (.own o)) av P s'→Fr (env::l₀) (fun b=>av₀ b∨P b) s (fun b=>av b∨P b) s' (fun b=>av b∨P b)→¬ P a→¬ Mn env a→(∀ b o,b≠a→¬ frs (env::l₀) b→s.heap.get? b=some o→s'.heap.get? b=some o)→(∀ z u,aM env s.heap z u→aM env s'.heap z u)→kk o=fin→Q .next s')
  (he:∀ x v s',fin=.exc x→Upx prog w mg base l₀ env s₀ av₀ x v s'→E v s') :
  wpAny (model prog w) A (exec (.Expr (.Call (.Attribute (.Name hx p11) "append" ap) [.Tuple [g,dd] k p12] [] cp) p13) env) Q E s:=by
 have he':∀ x v s',fin=.exc x→Upx prog w mg base l₀ env s₀ (fun b=>av₀ b∨P b) x v s'→E v s':=fun x v s' e f=>he x v s' e (f.weaken fun c h=>.inl h);obtain⟨l,hl,hf⟩:=cU hf hne;have hg:=rO (Ob hl);obtain⟨hlx,_⟩:=H.names hx _ hg;obtain⟨u',hv,a,rfl,hfr,hb⟩:=H.inv.get hx _ hlx hg;obtain⟨a1,a2,a3,a4⟩:=H.ownA hx a ⟨⟨_,hg⟩,hv⟩;obtain⟨xs,⟨nn,hpl⟩,hbr⟩:=(show BodyL prog w s.heap _ a l from hb)
 refine wpAny_Expr_any (wpAny_Call_method_lateS (nA rfl "append" env) (kJ (as:=[.Tuple [g,dd] k p12]) rfl (show 1≤3 by decide) cp env) hline (cC H.inv hlx hv ⟨"list", "list.append", F.plainAttrs_list,F.slot_list_append,by kernel_rfl,⟨_,hpl,rfl⟩,fun b hb=>by cases hb;exact⟨_,hpl,rfl⟩,fI rfl (wpAny_items_cons (wpAny_Tuple (wpAny_items_cons ((h _ g).st hA L hf hne (fun v3 s₈ u3 k8 r8 e9=>?_) he) (eA cg))) rfl)⟩)) (by unfold interactive;rw[H.inv.kind];rfl) rfl;obtain⟨d3,hd3,e9⟩:=cU e9 hne;obtain rfl:=sF hd3;have H8:=H.k k8;refine wpAny_items_cons ((h σ dd).st hA H8 e9 hne (fun vd s₉ ud k9 r9 e10=>wpAny_items_nil ⟨by show 2≤sizeLine;decide,wpAny_items_nil ?_⟩) he') (eA cd);obtain⟨hlen,e10⟩:=gD e10 hne;obtain⟨P3,n3,l3,D3⟩:=(show DpN prog w s s₈.heap v3 d3 from r8)
 have H9:=H8.k k9;have k89:=k8.tr k9;have rv3:Rep prog w s₉.heap (fun b=>av b∨P b) v3 d3:=(D3.mono fun b o hb e=>k9.at (H.newNot (n3 b hb)).2.2.2.2 e).rep fun b hb q=>(H.newNot (n3 b hb)).2.1 q;obtain⟨kt,rt⟩:=qU (prog:=prog) (w:=w) (s:=s₉) (s₁:=s₉) (av:=fun b=>av b∨P b) (vs:=[v3,vd]) (ds:=[d3,dOf ud]) (Kp.rfl' s₉) H9.inv.gnd.avlt rfl (by show 2≤sizeLine;decide) fun i v d e1 e2=>by
  cases i with
  |zero=>obtain rfl:=si e1;obtain rfl:=si e2;exact rv3
  |succ i =>
   cases i with
   |zero=>obtain rfl:=si e1;obtain rfl:=si e2;exact r9.rep H8.inv.gnd.avlt
   |succ i=>exact ns e1
 have kT:K (env::l₀) s₉ _:=K.of kt;have H10:=H9.k kT;have kA:=k89.tr kT;refine zZ (av:=fun b=>av b∨P b) a1 (hb.k H.inv.gnd.fav kA hfr) (show Rep prog w _ _ _ (.tuple [d3,dOf ud]) from rt) hlen fun h' hs hb'=>?_;have hvA:=hv.k kA;refine hn _ (.list (l++[.tuple [d3,dOf ud]])) a (H10.mut (tk:=s₉.toks) hg hvA hs hb') ((H.frk kA).tr (H10.frMut (s':={ s₉ with heap:=h' }) hg hvA hs)) (fun q=>a3 (.inr q)) a4 (fun b o hba hf e=>by show h'.get? b=_;rw[hs.2 b hba];exact kA.at hf e) (fun z u hz=>(hz.k kA).kept fun b o hb e=>by show h'.get? b=_;rw[hs.2 b fun q=>a4 (q▸hb)];exact e) e10
end
end Mine
namespace Mine
open PySem
section
variable {prog:Program} {w:World} {mg mb:Str→Option Value} {base:Heap} {n:Nat} {l₀:List Env} {env:Env} {sc:Scope} {av₀ P:Addr→Prop} {s₀:Shared} {σ:aA} {av:Addr→Prop} {s:Shared}
theorem sG{A:Around}{e:Expr}{r:R V}{hd:Bool}(h:aF prog w mg mb base n hd (env::l₀) sc σ e r)(hA:Room n hd (env::l₀) A)(H:UnA prog w mg mb base l₀ env sc av₀ s₀ σ av P s){kr:KR}{fin:R V}{Q:Flow→Shared→Prop}{E:Value→Shared→Prop}{pos:Pos}(hf:rb r kr=fin)(hne:fin≠.no)
  (hr:∀ v s' u,K l₀ s₀ s'→aY prog w s₀ s'.heap av₀ v u→kr u=fin→Q (.ret v) s') (he:∀ x v s',fin=.exc x→Upx prog w mg base l₀ env s₀ av₀ x v s'→E v s'):wpAny (model prog w) A (execs [.Return (some e) pos] env) Q E s :=
 wpAny_execs_cons (wpAny_Return_some (h.st hA H hf hne (fun v s' u k r e=>hr v s' u (H.k k).k0 ((r.out H).weaken fun _ hb=>.inl hb) e) fun x v s' e f=>he x v s' e (f.weaken fun _ h=>.inl h)))
theorem UnA.fr{P':Addr→Prop}(U:UnS l₀ env av₀ s₀ av P)(hp:∀ b,P' b→P b){s':Shared}(kk:∀ b o,¬ P' b→¬ frs (env::l₀) b→s.heap.get? b=some o→s'.heap.get? b=some o):Fr (env::l₀) av₀ s (fun b=>av b∨P b) s' (fun b=>av b∨P b) :=
 ⟨fun b o e n=>kk b o (fun q=>n (.inr (hp b q))) (fun f=>n (.inl (U.fav b f))) e,fun _ _ _ h=>h,fun b o h nf e=>kk b o (fun q=>(U.new b (hp b q)).2.2.2.1 h) nf e⟩
theorem Od{C:Ctx}(hK:KSound prog w mg mb base n C)(hem:∀ m,C.emp m=true→ShpD (EmDef m) prog.main.body m)(hfu:C.fu=n){ev:EV}{ff:Nat}{q:Unt}{b:List Stmt}(h:∀ σ e,aF prog w mg mb base n C.hd (env::l₀) sc σ e (ev σ e))(ht:∀ σ e,bN prog w mg mb base n C.hd (env::l₀) sc σ e (ev σ e))(hb:UnitB b q)
  {A:Around} (hA:Room n C.hd (env::l₀) A) (X:Act prog w mg mb base l₀ env sc av₀ s₀ σ av s) {kn:KN} {kr:KR} {fin:R V} {Q:Flow→Shared→Prop} {E:Value→Shared→Prop} (hf:qJ ev ff C sc σ q kn kr=fin) (hne:fin≠.no)
  (hn:∀ s' σ' av',Act prog w mg mb base l₀ env sc av₀ s₀ σ' av' s'→Fr (env::l₀) av₀ s av s' av'→kn σ'=fin→wpAny (model prog w) A (execs q.rest env) Q E s')
  (hr:∀ v s' u,K l₀ s₀ s'→aY prog w s₀ s'.heap av₀ v u→kr u=fin→Q (.ret v) s') (he:∀ x v s',fin=.exc x→Upx prog w mg base l₀ env s₀ av₀ x v s'→E v s'):wpAny (model prog w) A (execs b env) Q E s:=by
 obtain⟨⟨⟨c1,c2,c3,c4,c5⟩,⟨c6,c7⟩,⟨c8,c9,c10,c11,c12⟩,c13,c14⟩,hf⟩:=gD hf hne;obtain⟨p1,p2,p3,p4,p5,p6,p7,p8,p9,p10,p11,k,p12,p13,p14,p15,p16,s5,s7,h5,h7,⟨ne1,ne2,ne3⟩,rfl⟩:=hb;rw[hfu] at hf;have hm:=hem _ c4;have hA0:Room n false (env::l₀) A:=c5▸hA;obtain⟨av1,Y,hsub⟩:=X.clear (gY ff q);have gx:(aA.get (aA.clear σ (gY ff q)) q.x).isSome=true:=by rw[aA.get_clear,Option.isSome_map];exact c13
 have gy:(aA.get (aA.clear σ (gY ff q)) q.y).isSome=true:=by rw[aA.get_clear,Option.isSome_map];exact c14
 generalize aA.clear σ (gY ff q)=σ1 at hf Y gx gy;obtain⟨fa,fb,fsc,hfd⟩:=hK.has q.f c2;obtain⟨ad,o,pm,cdd,doc,g1,g2,g3,g4⟩:=Y.inv.gnd.glo.fn q.f fa fb fsc hfd;refine wpAny_execs_cons (wpAny_Assign_Name (wpAny_Call_NameR (fF Y.inv c1 g1 (Calls.callWith_function (o:=o) (fd:=Calls.docDef q.f fa fb fsc pm cdd doc) (hJ (by show(bad q.t||false)=false;rw[c8];rfl) (wpAny_items_cons ((h σ1 q.t).st hA Y hf hne (fun v s₁ u k1 r e1=>wpAny_items_nil ⟨⟨(Y.inv.gnd.k k1).stay _ _ g2,g3⟩,?_⟩) he) (eA c8)))))) rfl);have Y1:=Y.k k1;refine hK.call q.f [.fz (dOf u)] ad g1 c2 A (env::l₀) s₁ av1 [v] hA Y1.inv.gnd (show eB (CA prog w mg (env::l₀) av1) s₁ [v] [.fz (dOf u)] from ⟨⟨r.rep Y.inv.gnd.avlt,fun d h=>nomatch h⟩,trivial⟩) ⟨e1,hne⟩ (fun vx s₂ u1 k2 r2 e2=>?_) fun x v s' e f=>he x v s' e (Y1.up f);obtain⟨d,hd1,e2⟩:=cU e2 hne;obtain rfl:=sF hd1;obtain⟨P1,n1,l1,D1⟩:=(show DpN prog w s₁ s₂.heap vx d from r2)
 have hx:aA.get (hide (hide σ1 q.x) q.y) q.x=some none:=M2 (Ae gx);have hy:aA.get (hide (hide σ1 q.x) q.y) q.y=some none:=Ae (M1 gy);have Y1h:=(Y1.hide q.x).hide q.y;generalize hide (hide σ1 q.x) q.y=σh at e2 hx hy Y1h;have U1:UnS l₀ env av₀ s₀ av1 P1:=⟨fun b hb=>by obtain⟨z1,z2,z3,z4,z5⟩:=Y1.newNot (n1 b hb);exact⟨z4,z1,z5,z3,z2⟩,fun b h=>(Y.fr0 b h).1,Y.bas,Y.inv.gnd.fav,fun b h=>(Y.fresh b h).1,Y.inv.gnd.avS⟩
 have Z:UnA prog w mg mb base l₀ env sc av₀ s₀ σh av1 P1 s₂:=Y1h.pin (S:=P1) k2 n1 l1;have k12:=k1.tr k2;have fr2:Fr (env::l₀) av₀ s av s₂ (fun b=>av1 b∨P1 b):=(Fr.sub hsub).tr ⟨(Y.frk k12).keep,fun b o e hb=>hb.elim id fun hb=>by rw[k1.non (n1 b hb)] at e;exact ns e,(Y.frk k12).pins⟩;refine Z.putH hx fun s₃ H3 f3 hvx _=>?_;have H3:UnA prog w mg mb base l₀ env sc av₀ s₀ σh av1 P1 s₃:=H3;have fr3:=fr2.tr ((Z.frPut f3).weaken (av₀:=av₀) fun _ hb=>.inl hb);have D3:Dp prog w s₃.heap P1 vx d:=D1.mono fun b o hb e=>f3 b o (U1.new b hb).2.1 e;have L3:=(Act.drop U1 H3).setFz hx hvx (D3.rep fun b hb=>(U1.new b hb).2.2.2.2);refine wpAny_execs_cons (wpAny_Assign_Name ((h _ q.e2).st hA L3 e2 hne (fun vy s₄ u2 k4 r4 e4=>?_) he) (Oa c11));obtain⟨P2,n2,l2,D2⟩:∃ P2:Addr→Prop,(∀ b,P2 b→s₃.heap.get? b=none)∧(∀ b,P2 b→∃ o,s₄.heap.get? b=some o)∧∀ d2,u2=.dp d2→Dp prog w s₄.heap P2 vy d2:=by
  cases u2 with
  |dp d2=>obtain⟨pn,a1,a2,a3⟩:=(show DpN prog w s₃ s₄.heap vy d2 from r4);exact⟨pn,a1,a2,fun _ e=>by cases e;exact a3⟩
  |_=>exact⟨fun _=>False,fun _ h=>h.elim,fun _ h=>h.elim,fun _ e=>nomatch e⟩
 have ry:Rep prog w s₄.heap av1 vy (dOf u2):=r4.rep L3.inv.gnd.avlt;have Z4:UnA prog w mg mb base l₀ env sc av₀ s₀ σh av1 (fun b=>P1 b∨P2 b) s₄:=UnA.assoc (H3.pin (S:=P2) k4 n2 l2);have n2':∀ b,P2 b→¬ Mn env b∧¬ frs (env::l₀) b∧¬ P1 b∧s₀.heap.get? b=none∧¬ av₀ b∧¬ av1 b:=fun b hb=>by
  obtain⟨z1,z2,z3,z4,z5⟩:=H3.newNot (n2 b hb);exact⟨z1,z5,fun q=>z2 (.inr q),z4,fun q=>z3 (.inl q),fun q=>z2 (.inl q)⟩
 have U2:UnS l₀ env av₀ s₀ av1 (fun b=>P1 b∨P2 b):={ U1 with new:=fun b hb=>hb.elim (U1.new b) fun hb=>by obtain⟨z1,z2,z3,z4,z5,z6⟩:=n2' b hb;exact⟨z4,z1,z2,z5,z6⟩ }
 have fr4:Fr (env::l₀) av₀ s av s₄ (fun b=>av1 b∨(P1 b∨P2 b)):=fr3.tr ⟨fun b o e n=>(H3.frk k4).keep b o e n,fun b o e hb=>by
  rcases hb with hb | hb | hb
  ·exact .inl hb
  ·exact .inr hb
  ·rw[n2 b hb] at e;exact ns e,fun b o h nf e=>(H3.frk k4).pins b o (.inl h) nf e⟩
 refine Z4.putH hy fun s₅ H5 f5 hvy hvv=>?_;have H5:UnA prog w mg mb base l₀ env sc av₀ s₀ σh av1 (fun b=>P1 b∨P2 b) s₅:=H5;have hvx5:aM env s₅.heap q.x vx:=hvv q.x _ ne1 (hvx.k k4);have D5:Dp prog w s₅.heap P1 vx d:=D3.mono fun b o hb e=>f5 b o (U1.new b hb).2.1 (k4.at (U1.new b hb).2.2.1 e);have D5':∀ d2,u2=.dp d2→Dp prog w s₅.heap P2 vy d2:=fun d2 e=>(D2 d2 e).mono fun b o hb e=>f5 b o (n2' b hb).1 e;have ry5:Rep prog w s₅.heap av1 vy (dOf u2):=ry.mono (fun b o hb e=>f5 b o (fun m=>hb (U1.mn b m)) e) fun _ _ _ h=>h;have fr5:=fr4.tr ((Z4.frPut f5).weaken (av₀:=av₀) fun _ hb=>.inl hb);have hy2:∀ e,aA.get (aA.set σh q.x (.fz e)) q.y=some none:=fun e=>by rw[aA.get_set,if_neg ne1.symm];exact hy
 have he':∀ x v s',fin=.exc x→Upx prog w mg base l₀ env s₀ (fun b=>av₀ b∨(P1 b∨P2 b)) x v s'→E v s':=fun x v s' e f=>he x v s' e (f.weaken fun _ h=>.inl h);have e5:qI ev n σh q d u2 kn kr=fin:=e4;unfold qI at e5;clear e4 Z4 Z D1 D2 D3 L3 ry H3 fr2 fr3 fr4;refine wpAny_execs_cons (wpAny_If (ht σh q.c0 A env s₅ _ hA H5.inv ⟨e5,hne⟩ (fun b0 s₆ k6 e6=>?_) fun x v s' e f=>he' x v s' e (H5.up f)));have H6:UnA prog w mg mb base l₀ env sc av₀ s₀ σh av1 (fun b=>P1 b∨P2 b) s₆:=H5.k k6;have fr6:=fr5.tr (Fr.ofK (av₀:=av₀) H5.inv.gnd.fav k6);have D6:Dp prog w s₆.heap P1 vx d:=D5.mono fun b o hb e=>k6.at (U1.new b hb).2.2.1 e;have Lxy:=((Act.drop U2 H6).setFz hx (hvx5.k k6) (D6.rep fun b hb=>(U1.new b hb).2.2.2.2)).setFz (hy2 d) (hvy.k k6) (ry5.k U1.fav k6);cases b0 with
 |true =>
  show wpAny (model prog w) A (execs [.If q.c1 [.Return (some q.e1) p7] [] p8] env) _ _ _;refine wpAny_execs_cons (wpAny_If (ht _ q.c1 A env s₆ av1 hA Lxy.inv ⟨e6,hne⟩ (fun b1 s₇ k7 e7=>?_) fun x v s' e f=>he x v s' e (Lxy.up f)));have H7:UnA prog w mg mb base l₀ env sc av₀ s₀ σh av1 (fun b=>P1 b∨P2 b) s₇:=H6.k k7;cases b1 with
  |true=>exact sG (h σh q.e1) hA H7 e7 hne hr he
  |false=>exact wpAny_execs_nil (wpAny_execs_nil (hn _ σh _ (H7.weaken (fun _ hb=>.inl hb) U1.fr0) (fr6.tr (Fr.ofK H6.inv.gnd.fav k7)) e7))
 |false =>
  obtain⟨d2,hd2,e6⟩:=cU (show rb (ofP (dpD u2)) _=fin from e6) hne;obtain rfl:=sF hd2;obtain⟨⟨hc1,hc2⟩,e6⟩:=gD e6 hne;show wpAny (model prog w) A (execs [.If q.c2 [.Return (some q.r2) p9] [] p10,_,s5,.If q.c3 [.Return (some q.r3) p14] [] p15,s7] env) _ _ _;refine wpAny_execs_cons (wpAny_If (ht _ q.c2 A env s₆ av1 hA Lxy.inv ⟨e6,hne⟩ (fun b2 s₇ k7 e7=>?_) fun x v s' e f=>he x v s' e (Lxy.up f)));have H7:UnA prog w mg mb base l₀ env sc av₀ s₀ σh av1 (fun b=>P1 b∨P2 b) s₇:=H6.k k7;have fr7:=fr6.tr (Fr.ofK (av₀:=av₀) H6.inv.gnd.fav k7);cases b2 with
  |true=>exact sG (h σh q.r2) hA H7 e7 hne hr he
  |false =>
   refine wpAny_execs_nil (wpAny_execs_cons (Oc h hA U2 H7 (Lxy.k k7) c9 c10 c12 (kk:=fun o=>rb (tst (ev (aA.set (aA.set σh q.h (.own o)) q.y (.fz d2)) q.c3)) fun b3=>if b3 then rb (ev (aA.set σh q.h (.own o)) q.r3) kr else kn (aA.set σh q.h (.own o))) e7 hne (fun s₈ ol aL H8 fr78 naP naM kp8 vk8 e8=>?_) he));have k67:=k6.tr k7;have fr8:=fr7.tr (fr78.weaken (av₀:=av₀) fun _ hb=>.inl hb);have D8:Dp prog w s₈.heap P1 vx d:=D5.mono fun b o hb e=>kp8 b o (fun q=>naP (q▸.inl hb)) (U1.new b hb).2.2.1 (k67.at (U1.new b hb).2.2.1 e);have D8':Dp prog w s₈.heap P2 vy d2:=(D5' d2 rfl).mono fun b o hb e=>kp8 b o (fun q=>naP (q▸.inr hb)) (n2' b hb).2.1 (k67.at (n2' b hb).2.1 e);have hx3:aA.get (aA.set σh q.h (.own ol)) q.x=some none:=by rw[aA.get_set,if_neg ne2.symm];exact hx
   have hy3:aA.get (aA.set σh q.h (.own ol)) q.y=some none:=by rw[aA.get_set,if_neg ne3.symm];exact hy
   refine wpAny_execs_cons (Ay hK c5 hA0 U2 H8 (pn:=P1) (fun _ hb=>.inl hb) hx3 (vk8 _ _ (hvx5.k k67)) D8 hc1 c6 c7 c3 hm h5 fun s₉ H9 kp9 vk9=>?_);have fr9:=fr8.tr (UnA.fr U2 (fun b (hb:P1 b)=>.inl hb) kp9);have D9:Dp prog w s₉.heap P2 vy d2:=D8'.mono fun b o hb e=>kp9 b o (n2' b hb).2.2.1 (n2' b hb).2.1 e;have hvy9:=vk9 _ _ (vk8 _ _ (hvy.k k67));have Ly:=(Act.drop U2 H9).setFz hy3 hvy9 (D9.rep fun b hb=>(n2' b hb).2.2.2.2.2);refine wpAny_execs_cons (wpAny_If (ht _ q.c3 A env s₉ av1 hA Ly.inv ⟨e8,hne⟩ (fun b3 s₁₀ k10 e10=>?_) fun x v s' e f=>he x v s' e (Ly.up f)));have H10:UnA prog w mg mb base l₀ env sc av₀ s₀ (aA.set σh q.h (.own ol)) av1 (fun b=>P1 b∨P2 b) s₁₀:=H9.k k10;have fr10:=fr9.tr (Fr.ofK (av₀:=av₀) H9.inv.gnd.fav k10);cases b3 with
   |true=>exact sG (h _ q.r3) hA H10 e10 hne hr he
   |false =>
    refine wpAny_execs_nil (wpAny_execs_cons (Ay hK c5 hA0 U2 H10 (pn:=P2) (fun _ hb=>.inr hb) hy3 (hvy9.k k10) (D9.mono fun b o hb e=>k10.at (n2' b hb).2.1 e) hc2 c6 c7 c3 hm h7 fun s₁₁ H11 kp11 _=>?_));exact wpAny_execs_nil (hn _ _ _ (H11.weaken (fun _ hb=>.inl hb) U1.fr0) (fr10.tr (UnA.fr U2 (fun b (hb:P2 b)=>.inr hb) kp11)) e10)
theorem Oe{C:Ctx}(hK:KSound prog w mg mb base n C)(hem:∀ m,C.emp m=true→ShpD (EmDef m) prog.main.body m)(hfu:C.fu=n){ev:EV}{ff:Nat}{rec:Stmt→aA→KN→KR→R V}(h:∀ σ e,aF prog w mg mb base n C.hd (env::l₀) sc σ e (ev σ e))(ht:∀ σ e,bN prog w mg mb base n C.hd (env::l₀) sc σ e (ev σ e)) :
  ∀ {b:List Stmt} {σ:aA},(∀ st σ,aQ prog w mg mb base n C.hd l₀ env sc s₀ σ (exec st env) (rec st σ))→aQ prog w mg mb base n C.hd l₀ env sc s₀ σ (execs b env) (kB ev ff C sc rec b σ):=by
 intro b
 induction b with
 |nil=>exact fun _ av₀ A s av hA X _ _ _ _ _ hf hne hp hn hr he=>wpAny_execs_nil (hn s _ av X (Fr.rf _ s av) hf)
 |cons st r ih =>
  intro σ hb av₀ A s av hA X kn kr fin Q E hf hne hp hn hr he;replace hf:(match mO (st::r) with | some q=>qJ ev ff C sc σ q (fun σ=>blk rec q.rest σ kn kr) kr | none=>rec st σ (fun σ=>kB ev ff C sc rec r σ kn kr) kr)=fin:=hf;refine ocs (mO (st::r)) (fun hq=>?_) fun q hq=>?_
  ·rw[hq] at hf;refine wpAny_execs_cons (hb st σ av₀ A s av hA X hf hne hp (fun s' σ' av' Y fr e=>?_) (fun v s' u k r e=>hr v s' u k r e) he);exact ih hb av₀ A s' av' hA Y e hne hp (fun s'' σ'' av'' Z fr' e'=>hn s'' σ'' av'' Z (fr.tr fr') e') hr he
  ·rw[hq] at hf;refine Od hK hem hfu h ht (It hq) hA X hf hne (fun s' σ' av' Y fr e=>?_) hr he;exact kM (b:=q.rest) (fun st _ σ=>hb st σ) av₀ A s' av' hA Y e hne hp (fun s'' σ'' av'' Z fr' e'=>hn s'' σ'' av'' Z (fr.tr fr') e') hr he
end
end Mine
namespace Mine
open PySem
section
variable {prog:Program} {w:World} {mg mb:Str→Option Value} {base:Heap} {n:Nat} {hd:Bool} {l₀:List Env} {env:Env} {sc:Scope} {s₀:Shared}
theorem Az{C:Ctx}{k:Nat}{sc:Scope}{σ:aA}{e:Expr}(h:bad e=true):evE C k sc σ e=.no:=by
 cases k with
 |zero=>rfl
 |succ k=>exact rM h
theorem Of{C C':Ctx}(hK:KSound prog w mg mb base n C)(hem:∀ m,C.emp m=true→ShpD (EmDef m) prog.main.body m)(hfu:C.fu=n)(hK':KSound prog w mg mb base n C')(hc':C'.hd=true){F k:Nat}{rec:Stmt→aA→KN→KR→R V}(ih:∀ σ st,aQ prog w mg mb base n C.hd l₀ env sc s₀ σ (exec st env) (rec st σ))(σ:aA)(st:Stmt) :
  aQ prog w mg mb base n C.hd l₀ env sc s₀ σ (exec st env) (xB (evE C (k+1) sc) (evE C' (k+1) sc) F C sc rec st σ):=by
 have h:∀ σ e,aF prog w mg mb base n C.hd (env::l₀) sc σ e (evE C (k+1) sc σ e):=fun σ e=>(dF hK (k+1) sc σ e).1;have h':∀ σ e,aF prog w mg mb base n true (env::l₀) sc σ e (evE C' (k+1) sc σ e):=fun σ e=>hc'▸(dF hK' (k+1) sc σ e).1;have hbad:∀ σ e,bad e=true→evE C (k+1) sc σ e=.no:=fun σ e hb=>Az hb;cases st with
 |Return o pos =>
  cases o with
  |none=>exact fun av₀ A s av hA X _ _ _ _ _ hf hne hp hn hr he=>wpAny_Return_none (hr _ _ (.fz .none) X.k0 .none hf)
  |some e=>exact Mb fun σ=>h σ e
 |Assign ts e pos =>
  cases ts with
  |nil=>exact aQ.no
  |cons t r =>
   cases r with
   |nil=>exact Mz (rec:=evE C k) (fun _ _ _ hb=>Az hb) rfl (fun sc σ e=>dF hK k sc σ e) h
   |cons=>exact aQ.no
 |Expr e pos=>exact M0 hbad h
 |If t b o pos=>exact Md (dF hK (k+1) sc _ t).2 (kM fun st _ σ=>ih σ st) (kM fun st _ σ=>ih σ st)
 |For t it b o pos =>
  cases o with
  |nil=>exact M5 hbad h fun σ=>Oe hK hem hfu h (fun σ e=>(dF hK (k+1) sc σ e).2) fun st σ=>ih σ st
  |cons=>exact aQ.no
 |Raise o c pos =>
  cases o with
  |none=>exact aQ.no
  |some e =>
   cases c with
   |none=>exact Nv hK rfl hbad h
   |some=>exact aQ.no
 |Try b hs o f pos =>
  cases o with
  |cons=>exact aQ.no
  |nil =>
   cases f with
   |cons=>exact aQ.no
   |nil =>
    show aQ prog w mg mb base n C.hd l₀ env sc s₀ σ _ fun kn kr=>match f0 b with
     |some e=>(match mJ hs with | some (c,x,e')=>if C.hd then .no else mK (evE C (k+1) sc) (evE C' (k+1) sc) F C sc σ e c x e' kr | none=>.no)
     |none=>.no
    cases hr:f0 b with
    |none=>exact aQ.no
    |some e =>
     cases hcl:mJ hs with
     |none=>exact aQ.no
     |some c =>
      obtain⟨pos1,rfl⟩:=An hr;obtain⟨p,pos3,pos2,rfl⟩:=Ny hcl;obtain⟨c,x,e'⟩:=c;show aQ prog w mg mb base n C.hd l₀ env sc s₀ σ _ fun kn kr=>if C.hd then .no else mK (evE C (k+1) sc) (evE C' (k+1) sc) F C sc σ e c x e' kr;cases hh:C.hd with
      |true=>exact aQ.no
      |false=>exact N0 hK (fun σ e=>hh▸h σ e) h'
 |Pass pos=>exact fun av₀ A s av hA X _ _ _ _ _ hf hne hp hn hr he=>wpAny_Pass (hn _ _ _ X (Fr.rf _ s av) hf)
 |_=>exact aQ.no
theorem Og{C C':Ctx}(hK:KSound prog w mg mb base n C)(hem:∀ m,C.emp m=true→ShpD (EmDef m) prog.main.body m)(hfu:C.fu=n)(hK':KSound prog w mg mb base n C')(hc':C'.hd=true){F j:Nat}:∀ (k:Nat) (σ:aA) (st:Stmt),aQ prog w mg mb base n C.hd l₀ env sc s₀ σ (exec st env) (evS (evE C (j+1) sc) (evE C' (j+1) sc) F C sc k st σ):=by
 intro v0
 induction v0 with
 |zero =>
  intro _ _;exact aQ.no
 |succ k ih =>
  intro σ st;exact Of hK hem hfu hK' hc' (fun σ st=>ih σ st) σ st
theorem sH(f:Str)(h:(b4 f prog.main.body).isSome=true):∃ a b sc,b4 f prog.main.body=some (a,b,sc):=by
 obtain⟨⟨a,b,sc⟩,e⟩:=Option.isSome_iff_exists.mp h;exact⟨a,b,sc,e⟩
theorem Oh{m:Nat}{hd:Bool}{f:Str}{us:List V}{d:PyData}(h:kD m hd f us=some d):hd=false∧mQ f=true∧iU us=some d∧bJ m d=true:=by
 unfold kD at h
 by_cases hc:hd=false∧mQ f=true
 ·rw[if_pos hc] at h;obtain⟨d',h1,h⟩:=ob h
  by_cases hk:bJ m d'=true
  ·rw[if_pos hk] at h;obtain rfl:=si h;exact⟨hc.1,hc.2,h1,hk⟩
  ·rw[if_neg hk] at h;exact ns h
 ·rw[if_neg hc] at h;exact ns h
theorem Oi(S:Shp prog.main.body){f:Str}{ad:Addr}(h:mQ f=true)(hm:mg f=some (.ref ad)):∀ n,nH prog w mg mb base ad n:=by
 rcases(Bool.or_eq_true _ _).mp h with h | h
 ·obtain⟨a,b,sc,hfd,hc⟩:=S.cp;rw[eq_of_beq h] at hm;exact N4 hfd hc hm
 ·obtain⟨a,b,sc,hfd,hc⟩:=S.cd;rw[eq_of_beq h] at hm;exact N7 hfd hc hm
theorem A0(S:Shp prog.main.body):∀ n hd,KSound prog w mg mb base n (cL prog.main.body n (run prog.main.body n hd) hd)
 |0,hd=>⟨rfl,rfl,rfl,sH,fun f us ad hf hh A l s av vs hA G hargs β k fin Q E hfin hq he=>hfin.no.elim⟩
 |n+1,hd=>by
  refine⟨rfl,rfl,rfl,sH,fun f us ad hf hh A l s av vs hA G hargs β k fin Q E hfin hq he=>?_⟩;obtain⟨a,b,sc,e⟩:=sH f hh;have ih:=A0 S n;replace hfin:Fin (match kD (n+1) hd f us with
   |some d=>.ok (.dp d)
   |none=>match b4 f prog.main.body with
    |none=>.no
    |some (a,b,sc) =>
     if a.args.length=us.length∧f9 a sc=true then
      blk (evS (evE (cL prog.main.body n (run prog.main.body n hd) hd) cG sc) (evE (cL prog.main.body n (run prog.main.body n true) true) cG sc) cG (cL prog.main.body n (run prog.main.body n hd) hd) sc cG) b (dD (a.args.map (·.arg)) us sc.names) (fun _=>.ok (.fz .none)) .ok
     else .no) k fin:=hfin
  refine ocs (kD (n+1) hd f us) (fun hcp=>?_) fun d hcp=>?_
  case refine_2 =>
   rw[hcp] at hfin;obtain⟨hh0,hdp,hu,hck⟩:=Oh hcp;obtain rfl:=zT hu;subst hh0;cases vs with
   |nil=>exact hargs.elim
   |cons v vs =>
    obtain⟨hv,hvs⟩:=hargs;cases vs with
    |cons=>exact hvs.elim
    |nil=>exact Oi S hdp hf (n+1) A l s av v d hA G hv.1 hck fun v' s' kk r=>hq _ _ (.dp d) kk r hfin.ok
  rw[hcp] at hfin;dsimp only at hfin;rw[e] at hfin;obtain⟨⟨hlen,hfn⟩,hfin⟩:=Fin.ite hfin;have hok:=Aq hfn;obtain⟨ad',o,pm,cd,doc,g1,g2,g3,g4⟩:=G.glo.fn f a b sc e;rw[hf] at g1;cases g1;obtain⟨kwd,dfl,hpar⟩:=hok.params;refine wpAny_call (codeAny_call_cells (binds:=(a.args.map (·.arg)).zip vs) (by have:=hA.depth;exact vG this) (G.stay _ _ g2) g3 (G.glo.nolimit.keeps G.stay) (g4.keeps G.stay) rfl (Ah hpar rfl (by rw[hlen,hargs.len]) hok.anodup) rfl (fun x hx=>?_) (fun s₁ hin=>?_) hok.cor hok.gen hok.kind)
  ·obtain⟨ar,har,e⟩:=List.mem_map.mp (List.of_mem_zip hx).1;show sc.names.lookup x.1=_∨_;rw[← e];rcases hok.akind ar har with h | h
   ·exact .inl h
   ·exact .inr ⟨h,jA _ _ _ _ (cQ h)⟩
  ·obtain⟨av1,X⟩:=Ar rfl G hargs hok hin;have B:=kM (b:=b) (σ:=dD (a.args.map (·.arg)) us sc.names) (fun st _ σ=>Og (l₀:=l) (env:=callEnvC (Calls.docDef f a b sc pm cd doc) s.heap.objs.size ad) (sc:=sc) (s₀:=s) (F:=cG) (j:=23) (ih hd) (fun m h=>(eq_of_beq h:m=_)▸S.em) rfl (ih true) rfl cG σ st);refine B av _ s₁ av1 (hA.deeper _) X rfl hfin.ne PassesOwn.leaving (fun s' σ' av' Z _ e1=>?_) (fun v s' u k1 r e1=>?_) fun x v s' e1 u=>?_
   ·exact hq _ _ (.fz .none) Z.k0 .none ((e1▸hfin:Fin (.ok (.fz .none)) k fin).ok)
   ·exact hq _ _ u k1 r ((e1▸hfin:Fin (.ok u) k fin).ok)
   ·refine Nr (Around.frames_deeper hA.frames) X.frm (X.fresh _ (.inl rfl)).2.1 u fun s'' fl=>he x _ _ ?_ fl;exact((e1▸hfin:Fin (.exc x) k fin).1).symm
end
end Mine
namespace Mine
open PySem
theorem A1{h:Heap}{l:List Str}:∀ {chain:List Str},mT h l chain=true→TailN h bmV l (kE h chain):=by
 intro v0
 induction v0 with
 |nil =>
  intro _;exact .base
 |cons n r ih =>
  intro e;obtain⟨e1,e2⟩:=Bool.and_eq_true_iff.mp (show((match h.clsAt mainGlobals n with | some x=>h.isNs x.2.2.ns&&mS h x.2.2.ns l | none=>false)&&mT h l r)=true from e);refine ocs (h.clsAt mainGlobals n) (fun hc=>?_) fun x hc=>?_
  ·try rewrite[hc]
   simp only[hc] at e1;exact bft e1
  ·try rewrite[hc]
   obtain⟨a,o,cd⟩:=x;simp only[hc] at e1;obtain⟨h1,h2,h3⟩:=Heap.clsAt_spec hc;obtain⟨f1,f2⟩:=Bool.and_eq_true_iff.mp e1;obtain⟨oc,dd,dt,sl⟩:=o;obtain rfl:dt=.cls cd:=h3;show TailN h bmV l (qK h n::kE h r);unfold qK;simp only[h1];exact .own h2 (.of_isNs f1) (fun n hn=>Option.isNone_iff_eq_none.mp (List.all_eq_true.mp f2 n hn)) (ih e2)
noncomputable def kO(h:Heap)(C:Addr)(bm:List Value):Option (List Str)→Prop
 |some ps=>ClsI h C bm ps
 |none=>ClsP h C bm
theorem Oj{h:Heap}{chain:List Str}{ini:Option (List Str)}{c:Str}{x:Addr×Obj×ClassData}(hx:h.clsAt mainGlobals c=some x)(e:mU h chain ini x=true):kO h x.1 (kE h chain) ini:=by
 obtain⟨C,o,cd⟩:=x;obtain⟨h1,h2,h3⟩:=Heap.clsAt_spec hx;obtain⟨oc,dd,dt,sl⟩:=o;obtain⟨nm,bs,mro,N,q,hdct,sn,sub,ab,col,hdel⟩:=cd;unfold mU at e;simp only[Bool.and_eq_true,decide_eq_true_eq,Bool.not_eq_true'] at e;obtain⟨⟨⟨⟨⟨⟨hcls,hmro⟩,hdl⟩,hsz⟩,hmk⟩,hns⟩,hin⟩:=e;obtain⟨l⟩:=sl;obtain⟨k0,k1,k2,k3,k5,rfl⟩:=six_places (l:=l) (by simpa using hsz) (by simpa using hmk);obtain rfl:oc=.type "type" := hcls;obtain rfl:dt=_:=h3;obtain rfl:hdel=false:=hdl;subst hmro;cases ini with
 |none =>
  obtain⟨i1,i2⟩:=Bool.and_eq_true_iff.mp hin;obtain⟨i1,i3⟩:=Bool.and_eq_true_iff.mp i1;exact⟨N,nm,q,bs,hdct,sn,sub,ab,col,dd,k0,k1,k2,k3,k5,_,h2,.of_isNs hns,Option.isNone_iff_eq_none.mp i1,fun n hn=>Option.isNone_iff_eq_none.mp (List.all_eq_true.mp i3 n hn),A1 i2⟩
 |some ps =>
  obtain⟨i1,i2⟩:=Bool.and_eq_true_iff.mp hin;exact⟨N,nm,q,bs,hdct,sn,sub,ab,col,dd,k0,k1,k2,k3,k5,_,h2,.of_isNs hns,fun n hn=>Option.isNone_iff_eq_none.mp (List.all_eq_true.mp i1 n hn),A1 i2⟩
end Mine
namespace Mine
open PySem PySem.W PyProof.Rows
theorem A2{c:Str}{p:Str×Option (List Str)}{body:List Stmt}(h:bF c body=some p):c∈mV body:=by
 induction body with
 |nil=>exact ns h
 |cons s r ih =>
  have skip:bF c r=some p→c∈mV (s::r):=fun h=>by
   obtain⟨q,hq,e⟩:=List.mem_filterMap.mp (ih h);exact List.mem_filterMap.mpr ⟨q,List.mem_cons_of_mem _ hq,e⟩
  replace h:(match sv s with | .cls n bs b=>if c=n then (match dZ bs with | some [y]=>some (y,wP b) | _=>none) else bF c r | _=>bF c r)=some p:=h;cases e:sv s with
  |cls n bs b =>
   rw[e] at h
   by_cases x:c=n
   ·exact List.mem_filterMap.mpr ⟨s,List.mem_cons_self,by show(match sv s with | .cls n _ _=>some n | _=>none)=_;rw[e,x]⟩
   ·exact skip ((if_neg x).symm.trans (show(if c=n then _ else bF c r)=some p from h))
  |_=>rw[e] at h;exact skip h
noncomputable def jB(body:List Stmt)(mg:Str→Option Value)(h:Heap):Prop :=
 ∀ c p,bF c body=some p→∃ C bm,mg c=some (.ref C)∧kO h C bm p.2∧∀ d q D,bF d body=some q→mg d=some (.ref D)→(Value.ref C::bm).contains (.ref D)=fY body 4 c d
theorem Ok{α:Type}{o:Option α}{p:α→Bool}(h:o.any p=true):∃ x,o=some x∧p x=true:=by
 cases o with
 |none=>exact bft h
 |some x=>exact⟨x,rfl,h⟩
theorem Ol{h:Heap}{body:List Stmt}(e:qL h body=true):jB body (h.nsMap mainGlobals) h:=fun c p hc=>by
 have e1:=List.all_eq_true.mp e c (A2 hc);rw[hc] at e1;obtain⟨x,hx,e2⟩:=Ok (show(h.clsAt mainGlobals c).any (fun x=>mU h (mR body 4 c) p.2 x&&xC h body c x.1)=true from e1);obtain⟨e3,e4⟩:=Bool.and_eq_true_iff.mp e2;refine⟨x.1,_,(Heap.clsAt_spec hx).1,Oj hx e3,fun d q D hd hD=>?_⟩;have e5:=List.all_eq_true.mp e4 d (A2 hd);rw[hD] at e5;exact of_decide_eq_true e5
theorem kO.keeps{h h':Heap}{C:Addr}{bm:List Value}(hk:∀ b o,h.get? b=some o→h'.get? b=some o):∀ {ini:Option (List Str)},kO h C bm ini→kO h' C bm ini
 |none,x=>by
  obtain⟨N,nm,q,bs,hdct,sn,sub,ab,col,dd,k0,k1,k2,k3,k5,mN,hC,hN,hni,hnh,T⟩:=x;exact⟨N,nm,q,bs,hdct,sn,sub,ab,col,dd,k0,k1,k2,k3,k5,mN,hk _ _ hC,hN.keeps hk,hni,hnh,T.keeps hk⟩
 |some ps,x=>by
  obtain⟨N,nm,q,bs,hdct,sn,sub,ab,col,dd,k0,k1,k2,k3,k5,mN,hC,hN,hnh,T⟩:=x;exact⟨N,nm,q,bs,hdct,sn,sub,ab,col,dd,k0,k1,k2,k3,k5,mN,hk _ _ hC,hN.keeps hk,hnh,T.keeps hk⟩
theorem jB.keeps{body:List Stmt}{mg:Str→Option Value}{h h':Heap}(x:jB body mg h)(hk:∀ b o,h.get? b=some o→h'.get? b=some o):jB body mg h' :=
 fun c p e=>by obtain⟨C,bm,h1,h2,h3⟩:=x c p e;exact⟨C,bm,h1,h2.keeps hk,h3⟩
noncomputable def nR(f:Str):List DefRec→Option (Arguments×List Stmt×Scope)
 | []=>none
 |d::r=>if f=d.name then some (d.params,d.body,d.scope) else nR f r
theorem Om{f:Str}{a:Arguments}{b:List Stmt}{sc:Scope}:∀ {l:List DefRec},nR f l=some (a,b,sc)→∃ d∈l,d.name=f∧d.params=a∧d.body=b∧d.scope=sc
 := by
 intro l
 induction l with
 |nil=>intro h;exact ns h
 |cons d r ih =>
  intro h;replace h:(if f=d.name then some (d.params,d.body,d.scope) else nR f r)=some (a,b,sc):=h
  by_cases e:f=d.name
  ·rw[if_pos e] at h;cases h;exact⟨d,List.mem_cons_self,e.symm,rfl,rfl,rfl⟩
  ·rw[if_neg e] at h;obtain⟨d',h1,h2⟩:=ih h;exact⟨d',List.mem_cons_of_mem _ h1,h2⟩
noncomputable def sI:List Str:=["isinstance", "len", "all", "sorted", "abs", "min", "repr", "list", "tuple", "dict", "set", "int", "str", "bool", "range", "enumerate", "reversed", "ValueError"]
theorem On{l:List (Str×Value)}{x:Str}{v:Value}(h:l.lookup x=some v):(x,v)∈l:=by
 induction l with
 |nil=>exact ns h
 |cons p r ih =>
  rw[List.lookup_cons] at h
  by_cases e:x=p.1
  ·rw[e,beq_self_eq_true] at h;obtain rfl:=si h;rw[e];exact List.mem_cons_self
  ·rw[beq_false_of_ne e] at h;exact List.mem_cons_of_mem _ (ih h)
theorem Oo:∀ p∈qR,p.1∈sI∧bootBuiltins p.1=some p.2∧p.1 ≠ "__name__" := by
 unfold qR
 iterate 18 (refine List.forall_mem_cons.mpr ⟨⟨by decide,by kernel_rfl,by decide⟩,?_⟩)
 exact fun _ h=>cD h
theorem Op{x:Str}{v:Value}(h:iV x=some v):x∈sI∧bootBuiltins x=some v∧x ≠ "__name__" := Oo _ (On h)
noncomputable def A3(body:List Stmt):List Str:=body.filterMap fun s=>(wO s).map (·.1)
theorem Oq{body:List Stmt}{x:Str}{d:PyData}(h:fX body x=some d):x∈A3 body∧x ≠ "__name__" := by
 by_cases hx:x = "__name__"
 ·exact ns ((if_pos hx).symm.trans h)
 ·obtain⟨s,hs,he⟩:=List.exists_of_findSome?_eq_some ((if_neg hx).symm.trans h);obtain⟨p,e1,e2⟩:=Option.bind_eq_some_iff.mp he
  by_cases e:x=p.1
  ·exact⟨List.mem_filterMap.mpr ⟨s,hs,by rw[e1,e];rfl⟩,hx⟩
  ·exact ns ((if_neg e).symm.trans e2)
noncomputable def cE1(d e:PyData):Bool:=match d with
 | .int a=>(match e with | .int b=>a==b | _=>false)
 | .str a=>(match e with | .str b=>a==b&&decide (a.length≤aX) | _=>false)
 |_=>false
noncomputable def cEq(o q:Option PyData):Bool:=match o with
 |none=>true
 |some d=>(match q with | some e=>cE1 d e | none=>false)
theorem Os{o:Option PyData}{d:PyData}(h:cEq (some d) o=true):o=some d∧((∃ i,d=.int i)∨∃ s,d=.str s∧s.length≤aX):=by
 cases o with
 |none=>exact bft h
 |some e =>
  replace h:cE1 d e=true:=h;cases d with
  |int a =>
   cases e with
   |int b=>obtain rfl:=eq_of_beq (show(a==b)=true from h);exact⟨rfl,.inl ⟨_,rfl⟩⟩
   |_=>exact bft h
  |str a =>
   cases e with
   |str b =>
    obtain⟨h1,h2⟩:=Bool.and_eq_true_iff.mp (show(a==b&&decide (a.length≤aX))=true from h);obtain rfl:=eq_of_beq h1;exact⟨rfl,.inr ⟨_,rfl,of_decide_eq_true h2⟩⟩
   |_=>exact bft h
  |_=>exact bft h
theorem Ot{p prog:Program}{w:World}{loose:List Str}{mean:ExcName→Option Value}{mg mb:Str→Option Value}{h:Heap}(T:Top p loose mean mg mb h)(X:jB prog.main.body mg h)
  (hfn:∀ f,b4 f prog.main.body=nR f (recsOf p)) (hc:((A3 prog.main.body).all fun x=>cEq (fX prog.main.body x) (valOf p x))=true)
  (hfree:(sI.all fun x=>!startupNames.contains x&&!loose.contains x&&!((recsOf p).map (·.name)).contains x&&!((litsOf p).map (·.1)).contains x&&!((clssOf p loose).map (·.name)).contains x)=true) (himp:importsNone p=true) :
  Glo prog w mg mb h where
 g:=T.g
 b:=T.b
 nolimit:=T.nolimit
 mods:=by
  obtain⟨mm,hm,_⟩:=(T.seer himp).mods;exact⟨mm,hm⟩
 fn:=fun f a b sc e=>by
  rw[hfn] at e;obtain⟨d,hd,h1,h2,h3,h4⟩:=Om e;obtain⟨ad,o,pm,code,doc,g1,g2,g3,g4⟩:=T.fn d hd;subst h1;subst h2;subst h3;subst h4;exact⟨ad,o,pm,code,doc,g1,g2,g3,g4⟩
 const:=fun x d e=>by
  obtain⟨h1,h2⟩:=Oq e;have:=List.all_eq_true.mp hc x h1;rw[e] at this;obtain⟨h3,h4⟩:=Os this;obtain⟨v,h5,h6⟩:=T.const x d h3;refine⟨v,h5,fun h' av=>?_⟩;have r:=h6 h';rcases h4 with ⟨i,rfl⟩ | ⟨s,rfl,hl⟩
  ·cases r;exact .int _ _
  ·cases r;exact .str _ _ hl
 blt:=fun x v e=>by
  obtain⟨h1,h2,h3⟩:=Op e;have:=List.all_eq_true.mp hfree x h1;simp only[Bool.and_eq_true,Bool.not_eq_true',List.contains_eq_mem,decide_eq_false_iff_not] at this;obtain⟨⟨⟨⟨q1,q2⟩,q3⟩,q4⟩,q5⟩:=this;exact⟨T.free x q1 q2 q3 q4 q5,(T.builtins x h3).trans h2⟩
 cls:=fun c p e=>by
  obtain⟨C,bm,h1,h2,h3⟩:=X c p e;refine⟨C,bm,h1,?_,h3⟩;obtain⟨b,ini⟩:=p;cases ini with
  |none=>exact ClsP.ok h2
  |some ps=>exact ClsI.ok h2
theorem Ou{P:Params}{h:Heap}:∀ {vs:List Value} {ns:List Int},WellAll P h vs (ofPys (ns.map .int))→vs.length=ns.length∧∀ (i:Nat) (v:Value) (d:PyData),vs[i]?=some v→(ns.map PyData.int)[i]?=some d→∃ k t,v=.int k t∧d=.int k
 := by
 intro vs
 induction vs with
 |nil =>
  intro ns hw;cases ns with
  |nil=>exact⟨rfl,fun i v d e=>nomatch e⟩
  |cons n ns=>exact nomatch (show WellAll P h [] (WData.int n::ofPys (ns.map .int)) from hw)
 |cons v vs ih =>
  intro ns hw;cases ns with
  |nil=>exact nomatch (show WellAll P h (v::vs) [] from hw)
  |cons n ns =>
   cases (show WellAll P h (v::vs) (WData.int n::ofPys (ns.map .int)) from hw) with
   |cons h1 h2 =>
    obtain⟨g1,g2⟩:=ih h2;refine⟨congrArg Nat.succ g1,fun i u d e1 e2=>?_⟩;cases i with
    |zero =>
     obtain rfl:=si e1;obtain rfl:=si e2;cases h1;exact⟨_,_,rfl,rfl⟩
    |succ i=>exact g2 i u d e1 e2
theorem Ov{prog:Program}{w:World}{mg mb:Str→Option Value}{s₁:Shared}{fa l:Addr}{ns:List Int}{N:Nat}{Q:Value→Shared→Prop}{E:Value→Shared→Prop}(SH:Shp prog.main.body)(GL:Glo prog w mg mb s₁.heap)(hmg:mg (Str.ofString "law")=some (.ref fa))
  (hw:Well w.params s₁.heap (.ref l) (ofPy (.list (ns.map .int)))) (hn:ns.length≤63) (hf:(b4 (Str.ofString "law") prog.main.body).isSome=true) (hN:N≤400)
  (hrun:run prog.main.body N false (Str.ofString "law") [.fz (.list (ns.map .int))]=.ok (.fz (.bool true))) (hq:∀ s',Kp s₁ s'→Q (.bool true) s'):wpAny (model prog w) callerA (call (.ref fa) [.ref l]) Q E s₁:=by
 have hw:Well w.params s₁.heap (.ref l) (.list (ofPys (ns.map .int))):=hw;cases hw with
 | @list _ vs _ h1 h2 =>
  obtain⟨g1,g2⟩:=Ou h2;obtain⟨mm,hm⟩:=GL.mods;have hne:¬ l=sysModules:=fun e=>by
   obtain⟨o,es,ep,e1,e2,_⟩:=hm;rw[← e,h1] at e1;obtain rfl:=si e1;cases e2
  have rep:Rep prog w s₁.heap (fun b=>b=sysModules) (.ref l) (.list (ns.map .int)):=by
   refine .list hne ⟨_,h1⟩ (by simp[g1]) ?_ fun i v d e1 e2=>?_
   ·have:sizeLine=16777216:=rfl;exact E4 hn g1 this
   ·obtain⟨k,t,rfl,rfl⟩:=g2 i v d e1 e2;exact .int k t
  have room:Room N false [] callerA:=by
   refine⟨?_,?_,fun _=>rfl,rfl,rfl⟩
   ·have:callerA.depth+400+1 < recursionLimit:=by decide
    exact E5 hN this
   ·have:callerA.units+16*400+300 < cLine:=by decide
    exact E6 hN this
  have G:Gnd prog w mg mb s₁.heap [] (fun b=>b=sysModules) s₁:=⟨GL,fun _ _ e=>e,trivial,fun b f=>(nomatch f),fun b hb=>by
   obtain⟨o,es,ep,e1,_⟩:=hm;exact⟨o,hb▸e1⟩,rfl⟩
  refine(A0 (prog:=prog) (w:=w) (mg:=mg) (mb:=mb) (base:=s₁.heap) SH N false).call (Str.ofString "law") [.fz (.list (ns.map .int))] fa hmg hf callerA [] s₁ (fun b=>b=sysModules) [.ref l] room G ⟨⟨rep,nofun⟩,trivial⟩ (k:=R.ok) (fin:=.ok (.fz (.bool true))) ⟨by rw[show(cL prog.main.body N (run prog.main.body N false) false).call (Str.ofString "law") [.fz (.list (ns.map .int))]=_ from hrun];rfl,nofun⟩ (fun v s' u k r e=>?_) fun x v s' e _=>by cases e
  cases e;have:=Rep.bool_inv r;subst this;obtain⟨h,t,rfl,k1,_⟩:=k;exact hq _ ⟨h,t,rfl,fun b o e=>k1 b o (fun f=>nomatch f) e⟩
end Mine
namespace Mine
open PySem
noncomputable def gE(B:List Stmt)(f:Str):Scope:=match b4 f B with | some (_,_,sc)=>sc | none=>⟨.function,[],false,false,[]⟩
noncomputable def aO(B:List Stmt)(f:Str):List Stmt:=match b4 f B with | some (_,b,_)=>b | none=>[]
noncomputable def tv:Stmt→List Stmt×Expr
 | .If t b _ _=>(b,t)
 | .For t _ b _ _=>(b,t)
 | .While t b _ _=>(b,t)
 | .Assign ts _ _=>([],ts.head?.getD (.Name Str.empty ⟨0,0,0,0⟩))
 |_=>([],.Name Str.empty ⟨0,0,0,0⟩)
noncomputable def Ow:Stmt→List Stmt
 | .If _ _ o _=>o
 |_=>[]
noncomputable def Vz(l:List Stmt):List Stmt:=l.head?.elim [] Ow
noncomputable def sJ(l:List Stmt):List Stmt:=l.head?.elim [] fun s=>(tv s).1
noncomputable def bR(l:List Stmt):List Stmt:=l.head?.elim [] fun s=>(tv s).1
noncomputable def V0(l:List Stmt):Expr:=l.head?.elim (.Name Str.empty ⟨0,0,0,0⟩) fun s=>(tv s).2
noncomputable def cN(l:List Stmt):Expr:=l.head?.elim (.Name Str.empty ⟨0,0,0,0⟩) fun s=>(tv s).2
noncomputable def stm(B:List Stmt)(f:Str)(n k:Nat):List Stmt→aA→KN→KR→R V :=
 blk (evS (evE (cL B n (run B n false) false) cG (gE B f)) (evE (cL B n (run B n true) true) cG (gE B f)) cG (cL B n (run B n false) false) (gE B f) k)
noncomputable def b8(B:List Stmt)(f:Str)(n k:Nat):List Stmt→aA→KN→KR→R V :=
 kB (evE (cL B n (run B n false) false) cG (gE B f)) cG (cL B n (run B n false) false) (gE B f) (evS (evE (cL B n (run B n false) false) cG (gE B f)) (evE (cL B n (run B n true) true) cG (gE B f)) cG (cL B n (run B n false) false) (gE B f) k)
noncomputable def cpE(c:Bool)(a:PyData)(t:R V):R V:=match (if c=true then some a else none) with
 |some d=>.ok (.dp d)
 |none=>t
noncomputable def kP(fu:Nat)(t:R V)(f:List V→R V)(e2:PyData→R V)(c0:R V)(c1:PyData→PyData→R V)(e1:R V)(c2:PyData→PyData→R V)(r2:R V)(l:R (List PyData))(g:PyData→PyData→R V)(dd:R V)(c3:PyData→PyData→R V)(r3:PyData→R V)(k0:R V)(k3:PyData→R V)(kr:V→R V):R V :=
 rb t fun tv=>rb (f [.fz (dOf tv)]) fun u1=>rb (ofP (dpD u1)) fun d=>rb (e2 d) fun u2 =>
 rb (tst c0) fun b0=>if b0 then rb (tst (c1 d (dOf u2))) fun b1=>if b1 then rb e1 kr else k0
 else rb (ofP (dpD u2)) fun d2=>if bJ fu d=true∧bJ fu d2=true then
  rb (tst (c2 d d2)) fun b2=>if b2 then rb r2 kr else
  rb l fun l=>rb (g d d2) fun u3=>rb (ofP (dpD u3)) fun d3=>rb dd fun dv=>if l.length < aX then
   rb (tst (c3 (.list (l++[.tuple [d3,dOf dv]])) d2)) fun b3=>if b3 then rb (r3 (.list (l++[.tuple [d3,dOf dv]]))) kr else k3 (.list (l++[.tuple [d3,dOf dv]]))
  else .no
 else .no
noncomputable def aB(op:Operator)(a b:R V):R V:=rb a fun a=>rb b fun b=>ofP (aC op (dOf a) (dOf b))
noncomputable def unS(op:UnaryOp)(a:R V):R V:=rb a fun v=>ofP (d8 op v)
noncomputable def aT(a b:R V):R V:=rb a fun v=>rb (ofP (cJ v)) fun c=>if c then b else .ok v
noncomputable def orS(a b:R V):R V:=rb a fun v=>rb (ofP (cJ v)) fun c=>if c then .ok v else b
noncomputable def dN(t a b:R V):R V:=rb (tst t) fun c=>if c then a else b
noncomputable def aE(a:R V)(op:CmpOp)(b:R V):R V:=rb a fun a=>aZ (rb b fun v=>ofP (cmp op (dOf a) (dOf v)))
noncomputable def fL(a:R V)(op:CmpOp)(b:R V)(op':CmpOp)(c:R V):R V:=rb a fun a=>aZ (rb b fun v=>rb (ofP (cmp op (dOf a) (dOf v))) fun t=>if t then (rb c fun w=>ofP (cmp op' (dOf v) (dOf w))) else .ok false)
noncomputable def eC:List (R V)→R (List V)
 | []=>.ok []
 |e::r=>rb e fun v=>rb (eC r) fun vs=>.ok (v.clear::vs)
noncomputable def eD(l:List (R V)):R V:=rb (eC l) fun l=>if l.length≤aX then .ok (.own (.list (bZ l))) else .no
noncomputable def aN(l:List (R V)):R V:=rb (eC l) fun l=>if l.length≤aX then .ok (.fz (.tuple (bZ l))) else .no
noncomputable def sK:List (R V×R V)→R (List (PyData×PyData))
 | []=>.ok []
 |p::r=>rb p.1 fun k=>rb p.2 fun v=>rb (sK r) fun r=>.ok ((dOf k,dOf v)::r)
noncomputable def gG(l:List (R V×R V)):R V:=rb (sK l) fun l=>ofP (j5 l)
noncomputable def aI(a:R PyData)(i:R V):R V:=rb a fun a=>rb i fun i=>ofP (getItem a (dOf i))
noncomputable def nS:Option (R V)→R (Option Int)
 |none=>.ok none
 |some e=>rb e fun v=>ofP (toI v)
noncomputable def b9(a:R PyData)(lo hi:Option (R V)):R V:=rb a fun a=>rb (nS lo) fun lo=>rb (nS hi) fun hi=>ofP (iL a lo hi)
noncomputable def cV(m:Str)(o:R V)(as:List (R V)):R V:=rb o fun o=>if mOk m (dOf o) then rb (eC as) fun as=>ofP (pI m (dOf o) (bZ as)) else .no
noncomputable def dX(t:Str)(a:R V):R V:=rb a fun v=>ofP (iQ t (dOf v))
noncomputable def Ox(B:List Stmt)(n:Nat)(t:Str)(v:V):R V:=match (match v with | .ex d=>some d | _=>none) with | some x=>ofP (isX (cL B n (run B n false) false) x.cls t) | none=>rb (ofP (rdv v)) fun v=>ofP (iQ t (dOf v))
noncomputable def aH(f:PyData→P V)(a:R V):R V:=rb a fun v=>ofP (f (dOf v))
noncomputable def kQ(as:List (R V)):R V:=rb (eC as) fun vs=>ofP (l9 vs)
noncomputable def aD(f:List V→R V)(as:List (R V)):R V:=rb (eC as) fun vs=>f vs
noncomputable def aV(it:R (List PyData))(t:PyData→R Bool)(e:PyData→R V):R V:=rb (rb it fun l=>aU t e l) fun r=>ofP (own (.list r))
noncomputable def plI(e:R V):R (List PyData):=rb e fun v=>ofP (items (dOf v))
noncomputable def rgI(e:R V):R (List PyData):=rb e fun v=>ofP ((gQ v).bind pM)
noncomputable def enI(e:R V):R (List PyData):=rb e fun v=>ofP ((wC (dOf v)).bind fun l=>.ok (dB 0 l))
noncomputable def V1(B:List Stmt)(c:Str)(a:R V)(kr:V→R V):R V:=match a with
 | .no=>.no
 | .ok v=>kr v
 | .exc y=>match dW B y.cls c with
  |some true=>.no
  |_=>.no
noncomputable def bS(v:V):R PyData:=match (match v with | .own d=>some d | _=>none) with
 |some d=>.ok d
 |none=>rb (ofP (rdv v)) fun v=>.ok (dOf v)
noncomputable def bB(v:V):R V:=match (match v with | .ex d=>some d | _=>none) with
 |some x=>.ok (.ex x)
 |none=>ofP (rdv v)
noncomputable def dH(e:R V):R PyData:=rb e fun v=>.ok (dOf v)
noncomputable def eV(v:V)(kr:V→R V):R V:=match (match v with | .own d=>some d | _=>none) with
 |some d=>kr (.own d)
 |none=>rb (ofP (rdv v)) kr
noncomputable def ifS(t:R V)(a b:R V):R V:=rb (tst t) fun c=>if c then a else b
noncomputable def bT(x:R V)(X:R PyData)(I:R V)(k:PyData→R V):R V:=rb x fun v=>rb X fun o=>rb I fun iv=>rb (ofP (setItem o (dOf iv) (dOf v))) k
noncomputable def jC(X:R PyData)(m:Str)(as:List (R V))(k:PyData→R V):R V:=rb X fun o=>if mE m o then rb (eC as) fun as'=>rb (ofP (gV m o (bZ as'))) k else .no
noncomputable def kR(c:Str)(as:List (R V)):R V:=rb (eC as) fun vs=>if vs.length=1 then .exc ⟨c,[]⟩ else .no
noncomputable def A4(B:List Stmt)(c:Str)(a:R V)(h:X→R V)(kr:V→R V):R V:=match a with
 | .no=>.no
 | .ok v=>kr v
 | .exc y=>match dW B y.cls c with
  |some true=>rb (nx (h y)) kr
  |_=>.no
end Mine
namespace Mine
open PySem
noncomputable def BB:List Stmt:=PySem.Challenge.rw_uf010037_03.prog.main.body
end Mine
namespace Mine
open PySem
noncomputable abbrev so(x:String):Str:=Str.ofString x
noncomputable abbrev ζ(d:PyData):Option V:=some (.fz d)
noncomputable abbrev rn(n:Nat)(f:String)(vs:List V):R V:=run BB n false (Str.ofString f) vs
end Mine
namespace Mine
open PySem
variable (n:Nat) (a1 a2 a3 a4 a5 a6 a7 x1 x2 x3 x4 x5 x6 x7 x8 x9 x10 x11 x12 x13 x14 x15 x16 x17 x18 x19 d0 d1 d2 d3 d4 d5:PyData) (w1 w2 w3 w4 w5 w6 w7 w8 w9 w10 w11 w12 w13 w14 w15 w16 w17 w18 w19:V) (o1 o2 o3 o4 o5 o6 o7 o8 o9 o10 o11 o12 o13 o14 o15 o16 o17 o18 o19 p0 p1 p2 p3 p4 p5 p6 p7 p8 p9 p10 p11 p12 p13 p14 p15 p16 p17 p18 p19:Option V) (kn:KN) (kr:KR)
theorem Oy:rn (n+1) "is_name" [.fz a1]=(ifS (orS (unS .Not (.ok (.fz (.bool (pF a1))))) (unS .Not (fL (.ok (.fz (.int 1))) .LtE (ofP (a8 a1)) .LtE (.ok (.fz (.int 8)))))) (R.ok (.fz (.bool false))) (rb (aH cE (aV (ofP (items a1)) (fun d1=>(.ok true)) (fun d1=>(aZ (ofP (cmp .In d1 (.str (so "abcdefghijklmnopqrstuvwxyz")))))))) R.ok)):=by kernel_rfl
theorem Oz:rn (n+1) "is_whole" [.fz a1]=(rb (aT (.ok (.fz (.bool (fC a1)))) (unS .Not (.ok (.fz (.bool (fQ a1)))))) R.ok):=by kernel_rfl
theorem sL:rn (n+1) "is_tree" [.fz a1]=(ifS (rn n "is_whole" [.fz a1]) (R.ok (.fz (.bool true))) (ifS (unS .Not (.ok (.fz (.bool (bE a1))))) (R.ok (.fz (.bool false))) (rb (aH cE (aV (ofP (items a1)) (fun d1=>(.ok true)) (fun d1=>(aT (rn n "is_name" [.fz d1]) (aD (rn n "is_tree") [(ofP (getItem a1 d1))]))))) R.ok))):=by kernel_rfl
theorem O0:rn (n+1) "all_branches" [.fz a1]=(rb (aT (.ok (.fz (.bool (bE a1)))) (aH cE (aV (ofP (items a1)) (fun d1=>(.ok true)) (fun d1=>(dX (so "dict") (ofP (getItem a1 d1))))))) R.ok):=by kernel_rfl
noncomputable def jD(o0 o1 o2:Option V):aA:=[((so "tree"),o0),((so "found"),o1),((so "name"),o2)]
noncomputable def A5(n:Nat)(σ:aA)(kn:KN)(kr:KR):R V:=b8 BB (so "copied") n 23 (bR (List.drop 2 (aO BB (so "copied")))) σ kn kr
noncomputable def A6:Expr:=cN (List.drop 2 (aO BB (so "copied")))
noncomputable def A7(n:Nat)(σ:aA)(kn:KN)(kr:KR):R V:=stm BB (so "copied") n 24 (List.drop 3 (aO BB (so "copied"))) σ kn kr
theorem O1:rn (n+1) "copied" [.fz a1]=(cpE (bJ (n+1) a1) a1 (ifS (unS .Not (.ok (.fz (.bool (bE a1))))) (R.ok (.fz a1)) (rb (ofP (items a1)) fun l1=>aS (A5 n) A6 l1 (jD (ζ a1) (some (.own (.dict []))) none) (fun σ=>A7 n σ (fun _=>R.ok (.fz .none)) R.ok) R.ok))):=by kernel_rfl
theorem V2:aW A6 d0 (jD p0 p1 p2)=.ok (jD p0 p1 (ζ d0)):=by kernel_rfl
theorem V3:A5 n (jD (ζ x1) (some (.own x2)) (ζ d0)) kn kr=(bT (aD (rn n "copied") [(ofP (getItem x1 d0))]) (.ok x2) (.ok (.fz d0)) fun o1=>(kn (jD (ζ x1) (some (.own o1)) (ζ d0)))):=by kernel_rfl
theorem V4:A7 n (jD (ζ x1) (some (.own x2)) o3) kn kr=(kr (.own x2)):=by kernel_rfl
theorem O2:rn (n+1) "is_beside" [.fz a1]=(ifS (orS (unS .Not (.ok (.fz (.bool (lY a1))))) (unS .Not (fL (.ok (.fz (.int 1))) .LtE (ofP (a8 a1)) .LtE (.ok (.fz (.int 6)))))) (R.ok (.fz (.bool false))) (ifS (unS .Not (aH cE (aV (ofP (items a1)) (fun d1=>(.ok true)) (fun d1=>(rn n "is_row" [.fz d1]))))) (R.ok (.fz (.bool false))) (rb (aV (ofP (items a1)) (fun d2=>(.ok true)) (fun d2=>(ofP (getItem d2 (.int 0))))) fun v3=>(rb (aV (ofP (items a1)) (fun d4=>(.ok true)) (fun d4=>(ofP (getItem d4 (.int 1))))) fun v5=>(rb (aT (aE (aH dU (ofP (rdv (V.clear v3)))) .Eq (ofP (a8 a1))) (aE (aH dU (ofP (rdv (V.clear v5)))) .Eq (ofP (a8 a1)))) R.ok))))):=by kernel_rfl
theorem O3:rn (n+1) "are_fields" [.fz a1]=(ifS (orS (unS .Not (.ok (.fz (.bool (lY a1))))) (unS .Not (fL (.ok (.fz (.int 1))) .LtE (ofP (a8 a1)) .LtE (.ok (.fz (.int 6)))))) (R.ok (.fz (.bool false))) (rb (aT (aH cE (aV (ofP (items a1)) (fun d1=>(.ok true)) (fun d1=>(rn n "is_name" [.fz d1])))) (aE (aH dU (.ok (.fz a1))) .Eq (ofP (a8 a1)))) R.ok)):=by kernel_rfl
theorem O4:rn (n+1) "are_two_names" [.fz a1,.fz a2]=(rb (aT (rn n "is_name" [.fz a1]) (aT (rn n "is_name" [.fz a2]) (aZ (ofP (cmp .NotEq a1 a2))))) R.ok):=by kernel_rfl
theorem O5:rn (n+1) "is_least" [.fz a1]=(rb (aT (rn n "is_whole" [.fz a1]) (aE (ofP (pG a1)) .Lt (ofP (aC .Pow (.int 10) (.int 30))))) R.ok):=by kernel_rfl
theorem O6:rn (n+1) "need_view" [.fz a1]=(ifS (unS .Not (rn n "is_view" [.fz a1])) (kR (so "BadView") [(.ok (.fz (.str (so "no view"))))]) (R.ok (.fz .none))):=by kernel_rfl
theorem nT:rn (n+1) "has_part" [.fz a1,.fz a2]=(rb (aT (.ok (.fz (.bool (bE a1)))) (aZ (ofP (cmp .In a2 a1)))) R.ok):=by kernel_rfl
theorem O7:rn (n+1) "is_sifted" [.fz a1,.fz a2,.fz a3]=(rb (aT (aZ (ofP (cmp .In a2 a1))) (aT (aD (rn n "is_whole") [(ofP (getItem a1 a2))]) (aE (ofP (getItem a1 a2)) .GtE (.ok (.fz a3))))) R.ok):=by kernel_rfl
noncomputable def dI(o0 o1 o2 o3 o4:Option V):aA:=[((so "view"),o0),((so "tree"),o1),((so "one"),o2),((so "other"),o3),((so "key"),o4)]
noncomputable def sM(n:Nat)(σ:aA)(kn:KN)(kr:KR):R V:=b8 BB (so "fits_join") n 23 (bR (List.drop 4 (aO BB (so "fits_join")))) σ kn kr
noncomputable def sN:Expr:=cN (List.drop 4 (aO BB (so "fits_join")))
noncomputable def A8(n:Nat)(σ:aA)(kn:KN)(kr:KR):R V:=stm BB (so "fits_join") n 24 (List.drop 5 (aO BB (so "fits_join"))) σ kn kr
theorem A9:rn (n+1) "fits_join" [.fz a1,.fz a2]=(ifS (orS (unS .Not (aD (rn n "has_part") [(.ok (.fz a2)),(ofP (getItem a1 (.int 1)))])) (unS .Not (aD (rn n "has_part") [(.ok (.fz a2)),(ofP (getItem a1 (.int 2)))]))) (R.ok (.fz (.bool false))) (rb (aI (.ok a2) (ofP (getItem a1 (.int 1)))) fun v1=>(rb (aI (.ok a2) (ofP (getItem a1 (.int 2)))) fun v2=>(ifS (orS (unS .Not (aD (rn n "all_branches") [(bB (V.clear v1))])) (unS .Not (aD (rn n "all_branches") [(bB (V.clear v2))]))) (R.ok (.fz (.bool false))) (rb (plI (ofP (rdv (V.clear (V.clear v1))))) fun l3=>aS (sM n) sN l3 (dI (ζ a1) (ζ a2) (some (V.clear (V.clear v1))) (some (V.clear v2)) none) (fun σ=>A8 n σ (fun _=>R.ok (.fz .none)) R.ok) R.ok))))):=by kernel_rfl
theorem O8:aW sN d0 (dI p0 p1 p2 p3 p4)=.ok (dI p0 p1 p2 p3 (ζ d0)):=by kernel_rfl
theorem O9:sM n (dI (ζ x1) (ζ x2) (some w3) (some w4) (ζ d0)) kn kr=(ifS (aE (aV (plI (aI (bS w3) (.ok (.fz d0)))) (fun d1=>(tst (aE (.ok (.fz d1)) .NotIn (ofP (getItem x1 (.int 3)))))) (fun d1=>(.ok (.fz d1)))) .NotEq (.ok (.own (.list [])))) (kr (.fz (.bool false))) (kn (dI (ζ x1) (ζ x2) (some w3) (some w4) (ζ d0)))):=by kernel_rfl
noncomputable def sO(n:Nat)(σ:aA)(kn:KN)(kr:KR):R V:=b8 BB (so "fits_join") n 23 (bR (List.drop 5 (aO BB (so "fits_join")))) σ kn kr
noncomputable def sP:Expr:=cN (List.drop 5 (aO BB (so "fits_join")))
noncomputable def Ba(n:Nat)(σ:aA)(kn:KN)(kr:KR):R V:=stm BB (so "fits_join") n 24 (List.drop 6 (aO BB (so "fits_join"))) σ kn kr
theorem Pa:A8 n (dI (ζ x1) (ζ x2) (some w3) (some w4) o5) kn kr=(rb (plI (ofP (rdv (V.clear w4)))) fun l1=>aS (sO n) sP l1 (dI (ζ x1) (ζ x2) (some w3) (some (V.clear w4)) o5) (fun σ=>Ba n σ kn kr) kr):=by kernel_rfl
theorem Pb:aW sP d0 (dI p0 p1 p2 p3 p4)=.ok (dI p0 p1 p2 p3 (ζ d0)):=by kernel_rfl
theorem Pc:sO n (dI (ζ x1) (ζ x2) (some w3) (some w4) (ζ d0)) kn kr=(ifS (aE (aV (plI (aI (bS w4) (.ok (.fz d0)))) (fun d1=>(tst (aE (.ok (.fz d1)) .In (ofP (getItem x1 (.int 3)))))) (fun d1=>(.ok (.fz d1)))) .NotEq (.ok (.own (.list [])))) (kr (.fz (.bool false))) (kn (dI (ζ x1) (ζ x2) (some w3) (some w4) (ζ d0)))):=by kernel_rfl
theorem Pd:Ba n (dI (ζ x1) (ζ x2) (some w3) (some w4) o5) kn kr=(kr (.fz (.bool true))):=by kernel_rfl
noncomputable def gH(o0 o1 o2 o3:Option V):aA:=[((so "view"),o0),((so "tree"),o1),((so "found"),o2),((so "name"),o3)]
noncomputable def sQ(n:Nat)(σ:aA)(kn:KN)(kr:KR):R V:=b8 BB (so "shown_call") n 23 (bR (List.drop 2 (aO BB (so "shown_call")))) σ kn kr
noncomputable def sR:Expr:=cN (List.drop 2 (aO BB (so "shown_call")))
noncomputable def Bb(n:Nat)(σ:aA)(kn:KN)(kr:KR):R V:=stm BB (so "shown_call") n 24 (List.drop 3 (aO BB (so "shown_call"))) σ kn kr
theorem Pe:rn (n+1) "shown_call" [.fz a1,.fz a2]=(rb (aD (rn n "need_fit") [(aT (aD (rn n "has_part") [(.ok (.fz a2)),(ofP (getItem a1 (.int 1)))]) (aE (ofP (getItem a1 (.int 2))) .NotIn (.ok (.fz a2))))]) fun _=>(rb (ofP (items a2)) fun l1=>aS (sQ n) sR l1 (gH (ζ a1) (ζ a2) (some (.own (.dict []))) none) (fun σ=>Bb n σ (fun _=>R.ok (.fz .none)) R.ok) R.ok)):=by kernel_rfl
theorem Pf:aW sR d0 (gH p0 p1 p2 p3)=.ok (gH p0 p1 p2 (ζ d0)):=by kernel_rfl
theorem Pg:sQ n (gH (ζ x1) (ζ x2) (some (.own x3)) (ζ d0)) kn kr=(ifS (aE (.ok (.fz d0)) .Eq (ofP (getItem x1 (.int 1)))) (bT (ofP (getItem x2 d0)) (.ok x3) (ofP (getItem x1 (.int 2))) fun o1=>(kn (gH (ζ x1) (ζ x2) (some (.own o1)) (ζ d0)))) (bT (ofP (getItem x2 d0)) (.ok x3) (.ok (.fz d0)) fun o2=>(kn (gH (ζ x1) (ζ x2) (some (.own o2)) (ζ d0))))):=by kernel_rfl
theorem Ph:Bb n (gH (ζ x1) (ζ x2) (some (.own x3)) o4) kn kr=(kr (.own x3)):=by kernel_rfl
noncomputable def eW(o0 o1 o2 o3 o4 o5:Option V):aA:=[((so "view"),o0),((so "tree"),o1),((so "found"),o2),((so "name"),o3),((so "part"),o4),((so "inner"),o5)]
noncomputable def cW(n:Nat)(σ:aA)(kn:KN)(kr:KR):R V:=b8 BB (so "shown_beside") n 23 (bR (List.drop 1 (aO BB (so "shown_beside")))) σ kn kr
noncomputable def cX:Expr:=cN (List.drop 1 (aO BB (so "shown_beside")))
noncomputable def Bc(n:Nat)(σ:aA)(kn:KN)(kr:KR):R V:=stm BB (so "shown_beside") n 24 (List.drop 2 (aO BB (so "shown_beside"))) σ kn kr
theorem Pi:rn (n+1) "shown_beside" [.fz a1,.fz a2]=(rb (plI (ofP (getItem a1 (.int 1)))) fun l1=>aS (cW n) cX l1 (eW (ζ a1) (ζ a2) (some (.own (.dict []))) none none none) (fun σ=>Bc n σ (fun _=>R.ok (.fz .none)) R.ok) R.ok):=by kernel_rfl
theorem Bd:aW cX (.tuple [d0,d1,d2]) (eW p0 p1 p2 p3 p4 p5)=.ok (eW p0 p1 p2 (ζ d0) (ζ d1) (ζ d2)):=by kernel_rfl
theorem Be:cW n (eW (ζ x1) (ζ x2) (some (.own x3)) (ζ d0) (ζ d1) (ζ d2)) kn kr=(rb (aD (rn n "need_fit") [(rn n "has_part" [.fz x2,.fz d1])]) fun _=>(bT (aD (rn n "shown") [(.ok (.fz d2)),(ofP (getItem x2 d1))]) (.ok x3) (.ok (.fz d0)) fun o1=>(kn (eW (ζ x1) (ζ x2) (some (.own o1)) (ζ d0) (ζ d1) (ζ d2))))):=by kernel_rfl
theorem Pj:Bc n (eW (ζ x1) (ζ x2) (some (.own x3)) o4 o5 o6) kn kr=(kr (.own x3)):=by kernel_rfl
noncomputable def eE(o0 o1 o2 o3:Option V):aA:=[((so "view"),o0),((so "tree"),o1),((so "found"),o2),((so "key"),o3)]
noncomputable def nU(n:Nat)(σ:aA)(kn:KN)(kr:KR):R V:=b8 BB (so "shown_sift") n 23 (bR (List.drop 2 (aO BB (so "shown_sift")))) σ kn kr
noncomputable def nV:Expr:=cN (List.drop 2 (aO BB (so "shown_sift")))
noncomputable def Bg(n:Nat)(σ:aA)(kn:KN)(kr:KR):R V:=stm BB (so "shown_sift") n 24 (List.drop 3 (aO BB (so "shown_sift"))) σ kn kr
theorem Pk:rn (n+1) "shown_sift" [.fz a1,.fz a2]=(rb (aD (rn n "need_fit") [(rn n "all_branches" [.fz a2])]) fun _=>(rb (ofP (items a2)) fun l1=>aS (nU n) nV l1 (eE (ζ a1) (ζ a2) (some (.own (.dict []))) none) (fun σ=>Bg n σ (fun _=>R.ok (.fz .none)) R.ok) R.ok)):=by kernel_rfl
theorem Pl:aW nV d0 (eE p0 p1 p2 p3)=.ok (eE p0 p1 p2 (ζ d0)):=by kernel_rfl
theorem Pm:nU n (eE (ζ x1) (ζ x2) (some (.own x3)) (ζ d0)) kn kr=(ifS (aD (rn n "is_sifted") [(ofP (getItem x2 d0)),(ofP (getItem x1 (.int 1))),(ofP (getItem x1 (.int 2)))]) (bT (ofP (getItem x2 d0)) (.ok x3) (.ok (.fz d0)) fun o1=>(kn (eE (ζ x1) (ζ x2) (some (.own o1)) (ζ d0)))) (kn (eE (ζ x1) (ζ x2) (some (.own x3)) (ζ d0)))):=by kernel_rfl
theorem Pn:Bg n (eE (ζ x1) (ζ x2) (some (.own x3)) o4) kn kr=(kr (.own x3)):=by kernel_rfl
noncomputable def eF(o0 o1 o2 o3 o4 o5 o6:Option V):aA:=[((so "view"),o0),((so "tree"),o1),((so "one"),o2),((so "other"),o3),((so "found"),o4),((so "key"),o5),((so "row"),o6)]
noncomputable def nW(n:Nat)(σ:aA)(kn:KN)(kr:KR):R V:=b8 BB (so "shown_join") n 23 (bR (List.drop 4 (aO BB (so "shown_join")))) σ kn kr
noncomputable def nX:Expr:=cN (List.drop 4 (aO BB (so "shown_join")))
noncomputable def Bh(n:Nat)(σ:aA)(kn:KN)(kr:KR):R V:=stm BB (so "shown_join") n 24 (List.drop 5 (aO BB (so "shown_join"))) σ kn kr
theorem Po:rn (n+1) "shown_join" [.fz a1,.fz a2]=(rb (aD (rn n "need_fit") [(rn n "fits_join" [.fz a1,.fz a2])]) fun _=>(rb (aI (.ok a2) (ofP (getItem a1 (.int 1)))) fun v1=>(rb (aI (.ok a2) (ofP (getItem a1 (.int 2)))) fun v2=>(rb (plI (ofP (rdv (V.clear v1)))) fun l3=>aS (nW n) nX l3 (eF (ζ a1) (ζ a2) (some (V.clear v1)) (some v2) (some (.own (.dict []))) none none) (fun σ=>Bh n σ (fun _=>R.ok (.fz .none)) R.ok) R.ok)))):=by kernel_rfl
theorem Pp:aW nX d0 (eF p0 p1 p2 p3 p4 p5 p6)=.ok (eF p0 p1 p2 p3 p4 (ζ d0) p6):=by kernel_rfl
theorem Pq:nW n (eF (ζ x1) (ζ x2) (some w3) (some w4) (some (.own x5)) (ζ d0) o7) kn kr=(ifS (aE (.ok (.fz d0)) .In (ofP (rdv (V.clear w4)))) (rb (aH b6 (aI (bS w3) (.ok (.fz d0)))) fun v1=>(jC (ofP (gU v1)) (so "update") [(aI (bS (V.clear w4)) (.ok (.fz d0)))] fun o2=>(bT (.ok (.fz o2)) (.ok x5) (.ok (.fz d0)) fun o3=>(kn (eF (ζ x1) (ζ x2) (some w3) (some (V.clear w4)) (some (.own o3)) (ζ d0) (ζ o2)))))) (kn (eF (ζ x1) (ζ x2) (some w3) (some (V.clear w4)) (some (.own x5)) (ζ d0) o7))):=by kernel_rfl
theorem Ps:Bh n (eF (ζ x1) (ζ x2) (some w3) (some w4) (some (.own x5)) o6 o7) kn kr=(kr (.own x5)):=by kernel_rfl
noncomputable def fM(o0 o1 o2 o3:Option V):aA:=[((so "view"),o0),((so "tree"),o1),((so "found"),o2),((so "name"),o3)]
noncomputable def nY(n:Nat)(σ:aA)(kn:KN)(kr:KR):R V:=b8 BB (so "shown_each") n 23 (bR (List.drop 2 (aO BB (so "shown_each")))) σ kn kr
noncomputable def n6:Expr:=cN (List.drop 2 (aO BB (so "shown_each")))
noncomputable def Bi(n:Nat)(σ:aA)(kn:KN)(kr:KR):R V:=stm BB (so "shown_each") n 24 (List.drop 3 (aO BB (so "shown_each"))) σ kn kr
theorem Pt:rn (n+1) "shown_each" [.fz a1,.fz a2]=(rb (rn n "need_fit" [.fz (.bool (bE a2))]) fun _=>(rb (ofP (items a2)) fun l1=>aS (nY n) n6 l1 (fM (ζ a1) (ζ a2) (some (.own (.dict []))) none) (fun σ=>Bi n σ (fun _=>R.ok (.fz .none)) R.ok) R.ok)):=by kernel_rfl
theorem Pu:aW n6 d0 (fM p0 p1 p2 p3)=.ok (fM p0 p1 p2 (ζ d0)):=by kernel_rfl
theorem Pv:nY n (fM (ζ x1) (ζ x2) (some (.own x3)) (ζ d0)) kn kr=(bT (aD (rn n "shown") [(ofP (getItem x1 (.int 1))),(ofP (getItem x2 d0))]) (.ok x3) (.ok (.fz d0)) fun o1=>(kn (fM (ζ x1) (ζ x2) (some (.own o1)) (ζ d0)))):=by kernel_rfl
theorem Pw:Bi n (fM (ζ x1) (ζ x2) (some (.own x3)) o4) kn kr=(kr (.own x3)):=by kernel_rfl
theorem Px:rn (n+1) "need_tree" [.fz a1]=(ifS (unS .Not (rn n "is_tree" [.fz a1])) (kR (so "BadTree") [(.ok (.fz (.str (so "no tree"))))]) (R.ok (.fz .none))):=by kernel_rfl
theorem Py:rn (n+1) "show" [.fz a1,.fz a2]=(rb (rn n "need_view" [.fz a1]) fun _=>(rb (rn n "need_tree" [.fz a2]) fun _=>(rb (aD (rn n "copied") [(rn n "shown" [.fz a1,.fz a2])]) R.ok))):=by kernel_rfl
theorem Pz:rn (n+1) "_law_cell_at" [.fz a1,.fz a2]=(ifS (aE (.ok (.fz a2)) .Lt (ofP (a8 a1))) (rb (ofP (getItem a1 a2)) R.ok) (R.ok (.fz (.int 0)))):=by kernel_rfl
theorem P0:rn (n+1) "_law_mixed" [.fz a1,.fz a2]=(rb (aB .Mod (aB .Add (aB .Add (aB .Mult (aD (rn n "_law_cell_at") [(.ok (.fz a1)),(aB .Add (.ok (.fz (.int 2))) (ofP (aC .Mod a2 (.int 24))))]) (.ok (.fz (.int 48271)))) (ofP (aC .Mult (.int 7919) a2))) (.ok (.fz (.int 12345)))) (.ok (.fz (.int 2147483647)))) R.ok):=by kernel_rfl
theorem P4:rn (n+1) "_law_name" [.fz a1,.fz a2]=(rb (aB .Add (.ok (.fz (.int 1))) (ofP (aC .Mod a1 (.int 8)))) fun v1=>(rb (aV (rgI (.ok (.fz (.int 8)))) (fun d2=>(.ok true)) (fun d2=>(aI (.ok (.str (so "abcdefghijklmnopqrstuvwxyz"))) (aB .Mod (aB .Add (ofP (aC .FloorDiv a1 (.int 8))) (ofP (aC .Mult (.int 5) d2))) (.ok (.fz (.int 26))))))) fun v3=>(ifS (aE (aB .Mod (ofP (aC .FloorDiv a1 (.int 1664))) (.ok (.fz (.int 3)))) .Eq (.ok (.fz (.int 1)))) (bT (aI (.ok (.str (so "abcdefghijklmnopqrstuvwxyz"))) (aB .Mod (aB .Add (ofP (aC .FloorDiv a1 (.int 8))) (ofP (aC .FloorDiv a2 (.int 8)))) (.ok (.fz (.int 26))))) (ofP (gU v3)) (.ok (.fz (.int 0))) fun o4=>(rb (cV (so "join") (.ok (.fz (.str (so "")))) [(b9 (.ok o4) none (some (aB .Add (.ok (.fz (.int 1))) (ofP (aC .Mod a2 (.int 8))))))]) R.ok)) (bT (aI (.ok (.str (so "abcdefghijklmnopqrstuvwxyz"))) (aB .Mod (aB .Add (aB .Add (ofP (aC .FloorDiv a1 (.int 8))) (.ok (.fz (.int 7)))) (.ok (.fz a2))) (.ok (.fz (.int 26))))) (ofP (gU v3)) (aB .Mod (ofP (aC .FloorDiv a1 (.int 208))) (ofP (rdv v1))) fun o5=>(rb (cV (so "join") (.ok (.fz (.str (so "")))) [(b9 (.ok o5) none (some (ofP (rdv (V.clear v1)))))]) R.ok))))):=by kernel_rfl
theorem P5:rn (n+1) "_law_names" [.fz a1]=(rb (aV (rgI (.ok (.fz (.int 14)))) (fun d1=>(.ok true)) (fun d1=>(aD (rn n "_law_name") [(rn n "_law_cell_at" [.fz a1,.fz (.int 0)]),(.ok (.fz d1))]))) R.ok):=by kernel_rfl
theorem P6:rn (n+1) "_law_number" [.fz a1]=(ifS (aE (ofP (aC .Mod a1 (.int 5))) .Eq (.ok (.fz (.int 4)))) (rb (aB .Add (aI (dH (eD [(ofP (aC .Pow (.int 10) (.int 20))),(unS .USub (ofP (aC .Pow (.int 10) (.int 20)))),(ofP (aC .Pow (.int 10) (.int 12))),(.ok (.fz (.int 0)))])) (aB .Mod (ofP (aC .FloorDiv a1 (.int 5))) (.ok (.fz (.int 4))))) (aB .Mod (ofP (aC .FloorDiv a1 (.int 20))) (.ok (.fz (.int 3))))) R.ok) (ifS (aE (ofP (aC .Mod a1 (.int 5))) .Eq (.ok (.fz (.int 3)))) (rb (aB .Sub (aB .Mod (aB .Mult (ofP (aC .FloorDiv a1 (.int 5))) (.ok (.fz (.int 48271)))) (.ok (.fz (.int 2000003)))) (.ok (.fz (.int 1000001)))) R.ok) (ifS (aE (ofP (aC .Mod a1 (.int 15))) .Eq (.ok (.fz (.int 2)))) (rb (aB .Mult (aH iM (aB .Mult (.ok (.fz (.str (so "37")))) (aB .Add (.ok (.fz (.int 1))) (aB .Mod (ofP (aC .FloorDiv a1 (.int 15))) (.ok (.fz (.int 14))))))) (aB .Sub (.ok (.fz (.int 1))) (aB .Mult (aB .Mod (ofP (aC .FloorDiv a1 (.int 210))) (.ok (.fz (.int 2)))) (.ok (.fz (.int 2)))))) R.ok) (rb (aB .Sub (aB .Mod (ofP (aC .FloorDiv a1 (.int 5))) (.ok (.fz (.int 9)))) (.ok (.fz (.int 4)))) R.ok)))):=by kernel_rfl
noncomputable def cA(o0 o1 o2 o3 o4 o5 o6 o7 o8 o9:Option V):aA:=[((so "_law_script"),o0),((so "_law_k"),o1),((so "_law_names_here"),o2),((so "_law_fields"),o3),((so "_law_found"),o4),((so "_law_j"),o5),((so "_law_row"),o6),((so "_law_i"),o7),((so "_law_field"),o8),((so "_law_cell"),o9)]
noncomputable def n7(n:Nat)(σ:aA)(kn:KN)(kr:KR):R V:=b8 BB (so "_law_table") n 23 (bR (List.drop 1 (aO BB (so "_law_table")))) σ kn kr
noncomputable def n8:Expr:=cN (List.drop 1 (aO BB (so "_law_table")))
noncomputable def Bj(n:Nat)(σ:aA)(kn:KN)(kr:KR):R V:=stm BB (so "_law_table") n 24 (List.drop 2 (aO BB (so "_law_table"))) σ kn kr
theorem P7:rn (n+1) "_law_table" [.fz a1,.fz a2,.fz a3,.fz a4]=(rb (rgI (.ok (.fz (.int 4)))) fun l1=>aS (n7 n) n8 l1 (cA (ζ a1) (ζ a2) (ζ a3) (ζ a4) (some (.own (.dict []))) none none none none none) (fun σ=>Bj n σ (fun _=>R.ok (.fz .none)) R.ok) R.ok):=by kernel_rfl
theorem P8:aW n8 d0 (cA p0 p1 p2 p3 p4 p5 p6 p7 p8 p9)=.ok (cA p0 p1 p2 p3 p4 (ζ d0) p6 p7 p8 p9):=by kernel_rfl
noncomputable def kS(n:Nat)(σ:aA)(kn:KN)(kr:KR):R V:=b8 BB (so "_law_table") n 21 (bR (List.drop 1 (sJ (bR (List.drop 1 (aO BB (so "_law_table"))))))) σ kn kr
noncomputable def kU:Expr:=cN (List.drop 1 (sJ (bR (List.drop 1 (aO BB (so "_law_table"))))))
noncomputable def sS(n:Nat)(σ:aA)(kn:KN)(kr:KR):R V:=stm BB (so "_law_table") n 22 (List.drop 2 (sJ (bR (List.drop 1 (aO BB (so "_law_table")))))) σ kn kr
theorem P9:n7 n (cA (ζ x1) (ζ x2) (ζ x3) (ζ x4) (some (.own x5)) (ζ d0) o7 o8 o9 o10) kn kr=(ifS (aE (aB .Mod (aD (rn n "_law_mixed") [(.ok (.fz x1)),(aB .Add (.ok (.fz x2)) (ofP (aC .Mult (.int 10) d0)))]) (.ok (.fz (.int 3)))) .Gt (.ok (.fz (.int 0)))) (rb (enI (.ok (.fz x4))) fun l1=>aS (kS n) kU l1 (cA (ζ x1) (ζ x2) (ζ x3) (ζ x4) (some (.own x5)) (ζ d0) (some (.own (.dict []))) o8 o9 o10) (fun σ=>sS n σ (fun σ=>stm BB (so "_law_table") n 23 (List.drop 1 (bR (List.drop 1 (aO BB (so "_law_table"))))) σ kn kr) kr) kr) (kn (cA (ζ x1) (ζ x2) (ζ x3) (ζ x4) (some (.own x5)) (ζ d0) o7 o8 o9 o10))):=by kernel_rfl
theorem Qa:Bj n (cA (ζ x1) (ζ x2) (ζ x3) (ζ x4) (some (.own x5)) o6 o7 o8 o9 o10) kn kr=(kr (.own x5)):=by kernel_rfl
theorem Qb:aW kU (.tuple [d0,d1]) (cA p0 p1 p2 p3 p4 p5 p6 p7 p8 p9)=.ok (cA p0 p1 p2 p3 p4 p5 p6 (ζ d0) (ζ d1) p9):=by kernel_rfl
theorem Qc:kS n (cA (ζ x1) (ζ x2) (ζ x3) (ζ x4) (some (.own x5)) (ζ x6) (some (.own x7)) (ζ d0) (ζ d1) o10) kn kr=(rb (aD (rn n "_law_mixed") [(.ok (.fz x1)),(aB .Add (aB .Add (aB .Add (.ok (.fz x2)) (ofP (aC .Mult (.int 10) x6))) (.ok (.fz d0))) (.ok (.fz (.int 1))))]) fun v1=>(ifS (aE (aB .Mod (ofP (rdv (V.clear v1))) (.ok (.fz (.int 4)))) .Gt (.ok (.fz (.int 0)))) (bT (aD (rn n "_law_number") [(aB .FloorDiv (ofP (rdv (V.clear (V.clear v1)))) (.ok (.fz (.int 4))))]) (.ok x7) (.ok (.fz d1)) fun o2=>(kn (cA (ζ x1) (ζ x2) (ζ x3) (ζ x4) (some (.own x5)) (ζ x6) (some (.own o2)) (ζ d0) (ζ d1) (some (V.clear (V.clear v1)))))) (ifS (aE (aB .Mod (ofP (rdv (V.clear (V.clear v1)))) (.ok (.fz (.int 12)))) .Eq (.ok (.fz (.int 0)))) (bT (gG [((ofP (getItem x3 (.int 0))),(aB .Mod (aB .FloorDiv (ofP (rdv (V.clear (V.clear (V.clear v1))))) (.ok (.fz (.int 12)))) (.ok (.fz (.int 5)))))]) (.ok x7) (.ok (.fz d1)) fun o3=>(kn (cA (ζ x1) (ζ x2) (ζ x3) (ζ x4) (some (.own x5)) (ζ x6) (some (.own o3)) (ζ d0) (ζ d1) (some (V.clear (V.clear (V.clear v1))))))) (kn (cA (ζ x1) (ζ x2) (ζ x3) (ζ x4) (some (.own x5)) (ζ x6) (some (.own x7)) (ζ d0) (ζ d1) (some (V.clear (V.clear v1)))))))):=by kernel_rfl
theorem Qd:sS n (cA (ζ x1) (ζ x2) (ζ x3) (ζ x4) (some (.own x5)) (ζ x6) (some (.own x7)) o8 o9 o10) kn kr=(bT (.ok (.fz x7)) (.ok x5) (aI (.ok x3) (ofP (aC .Add (.int 9) x6))) fun o1=>(kn (cA (ζ x1) (ζ x2) (ζ x3) (ζ x4) (some (.own o1)) (ζ x6) (ζ x7) o8 o9 o10))):=by kernel_rfl
noncomputable def cY(o0 o1 o2 o3:Option V):aA:=[((so "_law_script"),o0),((so "_law_names_here"),o1),((so "_law_found"),o2),((so "_law_k"),o3)]
noncomputable def kW(n:Nat)(σ:aA)(kn:KN)(kr:KR):R V:=b8 BB (so "_law_house") n 23 (bR (List.drop 5 (aO BB (so "_law_house")))) σ kn kr
noncomputable def kX:Expr:=cN (List.drop 5 (aO BB (so "_law_house")))
noncomputable def Bk(n:Nat)(σ:aA)(kn:KN)(kr:KR):R V:=stm BB (so "_law_house") n 24 (List.drop 6 (aO BB (so "_law_house"))) σ kn kr
theorem Qe:rn (n+1) "_law_house" [.fz a1,.fz a2]=(rb (gG [((ofP (getItem a2 (.int 0))),(aD (rn n "_law_number") [(rn n "_law_mixed" [.fz a1,.fz (.int 1)])]))]) fun v1=>(bT (gG [((ofP (getItem a2 (.int 5))),(aD (rn n "_law_number") [(rn n "_law_mixed" [.fz a1,.fz (.int 2)])])),((ofP (getItem a2 (.int 6))),(gG [((ofP (getItem a2 (.int 0))),(.ok (.fz (.int 3))))]))]) (ofP (gU v1)) (ofP (getItem a2 (.int 1))) fun o2=>(bT (aD (rn n "_law_table") [(.ok (.fz a1)),(.ok (.fz (.int 20))),(.ok (.fz a2)),(b9 (.ok a2) (some (.ok (.fz (.int 5)))) (some (.ok (.fz (.int 7)))))]) (.ok o2) (ofP (getItem a2 (.int 2))) fun o3=>(bT (aD (rn n "_law_table") [(.ok (.fz a1)),(.ok (.fz (.int 70))),(.ok (.fz a2)),(b9 (.ok a2) (some (.ok (.fz (.int 7)))) (some (.ok (.fz (.int 9)))))]) (.ok o3) (ofP (getItem a2 (.int 3))) fun o4=>(bT (gG [((ofP (getItem a2 (.int 2))),(aD (rn n "_law_table") [(.ok (.fz a1)),(.ok (.fz (.int 120))),(.ok (.fz a2)),(b9 (.ok a2) (some (.ok (.fz (.int 5)))) (some (.ok (.fz (.int 9)))))])),((ofP (getItem a2 (.int 0))),(.ok (.fz (.int 1))))]) (.ok o4) (ofP (getItem a2 (.int 4))) fun o5=>(rb (rgI (.ok (.fz (.int 5)))) fun l6=>aS (kW n) kX l6 (cY (ζ a1) (ζ a2) (some (.own o5)) none) (fun σ=>Bk n σ (fun _=>R.ok (.fz .none)) R.ok) R.ok)))))):=by kernel_rfl
theorem Qf:aW kX d0 (cY p0 p1 p2 p3)=.ok (cY p0 p1 p2 (ζ d0)):=by kernel_rfl
theorem Qg:kW n (cY (ζ x1) (ζ x2) (some (.own x3)) (ζ d0)) kn kr=(ifS (aE (aB .Mod (aD (rn n "_law_mixed") [(.ok (.fz x1)),(ofP (aC .Add (.int 200) d0))]) (.ok (.fz (.int 9)))) .Eq (.ok (.fz (.int 0)))) (jC (.ok x3) (so "pop") [(ofP (getItem x2 d0))] fun o1=>(kn (cY (ζ x1) (ζ x2) (some (.own o1)) (ζ d0)))) (kn (cY (ζ x1) (ζ x2) (some (.own x3)) (ζ d0)))):=by kernel_rfl
theorem Qh:Bk n (cY (ζ x1) (ζ x2) (some (.own x3)) o4) kn kr=(rb (aI (dH (eD [(.ok (.fz x3)),(cV (so "get") (.ok (.fz x3)) [(ofP (getItem x2 (.int 2))),(.ok (.own (.dict [])))]),(cV (so "get") (.ok (.fz x3)) [(ofP (getItem x2 (.int 4))),(.ok (.fz (.int 5)))])])) (aB .Mod (aB .Mod (rn n "_law_cell_at" [.fz x1,.fz (.int 1)]) (.ok (.fz (.int 5)))) (.ok (.fz (.int 3))))) kr):=by kernel_rfl
theorem Bm:rn (n+1) "_law_copy" [.fz a1]=(cpE (bJ (n+1) a1) a1 (ifS (.ok (.fz (.bool (bE a1)))) (rb (aH b6 (aV (ofP (items a1)) (fun d1=>(.ok true)) (fun d1=>(aN [(.ok (.fz d1)),(aD (rn n "_law_copy") [(ofP (getItem a1 d1))])])))) R.ok) (R.ok (.fz a1)))):=by kernel_rfl
theorem sU:rn (n+1) "_law_same" [.fz a1,.fz a2]=(ifS (.ok (.fz (.bool (bE a2)))) (ifS (orS (unS .Not (.ok (.fz (.bool (bE a1))))) (aE (aH dC (ofP (cF a1))) .NotEq (aH dC (ofP (cF a2))))) (R.ok (.fz (.bool false))) (rb (aH cE (aV (ofP (items a2)) (fun d1=>(.ok true)) (fun d1=>(aD (rn n "_law_same") [(ofP (getItem a1 d1)),(ofP (getItem a2 d1))])))) R.ok)) (rb (aT (.ok (.fz (.bool (fC a1)))) (aT (unS .Not (.ok (.fz (.bool (fQ a1))))) (aZ (ofP (cmp .Eq a1 a2))))) R.ok)):=by kernel_rfl
theorem Bn:rn (n+1) "_law_is_table" [.fz a1]=(ifS (unS .Not (.ok (.fz (.bool (bE a1))))) (R.ok (.fz (.bool false))) (rb (aE (aV (ofP (items a1)) (fun d1=>(tst (unS .Not (dX (so "dict") (ofP (getItem a1 d1)))))) (fun d1=>(.ok (.fz d1)))) .Eq (.ok (.own (.list [])))) R.ok)):=by kernel_rfl
theorem Qi:rn (n+1) "_law_high" [.fz a1,.fz a2,.fz a3]=(rb (aT (dX (so "int") (cV (so "get") (.ok (.fz a1)) [(.ok (.fz a2))])) (aE (ofP (getItem a1 a2)) .GtE (.ok (.fz a3)))) R.ok):=by kernel_rfl
noncomputable def cB(o0 o1 o2 o3 o4 o5:Option V):aA:=[((so "_law_view"),o0),((so "_law_tree"),o1),((so "_law_one"),o2),((so "_law_other"),o3),((so "_law_key"),o4),((so "_law_found"),o5)]
noncomputable def n9(n:Nat)(σ:aA)(kn:KN)(kr:KR):R V:=b8 BB (so "_law_joins") n 23 (bR (List.drop 3 (aO BB (so "_law_joins")))) σ kn kr
noncomputable def oA:Expr:=cN (List.drop 3 (aO BB (so "_law_joins")))
noncomputable def sV(n:Nat)(σ:aA)(kn:KN)(kr:KR):R V:=stm BB (so "_law_joins") n 24 (List.drop 4 (aO BB (so "_law_joins"))) σ kn kr
theorem Qj:rn (n+1) "_law_joins" [.fz a1,.fz a2]=(rb (cV (so "get") (.ok (.fz a2)) [(ofP (getItem a1 (.int 1)))]) fun v1=>(rb (cV (so "get") (.ok (.fz a2)) [(ofP (getItem a1 (.int 2)))]) fun v2=>(ifS (orS (unS .Not (aD (rn n "_law_is_table") [(bB (V.clear v1))])) (unS .Not (aD (rn n "_law_is_table") [(bB (V.clear v2))]))) (R.ok (.fz .none)) (rb (plI (ofP (rdv (V.clear (V.clear v1))))) fun l3=>aS (n9 n) oA l3 (cB (ζ a1) (ζ a2) (some (V.clear (V.clear v1))) (some (V.clear v2)) none none) (fun σ=>sV n σ (fun _=>R.ok (.fz .none)) R.ok) R.ok)))):=by kernel_rfl
theorem Qk:aW oA d0 (cB p0 p1 p2 p3 p4 p5)=.ok (cB p0 p1 p2 p3 (ζ d0) p5):=by kernel_rfl
theorem Ql:n9 n (cB (ζ x1) (ζ x2) (some w3) (some w4) (ζ d0) none) kn kr=(ifS (aE (aV (plI (aI (bS w3) (.ok (.fz d0)))) (fun d1=>(tst (aE (.ok (.fz d1)) .NotIn (ofP (getItem x1 (.int 3)))))) (fun d1=>(.ok (.fz d1)))) .NotEq (.ok (.own (.list [])))) (kr (.fz .none)) (kn (cB (ζ x1) (ζ x2) (some w3) (some w4) (ζ d0) none))):=by kernel_rfl
noncomputable def oB(n:Nat)(σ:aA)(kn:KN)(kr:KR):R V:=b8 BB (so "_law_joins") n 23 (bR (List.drop 4 (aO BB (so "_law_joins")))) σ kn kr
noncomputable def oC:Expr:=cN (List.drop 4 (aO BB (so "_law_joins")))
noncomputable def sW(n:Nat)(σ:aA)(kn:KN)(kr:KR):R V:=stm BB (so "_law_joins") n 24 (List.drop 5 (aO BB (so "_law_joins"))) σ kn kr
theorem Qm:sV n (cB (ζ x1) (ζ x2) (some w3) (some w4) o5 none) kn kr=(rb (plI (ofP (rdv (V.clear w4)))) fun l1=>aS (oB n) oC l1 (cB (ζ x1) (ζ x2) (some w3) (some (V.clear w4)) o5 none) (fun σ=>sW n σ kn kr) kr):=by kernel_rfl
theorem Qn:aW oC d0 (cB p0 p1 p2 p3 p4 p5)=.ok (cB p0 p1 p2 p3 (ζ d0) p5):=by kernel_rfl
theorem Qo:oB n (cB (ζ x1) (ζ x2) (some w3) (some w4) (ζ d0) none) kn kr=(ifS (aE (aV (plI (aI (bS w4) (.ok (.fz d0)))) (fun d1=>(tst (aE (.ok (.fz d1)) .In (ofP (getItem x1 (.int 3)))))) (fun d1=>(.ok (.fz d1)))) .NotEq (.ok (.own (.list [])))) (kr (.fz .none)) (kn (cB (ζ x1) (ζ x2) (some w3) (some w4) (ζ d0) none))):=by kernel_rfl
noncomputable def kY(n:Nat)(σ:aA)(kn:KN)(kr:KR):R V:=b8 BB (so "_law_joins") n 23 (bR (List.drop 6 (aO BB (so "_law_joins")))) σ kn kr
noncomputable def kZ:Expr:=cN (List.drop 6 (aO BB (so "_law_joins")))
noncomputable def sX(n:Nat)(σ:aA)(kn:KN)(kr:KR):R V:=stm BB (so "_law_joins") n 24 (List.drop 7 (aO BB (so "_law_joins"))) σ kn kr
theorem Qp:sW n (cB (ζ x1) (ζ x2) (some w3) (some w4) o5 none) kn kr=(rb (plI (ofP (rdv (V.clear w3)))) fun l1=>aS (kY n) kZ l1 (cB (ζ x1) (ζ x2) (some (V.clear w3)) (some w4) o5 (some (.own (.dict [])))) (fun σ=>sX n σ kn kr) kr):=by kernel_rfl
theorem Qq:aW kZ d0 (cB p0 p1 p2 p3 p4 p5)=.ok (cB p0 p1 p2 p3 (ζ d0) p5):=by kernel_rfl
theorem Qr:kY n (cB (ζ x1) (ζ x2) (some w3) (some w4) (ζ d0) (some (.own x6))) kn kr=(ifS (aE (.ok (.fz d0)) .In (ofP (rdv (V.clear w4)))) (bT (aH b6 (aB .Add (aH eT (aI (bS w3) (.ok (.fz d0)))) (aH eT (aI (bS (V.clear w4)) (.ok (.fz d0)))))) (.ok x6) (.ok (.fz d0)) fun o1=>(kn (cB (ζ x1) (ζ x2) (some w3) (some (V.clear w4)) (ζ d0) (some (.own o1))))) (kn (cB (ζ x1) (ζ x2) (some w3) (some (V.clear w4)) (ζ d0) (some (.own x6))))):=by kernel_rfl
theorem Qs:sX n (cB (ζ x1) (ζ x2) (some w3) (some w4) o5 (some (.own x6))) kn kr=(rb (rn n "_law_copy" [.fz x6]) kr):=by kernel_rfl
theorem Qt:rn (n+1) "_law_several" [.fz a1]=(ifS (aE (aV (ofP (items a1)) (fun d1=>(tst (aE (ofP (getItem d1 (.int 1))) .Is (.ok (.fz .none))))) (fun d1=>(.ok (.fz d1)))) .NotEq (.ok (.own (.list [])))) (R.ok (.fz .none)) (rb (ofP (b6 a1)) R.ok)):=by kernel_rfl
theorem Qu:rn (n+1) "_law_least" [.fz a1,.fz a2,.fz a3]=(rb (aV (plI (aH dC (ofP (cF a2)))) (fun d1=>(tst (dX (so "dict") (ofP (getItem a2 d1))))) (fun d1=>(ofP (getItem a2 d1)))) fun v2=>(rb (aV (plI (ofP (rdv (V.clear v2)))) (fun d3=>(tst (dX (so "int") (cV (so "get") (.ok (.fz d3)) [(.ok (.fz a3))])))) (fun d3=>(ofP (getItem d3 a3)))) fun v4=>(ifS (orS (aE (ofP (rdv (V.clear v4))) .Eq (.ok (.own (.list [])))) (aE (ofP (aC .Mod a1 (.int 3))) .Eq (.ok (.fz (.int 0))))) (rb (aB .Sub (aB .Mod (ofP (aC .FloorDiv a1 (.int 3))) (.ok (.fz (.int 7)))) (.ok (.fz (.int 3)))) R.ok) (rb (aB .Sub (aB .Add (aI (bS (V.clear (V.clear v4))) (aB .Mod (ofP (aC .FloorDiv a1 (.int 3))) (aH a8 (ofP (rdv (V.clear (V.clear v4))))))) (aB .Mod (ofP (aC .FloorDiv a1 (.int 12))) (.ok (.fz (.int 3))))) (.ok (.fz (.int 1)))) R.ok)))):=by kernel_rfl
theorem Bo:rn (n+1) "_law_simple" [.fz a1,.fz a2,.fz a3]=(ifS (orS (unS .Not (.ok (.fz (.bool (bE a2))))) (aE (ofP (aC .Mod a1 (.int 4))) .Eq (.ok (.fz (.int 0))))) (R.ok (.fz (.tuple [(.str (so "whole"))]))) (rb (aH dC (ofP (cF a2))) fun v1=>(ifS (aT (aE (ofP (rdv (V.clear v1))) .NotEq (.ok (.own (.list [])))) (aE (ofP (aC .Mod a1 (.int 4))) .Lt (.ok (.fz (.int 3))))) (ifS (aE (ofP (aC .Mod a1 (.int 4))) .Eq (.ok (.fz (.int 1)))) (rb (aN [(.ok (.fz (.str (so "pick")))),(aI (bS (V.clear (V.clear v1))) (aB .Mod (ofP (aC .FloorDiv a1 (.int 4))) (aH a8 (ofP (rdv (V.clear (V.clear v1)))))))]) R.ok) (rb (aI (.ok a3) (aB .Mod (ofP (aC .FloorDiv a1 (.int 16))) (.ok (.fz (.int 14))))) fun v2=>(ifS (aE (ofP (rdv (V.clear v2))) .NotIn (.ok (.fz a2))) (rb (aN [(.ok (.fz (.str (so "call")))),(aI (bS (V.clear (V.clear v1))) (aB .Mod (ofP (aC .FloorDiv a1 (.int 4))) (aH a8 (ofP (rdv (V.clear (V.clear v1))))))),(ofP (rdv (V.clear (V.clear v2))))]) R.ok) (ifS (rn n "_law_is_table" [.fz a2]) (rb (aI (.ok a3) (aB .Add (.ok (.fz (.int 5))) (aB .Mod (ofP (aC .FloorDiv a1 (.int 4))) (.ok (.fz (.int 4)))))) fun v3=>(rb (aN [(.ok (.fz (.str (so "sift")))),(ofP (rdv (V.clear v3))),(aD (rn n "_law_least") [(ofP (aC .FloorDiv a1 (.int 16))),(.ok (.fz a2)),(bB (V.clear v3))])]) R.ok)) (R.ok (.fz (.tuple [(.str (so "whole"))]))))))) (ifS (rn n "_law_is_table" [.fz a2]) (rb (aI (.ok a3) (aB .Add (.ok (.fz (.int 5))) (aB .Mod (ofP (aC .FloorDiv a1 (.int 4))) (.ok (.fz (.int 4)))))) fun v4=>(rb (aN [(.ok (.fz (.str (so "sift")))),(ofP (rdv (V.clear v4))),(aD (rn n "_law_least") [(ofP (aC .FloorDiv a1 (.int 16))),(.ok (.fz a2)),(bB (V.clear v4))])]) R.ok)) (R.ok (.fz (.tuple [(.str (so "whole"))]))))))):=by kernel_rfl
theorem Qv:rn (n+1) "_law_small" [.fz a1,.fz a2,.fz a3]=(rb (aD (rn n "_law_simple") [(ofP (aC .FloorDiv a1 (.int 6))),(.ok (.fz a2)),(.ok (.fz a3))]) fun v1=>(ifS (orS (aE (ofP (aC .Mod a1 (.int 6))) .Lt (.ok (.fz (.int 2)))) (unS .Not (.ok (.fz (.bool (bE a2)))))) (eV v1 R.ok) (rb (aH dC (ofP (cF a2))) fun v2=>(rb (aN [(.ok (.fz (.str (so "then")))),(ofP (rdv (V.clear v1))),(aD (rn n "_law_simple") [(ofP (aC .FloorDiv a1 (.int 7))),(aD (rn n "_law_seen") [(bB (V.clear v1)),(.ok (.fz a2))]),(.ok (.fz a3))])]) fun v3=>(ifS (aT (aE (ofP (aC .Mod a1 (.int 6))) .Gt (.ok (.fz (.int 2)))) (aE (ofP (rdv (V.clear v2))) .NotEq (.ok (.own (.list []))))) (rb (aI (bS (V.clear (V.clear v2))) (aB .Mod (ofP (aC .FloorDiv a1 (.int 6))) (aH a8 (ofP (rdv (V.clear (V.clear v2))))))) fun v4=>(rb (aD (rn n "_law_simple") [(ofP (aC .FloorDiv a1 (.int 11))),(aI (.ok a2) (ofP (rdv (V.clear v4)))),(.ok (.fz a3))]) fun v5=>(rb (aI (dH (eD [(aN [(.ok (.fz (.str (so "each")))),(ofP (rdv (V.clear v5)))]),(aN [(.ok (.fz (.str (so "beside")))),(aN [(aN [(aI (.ok a3) (aB .Mod (ofP (aC .FloorDiv a1 (.int 36))) (.ok (.fz (.int 14))))),(ofP (rdv (V.clear (V.clear v4)))),(ofP (rdv (V.clear v5)))])])])])) (ofP (aC .Mod a1 (.int 2)))) fun v6=>(ifS (aT (aE (ofP (aC .Mod a1 (.int 6))) .Eq (.ok (.fz (.int 5)))) (aE (aB .Mod (ofP (aC .FloorDiv a1 (.int 6))) (.ok (.fz (.int 3)))) .Eq (.ok (.fz (.int 0))))) (rb (aN [(.ok (.fz (.str (so "join")))),(ofP (getItem a3 (.int 2))),(ofP (getItem a3 (.int 3))),(aH eQ (b9 (.ok a3) (some (.ok (.fz (.int 5)))) (some (.ok (.fz (.int 7))))))]) fun v7=>(rb (dN (aE (aD (rn n "_law_seen") [(bB (V.clear v7)),(.ok (.fz a2))]) .Is (.ok (.fz .none))) (ofP (rdv (V.clear (V.clear v1)))) (ofP (rdv (V.clear v7)))) R.ok)) (rb (dN (aE (aD (rn n "_law_seen") [(bB (V.clear v6)),(.ok (.fz a2))]) .Is (.ok (.fz .none))) (ofP (rdv (V.clear (V.clear v1)))) (ofP (rdv (V.clear v6)))) R.ok))))) (ifS (aT (aE (ofP (aC .Mod a1 (.int 6))) .Eq (.ok (.fz (.int 5)))) (aE (aB .Mod (ofP (aC .FloorDiv a1 (.int 6))) (.ok (.fz (.int 3)))) .Eq (.ok (.fz (.int 0))))) (rb (aN [(.ok (.fz (.str (so "join")))),(ofP (getItem a3 (.int 2))),(ofP (getItem a3 (.int 3))),(aH eQ (b9 (.ok a3) (some (.ok (.fz (.int 5)))) (some (.ok (.fz (.int 7))))))]) fun v8=>(rb (dN (aE (aD (rn n "_law_seen") [(bB (V.clear v8)),(.ok (.fz a2))]) .Is (.ok (.fz .none))) (ofP (rdv (V.clear (V.clear v1)))) (ofP (rdv (V.clear v8)))) R.ok)) (rb (dN (aE (aD (rn n "_law_seen") [(bB (V.clear v3)),(.ok (.fz a2))]) .Is (.ok (.fz .none))) (ofP (rdv (V.clear (V.clear v1)))) (ofP (rdv (V.clear v3)))) R.ok))))))):=by kernel_rfl
noncomputable def iA(o0 o1 o2 o3 o4 o5 o6:Option V):aA:=[((so "_law_more"),o0),((so "_law_tree"),o1),((so "_law_some"),o2),((so "_law_names_here"),o3),((so "_law_rows"),o4),((so "_law_j"),o5),((so "_law_part"),o6)]
noncomputable def sY(n:Nat)(σ:aA)(kn:KN)(kr:KR):R V:=b8 BB (so "_law_wide") n 23 (bR (List.drop 1 (aO BB (so "_law_wide")))) σ kn kr
noncomputable def sZ:Expr:=cN (List.drop 1 (aO BB (so "_law_wide")))
noncomputable def Bp(n:Nat)(σ:aA)(kn:KN)(kr:KR):R V:=stm BB (so "_law_wide") n 24 (List.drop 2 (aO BB (so "_law_wide"))) σ kn kr
theorem Qw:rn (n+1) "_law_wide" [.fz a1,.fz a2,.fz a3,.fz a4]=(rb (rgI (kQ [(ofP (a8 a3)),(aB .Add (.ok (.fz (.int 1))) (aB .Mod (ofP (aC .FloorDiv a1 (.int 16))) (.ok (.fz (.int 6)))))])) fun l1=>aS (sY n) sZ l1 (iA (ζ a1) (ζ a2) (ζ a3) (ζ a4) (some (.own (.list []))) none none) (fun σ=>Bp n σ (fun _=>R.ok (.fz .none)) R.ok) R.ok):=by kernel_rfl
theorem Qx:aW sZ d0 (iA p0 p1 p2 p3 p4 p5 p6)=.ok (iA p0 p1 p2 p3 p4 (ζ d0) p6):=by kernel_rfl
theorem Qy:sY n (iA (ζ x1) (ζ x2) (ζ x3) (ζ x4) (some (.own x5)) (ζ d0) o7) kn kr=(rb (aI (.ok x3) (aB .Mod (ofP (aC .Add x1 d0)) (ofP (a8 x3)))) fun v1=>(jC (.ok x5) (so "append") [(aN [(aI (.ok x4) (aB .Mod (aB .Add (ofP (aC .FloorDiv x1 (.int 64))) (.ok (.fz d0))) (.ok (.fz (.int 14))))),(ofP (rdv (V.clear v1))),(aD (rn n "_law_small") [(aB .Add (ofP (aC .FloorDiv x1 (.int 7))) (ofP (aC .Mult (.int 5) d0))),(aI (.ok x2) (ofP (rdv (V.clear v1)))),(.ok (.fz x4))])])] fun o2=>(kn (iA (ζ x1) (ζ x2) (ζ x3) (ζ x4) (some (.own o2)) (ζ d0) (some (V.clear v1)))))):=by kernel_rfl
theorem Qz:Bp n (iA (ζ x1) (ζ x2) (ζ x3) (ζ x4) (some (.own x5)) o6 o7) kn kr=(rb (aN [(.ok (.fz (.str (so "beside")))),(ofP (eQ x5))]) kr):=by kernel_rfl
theorem Q0:rn (n+1) "_law_piece" [.fz a1,.fz a2,.fz a3]=(rb (ofP (aC .Mod a1 (.int 10))) fun v1=>(rb (ofP (aC .FloorDiv a1 (.int 10))) fun v2=>(ifS (orS (unS .Not (.ok (.fz (.bool (bE a2))))) (aE (ofP (rdv (V.clear v1))) .Eq (.ok (.fz (.int 0))))) (R.ok (.fz (.tuple [(.str (so "whole"))]))) (rb (aH dC (ofP (cF a2))) fun v3=>(rb (aI (.ok a3) (aB .Add (.ok (.fz (.int 5))) (aB .Mod (ofP (rdv (V.clear v2))) (.ok (.fz (.int 4)))))) fun v4=>(rb (aN [(.ok (.fz (.str (so "sift")))),(ofP (rdv (V.clear v4))),(aD (rn n "_law_least") [(aB .FloorDiv (ofP (rdv (V.clear (V.clear v2)))) (.ok (.fz (.int 4)))),(.ok (.fz a2)),(bB (V.clear v4))])]) fun v5=>(ifS (aT (aE (ofP (rdv (V.clear (V.clear v1)))) .Lt (.ok (.fz (.int 3)))) (aE (ofP (rdv (V.clear v3))) .NotEq (.ok (.own (.list []))))) (rb (aN [(.ok (.fz (.str (so "pick")))),(aI (bS (V.clear (V.clear v3))) (aB .Mod (ofP (rdv (V.clear (V.clear (V.clear v2))))) (aH a8 (ofP (rdv (V.clear (V.clear v3)))))))]) fun v6=>(eV v6 R.ok)) (ifS (aT (aE (ofP (rdv (V.clear (V.clear (V.clear v1))))) .Eq (.ok (.fz (.int 3)))) (aT (aE (ofP (rdv (V.clear (V.clear v3)))) .NotEq (.ok (.own (.list [])))) (aE (aI (.ok a3) (aB .Mod (aB .FloorDiv (ofP (rdv (V.clear (V.clear (V.clear v2))))) (.ok (.fz (.int 16)))) (.ok (.fz (.int 14))))) .NotIn (ofP (rdv (V.clear (V.clear v3))))))) (rb (aN [(.ok (.fz (.str (so "call")))),(aI (bS (V.clear (V.clear (V.clear v3)))) (aB .Mod (ofP (rdv (V.clear (V.clear (V.clear (V.clear v2)))))) (aH a8 (ofP (rdv (V.clear (V.clear (V.clear v3)))))))),(aI (.ok a3) (aB .Mod (aB .FloorDiv (ofP (rdv (V.clear (V.clear (V.clear (V.clear v2)))))) (.ok (.fz (.int 16)))) (.ok (.fz (.int 14)))))]) fun v7=>(eV v7 R.ok)) (ifS (aT (aE (ofP (rdv (V.clear (V.clear (V.clear (V.clear v1)))))) .Eq (.ok (.fz (.int 4)))) (aE (ofP (rdv (V.clear (V.clear (V.clear v3))))) .NotEq (.ok (.own (.list []))))) (rb (aD (rn n "_law_wide") [(bB (V.clear (V.clear (V.clear (V.clear v2))))),(.ok (.fz a2)),(bB (V.clear (V.clear (V.clear (V.clear v3))))),(.ok (.fz a3))]) fun v8=>(eV v8 R.ok)) (ifS (orS (aE (ofP (rdv (V.clear (V.clear (V.clear (V.clear (V.clear v1))))))) .Eq (.ok (.fz (.int 7)))) (aE (ofP (rdv (V.clear (V.clear (V.clear (V.clear (V.clear v1))))))) .Eq (.ok (.fz (.int 8))))) (rb (aB .Add (.ok (.fz (.int 5))) (aB .Mult (.ok (.fz (.int 2))) (aB .Mod (ofP (rdv (V.clear (V.clear (V.clear (V.clear v2)))))) (.ok (.fz (.int 2)))))) fun v9=>(rb (b9 (.ok a3) (some (ofP (rdv (V.clear v9)))) (some (aB .Add (ofP (rdv (V.clear v9))) (.ok (.fz (.int 2)))))) fun v10=>(ifS (aE (aB .Mod (aB .FloorDiv (ofP (rdv (V.clear (V.clear (V.clear (V.clear (V.clear v2))))))) (.ok (.fz (.int 2)))) (.ok (.fz (.int 4)))) .Eq (.ok (.fz (.int 1)))) (rb (aB .Add (.ok (.fz (.int 4))) (aB .Mod (aB .FloorDiv (ofP (rdv (V.clear (V.clear (V.clear (V.clear (V.clear (V.clear v2)))))))) (.ok (.fz (.int 8)))) (.ok (.fz (.int 4))))) fun v11=>(rb (b9 (.ok a3) (some (ofP (rdv (V.clear v11)))) (some (aB .Add (aB .Add (ofP (rdv (V.clear v11))) (.ok (.fz (.int 1)))) (aB .Mod (aB .FloorDiv (ofP (rdv (V.clear (V.clear (V.clear (V.clear (V.clear (V.clear (V.clear v2))))))))) (.ok (.fz (.int 32)))) (.ok (.fz (.int 6))))))) fun v12=>(rb (aN [(.ok (.fz (.str (so "join")))),(aI (.ok a3) (aB .Add (.ok (.fz (.int 2))) (aB .Mod (ofP (rdv (V.clear (V.clear (V.clear (V.clear (V.clear (V.clear (V.clear (V.clear v2)))))))))) (.ok (.fz (.int 2)))))),(aI (.ok a3) (aB .Sub (.ok (.fz (.int 3))) (aB .Mod (ofP (rdv (V.clear (V.clear (V.clear (V.clear (V.clear (V.clear (V.clear (V.clear v2)))))))))) (.ok (.fz (.int 2)))))),(aH eQ (ofP (rdv (V.clear v12))))]) fun v13=>(eV v13 R.ok)))) (rb (aN [(.ok (.fz (.str (so "join")))),(aI (.ok a3) (aB .Add (.ok (.fz (.int 2))) (aB .Mod (ofP (rdv (V.clear (V.clear (V.clear (V.clear (V.clear (V.clear v2)))))))) (.ok (.fz (.int 2)))))),(aI (.ok a3) (aB .Sub (.ok (.fz (.int 3))) (aB .Mod (ofP (rdv (V.clear (V.clear (V.clear (V.clear (V.clear (V.clear v2)))))))) (.ok (.fz (.int 2)))))),(aH eQ (ofP (rdv (V.clear v10))))]) fun v14=>(eV v14 R.ok))))) (ifS (aE (ofP (rdv (V.clear (V.clear (V.clear (V.clear (V.clear (V.clear v1)))))))) .Eq (.ok (.fz (.int 9)))) (rb (aN [(.ok (.fz (.str (so "each")))),(aD (rn n "_law_small") [(aB .FloorDiv (ofP (rdv (V.clear (V.clear (V.clear (V.clear v2)))))) (.ok (.fz (.int 5)))),(dN (aE (ofP (rdv (V.clear (V.clear (V.clear (V.clear v3)))))) .NotEq (.ok (.own (.list [])))) (aI (.ok a2) (aI (bS (V.clear (V.clear (V.clear (V.clear v3))))) (aB .Mod (ofP (rdv (V.clear (V.clear (V.clear (V.clear v2)))))) (aH a8 (ofP (rdv (V.clear (V.clear (V.clear (V.clear v3)))))))))) (.ok (.fz (.int 0)))),(.ok (.fz a3))])]) fun v15=>(eV v15 R.ok)) (eV v5 R.ok)))))))))))):=by kernel_rfl
theorem Q1:rn (n+1) "_law_fitting" [.fz a1,.fz a2,.fz a3]=(rb (rn n "_law_piece" [.fz a1,.fz a2,.fz a3]) fun v1=>(rb (dN (aE (aD (rn n "_law_seen") [(bB (V.clear v1)),(.ok (.fz a2))]) .Is (.ok (.fz .none))) (.ok (.fz (.tuple [(.str (so "whole"))]))) (ofP (rdv (V.clear v1)))) R.ok)):=by kernel_rfl
theorem Q2:rn (n+1) "_law_told" [.fz a1,.fz a2]=(A4 BB (so "ViewError") (rn n "show" [.fz a1,.fz a2]) (fun y1=>(run BB n true (so "_law_word") [.ex y1])) R.ok):=by kernel_rfl
theorem Q3:rn (n+1) "_law_unfit" [.fz a1,.fz a2,.fz a3]=(rb (aI (.ok a3) (aB .Mod (ofP (aC .FloorDiv a1 (.int 4))) (.ok (.fz (.int 14))))) fun v1=>(rb (aI (.ok a3) (aB .Mod (aB .Add (aB .Add (ofP (aC .FloorDiv a1 (.int 4))) (.ok (.fz (.int 1)))) (aB .Mod (ofP (aC .FloorDiv a1 (.int 56))) (.ok (.fz (.int 13))))) (.ok (.fz (.int 14))))) fun v2=>(ifS (aT (.ok (.fz (.bool (bE a2)))) (aT (aE (ofP (a8 a2)) .Gt (.ok (.fz (.int 1)))) (aE (ofP (aC .Mod a1 (.int 4))) .Eq (.ok (.fz (.int 0)))))) (rb (aH dC (ofP (cF a2))) fun v3=>(rb (aN [(.ok (.fz (.str (so "call")))),(aI (bS (V.clear v3)) (aB .Mod (ofP (aC .FloorDiv a1 (.int 4))) (aH a8 (ofP (rdv (V.clear v3)))))),(aI (bS (V.clear v3)) (aB .Mod (aB .Add (ofP (aC .FloorDiv a1 (.int 4))) (.ok (.fz (.int 1)))) (aH a8 (ofP (rdv (V.clear v3))))))]) R.ok)) (ifS (aE (ofP (aC .Mod a1 (.int 4))) .Eq (.ok (.fz (.int 1)))) (rb (aN [(.ok (.fz (.str (so "pick")))),(ofP (rdv (V.clear v1)))]) R.ok) (ifS (aE (ofP (aC .Mod a1 (.int 4))) .Eq (.ok (.fz (.int 2)))) (rb (aN [(.ok (.fz (.str (so "call")))),(ofP (rdv (V.clear v1))),(ofP (rdv (V.clear v2)))]) R.ok) (rb (aN [(.ok (.fz (.str (so "beside")))),(aN [(aN [(ofP (rdv (V.clear v1))),(ofP (rdv (V.clear v1))),(.ok (.fz (.tuple [(.str (so "whole"))])))]),(aN [(ofP (rdv (V.clear v2))),(ofP (rdv (V.clear v2))),(.ok (.fz (.tuple [(.str (so "whole"))])))])])]) R.ok)))))):=by kernel_rfl
noncomputable def gI(o0 o1:Option V):aA:=[((so "_law_tree"),o0),((so "_law_name_here"),o1)]
noncomputable def Bq(n:Nat)(σ:aA)(kn:KN)(kr:KR):R V:=b8 BB (so "_law_emptied") n 23 (bR (aO BB (so "_law_emptied"))) σ kn kr
noncomputable def Bs:Expr:=cN (aO BB (so "_law_emptied"))
noncomputable def Bt(n:Nat)(σ:aA)(kn:KN)(kr:KR):R V:=stm BB (so "_law_emptied") n 24 (List.drop 1 (aO BB (so "_law_emptied"))) σ kn kr
theorem V5:rn (n+1) "_law_emptied" [.fz a1]=(rb (plI (ofP (cF a1))) fun l1=>aS (Bq n) Bs l1 (gI (ζ a1) none) (fun σ=>Bt n σ (fun _=>R.ok (.fz .none)) R.ok) R.ok):=by kernel_rfl
theorem V6:aW Bs d0 (gI p0 p1)=.ok (gI p0 (ζ d0)):=by kernel_rfl
theorem V7:Bq n (gI (ζ x1) (ζ d0)) kn kr=(ifS (dX (so "dict") (ofP (getItem x1 d0))) (rb (aD (rn n "_law_emptied") [(ofP (getItem x1 d0))]) fun _=>(kn (gI (ζ x1) (ζ d0)))) (kn (gI (ζ x1) (ζ d0)))):=by kernel_rfl
theorem V8:Bt n (gI (ζ x1) o2) kn kr=(jC R.no (so "clear") [] fun o1=>(kn (gI (some (.own o1)) o2))):=by kernel_rfl
noncomputable def cO(o0 o1 o2 o3 o4 o5 o6 o7 o8 o9 o10:Option V):aA:=[((so "_law_script"),o0),((so "_law_names_here"),o1),((so "_law_tree"),o2),((so "_law_held"),o3),((so "_law_turn"),o4),((so "_law_cell"),o5),((so "_law_part"),o6),((so "_law_view"),o7),((so "_law_due"),o8),((so "_law_handed"),o9),((so "_law_found"),o10)]
noncomputable def jE(n:Nat)(σ:aA)(kn:KN)(kr:KR):R V:=b8 BB (so "law") n 23 (bR (List.drop 3 (aO BB (so "law")))) σ kn kr
noncomputable def jF:Expr:=cN (List.drop 3 (aO BB (so "law")))
noncomputable def s6(n:Nat)(σ:aA)(kn:KN)(kr:KR):R V:=stm BB (so "law") n 24 (List.drop 4 (aO BB (so "law"))) σ kn kr
theorem Q4:rn (n+1) "law" [.fz a1]=(rb (rn n "_law_names" [.fz a1]) fun v1=>(rb (aD (rn n "_law_house") [(.ok (.fz a1)),(bB (V.clear v1))]) fun v2=>(rb (enI (b9 (.ok a1) (some (.ok (.fz (.int 2)))) (some (.ok (.fz (.int 26)))))) fun l3=>aS (jE n) jF l3 (cO (ζ a1) (some (V.clear v1)) (some v2) (some (.own (.list []))) none none none none none none none) (fun σ=>s6 n σ (fun _=>R.ok (.fz .none)) R.ok) R.ok))):=by kernel_rfl
theorem Q5:aW jF (.tuple [d0,d1]) (cO p0 p1 p2 p3 p4 p5 p6 p7 p8 p9 p10)=.ok (cO p0 p1 p2 p3 (ζ d0) (ζ d1) p6 p7 p8 p9 p10):=by kernel_rfl
noncomputable def jG(n:Nat)(σ:aA)(kn:KN)(kr:KR):R V:=b8 BB (so "law") n 23 (List.drop 2 (bR (List.drop 3 (aO BB (so "law"))))) σ kn kr
theorem Q6:jE n (cO (ζ x1) (some w2) (some w3) (some (.own x4)) (ζ d0) (ζ d1) o7 o8 o9 o10 o11) kn kr=(rb (aI (dH (eD [(ofP (rdv (V.clear w3))),(aD (rn n "_law_table") [(.ok (.fz x1)),(ofP (aC .Add (.int 20) d0)),(bB (V.clear w2)),(b9 (bS (V.clear w2)) (some (.ok (.fz (.int 5)))) (some (.ok (.fz (.int 9)))))]),(.ok (.fz d0))])) (aB .Mod (aB .Mod (ofP (aC .FloorDiv d1 (.int 10))) (.ok (.fz (.int 5)))) (.ok (.fz (.int 3))))) fun v1=>(ifS (aT (Ox BB n (so "dict") (V.clear (V.clear w3))) (aT (aE (ofP (aC .Mod d1 (.int 7))) .Eq (.ok (.fz (.int 3)))) (aE (aH a8 (ofP (rdv (V.clear (V.clear w3))))) .Gt (.ok (.fz (.int 0)))))) (rb (aI (bS (V.clear (V.clear (V.clear w3)))) (aI (dH (aH dC (aH cF (ofP (rdv (V.clear (V.clear (V.clear w3)))))))) (aB .Mod (ofP (aC .FloorDiv d1 (.int 70))) (aH a8 (ofP (rdv (V.clear (V.clear (V.clear w3))))))))) fun v2=>(jG n (cO (ζ x1) (some (V.clear w2)) (some (V.clear (V.clear (V.clear w3)))) (some (.own x4)) (ζ d0) (ζ d1) (some v2) o8 o9 o10 o11) kn kr)) (jG n (cO (ζ x1) (some (V.clear w2)) (some (V.clear (V.clear w3))) (some (.own x4)) (ζ d0) (ζ d1) (some v1) o8 o9 o10 o11) kn kr))):=by kernel_rfl
theorem Q7:s6 n (cO (ζ x1) (some w2) (some w3) (some (.own x4)) o5 o6 o7 o8 o9 o10 o11) kn kr=(rb (aE (aV (ofP (items x4)) (fun d1=>(tst (unS .Not (aD (rn n "_law_same") [(ofP (getItem d1 (.int 0))),(ofP (getItem d1 (.int 1)))])))) (fun d1=>(.ok (.fz d1)))) .Eq (.ok (.own (.list [])))) kr):=by kernel_rfl
noncomputable def lA(n:Nat)(σ:aA)(kn:KN)(kr:KR):R V:=b8 BB (so "law") n 23 (List.drop 4 (bR (List.drop 3 (aO BB (so "law"))))) σ kn kr
theorem Q8:jG n (cO (ζ x1) (some w2) (some w3) (some (.own x4)) (ζ x5) (ζ x6) (some w7) o8 o9 o10 o11) kn kr=(rb (aD (rn n "_law_piece") [(aB .Add (ofP (aC .FloorDiv x6 (.int 3))) (.ok (.fz x5))),(bB (V.clear w7)),(bB (V.clear w2))]) fun v1=>(ifS (aE (ofP (aC .Mod x6 (.int 9))) .Eq (.ok (.fz (.int 4)))) (rb (aD (rn n "_law_piece") [(ofP (aC .FloorDiv x6 (.int 9))),(bB (V.clear w3)),(bB (V.clear (V.clear w2)))]) fun v2=>(lA n (cO (ζ x1) (some (V.clear (V.clear w2))) (some (V.clear w3)) (some (.own x4)) (ζ x5) (ζ x6) (some (V.clear w7)) (some v2) o9 o10 o11) kn kr)) (lA n (cO (ζ x1) (some (V.clear w2)) (some w3) (some (.own x4)) (ζ x5) (ζ x6) (some (V.clear w7)) (some v1) o9 o10 o11) kn kr))):=by kernel_rfl
noncomputable def iB(n:Nat)(σ:aA)(kn:KN)(kr:KR):R V:=b8 BB (so "law") n 23 (List.drop 5 (bR (List.drop 3 (aO BB (so "law"))))) σ kn kr
theorem Q9:lA n (cO (ζ x1) (some w2) (some w3) (some (.own x4)) (ζ x5) (ζ x6) (some w7) (some w8) o9 o10 o11) kn kr=(ifS (aE (ofP (aC .Mod x6 (.int 9))) .Eq (.ok (.fz (.int 5)))) (rb (aD (rn n "_law_unfit") [(ofP (aC .FloorDiv x6 (.int 9))),(bB (V.clear w7)),(bB (V.clear w2))]) fun v1=>(iB n (cO (ζ x1) (some (V.clear w2)) (some w3) (some (.own x4)) (ζ x5) (ζ x6) (some (V.clear w7)) (some v1) o9 o10 o11) kn kr)) (iB n (cO (ζ x1) (some w2) (some w3) (some (.own x4)) (ζ x5) (ζ x6) (some w7) (some w8) o9 o10 o11) kn kr)):=by kernel_rfl
theorem Ra:iB n (cO (ζ x1) (some w2) (some w3) (some (.own x4)) (ζ x5) (ζ x6) (some w7) (some w8) o9 o10 o11) kn kr=(rb (aD (rn n "_law_seen") [(bB (V.clear w8)),(bB (V.clear w7))]) fun v1=>(kP n (ofP (rdv (V.clear (V.clear w7)))) (rn n "_law_copy") (fun d2=>(aD (rn n "_law_told") [(bB (V.clear (V.clear w8))),(.ok (.fz d2))])) (aE (ofP (rdv (V.clear v1))) .Is (.ok (.fz .none))) (fun d2 d3=>(aZ (ofP (cmp .NotEq d3 (.tuple [(.str (so "refused")),(.str (so "tree"))]))))) (.ok (.fz (.bool false))) (fun d2 d3=>(orS (unS .Not (aD (rn n "_law_same") [(.ok (.fz d3)),(bB (V.clear v1))])) (unS .Not (aD (rn n "_law_same") [(.ok (.fz d2)),(bB (V.clear (V.clear w7)))])))) (.ok (.fz (.bool false))) (ofP (xA x4)) (fun d2 d3=>(aD (rn n "_law_told") [(bB (V.clear (V.clear w8))),(.ok (.fz d2))])) (ofP (rdv (V.clear v1))) (fun o4 d3=>(unS .Not (aD (rn n "_law_same") [(.ok (.fz d3)),(bB (V.clear v1))]))) (fun o4=>(.ok (.fz (.bool false)))) (ifS (unS .Not (aD (rn n "_law_same") [(aD (rn n "_law_told") [(.ok (.fz (.tuple [(.str (so "whole"))]))),(bB (V.clear (V.clear (V.clear w7))))]),(bB (V.clear (V.clear (V.clear w7))))])) (kr (.fz (.bool false))) (kn (cO (ζ x1) (some w2) (some w3) (some (.own x4)) (ζ x5) (ζ x6) (some (V.clear (V.clear (V.clear w7)))) (some (V.clear (V.clear w8))) (some (V.clear v1)) none none))) (fun o4=>(ifS (unS .Not (aD (rn n "_law_same") [(aD (rn n "_law_told") [(.ok (.fz (.tuple [(.str (so "whole"))]))),(bB (V.clear (V.clear (V.clear w7))))]),(bB (V.clear (V.clear (V.clear w7))))])) (kr (.fz (.bool false))) (kn (cO (ζ x1) (some w2) (some w3) (some (.own o4)) (ζ x5) (ζ x6) (some (V.clear (V.clear (V.clear w7)))) (some (V.clear (V.clear w8))) (some (V.clear v1)) none none)))) kr)):=by kernel_rfl
end Mine
namespace Mine
open Classical PySem
inductive T where
 |num (i:Int)
 |br (f:Str→Option T)
inductive W where
 |whole
 |pick (n:Str)
 |call (a b:Str)
 |sift (f:Str) (l:Int)
 |join (a b:Str) (fs:List Str)
 |each (v:W)
 |andThen (a b:W)
 |beside (r:W)
 |bnil
 |bcons (n p:Str) (v r:W)
noncomputable def grd{α:Type}(p:Prop)(x:Option α):Option α:=if p then x else none
theorem eG{α:Type}{p:Prop}(h:p)(x:Option α):grd p x=x:=if_pos h
theorem dO{α:Type}{p:Prop}(h:¬ p)(x:Option α):grd p x=none:=if_neg h
theorem Rb{α:Type}{p:Prop}{x:Option α}{y:α}(h:grd p x=some y):p∧x=some y:=by
 by_cases e:p
 ·rw[eG e] at h;exact⟨e,h⟩
 ·rw[dO e] at h;exact ns h
noncomputable def T.get:T→Str→Option T
 | .num _,_=>none
 | .br f,k=>f k
theorem gJ(f:Str→Option T)(k:Str):(T.br f).get k=f k:=rfl
noncomputable def upd(f:Str→Option T)(k:Str)(x:Option T):Str→Option T:=fun j=>if j=k then x else f j
noncomputable def eX(f:Str→Option T):Prop:=∀ k t,f k=some t→∃ g,t=.br g
noncomputable def jH(a:Str)(l:Int)(t:T):Prop:=∃ i,t.get a=some (.num i)∧l≤i
structure FitJ(fs:List Str)(g h:Str→Option T):Prop where
 ga:eX g
 ha:eX h
 gf:∀ k t,g k=some t→∀ x,(t.get x).isSome=true→x∈fs
 hf:∀ k t,h k=some t→∀ x,(t.get x).isSome=true→x∉fs
noncomputable def s8(r s:T):T:=.br fun x=>(s.get x).or (r.get x)
noncomputable def iC(g h:Str→Option T):Str→Option T:=fun k=>(g k).bind fun r=>(h k).bind fun s=>some (s8 r s)
noncomputable def W.names:W→List Str
 | .bcons n _ _ r=>n::r.names
 |_=>[]
noncomputable def W.parts:W→List Str
 | .bcons _ p _ r=>p::r.parts
 |_=>[]
theorem lB:W.bnil.names=[]:=rfl
theorem lC(n p:Str)(v r:W):(W.bcons n p v r).names=n::r.names:=rfl
theorem Bu:W.bnil.parts=[]:=rfl
theorem Bv(n p:Str)(v r:W):(W.bcons n p v r).parts=p::r.parts:=rfl
noncomputable def W.isRows:W→Bool
 | .bcons _ _ _ _=>true
 | .bnil=>true
 |_=>false
noncomputable def lD(x y:Str)(g:Str→Option T):Str→Option T:=fun k=>if k=y then g x else if k=x then none else g k
noncomputable def iD(a:Str)(l:Int)(g:Str→Option T):Str→Option T:=fun k=>(g k).bind fun x=>grd (jH a l x) (some x)
noncomputable def Bw(fs:List Str)(x y:T):Option T:=match x with
 | .num _=>none
 | .br g=>match y with
  | .num _=>none
  | .br h=>grd (FitJ fs g h) (some (.br (iC g h)))
theorem Bx{α β:Type}{o:Option α}{k:α→Option β}{y:β}(h:o.bind k=some y):∃ x,o=some x∧k x=some y:=by
 cases o with
 |none=>exact ns h
 |some x=>exact⟨x,rfl,h⟩
noncomputable def aK:W→T→Option T
 | .whole,t=>some t
 | .pick n,t=>t.get n
 | .call a b,t=>grd ((t.get a).isSome=true∧t.get b=none) (some (.br (lD a b t.get)))
 | .sift a l,t=>match t with
  | .num _=>none
  | .br g=>grd (eX g) (some (.br (iD a l g)))
 | .join a b fs,t=>(t.get a).bind fun x=>(t.get b).bind fun y=>Bw fs x y
 | .each v,t=>match t with
  | .num _=>none
  | .br g=>grd (∀ k x,g k=some x→(aK v x).isSome=true) (some (.br fun k=>(g k).bind (aK v)))
 | .andThen a b,t=>(aK a t).bind (aK b)
 | .beside r,t=>aK r t
 | .bnil,t=>some (.br fun _=>none)
 | .bcons n p v r,t=>(t.get p).bind fun x=>(aK v x).bind fun y=>(aK r t).bind fun z=>some (.br (upd z.get n (some y)))
noncomputable def W.wf:W→Prop
 | .call a b=>a≠b
 | .join a b _=>a≠b
 | .each v=>v.wf∧v.isRows=false
 | .andThen a b=>(a.wf∧a.isRows=false)∧b.wf∧b.isRows=false
 | .beside r=>r.wf∧r.isRows=true
 | .bcons n p v r=>(v.wf∧v.isRows=false)∧(r.wf∧r.isRows=true)∧n∉r.names∧p∉r.parts
 |_=>True
theorem By{a b:Str}{fs:List Str}{t:T}{g h:Str→Option T}(ha:t.get a=some (.br g))(hb:t.get b=some (.br h)):aK (.join a b fs) t=grd (FitJ fs g h) (some (.br (iC g h))):=by
 show((t.get a).bind fun x=>(t.get b).bind fun y=>Bw fs x y)=_;rw[ha,hb];rfl
theorem Bz{a b:Str}{fs:List Str}{t s:T}(e:aK (.join a b fs) t=some s):∃ g h,t.get a=some (.br g)∧t.get b=some (.br h)∧FitJ fs g h∧s=.br (iC g h):=by
 obtain⟨x,h1,e⟩:=Bx e;obtain⟨y,h2,e⟩:=Bx e;cases x with
 |num i=>exact ns e
 |br g =>
  cases y with
  |num i=>exact ns e
  |br h =>
   obtain⟨F,e⟩:=Rb e;obtain rfl:=si e;exact⟨g,h,h1,h2,F,rfl⟩
end Mine
namespace Mine
open PySem
noncomputable def ltS(a b:Str):Prop:=a.cps.toList < b.cps.toList
end Mine
namespace Mine
open PySem
abbrev TT:=T
abbrev WW:=W
abbrev LP:=List (Str×PyData)
noncomputable def mkd(l:LP):List (PyData×PyData):=l.map fun p=>(.str p.1,p.2)
noncomputable def ks(l:LP):List Str:=l.map (·.1)
noncomputable def lk:LP→Str→Option PyData
 | [],_=>none
 |p::r,x=>if x=p.1 then some p.2 else lk r x
noncomputable def st:LP→Str→PyData→LP
 | [],x,u=>[(x,u)]
 |p::r,x,u=>if x=p.1 then (p.1,u)::r else p::st r x u
noncomputable def sts:LP→LP→LP
 | [],acc=>acc
 |p::r,acc=>sts r (st acc p.1 p.2)
noncomputable def dl:LP→Str→LP
 | [],_=>[]
 |p::r,x=>if x=p.1 then r else p::dl r x
theorem lE:∀ (l:LP) (x:Str),bM (mkd l) x=lk l x:=by
 intro v0
 induction v0 with
 |nil =>
  intro _;exact rfl
 |cons p r ih =>
  intro x;show(if x=p.1 then some p.2 else bM (mkd r) x)=if x=p.1 then some p.2 else lk r x;rw[ih x]
theorem B5:∀ (l:LP) (x:Str) (u:PyData),dT (mkd l) x u=mkd (st l x u):=by
 intro v0
 induction v0 with
 |nil =>
  intro _ _;exact rfl
 |cons p r ih =>
  intro x u;show(if x=p.1 then (.str p.1,u)::mkd r else (.str p.1,p.2)::dT (mkd r) x u)=mkd (if x=p.1 then (p.1,u)::r else p::st r x u);rw[ih x u]
  split<;>rfl
theorem Rc:∀ (l:LP) (x:Str),eO (mkd l) x=mkd (dl l x):=by
 intro v0
 induction v0 with
 |nil =>
  intro _;exact rfl
 |cons p r ih =>
  intro x;show(if x=p.1 then mkd r else (.str p.1,p.2)::eO (mkd r) x)=mkd (if x=p.1 then r else p::dl r x);rw[ih x]
  split<;>rfl
theorem s9:∀ (ps acc:LP),cK ps (mkd acc)=mkd (sts ps acc):=by
 intro v0
 induction v0 with
 |nil =>
  intro _;exact rfl
 |cons p r ih =>
  intro acc;show cK r (dT (mkd acc) p.1 p.2)=_;simp only[B5,ih];rfl
theorem B6(l:LP):(mkd l).map (·.1)=(ks l).map PyData.str:=by
 simp[mkd,ks,List.map_map,Function.comp_def]
theorem lG(l:LP):(mkd l).length=l.length:=by simp[mkd]
theorem mk_keys?:∀ l:LP,keys? (mkd l)=some l
 | []=>rfl
 |p::r=>by
  show(keys? (mkd r)).map ((p.1,p.2)::·)=_;rw[mk_keys? r];rfl
theorem oD:∀ (l:LP) (x:Str) (u:PyData) (y:Str),lk (st l x u) y=if y=x then some u else lk l y:=by
 intro v0
 induction v0 with
 |nil =>
  intro x u y;exact rfl
 |cons p r ih =>
  intro x u y;show lk (if x=p.1 then (p.1,u)::r else p::st r x u) y=if y=x then some u else if y=p.1 then some p.2 else lk r y
  by_cases h:x=p.1
  ·rw[if_pos h];show(if y=p.1 then some u else lk r y)=_;subst h
   split<;>rfl
  ·rw[if_neg h];show(if y=p.1 then some p.2 else lk (st r x u) y)=_;rw[ih x u y]
   by_cases e:y=x
   ·subst e;rw[if_neg h,if_pos rfl,if_pos rfl]
   ·rw[if_neg e,if_neg e]
theorem lH:∀ {l:LP} {x:Str} , (lk l x).isSome=true↔x∈ks l
 | [],x=>⟨fun h=>bft h,fun h=>cD h⟩
 |p::r,x=>by
  show(if x=p.1 then some p.2 else lk r x).isSome=true↔x∈p.1::ks r
  by_cases h:x=p.1
  ·simp[h]
  ·rw[if_neg h,lH (l:=r)];simp[h]
theorem oE{l:LP}{x:Str}{d:PyData}(h:lk l x=some d):x∈ks l:=lH.mp (by rw[h];rfl)
theorem Rd:∀ {l:LP} (x:Str) (u:PyData),(ks l).Nodup→(ks (st l x u)).Nodup∧∀ y,y∈ks (st l x u)↔y=x∨y∈ks l:=by
 intro v0
 induction v0 with
 |nil =>
  intro x u _;refine⟨List.nodup_cons.mpr ⟨fun h=>cD h,List.nodup_nil⟩,fun y=>⟨fun h=>.inl (List.mem_singleton.mp h),fun h=>?_⟩⟩;rcases h with rfl | h
  ·exact List.mem_cons_self
  ·exact cD h
 |cons p r ih =>
  intro x u h;have h1:p.1∉ks r∧(ks r).Nodup:=List.nodup_cons.mp h;show(ks (if x=p.1 then (p.1,u)::r else p::st r x u)).Nodup∧∀ y,y∈ks (if x=p.1 then (p.1,u)::r else p::st r x u)↔y=x∨y∈p.1::ks r
  by_cases e:x=p.1
  ·rw[if_pos e];refine⟨h,fun y=>?_⟩;show y∈p.1::ks r↔_;rw[e];simp
  ·rw[if_neg e];obtain⟨i1,i2⟩:=ih x u h1.2;refine⟨List.nodup_cons.mpr ⟨fun hm=>?_,i1⟩,fun y=>?_⟩
   ·rcases(i2 p.1).mp hm with e' | e'
    ·exact e e'.symm
    ·exact h1.1 e'
   ·show y∈p.1::ks (st r x u)↔_;rw[List.mem_cons,i2,List.mem_cons];constructor
    ·rintro(a | a | a)<;>simp[a]
    ·rintro(a | a | a)<;>simp[a]
theorem B7:∀ {l:LP} (x:Str),(ks l).Nodup→(ks (dl l x)).Nodup∧(∀ y,y∈ks (dl l x)→y∈ks l)∧∀ y,lk (dl l x) y=if y=x then none else lk l y:=by
 intro v0
 induction v0 with
 |nil =>
  intro x _;exact⟨List.nodup_nil,fun y hy=>hy,fun y=>(ite_self none).symm⟩
 |cons p r ih =>
  intro x h;have h1:p.1∉ks r∧(ks r).Nodup:=List.nodup_cons.mp h;show(ks (if x=p.1 then r else p::dl r x)).Nodup∧(∀ y,y∈ks (if x=p.1 then r else p::dl r x)→y∈p.1::ks r)∧∀ y,lk (if x=p.1 then r else p::dl r x) y=if y=x then none else if y=p.1 then some p.2 else lk r y
  by_cases e:x=p.1
  ·rw[if_pos e];refine⟨h1.2,fun y hy=>List.mem_cons_of_mem _ hy,fun y=>?_⟩
   by_cases e':y=x
   ·rw[if_pos e'];refine ocs (lk r y) (fun hl=>?_) fun d hl=>?_
    ·try rewrite[hl]
     rfl
    ·try rewrite[hl]
     exact absurd (e▸e'▸oE hl) h1.1
   ·rw[if_neg e',if_neg (e▸e')]
  ·rw[if_neg e];obtain⟨i1,i2,i3⟩:=ih x h1.2;refine⟨List.nodup_cons.mpr ⟨fun hm=>h1.1 (i2 _ hm),i1⟩,fun y hy=>?_,fun y=>?_⟩
   ·rcases List.mem_cons.mp hy with rfl | hy
    ·simp
    ·exact List.mem_cons_of_mem _ (i2 y hy)
   ·show(if y=p.1 then some p.2 else lk (dl r x) y)=_;rw[i3]
    by_cases e':y=x
    ·subst e';rw[if_neg e,if_pos rfl,if_pos rfl]
    ·rw[if_neg e',if_neg e']
noncomputable def big:Nat:=10 ^ 29
inductive Sem(N:List Str):Nat→PyData→TT→Prop where
 |num {m:Nat} {i:Int}:i.natAbs < big→Sem N m (.int i) (.num i)
 |br {m:Nat} {l:LP} {f:Str→Option TT}:(ks l).Nodup→(∀ k∈ks l,k∈N)→(∀ k,(lk l k).isSome=(f k).isSome)→(∀ k d t,lk l k=some d→f k=some t→Sem N m d t)→Sem N (m+1) (.dict (mkd l)) (.br f)
structure Bld(N:List Str)(m:Nat)(l:LP)(f:Str→Option TT):Prop where
 nd:(ks l).Nodup
 sub:∀ k∈ks l,k∈N
 dom:∀ k,(lk l k).isSome=(f k).isSome
 sem:∀ k d t,lk l k=some d→f k=some t→Sem N m d t
variable {N:List Str} {m:Nat}
theorem Bld.toSem{l:LP}{f:Str→Option TT}(B:Bld N m l f):Sem N (m+1) (.dict (mkd l)) (.br f):=.br B.nd B.sub B.dom B.sem
inductive SemI(N:List Str):Nat→PyData→TT→Prop where
 |num {m:Nat} (i:Int) (h:i.natAbs < big):SemI N m (.int i) (.num i)
 |br (m:Nat) (l:LP) (f:Str→Option TT) (B:Bld N m l f):SemI N (m+1) (.dict (mkd l)) (.br f)
inductive SemE(N:List Str)(m:Nat)(d:PyData)(t:TT):Prop where
 |num (i:Int) (e1:d=.int i) (e2:t=.num i) (h:i.natAbs < big):SemE N m d t
 |br (m':Nat) (l:LP) (f:Str→Option TT) (e:m=m'+1) (e1:d=.dict (mkd l)) (e2:t=.br f) (B:Bld N m' l f):SemE N m d t
inductive SemB(N:List Str)(m:Nat)(d:PyData)(f:Str→Option TT):Prop where
 |mk (m':Nat) (l:LP) (e:m=m'+1) (e1:d=.dict (mkd l)) (B:Bld N m' l f):SemB N m d f
inductive SemF(N:List Str)(f:Str→Option TT):Nat→PyData→Prop where
 |mk (m:Nat) (l:LP) (B:Bld N m l f):SemF N f (m+1) (.dict (mkd l))
theorem Sem.inv{d:PyData}{t:TT}(h:Sem N m d t):SemI N m d t:=by
 cases h with
 |num h=>exact .num _ h
 |br a b c e=>exact .br _ _ _ ⟨a,b,c,e⟩
theorem Sem.inv'{d:PyData}{t:TT}(h:Sem N m d t):SemE N m d t:=by
 cases h with
 |num h=>exact .num _ rfl rfl h
 |br a b c e=>exact .br _ _ _ rfl rfl rfl ⟨a,b,c,e⟩
@[elab_as_elim] theorem Sem.by {motive:Nat→PyData→TT→Prop} {m:Nat} {d:PyData} {t:TT} (h:Sem N m d t) (h1:∀ (m:Nat) (i:Int),i.natAbs < big→motive m (.int i) (.num i)) (h2:∀ (m:Nat) (l:LP) (f:Str→Option TT),Bld N m l f→motive (m+1) (.dict (mkd l)) (.br f)):motive m d t:=by
 cases h with
 |num h=>exact h1 _ _ h
 |br a b c e=>exact h2 _ _ _ ⟨a,b,c,e⟩
@[elab_as_elim] theorem Sem.byB {motive:Nat→PyData→Prop} {f:Str→Option TT} {m:Nat} {d:PyData} (h:Sem N m d (.br f)) (h2:∀ (m:Nat) (l:LP),Bld N m l f→motive (m+1) (.dict (mkd l))):motive m d:=by
 cases h with
 |br a b c e=>exact h2 _ _ ⟨a,b,c,e⟩
theorem Sem.br_inv{d:PyData}{f:Str→Option TT}(h:Sem N m d (.br f)):SemF N f m d:=by
 cases h with
 |br a b c e=>exact⟨_,_,a,b,c,e⟩
theorem Sem.br_inv'{d:PyData}{f:Str→Option TT}(h:Sem N m d (.br f)):SemB N m d f:=by
 cases h with
 |br a b c e=>exact⟨_,_,rfl,rfl,a,b,c,e⟩
inductive BGet(N:List Str)(m:Nat)(l:LP)(k:Str)(t:TT):Prop where
 |mk (d:PyData) (h:lk l k=some d) (s:Sem N m d t):BGet N m l k t
inductive BGe'(N:List Str)(m:Nat)(f:Str→Option TT)(k:Str)(d:PyData):Prop where
 |mk (t:TT) (h:f k=some t) (s:Sem N m d t):BGe' N m f k d
inductive BKey(N:List Str)(m:Nat)(l:LP)(f:Str→Option TT)(k:Str):Prop where
 |mk (d:PyData) (t:TT) (h:lk l k=some d) (g:f k=some t) (s:Sem N m d t):BKey N m l f k
theorem Sem.num_inv{d:PyData}{i:Int}(h:Sem N m d (.num i)):d=.int i∧i.natAbs < big:=by
 cases h with
 |num h=>exact⟨rfl,h⟩
theorem Sem.mono:∀ {m m':Nat} {d:PyData} {t:TT},Sem N m d t→m≤m'→Sem N m' d t
 := by
 intro m
 induction m with
 |zero =>
  intro m' d t s h;cases s with
  |num h=>exact .num h
 |succ m ih =>
  intro m' d t s h;cases s with
  |num h=>exact .num h
  |br a b c e =>
   cases m' with
   |zero=>exact absurd h (Nat.not_succ_le_zero _)
   |succ m'=>exact .br a b c fun k d t h1 h2=>ih (e k d t h1 h2) (Nat.le_of_succ_le_succ h)
theorem Bld.mono{m':Nat}{l:LP}{f:Str→Option TT}(B:Bld N m l f)(h:m≤m'):Bld N m' l f:=⟨B.nd,B.sub,B.dom,fun k d t h1 h2=>(B.sem k d t h1 h2).mono h⟩
theorem Bld.nil:Bld N m [] fun _=>none:=⟨by simp[ks],by simp[ks],fun k=>rfl,fun k d t h=>by exact ns h⟩
theorem Bld.ext{l:LP}{f g:Str→Option TT}(B:Bld N m l f)(h:∀ k,f k=g k):Bld N m l g:=by
 have:f=g:=funext h;exact this▸B
theorem Bld.set{l:LP}{f:Str→Option TT}(B:Bld N m l f){k:Str}{d:PyData}{t:TT}(hk:k∈N)(h:Sem N m d t):Bld N m (st l k d) (upd f k (some t)):=by
 obtain⟨q1,q2⟩:=Rd k d B.nd;refine⟨q1,fun y hy=>?_,fun y=>?_,fun y e u h1 h2=>?_⟩
 ·rcases(q2 y).mp hy with rfl | hy
  ·exact hk
  ·exact B.sub y hy
 ·rw[oD]
  by_cases e:y=k
  ·simp[upd,e]
  ·simp only[upd,if_neg e];exact B.dom y
 ·rw[oD] at h1
  by_cases e:y=k
  ·rw[if_pos e] at h1;simp only[upd,if_pos e] at h2;obtain rfl:=si h1;obtain rfl:=si h2;exact h
  ·rw[if_neg e] at h1;simp only[upd,if_neg e] at h2;exact B.sem y _ u h1 h2
theorem Bld.del{l:LP}{f:Str→Option TT}(B:Bld N m l f)(k:Str):Bld N m (dl l k) (upd f k none):=by
 obtain⟨q1,q2,q3⟩:=B7 k B.nd;refine⟨q1,fun y hy=>B.sub y (q2 y hy),fun y=>?_,fun y e u h1 h2=>?_⟩
 ·rw[q3]
  by_cases e:y=k
  ·simp[upd,e]
  ·simp only[upd,if_neg e];exact B.dom y
 ·rw[q3] at h1
  by_cases e:y=k
  ·rw[if_pos e] at h1;exact ns h1
  ·rw[if_neg e] at h1;simp only[upd,if_neg e] at h2;exact B.sem y _ u h1 h2
theorem Bld.get{l:LP}{f:Str→Option TT}(B:Bld N m l f){k:Str}{t:TT}(h:f k=some t):BGet N m l k t:=by
 refine ocs (lk l k) (fun e=>?_) fun d e=>?_
 ·try rewrite[e]
  have:=B.dom k;simp only[e,h] at this;exact bft this
 ·try rewrite[e]
  exact⟨d,e,B.sem k d t e h⟩
theorem Bld.get'{l:LP}{f:Str→Option TT}(B:Bld N m l f){k:Str}{d:PyData}(h:lk l k=some d):BGe' N m f k d:=by
 refine ocs (f k) (fun e=>?_) fun t e=>?_
 ·try rewrite[e]
  have:=B.dom k;simp only[e,h] at this;exact btf this
 ·try rewrite[e]
  exact⟨t,e,B.sem k d t h e⟩
theorem Bld.none_iff{l:LP}{f:Str→Option TT}(B:Bld N m l f){k:Str}:f k=none↔lk l k=none:=by
 have:=B.dom k;cases e:f k<;>cases e':lk l k<;>simp_all
theorem Bld.key{l:LP}{f:Str→Option TT}(B:Bld N m l f){k:Str}(h:k∈ks l):BKey N m l f k:=by
 have h1:=lH.mpr h;refine ocs (lk l k) (fun e=>?_) fun d e=>?_
 ·try rewrite[e]
  rw[e] at h1;exact bft h1
 ·try rewrite[e]
  obtain⟨t,a,b⟩:=B.get' e;exact⟨d,t,e,a,b⟩
theorem Bld.mem{l:LP}{f:Str→Option TT}(B:Bld N m l f){k:Str}:k∈ks l↔(f k).isSome=true:=by
 rw[← B.dom,lH]
theorem tA{α:Type}[DecidableEq α]:∀ {a b:List α},a.Nodup→(∀ x∈a,x∈b)→a.length≤b.length:=by
 intro v0
 induction v0 with
 |nil =>
  intro _ _ _;exact Nat.zero_le _
 |cons x r ih =>
  intro b hn hs;obtain⟨h1,h2⟩:=List.nodup_cons.mp hn;have hx:=hs x (by simp);have:=ih (b:=b.erase x) h2 fun y hy=>(List.mem_erase_of_ne (fun e:y=x=>h1 (e▸hy))).mpr (hs y (by simp[hy]));simp only[List.length_erase_of_mem hx] at this;have hp:0 < b.length:=List.length_pos_of_mem hx;show r.length+1≤b.length;exact E7 this hp
theorem Bld.len{l:LP}{f:Str→Option TT}(B:Bld N m l f):l.length≤N.length:=by
 have:=tA B.nd B.sub;simpa[ks] using this
inductive Out{α β:Type}(S:α→β→aA)(c:KN→KR→R V)(I:α→Prop)(E:X→Prop)(Q:V→Prop):Prop where
 |kn (a:α) (j:β) (hi:I a) (h:∀ kn kr,c kn kr=kn (S a j)):Out S c I E Q
 |exc (x:X) (hi:E x) (h:∀ kn kr,c kn kr=.exc x):Out S c I E Q
 |kr (v:V) (hi:Q v) (h:∀ kn kr,c kn kr=kr v):Out S c I E Q
theorem lI{α β:Type}{S:α→β→aA}{b:aA→KN→KR→R V}{t:Expr}{I:List PyData→α→Prop}{E:X→Prop}{Q:V→Prop} :
  ∀ {l p:List PyData} {a:α} {j:β},(∀ q d r a j,p++l=q++d::r→I q a→Out S (fun kn kr=>rb (ofP (aW t d (S a j))) fun σ=>b σ kn kr) (I (q++[d])) E Q)→I p a→Out S (aS b t l (S a j)) (I (p++l)) E Q
 | [],p,a,j,_,hi=>Out.kn a j (by simpa using hi) fun _ _=>rfl
 |d::r,p,a,j,h,hi=>by
  rcases h p d r a j rfl hi with ⟨a',j',hi',e⟩ | ⟨x,hx,e⟩ | ⟨v,hv,e⟩
  ·have e1:p++d::r=(p++[d])++r:=by simp
   have:=lI (S:=S) (b:=b) (t:=t) (l:=r) (p:=p++[d]) (a:=a') (j:=j') (I:=I) (E:=E) (Q:=Q) (fun q d' r' a j hq=>h q d' r' a j (e1.trans hq)) hi';rw[← e1] at this;rcases this with ⟨a2,j2,h2,e2⟩ | ⟨x,hx,e2⟩ | ⟨v,hv,e2⟩
   ·exact Out.kn a2 j2 h2 fun kn kr=>(e _ _).trans (e2 kn kr)
   ·exact Out.exc x hx fun kn kr=>(e _ _).trans (e2 kn kr)
   ·exact Out.kr v hv fun kn kr=>(e _ _).trans (e2 kn kr)
  ·exact Out.exc x hx fun kn kr=>e _ _
  ·exact Out.kr v hv fun kn kr=>e _ _
end Mine
namespace Mine
open PySem
section
variable {α β:Type}
theorem aG(a:α)(k:α→R β):rb (.ok a) k=k a:=rfl
theorem tB(x:X)(k:α→R β):rb (.exc x) k=.exc x:=rfl
theorem aJ(a:α):ofP (.ok a)=.ok a:=rfl
theorem dP(a:α):nx (.ok a)=.ok a:=rfl
theorem eY(a:α)(f:α→P β):P.bind (.ok a) f=f a:=rfl
theorem eZ(a:α):ofO (some a)=.ok a:=rfl
theorem cI(a b:α):(if true=true then a else b)=a:=rfl
theorem cZ(a b:α):(if false=true then a else b)=b:=rfl
end
theorem oF(b:Bool):tst (.ok (.fz (.bool b)))=.ok b:=rfl
theorem tC(b:Bool):cJ (.fz (.bool b))=.ok b:=rfl
theorem dQ(d:PyData):dOf (.fz d)=d:=rfl
theorem tD(d:PyData):dOf (.own d)=d:=rfl
theorem bO(d:PyData):V.clear (.fz d)=.fz d:=rfl
theorem gK(d:PyData):V.clear (.own d)=.fz d:=rfl
theorem bX(d:PyData):bB (.fz d)=.ok (.fz d):=rfl
theorem bU(d:PyData):rdv (.fz d)=.ok (.fz d):=rfl
theorem jI(d:PyData):bS (.fz d)=.ok d:=rfl
theorem tE(d:PyData):bS (.own d)=.ok d:=rfl
theorem tF(d:PyData)(k:V→R V):eV (.fz d) k=k (.fz d):=rfl
theorem tG(d:PyData)(k:V→R V):eV (.own d) k=k (.own d):=rfl
theorem oG(d:PyData):gU (.own d)=.ok d:=rfl
theorem tH:eC []=.ok []:=rfl
theorem tI(v:V)(r:List (R V)):eC (.ok v::r)=rb (eC r) fun vs=>.ok (v.clear::vs):=rfl
theorem tJ(b:Bool):fzb (.ok b)=.ok (.fz (.bool b)):=rfl
theorem tK(b:Bool):aZ (.ok b)=.ok (.fz (.bool b)):=rfl
theorem tL(d:PyData):gQ (.fz d)=.ok d:=rfl
theorem V9(i:Int):toI (.fz (.int i))=.ok (some i):=rfl
theorem tM:nS none=.ok none:=rfl
theorem tN(i:Int):nS (some (.ok (.fz (.int i))))=.ok (some i):=rfl
theorem oH(b:Bool):d8 .Not (.fz (.bool b))=.ok (.fz (.bool !b)):=rfl
theorem tO(i:Int):d8 .USub (.fz (.int i))=.ok (.fz (.int (-i))):=rfl
theorem tP:(!true)=false:=rfl
theorem tQ:(!false)=true:=rfl
theorem oJ(l:LP)(x:Str):getItem (.dict (mkd l)) (.str x)=frz (lk l x):=by
 show frz (bM (mkd l) x)=_;rw[lE]
theorem bI{l:LP}{x:Str}{d:PyData}(h:lk l x=some d):getItem (.dict (mkd l)) (.str x)=.ok (.fz d):=by
 simp only[oJ,h];rfl
theorem fA(l:LP)(x:Str):Mine.contains (.str x) (.dict (mkd l))=.ok (lk l x).isSome:=by
 show P.ok (bM (mkd l) x).isSome=_;rw[lE]
theorem cP(l:LP):Mine.items (.dict (mkd l))=.ok ((ks l).map .str):=by
 show P.ok ((mkd l).map (·.1))=_;rw[B6]
theorem eH{l:LP}(x:Str)(d:PyData)(h:l.length < aX):Mine.setItem (.dict (mkd l)) (.str x) d=.ok (.dict (mkd (st l x d))):=by
 show(if (mkd l).length < aX then P.ok (PyData.dict (dT (mkd l) x d)) else .no)=_;rw[lG,if_pos h,B5]
theorem tR(l:List (PyData×PyData)):bE (.dict l)=true:=rfl
theorem tT(i:Int):bE (.int i)=false:=rfl
theorem tU(l:List (PyData×PyData)):fC (.dict l)=false:=rfl
theorem tV(i:Int):fC (.int i)=true:=rfl
theorem tW(i:Int):fQ (.int i)=false:=rfl
theorem tX(l:List (PyData×PyData)):fQ (.dict l)=false:=rfl
theorem B8:∀ bs:List Bool,bools? (bs.map PyData.bool)=some bs
 | []=>rfl
 |b::r=>by
  show(bools? (r.map PyData.bool)).map (b::·)=_;rw[B8 r];rfl
theorem iE:∀ xs:List Str,strs? (xs.map PyData.str)=some xs
 | []=>rfl
 |b::r=>by
  show(strs? (r.map PyData.str)).map (b::·)=_;rw[iE r];rfl
theorem B9(bs:List Bool):cE (.list (bs.map PyData.bool))=.ok (.fz (.bool (bs.all id))):=by
 show fzb ((ofO (bools? (bs.map PyData.bool))).bind fun bs=>.ok (bs.all id))=_;rw[B8];rfl
theorem oK{t:PyData→R Bool}{e:PyData→R V}{g:PyData→PyData}:∀ {l:List PyData},(∀ d∈l,t d=.ok true∧∃ v,e d=.ok v∧dOf v=g d)→aU t e l=.ok (l.map g):=by
 intro v0
 induction v0 with
 |nil =>
  intro _;exact rfl
 |cons d r ih =>
  intro h;obtain⟨h1,v,h2,h3⟩:=h d (by simp);show rb (nx (t d)) (fun b=>if b then rb (nx (e d)) fun v=>rb (aU t e r) fun xs=>.ok (dOf v::xs) else aU t e r)=_;simp only[h1,dP,aG,cI,h2,dP,aG,ih fun d hd=>h d (List.mem_cons_of_mem _ hd),h3];rfl
theorem oM{xs:List Str}{e:PyData→R V}{g:Str→Bool}(h:∀ x∈xs,e (.str x)=.ok (.fz (.bool (g x)))):aH cE (aV (.ok (xs.map .str)) (fun _=>.ok true) e)=.ok (.fz (.bool (xs.all g))):=by
 have:aU (fun _=>.ok true) e (xs.map .str)=.ok ((xs.map g).map .bool):=by
  rw[oK (g:=fun d=>match d with | .str x=>.bool (g x) | d=>d) fun d hd=>?_]
  ·simp[Function.comp_def]
  ·obtain⟨x,hx,rfl⟩:=List.mem_map.mp hd;exact⟨rfl,_,h x hx,rfl⟩
 show rb (rb (rb (.ok (xs.map .str)) fun l=>aU (fun _=>.ok true) e l) fun r=>ofP (own (.list r))) (fun v=>ofP (cE (dOf v)))=_;simp only[aG,this];show ofP (cE (.list ((xs.map g).map .bool)))=_;simp only[B9];simp[Function.comp_def,ofP]
theorem Cb{l:List PyData}{e:PyData→R V}{g:PyData→Bool}(h:∀ x∈l,e x=.ok (.fz (.bool (g x)))):aH cE (aV (.ok l) (fun _=>.ok true) e)=.ok (.fz (.bool (l.all g))):=by
 have:aU (fun _=>.ok true) e l=.ok ((l.map g).map .bool):=by
  simp only[oK (g:=fun d=>.bool (g d)) fun d hd=>⟨rfl,_,h d hd,rfl⟩];simp[Function.comp_def]
 show rb (rb (rb (.ok l) fun l=>aU (fun _=>.ok true) e l) fun r=>ofP (own (.list r))) (fun v=>ofP (cE (dOf v)))=_;simp only[aG,this];show ofP (cE (.list ((l.map g).map .bool)))=_;simp only[B9];simp[Function.comp_def,ofP]
theorem Cc{t:PyData→R Bool}{g:Str→Bool}:∀ {xs:List Str},(∀ x∈xs,t (.str x)=.ok (g x))→aU t (fun d=>.ok (.fz d)) (xs.map .str)=.ok ((xs.filter g).map .str):=by
 intro v0
 induction v0 with
 |nil =>
  intro _;exact rfl
 |cons x r ih =>
  intro h;show rb (nx (t (.str x))) (fun b=>if b then rb (nx (.ok (.fz (.str x)))) fun v=>rb (aU t (fun d=>.ok (.fz d)) (r.map .str)) fun xs=>.ok (dOf v::xs) else aU t (fun d=>.ok (.fz d)) (r.map .str))=_;rw[h x (by simp),dP,aG,ih fun d hd=>h d (List.mem_cons_of_mem _ hd)];cases hg:g x
  ·rw[cZ,List.filter_cons_of_neg (by simp[hg])]
  ·rw[cI,List.filter_cons_of_pos hg];rfl
noncomputable def bA(p:Str×PyData):PyData:=.tuple [.str p.1,p.2]
theorem Cd:∀ ps:LP,twos? (ps.map bA)=some (mkd ps)
 | []=>rfl
 |p::r=>by
  show(twos? (r.map bA)).map ((.str p.1,p.2)::·)=_;simp only[Cd r];rfl
theorem oN{ps:LP}(h:ps.length < 4096):b6 (.list (ps.map bA))=.ok (.own (.dict (mkd (sts ps [])))):=by
 show((ofO (twos? (ps.map bA))).bind fun l=>(ofO (keys? l)).bind fun l=>if l.length < 4096 then own (.dict (cK l [])) else .no)=_;simp only[Cd,eZ,eY,mk_keys?,eZ,eY,if_pos h];show P.ok (V.own (.dict (cK ps (mkd []))))=_;simp only[s9]
theorem jJ{N:List Str}{m:Nat}{F:Str→Option TT}:∀ {ps acc:LP} {f:Str→Option TT},Bld N m acc f→(∀ p∈ps,p.1∈N∧∃ t,F p.1=some t∧Sem N m p.2 t)→Bld N m (sts ps acc) fun k=>if k∈ks ps then F k else f k
 | [],acc,f,B,_=>B.ext fun k=>by simp[ks]
 |p::r,acc,f,B,h=>by
  obtain⟨h1,t,h2,h3⟩:=h p (by simp);refine(jJ (F:=F) (B.set h1 h3) fun q hq=>h q (by simp[hq])).ext fun k=>?_;show(if k∈ks r then F k else upd f p.1 (some t) k)=if k∈p.1::ks r then F k else f k
  by_cases e1:k∈ks r
  ·simp[e1]
  ·by_cases e2:k=p.1
   ·subst e2;simp[e1,upd,h2]
   ·simp[e1,e2,upd]
theorem Ce{N:List Str}{m:Nat}{F:Str→Option TT}{t:PyData→R Bool}{e:PyData→R V}:∀ {xs:List Str},(∀ x∈xs,x∈N∧((t (.str x)=.ok false∧F x=none)∨t (.str x)=.ok true∧∃ v d u,e (.str x)=.ok v∧dOf v=.tuple [.str x,d]∧F x=some u∧Sem N m d u)) →
  ∃ ps:LP,aU t e (xs.map .str)=.ok (ps.map bA)∧ps.length≤xs.length∧(∀ k,k∈ks ps↔k∈xs∧(F k).isSome=true)∧∀ p∈ps,p.1∈N∧∃ u,F p.1=some u∧Sem N m p.2 u
 := by
 intro xs
 induction xs with
 |nil=>exact fun _=>⟨[],rfl,Nat.le_refl _,fun k=>⟨fun h=>cD h,fun h=>cD h.1⟩,fun p hp=>cD hp⟩
 |cons x r ih =>
  intro h;obtain⟨ps,e1,e2,e3,e4⟩:=ih fun y hy=>h y (List.mem_cons_of_mem _ hy);have hs:aU t e ((x::r).map .str)=rb (nx (t (.str x))) (fun b=>if b then rb (nx (e (.str x))) fun v=>rb (aU t e (r.map .str)) fun xs=>.ok (dOf v::xs) else aU t e (r.map .str)):=rfl;obtain⟨hN,⟨h1,h2⟩ | ⟨h1,v,d,u,h2,h3,h4,h5⟩⟩:=h x (by simp)
  ·refine⟨ps,?_,Nat.le_succ_of_le e2,fun k=>?_,e4⟩
   ·simp only[hs,h1,dP,aG,cZ,e1]
   ·simp only[e3 k]
    by_cases ek:k=x
    ·subst ek;simp[h2]
    ·simp[ek]
  ·refine⟨(x,d)::ps,?_,Nat.succ_le_succ e2,fun k=>?_,fun p hp=>?_⟩
   ·simp only[hs,h1,dP,aG,cI,h2,dP,aG,e1,aG,h3];rfl
   ·show k∈x::ks ps↔_;simp only[List.mem_cons,e3 k]
    by_cases ek:k=x
    ·subst ek;simp[h4]
    ·simp[ek]
   ·rcases List.mem_cons.mp hp with rfl | hp
    ·exact⟨hN,u,h4,h5⟩
    ·exact e4 p hp
theorem Re{N:List Str}{m:Nat}{F:Str→Option TT}{t:PyData→R Bool}{e:PyData→R V}{xs:List Str}(hl:xs.length < 4096)(h:∀ x∈xs,x∈N∧((t (.str x)=.ok false∧F x=none)∨t (.str x)=.ok true∧∃ v d u,e (.str x)=.ok v∧dOf v=.tuple [.str x,d]∧F x=some u∧Sem N m d u)) :
  ∃ l:LP,aH b6 (aV (.ok (xs.map .str)) t e)=.ok (.own (.dict (mkd l)))∧Bld N m l fun k=>if k∈xs then F k else none:=by
 obtain⟨ps,e1,e2,e3,e4⟩:=Ce h;refine⟨sts ps [],?_,(jJ (F:=F) Bld.nil e4).ext fun k=>?_⟩
 ·show rb (rb (rb (.ok (xs.map .str)) fun l=>aU t e l) fun r=>ofP (own (.list r))) (fun v=>ofP (b6 (dOf v)))=_;rw[aG,e1];show ofP (b6 (.list (ps.map bA)))=_;rw[oN (Nat.lt_of_le_of_lt e2 hl)];rfl
 ·by_cases hk:k∈xs
  ·rw[if_pos hk];refine ocs (F k) (fun hF=>?_) fun u hF=>?_
   ·try rewrite[hF]
    rw[if_neg];intro hc;have:=((e3 k).mp hc).2;rw[hF] at this;exact bft this
   ·try rewrite[hF]
    rw[if_pos ((e3 k).mpr ⟨hk,by rw[hF];rfl⟩)]
  ·rw[if_neg hk,if_neg fun hc=>hk ((e3 k).mp hc).1]
theorem Bld.all{N:List Str}{m:Nat}{l:LP}{f F:Str→Option TT}(B:Bld N m l f)(h:∀ k,f k=none→F k=none){l':LP}{m':Nat}(C:Bld N m' l' fun k=>if k∈ks l then F k else none):Bld N m' l' F :=
 C.ext fun k=>by
  by_cases hk:k∈ks l
  ·rw[if_pos hk]
  ·rw[if_neg hk];refine(h k ?_).symm;refine ocs (f k) (fun e=>?_) fun t e=>?_
   ·try rewrite[e]
    rfl
   ·try rewrite[e]
    exact absurd (B.mem.mpr (by rw[e];rfl)) hk
theorem lJ(xs:List Str):eqO (.list (xs.map .str)) (.list [])=.ok xs.isEmpty:=by
 cases xs with
 |nil=>rfl
 |cons x r=>rfl
end Mine
namespace Mine
open PySem
end Mine
namespace Mine
open PySem
noncomputable def inL(c:Nat):Bool:=Txt.contains (so "abcdefghijklmnopqrstuvwxyz") ⟨#[c]⟩
structure okN(x:Str):Prop where
 lo:1≤x.cps.size
 hi:x.cps.size≤8
 let_:∀ c∈x.cps.toList,inL c=true∧c < 16 ^ 8
theorem gL(n:Nat){x:Str}(h:okN x):rn (n+1) "is_name" [.fz (.str x)]=.ok (.fz (.bool true)):=by
 simp only[Oy];have h1:decide ((1:Int)≤(x.cps.size:Int))=true:=by have:=h.lo;simp;exact vH this
 have h2:decide ((x.cps.size:Int)≤8)=true:=by have:=h.hi;simp;exact E8 this
 have hc:fL (.ok (.fz (.int 1))) .LtE (ofP (a8 (.str x))) .LtE (.ok (.fz (.int 8)))=.ok (.fz (.bool true)):=by
  show aZ (if decide ((1:Int)≤(x.cps.size:Int))=true then .ok (decide ((x.cps.size:Int)≤8)) else .ok false)=_;simp only[h1,cI,h2];rfl
 have ha:aH cE (aV (ofP (items (.str x))) (fun _=>.ok true) (fun d1=>(aZ (ofP (cmp .In d1 (.str (so "abcdefghijklmnopqrstuvwxyz")))))))=.ok (.fz (.bool true)):=by
  refine(Cb (l:=x.cps.toList.map bP) (g:=fun _=>true) fun d hd=>?_).trans (by simp);obtain⟨c,hc,rfl⟩:=List.mem_map.mp hd;show R.ok (V.fz (.bool (inL c)))=_;simp only[(h.let_ c hc).1]
 simp only[hc,ha];rfl
theorem lK(n:Nat)(d:PyData):rn (n+1) "is_whole" [.fz d]=.ok (.fz (.bool (fC d&&!fQ d))):=by
 simp only[Oz];cases fC d<;>cases fQ d<;>rfl
structure Wld(N:List Str):Prop where
 len:N.length=14
 nd:N.Nodup
 ok:∀ x∈N,okN x
variable {N:List Str} {m:Nat}
theorem Bld.lt(H:Wld N){l:LP}{f:Str→Option TT}(B:Bld N m l f){k:Nat}(hk:14 < k):l.length < k:=by
 have:=B.len;simp only[H.len] at this;exact E9 hk this
@[elab_as_elim] theorem exnE {motive:Nat→Prop} {a c x:Nat} (n:Nat) (h:a+c≤n) (i:x≤n) (g:∀ k,x≤k+c→motive (k+c)):motive n:=by
 have e:=Nat.sub_add_cancel (Nat.le_trans (Nat.le_add_left c a) h);rw[← e];exact g _ (by rw[e];exact i)
inductive ExN(c:Nat):Nat→Prop where
 |mk (k:Nat):ExN c (k+c)
theorem exn{a c n:Nat}(h:a+c≤n):ExN c n:=Nat.sub_add_cancel (Nat.le_trans (Nat.le_add_left c a) h)▸ExN.mk (n - c)
theorem fd{a b k c:Nat}(h:a+k+c≤b+c):a≤b:=Nat.le_trans (Nat.le_add_right a k) (Nat.le_of_add_le_add_right h)
theorem mx{k x y r s:Nat}(h:k*max x y+r≤s):k*x+r≤s∧k*y+r≤s:=⟨Nat.le_trans (Nat.add_le_add_right (Nat.mul_le_mul_left k (Nat.le_max_left x y)) r) h,Nat.le_trans (Nat.add_le_add_right (Nat.mul_le_mul_left k (Nat.le_max_right x y)) r) h⟩
theorem eI(l:LP):(ks l).length=l.length:=by simp[ks]
theorem Rf(H:Wld N):∀ {m n:Nat} {d:PyData} {t:TT},Sem N m d t→m+1≤n→rn (n+1) "is_tree" [.fz d]=.ok (.fz (.bool true)):=by
 intro m
 induction m with
 |zero =>
  intro n d t h hn;obtain⟨i,rfl,rfl,_⟩ | ⟨_,_,_,e,_⟩:=h.inv'
  ·refine exnE (c:=1) n hn hn fun n hn=>?_;simp only[sL,lK];rfl
  ·cases e
 |succ m ih =>
  intro n d t h hn;refine exnE (c:=1) n hn hn fun n hn=>?_;obtain⟨i,rfl,rfl,_⟩ | ⟨_,l,f,e,rfl,rfl,B⟩:=h.inv'
  ·simp only[sL,lK];rfl
  ·cases e;simp only[sL,lK,cP];have:=oM (xs:=ks l) (g:=fun _=>true) (e:=fun d1=>(aT (rn (n+1) "is_name" [.fz d1]) (aD (rn (n+1) "is_tree") [(ofP (getItem (.dict (mkd l)) d1))]))) fun x hx=>by
    obtain⟨d,t,h1,h2,h3⟩:=B.key hx;simp only[gL n (H.ok x (B.sub x hx)),bI h1];exact ih h3 (by exact Fa hn)
   simp only[aJ,this];simp[ifS,unS,fC,bE,oF,aG,ofP,oH]
inductive Gives(r:R V)(P:PyData→Prop):Prop where
 |mk (v:V) (d:PyData) (e:r=.ok v) (c:v.clear=.fz d) (p:P d):Gives r P
theorem iF{v:V}{d:PyData}(h:v.clear=.fz d):dOf v=d:=by
 cases v with
 |dp=>cases h;rfl
 |fz=>cases h;rfl
 |own=>cases h;rfl
 |ex=>cases h
theorem Rg{f:List V→R V}{r:R V}{v:V}{d:PyData}(h:r=.ok v)(hv:v.clear=.fz d):aD f [r]=f [.fz d]:=by
 rw[h];show f [v.clear]=_;rw[hv]
theorem tY{α β:Type}{S:α→β→aA}{b:aA→KN→KR→R V}{t:Expr}{I:List Str→α→Prop}{E:X→Prop}{Q:V→Prop} :
  ∀ {l p:List Str} {a:α} {j:β},(∀ q d r a j,p++l=q++d::r→I q a→Out S (fun kn kr=>rb (ofP (aW t (.str d) (S a j))) fun σ=>b σ kn kr) (I (q++[d])) E Q)→I p a→Out S (aS b t (l.map .str) (S a j)) (I (p++l)) E Q
 | [],p,a,j,_,hi=>Out.kn a j (by simpa using hi) fun _ _=>rfl
 |d::r,p,a,j,h,hi=>by
  rcases h p d r a j rfl hi with ⟨a',j',hi',e⟩ | ⟨x,hx,e⟩ | ⟨v,hv,e⟩
  ·have e1:p++d::r=(p++[d])++r:=by simp
   have:=tY (S:=S) (b:=b) (t:=t) (l:=r) (p:=p++[d]) (a:=a') (j:=j') (I:=I) (E:=E) (Q:=Q) (fun q d' r' a j hq=>h q d' r' a j (e1.trans hq)) hi';rw[← e1] at this;rcases this with ⟨a2,j2,h2,e2⟩ | ⟨x,hx,e2⟩ | ⟨v,hv,e2⟩
   ·exact Out.kn a2 j2 h2 fun kn kr=>(e _ _).trans (e2 kn kr)
   ·exact Out.exc x hx fun kn kr=>(e _ _).trans (e2 kn kr)
   ·exact Out.kr v hv fun kn kr=>(e _ _).trans (e2 kn kr)
  ·exact Out.exc x hx fun kn kr=>e _ _
  ·exact Out.kr v hv fun kn kr=>e _ _
theorem oO{β:Type}{S:β→aA}{b:aA→KN→KR→R V}{t:Expr}{c:Str→Bool}{v:V}{xs:List Str}(h:∀ x∈xs,∀ j,∃ j',∀ kn kr,(rb (ofP (aW t (.str x) (S j))) fun σ=>b σ kn kr)=if c x=true then kn (S j') else kr v) :
  ∀ j,∃ j',∀ kn kr,aS b t (xs.map .str) (S j) kn kr=if xs.all c=true then kn (S j') else kr v:=by
 induction xs with
 |nil=>exact fun j=>⟨j,fun _ _=>rfl⟩
 |cons x xs ih =>
  intro j;obtain⟨j1,e1⟩:=h x List.mem_cons_self j;obtain⟨j2,e2⟩:=ih (fun x hx=>h x (List.mem_cons_of_mem _ hx)) j1;refine⟨j2,fun kn kr=>(e1 _ kr).trans ?_⟩;rw[List.all_cons,e2];cases c x<;>rfl
theorem tZ{q r l:List Str}{x:Str}(h:[]++l=q++x::r):x∈l:=by
 have:x∈q++x::r:=by simp
 simp only[← h] at this;simpa using this
theorem Cf(H:Wld N){β:Type}{S:LP→β→aA}{b:aA→KN→KR→R V}{t:Expr}{xs:List Str}(F:Str→Option TT){E:X→Prop}(P:Str→Prop){j:β}
  (h:∀ q x r,[]++xs=q++x::r→(∀ y∈q,P y)→∀ a j,a.length < aX→x∈N∧((P x∧F x=none∧∃ j',∀ kn kr,(rb (ofP (aW t (.str x) (S a j))) fun σ=>b σ kn kr)=kn (S a j')) ∨
   (P x∧∃ d u j',F x=some u∧Sem N m d u∧∀ kn kr,(rb (ofP (aW t (.str x) (S a j))) fun σ=>b σ kn kr)=kn (S (st a x d) j')) ∨
   (∃ e,E e∧∀ kn kr,(rb (ofP (aW t (.str x) (S a j))) fun σ=>b σ kn kr)=.exc e))) :
  (∃ a j',Bld N m a (fun k=>if k∈xs then F k else none)∧(∀ x∈xs,P x)∧∀ kn kr,aS b t (xs.map .str) (S [] j) kn kr=kn (S a j'))∨∃ e,E e∧∀ kn kr,aS b t (xs.map .str) (S [] j) kn kr=.exc e:=by
 have:=tY (S:=S) (b:=b) (t:=t) (l:=xs) (p:=[]) (a:=[]) (j:=j) (I:=fun p a=>Bld N m a (fun k=>if k∈p then F k else none)∧∀ x∈p,P x) (E:=E) (Q:=fun _=>False) (fun q x r a j hq hi=>?_) ⟨Bld.nil.ext fun k=>by simp,fun x hx=>by exact cD hx⟩
 ·rcases this with ⟨a,j,h1,h2⟩ | ⟨e,h1,h2⟩ | ⟨v,hv,_⟩
  ·exact .inl ⟨a,j,h1.1,h1.2,h2⟩
  ·exact .inr ⟨e,h1,h2⟩
  ·exact hv.elim
 ·have hP:P x→∀ y∈q++[x],P y:=fun hx y hy=>by
   rcases List.mem_append.mp hy with hy | hy
   ·exact hi.2 y hy
   ·simp only[List.mem_singleton.mp hy];exact hx
  obtain⟨hN,⟨h0,h1,j',h2⟩ | ⟨h0,d,u,j',h1,h2,h3⟩ | ⟨e,h1,h2⟩⟩:=h q x r hq hi.2 a j (hi.1.lt H (by decide))
  ·refine Out.kn a j' ⟨hi.1.ext fun k=>?_,hP h0⟩ h2
   by_cases e:k=x
   ·subst e;simp[h1]
   ·simp[e]
  ·refine Out.kn (st a x d) j' ⟨(hi.1.set hN h2).ext fun k=>?_,hP h0⟩ h3
   by_cases e:k=x
   ·subst e;simp[h1,upd]
   ·simp[e,upd]
  ·exact Out.exc e h1 h2
theorem t0(H:Wld N){β:Type}{S:LP→β→aA}{b:aA→KN→KR→R V}{t:Expr}{xs:List Str}(F:Str→Option TT){E:X→Prop}{j:β}
  (h:∀ x∈xs,∀ a j,a.length < aX→x∈N∧((F x=none∧∃ j',∀ kn kr,(rb (ofP (aW t (.str x) (S a j))) fun σ=>b σ kn kr)=kn (S a j')) ∨
   (∃ d u j',F x=some u∧Sem N m d u∧∀ kn kr,(rb (ofP (aW t (.str x) (S a j))) fun σ=>b σ kn kr)=kn (S (st a x d) j')) ∨
   (∃ e,E e∧∀ kn kr,(rb (ofP (aW t (.str x) (S a j))) fun σ=>b σ kn kr)=.exc e))) :
  (∃ a j',Bld N m a (fun k=>if k∈xs then F k else none)∧∀ kn kr,aS b t (xs.map .str) (S [] j) kn kr=kn (S a j'))∨∃ e,E e∧∀ kn kr,aS b t (xs.map .str) (S [] j) kn kr=.exc e:=by
 rcases Cf H (S:=S) (b:=b) (t:=t) (xs:=xs) (j:=j) (m:=m) F (E:=E) (fun _=>True) (fun q x r hq _ a j ha=>(h x (tZ hq) a j ha).imp id (Or.imp (fun h=>⟨trivial,h⟩) (Or.imp (fun h=>⟨trivial,h⟩) id))) with ⟨a,j',h1,_,h2⟩ | h
 ·exact .inl ⟨a,j',h1,h2⟩
 ·exact .inr h
theorem t6:∀ {l:LP} {p:Str×PyData},(ks l).Nodup→p∈l→lk l p.1=some p.2
 |q::r,p,h,hp=>by
  obtain⟨h1,h2⟩:=List.nodup_cons.mp (show(q.1::ks r).Nodup from h);show(if p.1=q.1 then some q.2 else lk r p.1)=_;rcases List.mem_cons.mp hp with rfl | hp
  ·rw[if_pos rfl]
  ·rw[if_neg fun e:p.1=q.1=>h1 (e▸List.mem_map_of_mem (f:=(·.1)) hp),t6 h2 hp]
theorem oP:∀ {m n:Nat} {d:PyData} {t:TT},Sem N m d t→m < n→bJ n d=true:=by
 intro m
 induction m with
 |zero =>
  intro n d t h hn;cases n with
  |zero=>exact absurd hn (Nat.not_lt_zero _)
  |succ n =>
   obtain⟨i,rfl,rfl,hi⟩ | ⟨_,_,_,e,_⟩:=h.inv'
   ·rfl
   ·cases e
 |succ m ih =>
  intro n d t h hn;cases n with
  |zero=>exact absurd hn (Nat.not_lt_zero _)
  |succ n =>
   obtain⟨i,rfl,rfl,hi⟩ | ⟨_,l,f,e,rfl,rfl,B⟩:=h.inv'
   ·rfl
   ·cases e;show(mkd l).all (fun p=>bJ n p.2)=true;refine List.all_eq_true.mpr fun p hp=>?_;obtain⟨q,hq,rfl⟩:=List.mem_map.mp hp;obtain⟨t,_,h2⟩:=B.get' (t6 B.nd hq);exact ih h2 (Nat.lt_of_succ_lt_succ hn)
theorem Cg{c:Bool}(h:c=true)(a:PyData)(t:R V):cpE c a t=.ok (.dp a):=by subst h;rfl
theorem Rh{m n:Nat}{d:PyData}{t:TT}(h:Sem N m d t)(hn:m≤n):rn (n+1) "copied" [.fz d]=.ok (.dp d):=by
 rw[O1,Cg (oP h (Nat.lt_succ_of_le hn))]
end Mine
namespace Mine
open PySem
noncomputable def tl:PyData→List PyData
 | .tuple l=>l
 |_=>[]
noncomputable def enc:WW→PyData
 | .whole=>.tuple [.str (so "whole")]
 | .pick n=>.tuple [.str (so "pick"),.str n]
 | .call a b=>.tuple [.str (so "call"),.str a,.str b]
 | .sift f l=>.tuple [.str (so "sift"),.str f,.int l]
 | .join a b fs=>.tuple [.str (so "join"),.str a,.str b,.tuple (fs.map .str)]
 | .each v=>.tuple [.str (so "each"),enc v]
 | .andThen a b=>.tuple [.str (so "then"),enc a,enc b]
 | .beside r=>.tuple [.str (so "beside"),enc r]
 | .bnil=>.tuple []
 | .bcons n p v r=>.tuple (.tuple [.str n,.str p,enc v]::tl (enc r))
noncomputable def a9(r:WW):List PyData:=tl (enc r)
theorem oQ{r:WW}(h:r.isRows=true):enc r=.tuple (a9 r):=by
 cases r<;>first | rfl | cases h
noncomputable def W.hgt:WW→Nat
 | .each v=>v.hgt+1
 | .andThen a b=>max a.hgt b.hgt+1
 | .beside r=>r.hgt+1
 | .bcons _ _ v r=>max v.hgt r.hgt
 |_=>0
noncomputable def okW(N:List Str):WW→Prop
 | .whole=>True
 | .pick n=>n∈N
 | .call a b=>a∈N∧b∈N∧a≠b
 | .sift f l=>f∈N∧l.natAbs < 10 ^ 30
 | .join a b fs=>(a∈N∧b∈N∧a≠b)∧(1≤fs.length∧fs.length≤6)∧fs.Nodup∧∀ f∈fs,f∈N
 | .each v=>okW N v∧v.isRows=false
 | .andThen a b=>(okW N a∧a.isRows=false)∧okW N b∧b.isRows=false
 | .beside r=>(okW N r∧r.isRows=true)∧1≤r.names.length∧r.names.length≤6
 | .bnil=>True
 | .bcons n p v r=>(n∈N∧p∈N)∧(okW N v∧v.isRows=false)∧(okW N r∧r.isRows=true)∧n∉r.names∧p∉r.parts
variable {N:List Str}
theorem okW.wf:∀ {w:WW},okW N w→w.wf:=by
 intro w
 induction w with
 |call a b=>exact fun h=>h.2.2
 |join a b fs=>exact fun h=>h.1.2.2
 |each v ih=>exact fun h=>⟨ih h.1,h.2⟩
 |andThen a b iha ihb=>exact fun h=>⟨⟨iha h.1.1,h.1.2⟩,ihb h.2.1,h.2.2⟩
 |beside r ih=>exact fun h=>⟨ih h.1.1,h.1.2⟩
 |bcons n p v r ihv ihr=>exact fun h=>⟨⟨ihv h.2.1.1,h.2.1.2⟩,⟨ihr h.2.2.1.1,h.2.2.1.2⟩,h.2.2.2⟩
 |_=>exact fun _=>trivial
theorem Ri:∀ {l:List Str},l.Nodup→bY l=l:=by
 intro v0
 induction v0 with
 |nil =>
  intro _;exact rfl
 |cons a r ih =>
  intro h;obtain⟨h1,h2⟩:=List.nodup_cons.mp h;show(if r.contains a then bY r else a::bY r)=_;rw[if_neg (by simpa using h1),ih h2]
theorem Ch{l:List Str}(h:l.Nodup)(hl:l.length < 64):dU (.tuple (l.map .str))=.ok (.fz (.int l.length)):=by
 show((ofO (strs? (l.map .str))).bind fun ss=>if ss.length < 64 then fz (.int (bY ss.reverse).length) else .no)=_;rw[iE,eZ,eY,if_pos hl,Ri (by simpa[List.Nodup,List.pairwise_reverse,ne_comm] using h),List.length_reverse];rfl
theorem Rj{l:List Str}(h:l.Nodup)(hl:l.length < 64):dU (.list (l.map .str))=.ok (.fz (.int l.length)):=Ch h hl
theorem Ci(H:Wld N)(n:Nat){a b:Str}(ha:a∈N)(hb:b∈N)(hab:a≠b):rn (n+2) "are_two_names" [.fz (.str a),.fz (.str b)]=.ok (.fz (.bool true)):=by
 simp only[O4,gL n (H.ok a ha),gL n (H.ok b hb)];show R.ok (V.fz (.bool !(a==b)))=_;simp only[beq_false_of_ne hab];rfl
theorem Rk(n:Nat){l:Int}(hl:l.natAbs < 10 ^ 30):rn (n+2) "is_least" [.fz (.int l)]=.ok (.fz (.bool true)):=by
 rw[O5,lK];show R.ok (V.fz (.bool (decide ((if l < 0 then -l else l) < (10 ^ 30:Int)))))=_;congr;rw[decide_eq_true_eq]
 split<;>omega
theorem Cj{α:Type}{l:List α}(h1:1≤l.length)(h2:l.length≤6):aZ (if decide ((1:Int)≤(l.length:Int))=true then R.ok (decide ((l.length:Int)≤6)) else R.ok false)=.ok (.fz (.bool true)):=by
 have e1:decide ((1:Int)≤(l.length:Int))=true:=by simp;exact vH h1
 have e2:decide ((l.length:Int)≤6)=true:=by simp;exact Fb h2
 simp only[e1,cI,e2];rfl
theorem t7{l:List Str}{r:List PyData}{d:PyData}(hd:d=.tuple (l.map .str)∨d=.list (l.map .str))(h:l.Nodup)(hl:l.length < 64)(hr:r.length=l.length):aE (aH dU (.ok (.fz d))) .Eq (ofP (a8 (.tuple r)))=.ok (.fz (.bool true)):=by
 show rb (ofP (dU d)) (fun a=>aZ (ofP (cmp .Eq (dOf a) (.int r.length))))=_;rw[show dU d=.ok (.fz (.int l.length)) from hd.elim (fun e=>e▸Ch h hl) fun e=>e▸Rj h hl,hr];show R.ok (V.fz (.bool ((l.length:Int)==(l.length:Int))))=_;simp
theorem Rl(H:Wld N)(n:Nat){fs:List Str}(h1:1≤fs.length)(h2:fs.length≤6)(hn:fs.Nodup)(hN:∀ f∈fs,f∈N):rn (n+2) "are_fields" [.fz (.tuple (fs.map .str))]=.ok (.fz (.bool true)):=by
 have e0:fL (.ok (.fz (.int 1))) .LtE (ofP (a8 (.tuple (fs.map .str)))) .LtE (.ok (.fz (.int 6)))=.ok (.fz (.bool true)):=Cj (l:=fs.map PyData.str) (by simpa using h1) (by simpa using h2);have e1:aH cE (aV (ofP (items (.tuple (fs.map .str)))) (fun d1=>(.ok true)) (fun d1=>(rn (n+1) "is_name" [.fz d1])))=.ok (.fz (.bool true)) :=
  (oM (g:=fun _=>true) fun x hx=>gL n (H.ok x (hN x hx))).trans (by simp)
 rw[O3,e0,e1,t7 (.inl rfl) hn (by exact vI h2) (by simp)];rfl
theorem Rm:∀ {r:WW},r.isRows=true→okW N r→(aU (fun _=>.ok true) (fun d=>ofP (getItem d (.int 0))) (a9 r)=.ok (r.names.map .str)∧aU (fun _=>.ok true) (fun d=>ofP (getItem d (.int 1))) (a9 r)=.ok (r.parts.map .str))∧(r.names.Nodup∧r.parts.Nodup)∧(a9 r).length=r.names.length∧r.parts.length=r.names.length:=by
 intro r
 induction r with
 |bnil=>exact fun _ _=>⟨⟨rfl,rfl⟩,⟨List.nodup_nil,List.nodup_nil⟩,rfl,rfl⟩
 |bcons n p v r ihv ihr =>
  intro _ h;obtain⟨⟨i1,i2⟩,⟨i3,i4⟩,i5,i6⟩:=ihr h.2.2.1.2 h.2.2.1.1;refine⟨⟨?_,?_⟩,⟨List.nodup_cons.mpr ⟨h.2.2.2.1,i3⟩,List.nodup_cons.mpr ⟨h.2.2.2.2,i4⟩⟩,congrArg (·+1) i5,congrArg (·+1) i6⟩
  ·show rb (aU (fun _=>.ok true) (fun d=>ofP (getItem d (.int 0))) (a9 r)) (fun xs=>.ok (.str n::xs))=_;rw[i1];rfl
  ·show rb (aU (fun _=>.ok true) (fun d=>ofP (getItem d (.int 1))) (a9 r)) (fun xs=>.ok (.str p::xs))=_;rw[i2];rfl
 |_=>exact fun h=>by exact bft h
theorem Rn(n:Nat){r:WW}(hr:r.isRows=true)(ho:okW N r)(h1:1≤r.names.length)(h2:r.names.length≤6)(h:∀ d∈a9 r,rn n "is_row" [.fz d]=.ok (.fz (.bool true))):rn (n+1) "is_beside" [.fz (enc r)]=.ok (.fz (.bool true)):=by
 obtain⟨⟨i1,i2⟩,⟨i3,i4⟩,i5,i6⟩:=Rm hr ho;simp only[oQ hr,O2];have e0:fL (.ok (.fz (.int 1))) .LtE (ofP (a8 (.tuple (a9 r)))) .LtE (.ok (.fz (.int 6)))=.ok (.fz (.bool true)):=Cj (l:=a9 r) (by exact Fc h1 i5) (by exact Fd h2 i5);have e1:aH cE (aV (ofP (items (.tuple (a9 r)))) (fun d1=>(.ok true)) (fun d1=>(rn n "is_row" [.fz d1])))=.ok (.fz (.bool true)) :=
  (Cb (l:=a9 r) (g:=fun _=>true) h).trans (by simp)
 have e2:aV (ofP (items (.tuple (a9 r)))) (fun _=>.ok true) (fun d=>ofP (getItem d (.int 0)))=.ok (.own (.list (r.names.map .str))):=by
  show rb (aU (fun _=>.ok true) (fun d=>ofP (getItem d (.int 0))) (a9 r)) (fun r=>ofP (own (.list r)))=_;simp only[i1];rfl
 have e3:aV (ofP (items (.tuple (a9 r)))) (fun _=>.ok true) (fun d=>ofP (getItem d (.int 1)))=.ok (.own (.list (r.parts.map .str))):=by
  show rb (aU (fun _=>.ok true) (fun d=>ofP (getItem d (.int 1))) (a9 r)) (fun r=>ofP (own (.list r)))=_;simp only[i2];rfl
 simp only[e0,e1,e2,e3];show rb (aT (aE (aH dU (.ok (.fz (.list (r.names.map .str))))) .Eq (ofP (a8 (.tuple (a9 r))))) (aE (aH dU (.ok (.fz (.list (r.parts.map .str))))) .Eq (ofP (a8 (.tuple (a9 r)))))) R.ok=_;rw[t7 (.inr rfl) i3 (by exact vI h2) i5,t7 (.inr rfl) i4 (by exact Fe h2 i6) (by exact Ff i5 i6)];rfl
section
theorem Ro(n:Nat):rn (n+1) "is_view" [.fz (enc .whole)]=.ok (.fz (.bool true)):=by kernel_rfl
theorem Rp(n:Nat)(x:Str):rn (n+1) "is_view" [.fz (enc (.pick x))]=rb (rn n "is_name" [.fz (.str x)]) R.ok:=by kernel_rfl
theorem Rq(n:Nat)(x y:Str):rn (n+1) "is_view" [.fz (enc (.call x y))]=rb (rn n "are_two_names" [.fz (.str x),.fz (.str y)]) R.ok:=by kernel_rfl
theorem Rr(n:Nat)(x:Str)(l:Int):rn (n+1) "is_view" [.fz (enc (.sift x l))]=rb (aT (rn n "is_name" [.fz (.str x)]) (rn n "is_least" [.fz (.int l)])) R.ok:=by kernel_rfl
theorem Rs(n:Nat)(x y:Str)(fs:List Str):rn (n+1) "is_view" [.fz (enc (.join x y fs))]=rb (aT (rn n "are_two_names" [.fz (.str x),.fz (.str y)]) (rn n "are_fields" [.fz (.tuple (fs.map .str))])) R.ok:=by kernel_rfl
theorem Rt(n:Nat)(v:WW):rn (n+1) "is_view" [.fz (enc (.each v))]=rb (rn n "is_view" [.fz (enc v)]) R.ok:=by kernel_rfl
theorem Ru(n:Nat)(a b:WW):rn (n+1) "is_view" [.fz (enc (.andThen a b))]=rb (aT (rn n "is_view" [.fz (enc a)]) (rn n "is_view" [.fz (enc b)])) R.ok:=by kernel_rfl
theorem Rv(n:Nat)(r:WW):rn (n+1) "is_view" [.fz (enc (.beside r))]=rb (rn n "is_beside" [.fz (enc r)]) R.ok:=by kernel_rfl
theorem Rw(n:Nat)(x y:Str)(v:WW):rn (n+1) "is_row" [.fz (.tuple [.str x,.str y,enc v])]=rb (aT (rn n "is_name" [.fz (.str x)]) (aT (rn n "is_name" [.fz (.str y)]) (rn n "is_view" [.fz (enc v)]))) R.ok:=by kernel_rfl
end
noncomputable def Rx(w:WW):Prop:=∀ n,3*w.hgt+3≤n→rn n "is_view" [.fz (enc w)]=.ok (.fz (.bool true))
noncomputable def Ry(w:WW):Prop:=∀ n,3*w.hgt+4≤n→∀ d∈a9 w,rn n "is_row" [.fz d]=.ok (.fz (.bool true))
structure ViewS(w:WW):Prop where
 a:w.isRows=false→Rx w
 b:w.isRows=true→Ry w
theorem Rz(H:Wld N):∀ {w:WW},okW N w→ViewS w:=by
 intro w
 induction w with
 |whole=>exact fun _=>⟨fun _ n hn=>exnE (c:=1) n hn hn fun n _=>Ro n,fun h=>by exact bft h⟩
 |pick x=>exact fun h=>⟨fun _ n hn=>by
   refine exnE (c:=2) n hn hn fun n hn=>?_;simp only[Rp,gL n (H.ok x h)];rfl,fun h=>by exact bft h⟩
 |call a b=>exact fun h=>⟨fun _ n hn=>by
   refine exnE (c:=3) n hn hn fun n hn=>?_;simp only[Rq,Ci H n h.1 h.2.1 h.2.2];rfl,fun h=>by exact bft h⟩
 |sift x l=>exact fun h=>⟨fun _ n hn=>by
   refine exnE (c:=3) n hn hn fun n hn=>?_;simp only[Rr,gL (n+1) (H.ok x h.1),Rk n h.2];rfl,fun h=>by exact bft h⟩
 |join a b fs=>exact fun h=>⟨fun _ n hn=>by
   refine exnE (c:=3) n hn hn fun n hn=>?_;simp only[Rs,Ci H n h.1.1 h.1.2.1 h.1.2.2,Rl H n h.2.1.1 h.2.1.2 h.2.2.1 h.2.2.2];rfl,fun h=>by exact bft h⟩
 |each v ih=>exact fun h=>⟨fun _ n hn=>by
   have hn:3*(v.hgt+1)+3≤n:=hn;refine exnE (c:=1) n hn hn fun n hn=>?_;simp only[Rt,(ih h.1).1 h.2 n (fd (k:=2) (c:=1) hn)];rfl,fun h=>by exact bft h⟩
 |andThen a b iha ihb=>exact fun h=>⟨fun _ n hn=>by
   have hn:3*(max a.hgt b.hgt+1)+3≤n:=hn;refine exnE (c:=1) n hn hn fun n hn=>?_;simp only[Ru,(iha h.1.1).1 h.1.2 n (mx (fd (k:=2) (c:=1) hn)).1,(ihb h.2.1).1 h.2.2 n (mx (k:=3) (r:=3) (fd (k:=2) (c:=1) hn)).2];rfl,fun h=>by exact bft h⟩
 |beside r ih=>exact fun h=>⟨fun _ n hn=>by
   have hn:3*(r.hgt+1)+3≤n:=hn;refine exnE (c:=2) n hn hn fun n hn=>?_;simp only[Rv,Rn n h.1.2 h.1.1 h.2.1 h.2.2 fun d hd=>(ih h.1.1).2 h.1.2 n (fd (k:=0) (c:=2) hn) d hd];rfl,fun h=>by exact bft h⟩
 |bnil=>exact fun _=>⟨fun h=>(by cases h),fun _ n _ d hd=>by cases hd⟩
 |bcons x y v r ihv ihr =>
  intro h;refine⟨fun h=>(by exact btf h),fun _ n hn d hd=>?_⟩;have hn:3*(max v.hgt r.hgt)+4≤n:=hn;rcases List.mem_cons.mp (show d∈.tuple [.str x,.str y,enc v]::a9 r from hd) with rfl | hd
  ·refine exnE (c:=2) n hn hn fun n hn=>?_;simp only[Rw,gL n (H.ok x h.1.1),gL n (H.ok y h.1.2),(ihv h.2.1.1).1 h.2.1.2 (n+1) (fd (k:=0) (c:=1) (mx hn).1)];rfl
  ·exact(ihr h.2.2.1.1).2 h.2.2.1.2 n (mx hn).2 d hd
end Mine
namespace Mine
open PySem
variable {N:List Str} {m:Nat}
theorem Bld.upd{l1 l2:LP}{f g:Str→Option TT}(B:Bld N m l1 f)(C:Bld N m l2 g):Bld N m (sts l2 l1) fun k=>(g k).or (f k):=by
 refine(jJ (F:=g) B fun p hp=>?_).ext fun k=>?_
 ·have h:=t6 C.nd hp;obtain⟨t,a,b⟩:=C.get' h;exact⟨C.sub _ (oE h),t,a,b⟩
 ·by_cases hk:k∈ks l2
  ·obtain⟨d,t,_,h2,_⟩:=C.key hk;rw[if_pos hk,h2];rfl
  ·have:g k=none:=by
    refine ocs (g k) (fun e=>?_) fun t e=>?_
    ·try rewrite[e]
     rfl
    ·try rewrite[e]
     exact absurd (C.mem.mpr (by rw[e];rfl)) hk
   rw[if_neg hk,this];rfl
theorem R0{l1 l2:LP}(h:l1.length+l2.length < 4096):gV (so "update") (.dict (mkd l1)) [.dict (mkd l2)]=.ok (.dict (mkd (sts l2 l1))):=by
 show((ofO (keys? (mkd l2))).bind fun m=>if (mkd l1).length+m.length < 4096 then P.ok (PyData.dict (cK m (mkd l1))) else .no)=_;simp only[mk_keys?,eZ,eY,lG,if_pos h,s9]
section
noncomputable def XT:X:=⟨so "BadTree", []⟩
theorem jK(n:Nat):rn (n+1) "need_fit" [.fz (.bool true)]=.ok (.fz .none):=by kernel_rfl
theorem fN(n:Nat):rn (n+1) "need_fit" [.fz (.bool false)]=.exc XT:=by kernel_rfl
theorem R1(n:Nat)(d:PyData):rn (n+1) "shown" [.fz (enc .whole),.fz d]=.ok (.fz d):=by kernel_rfl
theorem R2(n:Nat)(x:Str)(d:PyData):rn (n+1) "shown" [.fz (enc (.pick x)),.fz d]=rb (aD (rn n "need_fit") [rn n "has_part" [.fz d,.fz (.str x)]]) fun _=>rb (ofP (getItem d (.str x))) R.ok:=by kernel_rfl
theorem R3(n:Nat)(x y:Str)(d:PyData):rn (n+1) "shown" [.fz (enc (.call x y)),.fz d]=rb (rn n "shown_call" [.fz (enc (.call x y)),.fz d]) R.ok:=by kernel_rfl
theorem R4(n:Nat)(x:Str)(l:Int)(d:PyData):rn (n+1) "shown" [.fz (enc (.sift x l)),.fz d]=rb (rn n "shown_sift" [.fz (enc (.sift x l)),.fz d]) R.ok:=by kernel_rfl
theorem R5(n:Nat)(x y:Str)(fs:List Str)(d:PyData):rn (n+1) "shown" [.fz (enc (.join x y fs)),.fz d]=rb (rn n "shown_join" [.fz (enc (.join x y fs)),.fz d]) R.ok:=by kernel_rfl
theorem R6(n:Nat)(v:WW)(d:PyData):rn (n+1) "shown" [.fz (enc (.each v)),.fz d]=rb (rn n "shown_each" [.fz (enc (.each v)),.fz d]) R.ok:=by kernel_rfl
theorem R7(n:Nat)(v:WW)(d:PyData):rn (n+1) "shown" [.fz (enc (.beside v)),.fz d]=rb (rn n "shown_beside" [.fz (enc (.beside v)),.fz d]) R.ok:=by kernel_rfl
theorem R8(n:Nat)(a b:WW)(d:PyData):rn (n+1) "shown" [.fz (enc (.andThen a b)),.fz d]=rb (aD (rn n "shown") [.ok (.fz (enc b)),rn n "shown" [.fz (enc a),.fz d]]) R.ok:=by kernel_rfl
end
theorem oR(n:Nat)(l:LP)(x:Str):rn (n+1) "has_part" [.fz (.dict (mkd l)),.fz (.str x)]=.ok (.fz (.bool (lk l x).isSome)):=by
 rw[nT];show rb (aZ (ofP (Mine.contains (.str x) (.dict (mkd l))))) R.ok=_;rw[fA];rfl
theorem Ck(n:Nat){d:PyData}{t:TT}(h:Sem N m d t)(x:Str):rn (n+1) "has_part" [.fz d,.fz (.str x)]=.ok (.fz (.bool (t.get x).isSome)):=by
 obtain⟨i,rfl,rfl,_⟩ | ⟨_,l,f,_,rfl,rfl,B⟩:=h.inv'
 ·simp only[nT];rfl
 ·simp only[oR,B.dom];rfl
noncomputable def ShR(N:List Str)(m:Nat)(o:Option TT)(r:R V):Prop:=match o with
 |some s=>Gives r fun d=>Sem N m d s
 |none=>r=.exc XT
theorem ShR.rb{o:Option TT}{r:R V}(h:ShR N m o r):ShR N m o (rb r R.ok):=by
 cases o with
 |none=>have h:r=.exc XT:=h;rw[h];rfl
 |some t=>obtain⟨v,d,rfl,e,p⟩:=h;exact⟨v,d,rfl,e,p⟩
theorem ShR.mono{m':Nat}{o:Option TT}{r:R V}(h:ShR N m o r)(hm:m≤m'):ShR N m' o r:=by
 cases o with
 |none=>exact h
 |some t=>obtain⟨v,d,e1,e2,e3⟩:=h;exact⟨v,d,e1,e2,e3.mono hm⟩
noncomputable def dec(p:Prop):Bool:=@decide p (Classical.propDecidable p)
theorem dR{p:Prop}:dec p=true↔p:=by unfold dec;simp
theorem fB{p:Prop}:dec p=false↔¬ p:=by unfold dec;simp
theorem iG{p:Prop}{b:Bool}(h:b=true↔p):b=dec p:=by rw[Bool.eq_iff_iff,dR];exact h
noncomputable def sb(a:Str)(l:Int)(t:TT):Bool:=dec (jH a l t)
theorem Cl{a:Str}{l:Int}{t:TT}:sb a l t=true↔jH a l t:=dR
theorem jL{a:Str}{l:Int}{t:TT}:sb a l t=false↔¬ jH a l t:=fB
theorem R9(n:Nat){l:LP}{f:Str→Option TT}(B:Bld N m l f)(a:Str)(i:Int):rn (n+2) "is_sifted" [.fz (.dict (mkd l)),.fz (.str a),.fz (.int i)]=.ok (.fz (.bool (sb a i (.br f)))):=by
 rw[O7];show rb (aT (aZ (ofP (Mine.contains (.str a) (.dict (mkd l))))) (aT (aD (rn (n+1) "is_whole") [(ofP (getItem (.dict (mkd l)) (.str a)))]) (aE (ofP (getItem (.dict (mkd l)) (.str a))) .GtE (.ok (.fz (.int i)))))) R.ok=_;rw[fA,oJ];cases e:lk l a with
 |none =>
  have:sb a i (.br f)=false:=jL.mpr fun ⟨j,h,_⟩=>by
   have h:f a=some (.num j):=h;rw[B.none_iff.mpr e] at h;cases h
  rw[this];rfl
 |some d =>
  obtain⟨t,h1,h2⟩:=B.get' e;show rb (aT (rn (n+1) "is_whole" [.fz d]) (aZ (ofP (cmp .GtE d (.int i))))) R.ok=_;rw[lK];obtain⟨j,rfl,rfl,_⟩ | ⟨_,l',f',_,rfl,rfl,_⟩:=h2.inv'
  ·show R.ok (V.fz (.bool (decide (i≤j))))=_;rw[show decide (i≤j)=sb a i (.br f) from iG (decide_eq_true_iff.trans ⟨fun h=>⟨j,h1,h⟩,fun ⟨k,h,h'⟩=>by
    have h:f a=some (.num k):=h;rw[h1] at h;cases h;exact h'⟩)]
  ·have:sb a i (.br f)=false:=jL.mpr fun ⟨j,h,_⟩=>by
    have h:f a=some (.num j):=h;rw[h1] at h;cases h
   rw[this];rfl
noncomputable def abB:TT→Bool
 | .num _=>false
 | .br f=>dec (eX f)
theorem t8(n:Nat){d:PyData}{t:TT}(h:Sem N m d t):rn (n+1) "all_branches" [.fz d]=.ok (.fz (.bool (abB t))):=by
 rw[O0];obtain⟨i,rfl,rfl,_⟩ | ⟨m,l,f,_,rfl,rfl,B⟩:=h.inv'
 ·rfl
 ·have:=oM (xs:=ks l) (e:=fun d1=>dX (so "dict") (ofP (getItem (.dict (mkd l)) d1))) (g:=fun x=>match lk l x with | some d=>bE d | none=>false) fun x hx=>by
   obtain⟨d,t,h1,h2,h3⟩:=B.key hx;rw[bI h1,h1];rfl
  rw[cP,aJ,this];show R.ok (V.fz (.bool ((ks l).all _)))=_;refine congrArg (fun b=>R.ok (V.fz (.bool b))) (iG ?_);rw[List.all_eq_true];constructor
  ·intro h k t hk;obtain⟨d,h1,h2⟩:=B.get hk;have:=h k (oE h1);rw[h1] at this;obtain⟨i,rfl,rfl,_⟩ | ⟨_,l',f',_,rfl,rfl,_⟩:=h2.inv'
   ·exact bft this
   ·exact⟨_,rfl⟩
  ·intro h x hx;obtain⟨d,t,h1,h2,h3⟩:=B.key hx;obtain⟨g,rfl⟩:=h x t h2;obtain⟨_,l',_,rfl,_⟩:=h3.br_inv';rw[h1];rfl
theorem Cm(fs:List Str)(x:Str):Mine.contains (.str x) (.tuple (fs.map .str))=.ok (fs.contains x):=by
 show((ofO (strs? (fs.map .str))).bind fun ss=>P.ok (ss.contains x))=_;rw[iE];rfl
theorem Sa{xs:List Str}{t:PyData→R Bool}{g:Str→Bool}(h:∀ x∈xs,t (.str x)=.ok (g x)):aE (aV (.ok (xs.map .str)) t (fun d=>.ok (.fz d))) .NotEq (.ok (.own (.list [])))=.ok (.fz (.bool (!(xs.filter g).isEmpty))):=by
 show rb (rb (aU t (fun d=>.ok (.fz d)) (xs.map .str)) fun r=>ofP (own (.list r))) _=_;rw[Cc h];show aZ (ofP (b5 (eqO (.list ((xs.filter g).map .str)) (.list []))))=_;rw[lJ];rfl
theorem Sb{xs:List Str}{t:PyData→R Bool}{g:Str→Bool}(h:∀ x∈xs,t (.str x)=.ok (g x)):aE (aV (.ok (xs.map .str)) t (fun d=>.ok (.fz d))) .Eq (.ok (.own (.list [])))=.ok (.fz (.bool (xs.filter g).isEmpty)):=by
 show rb (rb (aU t (fun d=>.ok (.fz d)) (xs.map .str)) fun r=>ofP (own (.list r))) _=_;rw[Cc h];show aZ (ofP (eqO (.list ((xs.filter g).map .str)) (.list [])))=_;rw[lJ];rfl
theorem Cn{xs:List Str}{g:Str→Bool}:(xs.filter g).isEmpty=true↔∀ x∈xs,g x=false:=by
 rw[List.isEmpty_iff,List.filter_eq_nil_iff];simp
noncomputable def lL(g:Str→Option TT)(P:Str→Prop):Prop:=∀ k t,g k=some t→∀ x,(t.get x).isSome=true→P x
noncomputable def gM(g:Str→Option TT)(P:Str→Prop)(k:Str):Bool:=dec (∀ t,g k=some t→∀ x,(t.get x).isSome=true→P x)
theorem oS{l:LP}{g:Str→Option TT}(B:Bld N m l g)(P:Str→Prop):(ks l).all (gM g P)=dec (lL g P):=iG (by
 rw[List.all_eq_true];exact⟨fun h k t hk=>dR.mp (h k (B.mem.mpr (by rw[hk];rfl))) t hk,fun h k _=>dR.mpr (h k)⟩)
theorem oU{l lr:LP}{g r:Str→Option TT}{x:Str}{P:Str→Prop}{c:Str→Bool}{T:PyData→R Bool}(hT:∀ y,T (.str y)=.ok (c y))(hc:∀ y,c y=false↔P y)(Br:Bld N m lr r)(h1:lk l x=some (.dict (mkd lr)))(h2:g x=some (.br r))(A B:R V) :
  ifS (aE (aV (plI (aI (bS (.fz (.dict (mkd l)))) (.ok (.fz (.str x))))) T (fun d=>.ok (.fz d))) .NotEq (.ok (.own (.list [])))) A B=if gM g P x=true then B else A:=by
 show ifS (aE (aV (plI (ofP (getItem (.dict (mkd l)) (.str x)))) T _) _ _) _ _=_;rw[bI h1];show ifS (aE (aV (ofP (items (.dict (mkd lr)))) T _) _ _) _ _=_;rw[cP,aJ,Sa (g:=c) fun y _=>hT y,show((ks lr).filter c).isEmpty=gM g P x from iG (Cn.trans ⟨fun h t ht y hy=>by
  rw[h2] at ht;obtain rfl:=si ht;exact(hc y).mp (h y (Br.mem.mpr hy)),fun h y hy=>(hc y).mpr (h _ h2 y (Br.mem.mp hy))⟩)]
 cases gM g P x<;>rfl
theorem Co(a b:Str)(fs:List Str)(y:Str):tst (aE (.ok (.fz (.str y))) .NotIn (ofP (getItem (enc (.join a b fs)) (.int 3))))=.ok (!fs.contains y):=by
 show tst (aZ (ofP (b5 (Mine.contains (.str y) (.tuple (fs.map .str))))))=_;rw[Cm];rfl
theorem Cp(a b:Str)(fs:List Str)(y:Str):tst (aE (.ok (.fz (.str y))) .In (ofP (getItem (enc (.join a b fs)) (.int 3))))=.ok (fs.contains y):=by
 show tst (aZ (ofP (Mine.contains (.str y) (.tuple (fs.map .str)))))=_;rw[Cm];rfl
theorem Cq(fs:List Str)(y:Str):(!fs.contains y)=false↔y∈fs:=by simp
theorem Cr(fs:List Str)(y:Str):fs.contains y=false↔y∉fs:=by simp
theorem gN{f:Str→Option TT}{a b:Str}{fs:List Str}(h:∀ g k,f a=some (.br g)→f b=some (.br k)→¬ FitJ fs g k):aK (.join a b fs) (.br f)=none:=by
 refine ocs (aK (.join a b fs) (.br f)) (fun e=>e) fun s e=>?_;obtain⟨g,k,h1,h2,F,_⟩:=Bz e;exact absurd F (h g k h1 h2)
theorem t9{t:TT}(h:abB t=true):∃ g,t=.br g∧eX g:=by
 cases t with
 |num=>exact bft h
 |br g=>exact⟨g,rfl,dR.mp h⟩
theorem Sc(n:Nat)(a b:Str)(fs:List Str)(i:Int):rn (n+2) "fits_join" [.fz (enc (.join a b fs)),.fz (.int i)]=.ok (.fz (.bool false)):=by
 simp only[A9];show ifS (orS (unS .Not (rn (n+1) "has_part" [.fz (.int i),.fz (.str a)])) _) _ _=_;simp only[nT];rfl
theorem Sd(n:Nat){a b:Str}{fs:List Str}{l:LP}{f:Str→Option TT}(B:Bld N m l f):rn (n+2) "fits_join" [.fz (enc (.join a b fs)),.fz (.dict (mkd l))]=.ok (.fz (.bool (aK (.join a b fs) (.br f)).isSome)):=by
 simp only[A9];show ifS (orS (unS .Not (rn (n+1) "has_part" [.fz (.dict (mkd l)),.fz (.str a)])) (unS .Not (rn (n+1) "has_part" [.fz (.dict (mkd l)),.fz (.str b)]))) _ (rb (ofP (getItem (.dict (mkd l)) (.str a))) fun v1=>rb (ofP (getItem (.dict (mkd l)) (.str b))) fun v2=>_)=_;simp only[oR,oR];refine ocs (lk l a) (fun e=>?_) fun d1 e1=>?_
 ·simp only[e,gN fun g k h1 _ _=>ns ((B.none_iff.mpr e).symm.trans h1)];rfl
 refine ocs (lk l b) (fun e=>?_) fun d2 e2=>?_
 ·simp only[e1,e,gN fun g k _ h1 _=>ns ((B.none_iff.mpr e).symm.trans h1)];rfl
 obtain⟨t1,f1,s1⟩:=B.get' e1;obtain⟨t2,f2,s2⟩:=B.get' e2;simp only[e1,e2,bI e1,bI e2];show ifS (orS (unS .Not (rn (n+1) "all_branches" [.fz d1])) (unS .Not (rn (n+1) "all_branches" [.fz d2]))) _ (rb (ofP (items d1)) fun l3=>_)=_;simp only[t8 n s1,t8 n s2];refine bcs (abB t1) (fun c1=>?_) fun c1=>?_
 ·rw[c1,gN fun g k h1 _ F=>by
   simp only[f1] at h1;obtain rfl:=si h1;exact fB.mp c1 F.ga];rfl
 refine bcs (abB t2) (fun c2=>?_) fun c2=>?_
 ·rw[c1,c2,gN fun g k _ h1 F=>by
   simp only[f2] at h1;obtain rfl:=si h1;exact fB.mp c2 F.ha];rfl
 simp only[c1,c2];obtain⟨g,rfl,ga⟩:=t9 c1;obtain⟨h,rfl,ha⟩:=t9 c2;obtain⟨_,l1,_,rfl,B1⟩:=s1.br_inv';obtain⟨_,l2,_,rfl,B2⟩:=s2.br_inv';obtain⟨j1,L1⟩:=oO (S:=fun (j:Option V)=>dI (ζ (enc (.join a b fs))) (ζ (.dict (mkd l))) (ζ (.dict (mkd l1))) (ζ (.dict (mkd l2))) j) (b:=sM (n+1)) (t:=sN) (c:=gM g (·∈fs)) (v:=.fz (.bool false)) (xs:=ks l1) (fun x hx j=>⟨some (.fz (.str x)),fun kn kr=>by
  obtain⟨d,t,h1,h2,h3⟩:=B1.key hx;obtain⟨r1,rfl⟩:=ga x t h2;obtain⟨_,lr,_,rfl,Br⟩:=h3.br_inv';simp only[O8,aJ,aG,O9];exact oU (Co a b fs) (Cq fs) Br h1 h2 _ _⟩) none
 obtain⟨j2,L2⟩:=oO (S:=fun (j:Option V)=>dI (ζ (enc (.join a b fs))) (ζ (.dict (mkd l))) (ζ (.dict (mkd l1))) (ζ (.dict (mkd l2))) j) (b:=sO (n+1)) (t:=sP) (c:=gM h (·∉fs)) (v:=.fz (.bool false)) (xs:=ks l2) (fun x hx j=>⟨some (.fz (.str x)),fun kn kr=>by
  obtain⟨d,t,h1,h2,h3⟩:=B2.key hx;obtain⟨r1,rfl⟩:=ha x t h2;obtain⟨_,lr,_,rfl,Br⟩:=h3.br_inv';simp only[Pb,aJ,aG,Pc];exact oU (Cp a b fs) (Cr fs) Br h1 h2 _ _⟩) j1
 simp only[cP];refine(L1 _ _).trans ?_;simp only[oS B1,Pa];show(if _ then rb (ofP (items (.dict (mkd l2)))) _ else _)=_;simp only[cP,aJ,aG,bO,L2,oS B2,Pd,By (t:=.br f) f1 f2]
 by_cases p1:lL g (·∈fs)
 case neg=>rw[fB.mpr p1,dO fun F=>p1 F.gf];rfl
 by_cases p2:lL h (·∉fs)
 case neg=>rw[fB.mpr p2,dR.mpr p1,dO fun F=>p2 F.hf];rfl
 rw[dR.mpr p2,dR.mpr p1,eG ⟨ga,ha,p1,p2⟩];rfl
end Mine
namespace Mine
open PySem
variable {N:List Str} {m:Nat}
theorem Se(H:Wld N){β:Type}{S:LP→β→aA}{b:aA→KN→KR→R V}{t:Expr}{l:LP}{f:Str→Option TT}(B:Bld N m l f){x y:Str}(hy:y∈N)(hfy:f y=none){j:β}
  (h:∀ k d a j,lk l k=some d→a.length < aX→∃ j',∀ kn kr,(rb (ofP (aW t (.str k) (S a j))) fun σ=>b σ kn kr)=kn (S (st a (if k=x then y else k) d) j')) :
  ∃ a j',Bld N m a (lD x y f)∧∀ kn kr,aS b t ((ks l).map .str) (S [] j) kn kr=kn (S a j'):=by
 have:=tY (S:=S) (b:=b) (t:=t) (l:=ks l) (p:=[]) (a:=[]) (j:=j) (I:=fun p a=>Bld N m a fun k=>if k=y then (if x∈p then f x else none) else if k=x then none else if k∈p then f k else none) (E:=fun _=>False) (Q:=fun _=>False) (fun q k r a j hq hi=>?_) (Bld.nil.ext fun k=>by simp)
 ·rcases this with ⟨a,j,h1,h2⟩ | ⟨e,h1,_⟩ | ⟨v,hv,_⟩
  ·refine⟨a,j,h1.ext fun k=>?_,h2⟩;have hn:∀ k,k∉ks l→f k=none:=fun k hk=>by
    refine ocs (f k) (fun e=>?_) fun t e=>?_
    ·try rewrite[e]
     rfl
    ·try rewrite[e]
     exact absurd (B.mem.mpr (by rw[e];rfl)) hk
   simp only[List.nil_append,lD];have e1:(if x∈ks l then f x else none)=f x:=by
    by_cases hx:x∈ks l
    ·rw[if_pos hx]
    ·rw[if_neg hx,hn x hx]
   have e2:(if k∈ks l then f k else none)=f k:=by
    by_cases hx:k∈ks l
    ·rw[if_pos hx]
    ·rw[if_neg hx,hn k hx]
   rw[e1,e2]
  ·exact h1.elim
  ·exact hv.elim
 ·have hk:=tZ hq;obtain⟨d,u,h1,h2,h3⟩:=B.key hk;obtain⟨j',e⟩:=h k d a j h1 (hi.lt H (by decide));refine Out.kn _ j' ((hi.set (k:=if k=x then y else k) (by split;exact hy;exact B.sub k hk) h3).ext fun z=>?_) e;have hky:k≠y:=fun e=>by rw[e,hfy] at h2;exact ns h2
  simp only[upd,List.mem_append,List.mem_singleton]
  by_cases e1:k=x
  ·subst e1
   by_cases e2:z=y
   ·simp[e2,h2]
   ·by_cases e3:z=k
    ·subst e3;simp[hky]
    ·simp[e2,e3]
  ·by_cases e2:z=k
   ·subst e2;simp[hky,e1,h2]
   ·by_cases e3:z=y
    ·subst e3;simp[e1,Ne.symm hky,Ne.symm e1]
    ·simp[e1,e2,e3]
theorem Sf(H:Wld N)(n:Nat){x y:Str}(hy:y∈N){d:PyData}{t:TT}(h:Sem N m d t):ShR N m (aK (.call x y) t) (rn (n+2) "shown_call" [.fz (enc (.call x y)),.fz d]):=by
 simp only[Pe];show ShR N m (grd _ _) (rb (aD (rn (n+1) "need_fit") [aT (rn (n+1) "has_part" [.fz d,.fz (.str x)]) (aZ (ofP (b5 (Mine.contains (.str y) d))))]) _);rw[Ck n h];obtain⟨i,rfl,rfl,_⟩ | ⟨m,l,f,rfl,rfl,rfl,B⟩:=h.inv'
 ·rw[dO fun h=>bft h.1];show rb (rn (n+1) "need_fit" [.fz (.bool false)]) _=_;rw[fN];rfl
 simp only[gJ]
 by_cases hc:(f x).isSome=true∧f y=none
 case neg =>
  rw[dO hc,fA,B.dom,show aT (.ok (.fz (.bool (f x).isSome))) (aZ (ofP (b5 (.ok (f y).isSome))))=.ok (.fz (.bool false)) from by
   refine ocs (f x) (fun ex=>?_) fun u ex=>?_
   ·try rewrite[ex]
    rfl
   ·try rewrite[ex]
    refine ocs (f y) (fun ey=>absurd ⟨by rw[ex];rfl,ey⟩ hc) fun v ey=>?_;rw[ey];rfl]
  show rb (rn (n+1) "need_fit" [.fz (.bool false)]) _=_;rw[fN];rfl
 obtain⟨a,j,h1,h2⟩:=Se H (S:=fun (a:LP) (j:Option V)=>gH (ζ (enc (.call x y))) (ζ (.dict (mkd l))) (some (.own (.dict (mkd a)))) j) (b:=sQ (n+1)) (t:=sR) B (x:=x) hy hc.2 (j:=none) fun k d a j hk ha=>⟨some (.fz (.str k)),fun kn kr=>by
  simp only[Pf,aJ,aG,Pg];show(if (k==x)=true then bT (ofP (getItem (.dict (mkd l)) (.str k))) (.ok (.dict (mkd a))) (.ok (.fz (.str y))) _ else bT (ofP (getItem (.dict (mkd l)) (.str k))) (.ok (.dict (mkd a))) (.ok (.fz (.str k))) _)=_;simp only[bI hk]
  by_cases e:k=x
  ·rw[if_pos (by simpa using e),if_pos e];show rb (ofP (Mine.setItem (.dict (mkd a)) (.str y) d)) _=_;simp only[eH y d ha];rfl
  ·rw[if_neg (by simpa using e),if_neg e];show rb (ofP (Mine.setItem (.dict (mkd a)) (.str k) d)) _=_;simp only[eH k d ha];rfl⟩
 rw[eG hc];refine⟨.own (.dict (mkd a)),_,?_,rfl,h1.toSem⟩;simp only[hc.1,fA,B.none_iff.mp hc.2];show rb (rn (n+1) "need_fit" [.fz (.bool true)]) _=_;simp only[jK,cP];exact(h2 _ _).trans (Ph ..)
theorem Sg(H:Wld N)(n:Nat){x:Str}{i:Int}{d:PyData}{t:TT}(h:Sem N m d t):ShR N m (aK (.sift x i) t) (rn (n+3) "shown_sift" [.fz (enc (.sift x i)),.fz d]):=by
 rw[Pk,t8 _ h];refine bcs (abB t) (fun hc=>?_) fun hc=>?_
 ·rw[hc,show aK (.sift x i) t=none from by
   cases t with
   |num=>rfl
   |br f=>exact dO (fB.mp hc) _]
  show rb (rn (n+2) "need_fit" [.fz (.bool false)]) _=_;rw[fN];rfl
 rw[hc];obtain⟨f,rfl,hf⟩:=t9 hc;obtain⟨m,l,rfl,rfl,B⟩:=h.br_inv';rw[show aK (.sift x i) (.br f)=some (.br (iD x i f)) from eG hf _];have:=t0 H (m:=m) (S:=fun (a:LP) (j:Option V)=>eE (ζ (enc (.sift x i))) (ζ (.dict (mkd l))) (some (.own (.dict (mkd a)))) j) (b:=nU (n+2)) (t:=nV) (xs:=ks l) (j:=none) (iD x i f) (E:=fun _=>False) fun k hk a j ha=>?_
 ·obtain⟨a,j,hi,e⟩ | ⟨x,hx,_⟩:=this
  ·refine⟨.own (.dict (mkd a)),_,?_,rfl,(B.all (fun k h=>by show(f k).bind _=none;rw[h];rfl) hi).toSem⟩;show rb (rn (n+2) "need_fit" [.fz (.bool true)]) _=_;rw[jK,cP];exact(e _ _).trans (Pn ..)
  ·exact hx.elim
 ·obtain⟨d,t,h1,h2,h3⟩:=B.key hk;obtain⟨g,rfl⟩:=hf k t h2;obtain⟨_,lr,_,rfl,Br⟩:=h3.br_inv';have hF:iD x i f k=grd (jH x i (.br g)) (some (.br g)):=by show(f k).bind _=_;rw[h2];rfl
  have hb:∀ kn kr,(rb (ofP (aW nV (.str k) (eE (ζ (enc (.sift x i))) (ζ (.dict (mkd l))) (some (.own (.dict (mkd a)))) j))) fun σ=>nU (n+2) σ kn kr) =
    if sb x i (.br g)=true then kn (eE (ζ (enc (.sift x i))) (ζ (.dict (mkd l))) (some (.own (.dict (mkd (st a k (.dict (mkd lr))))))) (ζ (.str k))) else kn (eE (ζ (enc (.sift x i))) (ζ (.dict (mkd l))) (some (.own (.dict (mkd a)))) (ζ (.str k))):=fun kn kr=>by
   rw[Pl,aJ,aG,Pm,bI h1];show ifS (rn (n+2) "is_sifted" [.fz (.dict (mkd lr)),.fz (.str x),.fz (.int i)]) (rb (ofP (Mine.setItem (.dict (mkd a)) (.str k) (.dict (mkd lr)))) _) _=_;rw[R9 n Br,eH k _ ha];rfl
  refine⟨B.sub k hk,?_⟩;refine bcs (sb x i (.br g)) (fun hs=>?_) fun hs=>?_
  ·try rewrite[hs]
   exact .inl ⟨hF.trans (dO (jL.mp hs) _),some (.fz (.str k)),fun kn kr=>(hb kn kr).trans (by rw[hs,cZ])⟩
  ·try rewrite[hs]
   exact .inr (.inl ⟨.dict (mkd lr),.br g,some (.fz (.str k)),hF.trans (eG (Cl.mp hs) _),h3,fun kn kr=>(hb kn kr).trans (by rw[hs,cI])⟩)
theorem Sh(H:Wld N)(n:Nat){a b:Str}{fs:List Str}{d:PyData}{t:TT}(hd:Sem N m d t):ShR N m (aK (.join a b fs) t) (rn (n+3) "shown_join" [.fz (enc (.join a b fs)),.fz d]):=by
 rw[Po];obtain⟨i,rfl,rfl,_⟩ | ⟨m,l,f,rfl,rfl,rfl,B⟩:=hd.inv'
 ·rw[Sc n];show rb (rn (n+2) "need_fit" [.fz (.bool false)]) _=_;rw[fN];rfl
 rw[Sd n B];refine ocs (aK (.join a b fs) (.br f)) (fun hs=>?_) fun s hs=>?_
 ·rw[hs];show rb (rn (n+2) "need_fit" [.fz (.bool false)]) _=_;rw[fN];rfl
 rw[hs];obtain⟨g,h,ga,ha,F,rfl⟩:=Bz hs;obtain⟨d1,e1,q2⟩:=B.get ga;obtain⟨d2,e2,q4⟩:=B.get ha;obtain⟨m,l1,B1⟩:=q2.br_inv;obtain⟨_,l2,e,rfl,B2⟩:=q4.br_inv';cases e;have:=t0 H (m:=m) (S:=fun (c:LP) (j:Option V×Option V)=>eF (ζ (enc (.join a b fs))) (ζ (.dict (mkd l))) (ζ (.dict (mkd l1))) (ζ (.dict (mkd l2))) (some (.own (.dict (mkd c)))) j.1 j.2) (b:=nW (n+2)) (t:=nX) (xs:=ks l1) (j:=(none,none)) (iC g h) (E:=fun _=>False) fun k hk c j ha=>?_
 ·obtain⟨c,j,hi,e⟩ | ⟨x,hx,_⟩:=this
  ·refine⟨.own (.dict (mkd c)),_,?_,rfl,(B1.all (fun k h=>by show(g k).bind _=none;simp only[h];rfl) hi).toSem.mono (Nat.le_succ _)⟩;show rb (rn (n+2) "need_fit" [.fz (.bool true)]) (fun _=>rb (ofP (getItem (.dict (mkd l)) (.str a))) fun v1=>rb (ofP (getItem (.dict (mkd l)) (.str b))) fun v2=>_)=_;simp only[jK,bI e1,bI e2,aG,aJ,aG,aJ,aG];show rb (ofP (items (.dict (mkd l1)))) _=_;simp only[cP];exact(e _ _).trans (Ps ..)
  ·exact hx.elim
 ·obtain⟨d,t,h1,h2,h3⟩:=B1.key hk;obtain⟨r1,rfl⟩:=F.ga k t h2;obtain⟨m',lr,Br⟩:=h3.br_inv;refine⟨B1.sub k hk,?_⟩;have hb:∀ kn kr,(rb (ofP (aW nX (.str k) (eF (ζ (enc (.join a b fs))) (ζ (.dict (mkd l))) (ζ (.dict (mkd l1))) (ζ (.dict (mkd l2))) (some (.own (.dict (mkd c)))) j.1 j.2))) fun σ=>nW (n+2) σ kn kr)=ifS (.ok (.fz (.bool (lk l2 k).isSome))) (rb (ofP (getItem (.dict (mkd l2)) (.str k))) fun v=>rb (ofP (gV (so "update") (.dict (mkd lr)) [dOf v])) fun o2=>rb (ofP (Mine.setItem (.dict (mkd c)) (.str k) o2)) fun o3=>kn (eF (ζ (enc (.join a b fs))) (ζ (.dict (mkd l))) (ζ (.dict (mkd l1))) (ζ (.dict (mkd l2))) (some (.own o3)) (ζ (.str k)) (ζ o2))) (kn (eF (ζ (enc (.join a b fs))) (ζ (.dict (mkd l))) (ζ (.dict (mkd l1))) (ζ (.dict (mkd l2))) (some (.own (.dict (mkd c)))) (ζ (.str k)) j.2)):=fun kn kr=>by
   simp only[Pp,aJ,aG,Pq];show ifS (aZ (ofP (Mine.contains (.str k) (.dict (mkd l2))))) (rb (aH b6 (ofP (getItem (.dict (mkd l1)) (.str k)))) fun v1=>jC (ofP (gU v1)) (so "update") [ofP (getItem (.dict (mkd l2)) (.str k))] _) _=_;simp only[fA,bI h1,oJ];cases lk l2 k<;>rfl
  refine ocs (lk l2 k) (fun hk2=>?_) fun d2 hk2=>?_
  ·try rewrite[hk2]
   refine .inl ⟨?_,(some (.fz (.str k)),j.2),fun kn kr=>(hb kn kr).trans (by simp only[hk2];rfl)⟩;show(g k).bind (fun r=>(h k).bind _)=none;simp only[h2,B2.none_iff.mpr hk2];rfl
  ·try rewrite[hk2]
   obtain⟨t2,q1,q2⟩:=B2.get' hk2;obtain⟨r2,rfl⟩:=F.ha k t2 q1;obtain⟨_,lr2,e,rfl,Br2⟩:=q2.br_inv';cases e;refine .inr (.inl ⟨.dict (mkd (sts lr2 lr)),s8 (.br r1) (.br r2),(some (.fz (.str k)),some (.fz (.dict (mkd (sts lr2 lr))))),?_,(Br.upd Br2).toSem,fun kn kr=>(hb kn kr).trans ?_⟩)
   ·show(g k).bind (fun r=>(h k).bind _)=_;simp only[h2,q1];rfl
   ·simp only[hk2,bI hk2];show rb (ofP (gV (so "update") (.dict (mkd lr)) [.dict (mkd lr2)])) _=_;rw[R0 (by have:=Br.len;have:=Br2.len;have:=H.len;lia)];show rb (ofP (Mine.setItem (.dict (mkd c)) (.str k) _)) _=_;simp only[eH k _ ha];rfl
end Mine
namespace Mine
open PySem
variable {N:List Str} {m:Nat}
inductive BindE{α β:Type}(o:Option α)(k:α→Option β)(y:β):Prop where
 |mk (x:α) (h:o=some x) (g:k x=some y):BindE o k y
theorem bind_some{α β:Type}{o:Option α}{k:α→Option β}{y:β}(h:o.bind k=some y):BindE o k y:=by
 cases o with
 |none=>exact ns h
 |some x=>exact⟨x,rfl,h⟩
theorem uA:∀ {r:WW} {t z:TT},r.isRows=true→r.wf→aK r t=some z→∃ f,z=.br f∧∀ k,(f k).isSome=true↔k∈r.names:=by
 intro r
 induction r with
 |bnil=>intro t z _ _ h;obtain rfl:=si h;exact⟨_,rfl,fun k=>by simp[lB,lC]⟩
 |bcons n p v r ihv ihr =>
  intro t z _ hw h;obtain⟨x,h1,h⟩:=bind_some h;obtain⟨y,h2,h⟩:=bind_some h;obtain⟨z1,h3,h⟩:=bind_some h;obtain rfl:=si h;obtain⟨f,rfl,hf⟩:=ihr hw.2.1.2 hw.2.1.1 h3;refine⟨_,rfl,fun k=>?_⟩;simp only[upd,gJ,lB,lC,List.mem_cons]
  by_cases e:k=n
  ·simp[e]
  ·simp only[e,if_false,false_or];exact hf k
 |_=>intro t z h;exact bft h
theorem Gives.rb{r:R V}{P:PyData→Prop}(h:Gives r P):Gives (rb r R.ok) P:=by
 obtain⟨v,d,rfl,e,p⟩:=h;exact⟨v,d,rfl,e,p⟩
noncomputable def bj(vw tr:PyData)(c:LP)(j:Option V×Option V×Option V):aA:=eW (ζ vw) (ζ tr) (some (.own (.dict (mkd c)))) j.1 j.2.1 j.2.2
noncomputable def ShB(N:List Str)(m n:Nat)(w:WW)(o:Option TT)(vw:PyData)(l:LP)(c:LP)(g:Str→Option TT)(j:Option V×Option V×Option V):Prop:=match o with
 |some z=>∃ c' j',Bld N m c' (fun k=>(z.get k).or (g k))∧∀ kn kr,aS (cW n) cX (a9 w) (bj vw (.dict (mkd l)) c j) kn kr=kn (bj vw (.dict (mkd l)) c' j')
 |none=>∀ kn kr,aS (cW n) cX (a9 w) (bj vw (.dict (mkd l)) c j) kn kr=.exc XT
noncomputable def Si(N:List Str)(w:WW):Prop:=∀ {m n d t},2*w.hgt+4≤n→Sem N m d t→ShR N m (aK w t) (rn n "shown" [.fz (enc w),.fz d])
noncomputable def Sj(N:List Str)(w:WW):Prop:=∀ {m n l f},2*w.hgt+4≤n→Bld N m l f→∀ vw c g j,Bld N m c g→ShB N m n w (aK w (.br f)) vw l c g j
structure ShownS(N:List Str)(w:WW):Prop where
 a:w.isRows=false→Si N w
 b:w.isRows=true→Sj N w
theorem Sk(H:Wld N):∀ {w:WW},okW N w→ShownS N w:=by
 intro w
 induction w with
 |whole =>
  refine fun _=>⟨fun _ m n d t hn hd=>?_,fun h=>by exact bft h⟩
  obtain⟨n⟩:=exn (c:=1) hn;exact⟨_,_,R1 n d,rfl,hd⟩
 |pick x =>
  refine fun _=>⟨fun _ m n d t hn hd=>?_,fun h=>by exact bft h⟩
  obtain⟨n⟩:=exn (c:=2) hn;show ShR N m (t.get x) _;simp only[R2,Ck n hd];refine ocs (t.get x) (fun e=>?_) fun s e=>?_
  ·simp only[e];show rb (rn (n+1) "need_fit" [.fz (.bool false)]) _=_;simp only[fN];rfl
  simp only[e];cases t with
  |num=>exact ns e
  |br f =>
   obtain⟨m,l,B⟩:=hd.br_inv;obtain⟨d,h1,h2⟩:=B.get e;refine⟨.fz d,d,?_,rfl,h2.mono (Nat.le_succ _)⟩;simp only[bI h1];show rb (rn (n+1) "need_fit" [.fz (.bool true)]) _=_;simp only[jK];rfl
 |call x y =>
  refine fun ho=>⟨fun _ m n d t hn hd=>?_,fun h=>by exact bft h⟩
  obtain⟨n⟩:=exn (c:=3) hn;simp only[R3];exact(Sf H n ho.2.1 hd).rb
 |sift x i =>
  refine fun ho=>⟨fun _ m n d t hn hd=>?_,fun h=>by exact bft h⟩
  obtain⟨n⟩:=exn (c:=4) hn;simp only[R4];exact(Sg H n hd).rb
 |join a b fs =>
  refine fun ho=>⟨fun _ m n d t hn hd=>?_,fun h=>by exact bft h⟩
  obtain⟨n⟩:=exn (c:=4) hn;simp only[R5];exact(Sh H n hd).rb
 |each v ih =>
  refine fun ho=>⟨fun _ m n d t hn hd=>?_,fun h=>by exact bft h⟩
  have hn:2*(v.hgt+1)+4≤n:=hn;obtain⟨n⟩:=exn (c:=3) hn;simp only[R6];refine ShR.rb ?_;simp only[Pt];obtain⟨i,rfl,rfl,_⟩ | ⟨m,l,f,rfl,rfl,rfl,B⟩:=hd.inv'
  ·show rb (rn (n+1) "need_fit" [.fz (.bool false)]) _=_;simp only[fN];rfl
  have:=Cf H (m:=m) (S:=fun (a:LP) (j:Option V)=>fM (ζ (enc (.each v))) (ζ (.dict (mkd l))) (some (.own (.dict (mkd a)))) j) (b:=nY (n+1)) (t:=n6) (xs:=ks l) (j:=none) (fun k=>(f k).bind (aK v)) (P:=fun k=>∀ x,f k=some x→(aK v x).isSome=true) (E:=fun e=>e=XT∧¬ ∀ k x,f k=some x→(aK v x).isSome=true) fun q0 k r0 hq0 _ a j ha=>?_
  ·show ShR N (m+1) (grd (∀ k x,f k=some x→(aK v x).isSome=true) _) (rb (rn (n+1) "need_fit" [.fz (.bool true)]) _);simp only[jK,cP];obtain⟨a,j,hi,hP,e⟩ | ⟨x,⟨rfl,hx⟩,e⟩:=this
   ·simp only[eG fun k x hk=>hP k (B.mem.mpr (by simp only[hk];rfl)) x hk];exact⟨.own (.dict (mkd a)),_,(e _ _).trans (Pw ..),rfl,(B.all (fun k h=>by show(f k).bind _=none;simp only[h];rfl) hi).toSem⟩
   ·simp only[dO hx];exact e _ _
  ·have hk:=tZ hq0;obtain⟨dx,tx,h1,h2,h3⟩:=B.key hk;have hI:=(ih ho.1).1 ho.2 (n:=n+1) (fd (k:=0) (c:=2) hn) h3;have hb:∀ kn kr,(rb (ofP (aW n6 (.str k) (fM (ζ (enc (.each v))) (ζ (.dict (mkd l))) (some (.own (.dict (mkd a)))) j))) fun σ=>nY (n+1) σ kn kr)=rb (rn (n+1) "shown" [.fz (enc v),.fz dx]) (fun v'=>rb (ofP (Mine.setItem (.dict (mkd a)) (.str k) (dOf v'))) fun o=>kn (fM (ζ (enc (.each v))) (ζ (.dict (mkd l))) (some (.own o)) (ζ (.str k)))):=fun kn kr=>by
    simp only[Pu,aJ,aG,Pv,bI h1];rfl
   refine⟨B.sub k hk,ocs (aK v tx) (fun sx=>?_) fun u sx=>?_⟩
   ·simp only[sx] at hI;have hI:rn (n+1) "shown" [.fz (enc v),.fz dx]=.exc XT:=hI;exact .inr (.inr ⟨XT,⟨rfl,fun h=>by have:=h k tx h2;simp only[sx] at this;exact bft this⟩,fun kn kr=>(hb kn kr).trans (by simp only[hI];rfl)⟩)
   ·simp only[sx] at hI;obtain⟨w,d',e1,e2,e3⟩:=hI;refine .inr (.inl ⟨fun x hx=>by simp only[h2] at hx;obtain rfl:=si hx;simp only[sx];rfl,d',u,some (.fz (.str k)),by show(f k).bind _=_;simp only[h2];exact sx,e3,fun kn kr=>(hb kn kr).trans ?_⟩);simp only[e1,aG,iF e2,eH k d' ha];rfl
 |andThen a b iha ihb =>
  refine fun ho=>⟨fun _ m n d t hn hd=>?_,fun h=>by exact bft h⟩
  have hn:2*(max a.hgt b.hgt+1)+4≤n:=hn;obtain⟨n⟩:=exn (c:=1) hn;have hA:=(iha ho.1.1).1 ho.1.2 (n:=n) (mx (fd (k:=1) (c:=1) hn)).1 hd;show ShR N m ((aK a t).bind (aK b)) _;simp only[R8];refine ShR.rb (ocs (aK a t) (fun e=>?_) fun mid e=>?_)
  ·simp only[e] at hA;have hA:rn n "shown" [.fz (enc a),.fz d]=.exc XT:=hA;simp only[e,hA];rfl
  ·simp only[e] at hA;obtain⟨w,d',e1,e2,e3⟩:=hA;simp only[e,e1];show ShR N m (aK b mid) (rn n "shown" [.fz (enc b),w.clear]);simp only[e2];exact(ihb ho.2.1).1 ho.2.2 (mx (fd (k:=1) (c:=1) hn)).2 e3
 |beside r ih =>
  refine fun ho=>⟨fun _ m n d t hn hd=>?_,fun h=>by exact bft h⟩
  have hn:2*(r.hgt+1)+4≤n:=hn;obtain⟨n⟩:=exn (c:=2) hn;show ShR N m (aK r t) _;simp only[R7];refine ShR.rb ?_;simp only[Pi];show ShR N m (aK r t) (rb (ofP (items (enc r))) _);simp only[oQ ho.1.2];obtain⟨i,rfl,rfl,_⟩ | ⟨m,l,f,rfl,rfl,rfl,B⟩:=hd.inv'
  ·cases r with
   |bcons x p v r =>
    have key:∀ kn kr,aS (cW n) cX (a9 (.bcons x p v r)) (eW (ζ (enc (.beside (.bcons x p v r)))) (ζ (.int i)) (some (.own (.dict []))) none none none) kn kr=.exc XT:=fun kn kr=>by
     show rb (ofP (aW cX (.tuple [.str x,.str p,enc v]) _)) (fun σ=>cW n σ (fun σ=>aS (cW n) cX (a9 r) σ kn kr) kr)=_;have hn:2*(W.bcons x p v r).hgt+4≤n:=fd (k:=0) (c:=2) hn;obtain⟨n⟩:=exn (c:=1) hn;simp only[Bd,aJ,aG,Be,nT];show rb (rn (n+1) "need_fit" [.fz (.bool false)]) _=_;simp only[fN];rfl
    exact key _ _
   |bnil=>have:=ho.2.1;simp[lB,lC] at this
   |_=>cases ho.1.2
  ·have hI:=(ih ho.1.1).2 ho.1.2 (n:=n) (fd (k:=0) (c:=2) hn) B (enc (.beside r)) [] (fun _=>none) (none,none,none) Bld.nil;refine ocs (aK r (.br f)) (fun e=>?_) fun s e=>?_
   ·simp only[e] at hI;simp only[e];exact hI _ _
   ·simp only[e] at hI;obtain⟨c,j,h1,h2⟩:=hI;obtain⟨f',rfl,_⟩:=uA ho.1.2 ho.1.1.wf e;simp only[e];exact⟨.own (.dict (mkd c)),_,(h2 _ _).trans (Pj ..),rfl,(h1.ext fun k=>by simp[gJ]).toSem⟩
 |bnil =>
  refine fun ho=>⟨fun h=>(by exact btf h),fun _ m n l f hn B vw c g j hc=>?_⟩
  exact⟨c,j,hc.ext fun k=>by simp[gJ],fun _ _=>rfl⟩
 |bcons x p v r ihv ihr =>
  refine fun ho=>⟨fun h=>(by exact btf h),fun _ m n l f hn B vw c g j hc=>?_⟩
  have hn:2*(max v.hgt r.hgt)+4≤n:=hn;show ShB N m n _ ((f p).bind fun x'=>(aK v x').bind fun y=>(aK r (.br f)).bind fun z=>some (.br (upd z.get x (some y)))) vw l c g j;have hb:∀ kn kr,aS (cW n) cX (a9 (.bcons x p v r)) (bj vw (.dict (mkd l)) c j) kn kr=rb (aD (rn n "need_fit") [.ok (.fz (.bool (lk l p).isSome))]) fun _=>rb (aD (rn n "shown") [.ok (.fz (enc v)),ofP (getItem (.dict (mkd l)) (.str p))]) fun v'=>rb (ofP (Mine.setItem (.dict (mkd c)) (.str x) (dOf v'))) fun o=>aS (cW n) cX (a9 r) (eW (ζ vw) (ζ (.dict (mkd l))) (some (.own o)) (ζ (.str x)) (ζ (.str p)) (ζ (enc v))) kn kr:=fun kn kr=>by
   show rb (ofP (aW cX (.tuple [.str x,.str p,enc v]) _)) (fun σ=>cW n σ (fun σ=>aS (cW n) cX (a9 r) σ kn kr) kr)=_;obtain⟨n⟩:=exn (c:=1) hn;unfold bj;simp only[Bd,aJ,aG,Be,oR];rfl
  obtain⟨n'⟩:=exn (c:=1) hn;refine ocs (f p) (fun e=>?_) fun t1 h1=>?_
  ·simp only[e];refine fun kn kr=>(hb kn kr).trans ?_;simp only[B.dom,e];show rb (rn (n'+1) "need_fit" [.fz (.bool false)]) _=_;simp only[fN];rfl
  obtain⟨d1,q1,q2⟩:=B.get h1;have hV:=(ihv ho.2.1.1).1 ho.2.1.2 (n:=n'+1) (mx hn).1 q2;have hb2:∀ kn kr,aS (cW (n'+1)) cX (a9 (.bcons x p v r)) (bj vw (.dict (mkd l)) c j) kn kr=rb (rn (n'+1) "shown" [.fz (enc v),.fz d1]) fun v'=>rb (ofP (Mine.setItem (.dict (mkd c)) (.str x) (dOf v'))) fun o=>aS (cW (n'+1)) cX (a9 r) (eW (ζ vw) (ζ (.dict (mkd l))) (some (.own o)) (ζ (.str x)) (ζ (.str p)) (ζ (enc v))) kn kr:=fun kn kr=>by
   simp only[hb,q1,bI q1];show rb (rn (n'+1) "need_fit" [.fz (.bool true)]) _=_;simp only[jK];rfl
  simp only[h1,Option.bind_some];refine ocs (aK v t1) (fun e=>?_) fun y h2=>?_
  ·simp only[e] at hV;have hV:rn (n'+1) "shown" [.fz (enc v),.fz d1]=.exc XT:=hV;simp only[e];exact fun kn kr=>(hb2 kn kr).trans (by simp only[hV];rfl)
  simp only[h2] at hV;obtain⟨w,d',e1,e2,e3⟩:=hV;have hR:=(ihr ho.2.2.1.1).2 ho.2.2.1.2 (n:=n'+1) (mx hn).2 B vw (st c x d') _ (some (.fz (.str x)),some (.fz (.str p)),some (.fz (enc v))) (hc.set ho.1.1 e3);have hb3:∀ kn kr,aS (cW (n'+1)) cX (a9 (.bcons x p v r)) (bj vw (.dict (mkd l)) c j) kn kr=aS (cW (n'+1)) cX (a9 r) (bj vw (.dict (mkd l)) (st c x d') (some (.fz (.str x)),some (.fz (.str p)),some (.fz (enc v)))) kn kr:=fun kn kr=>by
   simp only[hb2,e1,aG,iF e2,eH x d' (hc.lt H (by decide))];rfl
  simp only[h2,Option.bind_some];refine ocs (aK r (.br f)) (fun e=>?_) fun z1 h3=>?_
  ·simp only[e] at hR;simp only[e];exact fun kn kr=>(hb3 kn kr).trans (hR kn kr)
  simp only[h3] at hR;obtain⟨c',j',i1,i2⟩:=hR;obtain⟨f1,rfl,hf1⟩:=uA ho.2.2.1.2 ho.2.2.1.1.wf h3;simp only[h3];refine⟨c',j',i1.ext fun k=>?_,fun kn kr=>(hb3 kn kr).trans (i2 kn kr)⟩;simp only[gJ,upd]
  by_cases e:k=x
  ·subst e;have:f1 k=none:=by
    refine ocs (f1 k) (fun ef=>ef) fun u ef=>?_;exact absurd ((hf1 k).mp (by simp only[ef];rfl)) ho.2.2.2.1
   simp[this]
  ·simp[e]
section
theorem Sl(n:Nat)(d:PyData)(h:rn n "is_view" [.fz d]=.ok (.fz (.bool true))):rn (n+1) "need_view" [.fz d]=.ok (.fz .none):=by
 rw[O6,h];rfl
theorem Sm(n:Nat)(d:PyData)(h:rn n "is_tree" [.fz d]=.ok (.fz (.bool true))):rn (n+1) "need_tree" [.fz d]=.ok (.fz .none):=by
 rw[Px,h];rfl
end
noncomputable def ShD(N:List Str)(m:Nat)(o:Option TT)(r:R V):Prop:=match o with
 |some s=>∃ d,r=.ok (.dp d)∧Sem N m d s
 |none=>r=.exc XT
theorem Sn(H:Wld N){w:WW}(ho:okW N w)(hr:w.isRows=false){m n:Nat}{d:PyData}{t:TT}(hn:3*w.hgt+m+6≤n)(hd:Sem N m d t):ShD N m (aK w t) (rn n "show" [.fz (enc w),.fz d]):=by
 obtain⟨n⟩:=exn (c:=3) hn;have h:=(Sk H ho).1 hr (n:=n+2) (by exact Hb hn) hd;simp only[Py,Sl _ _ ((Rz H ho).1 hr (n+1) (by exact Hc hn)),Sm _ _ (Rf H hd (by exact Hd hn)),aG,aG];refine ocs (aK w t) (fun e=>?_) fun s e=>?_
 ·simp only[e] at h;have h:rn (n+2) "shown" [.fz (enc w),.fz d]=.exc XT:=h;simp only[e,h];rfl
 ·simp only[e] at h;obtain⟨v,d1,e1,e2,e3⟩:=h;simp only[e,Rg e1 e2];exact⟨d1,by rw[Rh e3 (by exact He hn)];rfl,e3⟩
end Mine
namespace Mine
open PySem
variable {N:List Str} {m:Nat}
noncomputable def W.grow:WW→Nat
 | .pick _=>1
 | .join _ _ _=>1
 | .each v=>v.grow
 | .andThen a b=>a.grow+b.grow
 | .beside r=>r.grow
 | .bcons _ _ v r=>max v.grow r.grow
 |_=>0
theorem oV{α:Type}{o:Option α}(h:o.isSome=true):∃ x,o=some x:=by
 cases o with
 |none=>exact bft h
 |some x=>exact⟨x,rfl⟩
theorem So{a b:Str}(h:a.cps.toList=b.cps.toList):a=b:=by
 cases a;cases b;simp only[Str.mk.injEq];exact Array.toList_inj.mp h
theorem oW(a:Str):¬ ltS a a:=List.lt_irrefl _
theorem Cs{a b c:Str}(h1:ltS a b)(h2:ltS b c):ltS a c:=List.lt_trans h1 h2
theorem Sp{a b:Str}(h:¬ ltS b a)(hn:a≠b):ltS a b:=by
 rcases Std.le_iff_lt_or_eq.mp (List.not_lt.mp h) with h | h
 ·exact h
 ·exact absurd (So h) hn
theorem uB{x a:Str}:∀ {l:List Str},x∈dJ a l↔x=a∨x∈l
 | []=>by simp[dJ]
 |b::r=>by
  show x∈(if b.cps.toList < a.cps.toList then b::dJ a r else a::b::r)↔_
  split
  ·rw[List.mem_cons,uB (l:=r),List.mem_cons];constructor
   ·rintro(h | h | h)<;>simp[h]
   ·rintro(h | h | h)<;>simp[h]
  ·simp
theorem dA{x:Str}:∀ {l:List Str},x∈bC l↔x∈l
 | []=>by simp[bC]
 |a::r=>by
  show x∈dJ a (bC r)↔_;rw[uB,dA (l:=r),List.mem_cons]
theorem Sq{a:Str}:∀ {l:List Str},a∉l→l.Pairwise ltS→(dJ a l).Pairwise ltS:=by
 intro v0
 induction v0 with
 |nil =>
  intro _ _;simp[dJ]
 |cons b r ih =>
  intro hn h;obtain⟨h1,h2⟩:=List.pairwise_cons.mp h;show(if b.cps.toList < a.cps.toList then b::dJ a r else a::b::r).Pairwise ltS
  split
  ·rename_i hl;refine List.pairwise_cons.mpr ⟨fun x hx=>?_,ih (fun hm=>hn (List.mem_cons_of_mem _ hm)) h2⟩;rcases uB.mp hx with rfl | hx
   ·exact hl
   ·exact h1 x hx
  ·rename_i hl;have hab:ltS a b:=Sp hl fun e=>hn (by simp[e]);refine List.pairwise_cons.mpr ⟨fun x hx=>?_,h⟩;rcases List.mem_cons.mp hx with rfl | hx
   ·exact hab
   ·exact Cs hab (h1 x hx)
theorem uC:∀ {l:List Str},l.Nodup→(bC l).Pairwise ltS:=by
 intro v0
 induction v0 with
 |nil =>
  intro _;exact .nil
 |cons a r ih =>
  intro h;obtain⟨h1,h2⟩:=List.nodup_cons.mp h;exact Sq (fun hm=>h1 (dA.mp hm)) (ih h2)
theorem Ct:∀ {a b:List Str},a.Pairwise ltS→b.Pairwise ltS→(∀ x,x∈a↔x∈b)→a=b
 | [],[],_,_,_=>rfl
 | [],y::s,_,_,h=>absurd ((h y).mpr (by simp)) (by simp)
 |x::r,[],_,_,h=>absurd ((h x).mp (by simp)) (by simp)
 |x::r,y::s,ha,hb,h=>by
  obtain⟨a1,a2⟩:=List.pairwise_cons.mp ha;obtain⟨b1,b2⟩:=List.pairwise_cons.mp hb;have e:x=y:=by
   rcases List.mem_cons.mp ((h x).mp (by simp)) with e | hx
   ·exact e
   ·rcases List.mem_cons.mp ((h y).mpr (by simp)) with e | hy
    ·exact e.symm
    ·exact absurd (Cs (a1 y hy) (b1 x hx)) (oW x)
  subst e;rw[Ct a2 b2 fun z=>?_];have:=h z;rw[List.mem_cons,List.mem_cons] at this;constructor
  ·intro hz;rcases this.mp (.inr hz) with rfl | h'
   ·exact absurd (a1 z hz) (oW z)
   ·exact h'
  ·intro hz;rcases this.mpr (.inr hz) with rfl | h'
   ·exact absurd (b1 z hz) (oW z)
   ·exact h'
theorem uD{l:List Str}(h:l.Nodup):(bC l).Nodup:=(uC h).imp fun {a b} (h:ltS a b) (e:a=b)=>oW b (e▸h)
theorem uE{l:List Str}(h:l.Nodup):(bC l).length=l.length:=Nat.le_antisymm (tA (uD h) fun x hx=>dA.mp hx) (tA h fun x hx=>dA.mpr hx)
theorem uF{l:List Str}(h:l.length < 64):fR (l.map .str)=.ok (.own (.list ((bC l).map .str))):=by
 show((ofO (strs? (l.map .str))).bind fun l=>if l.length < 64 then own (.list ((bC l).map .str)) else .no)=_;rw[iE,eZ,eY,if_pos h];rfl
theorem Sr(a b:List Str):eqO (.list (a.map .str)) (.list (b.map .str))=.ok (a==b):=by
 show(if (a.map PyData.str).length=(b.map PyData.str).length then eN (a.map .str) (b.map .str) else P.ok false)=_;rw[List.length_map,List.length_map]
 by_cases h:a.length=b.length
 ·rw[if_pos h];unfold eN;rw[iE,iE]
 ·rw[if_neg h];congr;exact(beq_false_of_ne fun e=>h (by rw[e])).symm
theorem Ss{a b:List Str}(ha:a.Nodup)(hb:b.Nodup):(bC a==bC b)=dec (∀ x,x∈a↔x∈b):=by
 refine iG (beq_iff_eq.trans ⟨fun e x=>?_,fun h=>Ct (uC ha) (uC hb) fun x=>?_⟩)
 ·rw[← dA,e,dA]
 ·rw[dA,dA];exact h x
end Mine
namespace Mine
open PySem
variable {N:List Str} {m:Nat}
theorem Su(a:PyData){v:V}{d:PyData}(hv:v.clear=.fz d):aN [.ok (.fz a),.ok v]=.ok (.fz (.tuple [a,d])):=by
 show(if [V.fz a,v.clear].length≤aX then R.ok (V.fz (.tuple (bZ [V.fz a,v.clear]))) else .no)=_;rw[hv];rfl
theorem iH(a:PyData){r:R V}{v:V}{d:PyData}(hr:r=.ok v)(hv:v.clear=.fz d):aN [.ok (.fz a),r]=.ok (.fz (.tuple [a,d])):=by simp only[hr,Su a hv]
theorem Cu{m n:Nat}{d:PyData}{t:TT}(h:Sem N m d t)(hn:m≤n):rn (n+1) "_law_copy" [.fz d]=.ok (.dp d):=by
 rw[Bm,Cg (oP h (Nat.lt_succ_of_le hn))]
theorem jM(H:Wld N){m n:Nat}{d:PyData}{t:TT}(h:Sem N m d t)(hn:m≤n):Gives (rn (n+1) "_law_copy" [.fz d]) fun d'=>Sem N m d' t:=⟨_,d,Cu h hn,rfl,h⟩
theorem Sv(n:Nat):rn (n+1) "_law_copy" [.fz .none]=.ok (.fz .none):=(Bm n _).trans rfl
theorem list_dict(l:LP):cF (.dict (mkd l))=.ok (.own (.list ((ks l).map .str))):=by
 show own (.list ((mkd l).map (·.1)))=_;simp only[B6];rfl
theorem Sw(H:Wld N):∀ {m n:Nat} {d1 d2:PyData} {t:TT},Sem N m d1 t→Sem N m d2 t→m≤n→rn (n+1) "_law_same" [.fz d1,.fz d2]=.ok (.fz (.bool true)):=by
 intro m
 induction m with
 |zero =>
  intro n d1 d2 t h1 h2 hn;cases t with
  |num i =>
   obtain⟨rfl,_⟩:=h1.num_inv;obtain⟨rfl,_⟩:=h2.num_inv;simp only[sU];show R.ok (V.fz (.bool (i==i)))=_;simp
  |br f=>obtain⟨_,_,e,_⟩:=h1.br_inv';cases e
 |succ m ih =>
  intro n d1 d2 t h1 h2 hn;cases t with
  |num i =>
   obtain⟨rfl,_⟩:=h1.num_inv;obtain⟨rfl,_⟩:=h2.num_inv;simp only[sU];show R.ok (V.fz (.bool (i==i)))=_;simp
  |br f =>
   obtain⟨_,l1,e,rfl,B1⟩:=h1.br_inv';cases e;obtain⟨_,l2,e,rfl,B2⟩:=h2.br_inv';cases e;refine exnE (c:=1) n hn hn fun n hn=>?_;have e0:aE (aH dC (ofP (cF (.dict (mkd l1))))) .NotEq (aH dC (ofP (cF (.dict (mkd l2)))))=.ok (.fz (.bool false)):=by
    simp only[list_dict,list_dict];show rb (ofP (fR ((ks l1).map .str))) (fun a=>aZ (rb (ofP (fR ((ks l2).map .str))) fun v=>ofP (cmp .NotEq (dOf a) (dOf v))))=_;rw[uF (by rw[eI];exact B1.lt H (by decide)),uF (by rw[eI];exact B2.lt H (by decide))];show aZ (ofP (b5 (eqO (.list ((bC (ks l1)).map .str)) (.list ((bC (ks l2)).map .str)))))=_;rw[Sr,Ss B1.nd B2.nd,dR.mpr fun x=>by rw[B1.mem,B2.mem]];rfl
   have e1:=oM (xs:=ks l2) (g:=fun _=>true) (e:=fun d1=>aD (rn (n+1) "_law_same") [ofP (getItem (.dict (mkd l1)) d1),ofP (getItem (.dict (mkd l2)) d1)]) fun k hk=>by
    obtain⟨dk,u,q1,q2,q3⟩:=B2.key hk;obtain⟨dk',q4,q5⟩:=B1.get q2;simp only[bI q1,bI q4];exact ih q5 q3 (Nat.le_of_succ_le_succ hn)
   simp only[sU,e0,cP,aJ,e1];show R.ok (V.fz (.bool ((ks l2).all fun _=>true)))=_;simp
theorem uG(n:Nat){d:PyData}{t:TT}(h:Sem N m d t):rn (n+1) "_law_is_table" [.fz d]=.ok (.fz (.bool (abB t))):=by
 rw[Bn];obtain⟨i,rfl,rfl,_⟩ | ⟨m,l,f,_,rfl,rfl,B⟩:=h.inv'
 ·rfl
 ·rw[cP,aJ,Sb (g:=fun x=>match lk l x with | some d=>!bE d | none=>false) fun x hx=>by
   obtain⟨d,t,h1,h2,h3⟩:=B.key hx;rw[bI h1,h1];rfl]
  show R.ok (V.fz (.bool _))=_;refine congrArg (fun b=>R.ok (V.fz (.bool b))) (iG ?_);rw[Cn];constructor
  ·intro h k t hk;obtain⟨d,h1,h2⟩:=B.get hk;have:=h k (oE h1);rw[h1] at this;obtain⟨i,rfl,rfl,_⟩ | ⟨_,l',f',_,rfl,rfl,_⟩:=h2.inv'
   ·exact btf this
   ·exact⟨_,rfl⟩
  ·intro h x hx;obtain⟨d,t,h1,h2,h3⟩:=B.key hx;obtain⟨g,rfl⟩:=h x t h2;obtain⟨_,l',_,rfl,_⟩:=h3.br_inv';rw[h1];rfl
theorem Sx(n:Nat):rn (n+1) "_law_is_table" [.fz .none]=.ok (.fz (.bool false)):=(Bn n _).trans rfl
theorem Sy(l:LP)(x:Str):eR (.dict (mkd l)) [.str x]=.ok (.fz ((lk l x).getD .none)):=by
 show fz ((bM (mkd l) x).getD .none)=_;rw[lE];rfl
theorem lM(l:LP)(x:Str):cV (so "get") (.ok (.fz (.dict (mkd l)))) [.ok (.fz (.str x))]=.ok (.fz ((lk l x).getD .none)):=by
 show ofP (eR (.dict (mkd l)) [.str x])=_;rw[Sy];rfl
theorem Sz(n:Nat){l:LP}{f:Str→Option TT}(B:Bld N m l f)(a:Str)(i:Int):rn (n+1) "_law_high" [.fz (.dict (mkd l)),.fz (.str a),.fz (.int i)]=.ok (.fz (.bool (sb a i (.br f)))):=by
 rw[Qi,lM,oJ];refine ocs (lk l a) (fun e=>?_) fun d e=>?_
 ·try rewrite[e]
  have:sb a i (.br f)=false:=jL.mpr fun ⟨j,h,_⟩=>by
   have h:f a=some (.num j):=h;rw[B.none_iff.mpr e] at h;cases h
  rw[this];rfl
 ·try rewrite[e]
  obtain⟨t,h1,h2⟩:=B.get' e;obtain⟨j,rfl,rfl,_⟩ | ⟨_,l',f',_,rfl,rfl,_⟩:=h2.inv'
  ·show R.ok (V.fz (.bool (decide (i≤j))))=_;rw[show decide (i≤j)=sb a i (.br f) from iG (decide_eq_true_iff.trans ⟨fun h=>⟨j,h1,h⟩,fun ⟨k,h,h'⟩=>by
    have h:f a=some (.num k):=h;rw[h1] at h;cases h;exact h'⟩)]
  ·have:sb a i (.br f)=false:=jL.mpr fun ⟨j,h,_⟩=>by
    have h:f a=some (.num j):=h;rw[h1] at h;cases h
   rw[this];rfl
theorem Cv(xs:List PyData):eqO (.list xs) (.list [])=.ok xs.isEmpty:=by
 cases xs with
 |nil=>rfl
 |cons x r=>rfl
theorem Cw{t:PyData→R Bool}{g:PyData→Bool}:∀ {xs:List PyData},(∀ x∈xs,t x=.ok (g x))→aU t (fun d=>.ok (.fz d)) xs=.ok (xs.filter g):=by
 intro v0
 induction v0 with
 |nil =>
  intro _;exact rfl
 |cons x r ih =>
  intro h;show rb (nx (t x)) (fun b=>if b then rb (nx (.ok (.fz x))) fun v=>rb (aU t (fun d=>.ok (.fz d)) r) fun xs=>.ok (dOf v::xs) else aU t (fun d=>.ok (.fz d)) r)=_;rw[h x (by simp),dP,aG,ih fun d hd=>h d (List.mem_cons_of_mem _ hd)];cases hg:g x
  ·rw[cZ,List.filter_cons_of_neg (by simp[hg])]
  ·rw[cI,List.filter_cons_of_pos hg];rfl
theorem Cx{xs:List PyData}{t:PyData→R Bool}{g:PyData→Bool}(h:∀ x∈xs,t x=.ok (g x)):aE (aV (.ok xs) t (fun d=>.ok (.fz d))) .NotEq (.ok (.own (.list [])))=.ok (.fz (.bool (!(xs.filter g).isEmpty))):=by
 show rb (rb (aU t (fun d=>.ok (.fz d)) xs) fun r=>ofP (own (.list r))) _=_;rw[Cw h];show aZ (ofP (b5 (eqO (.list (xs.filter g)) (.list []))))=_;rw[Cv];rfl
noncomputable def sec:PyData→PyData
 | .tuple [_,d]=>d
 |d=>d
theorem Cy(n:Nat)(ps:LP):rn (n+1) "_law_several" [.fz (.list (ps.map bA))]=if ((ps.map bA).filter fun d=>cS (sec d)).isEmpty=true then rb (ofP (b6 (.list (ps.map bA)))) R.ok else .ok (.fz .none):=by
 rw[Qt];show ifS (aE (aV (.ok (ps.map bA)) (fun d1=>tst (aE (ofP (getItem d1 (.int 1))) .Is (.ok (.fz .none)))) (fun d1=>.ok (.fz d1))) .NotEq (.ok (.own (.list [])))) _ _=_;rw[Cx (g:=fun d=>cS (sec d)) fun d hd=>by
  obtain⟨p,_,rfl⟩:=List.mem_map.mp hd;rfl]
 cases ((ps.map bA).filter fun d=>cS (sec d)).isEmpty<;>rfl
theorem Cz(n:Nat){ps:LP}{p:Str×PyData}(hp:p∈ps)(h:p.2=.none):rn (n+1) "_law_several" [.fz (.list (ps.map bA))]=.ok (.fz .none):=by
 rw[Cy,if_neg];intro he;rw[List.isEmpty_iff,List.filter_eq_nil_iff] at he;exact he (bA p) (List.mem_map_of_mem hp) (by show cS p.2=true;rw[h];rfl)
theorem C0(n:Nat){ps:LP}(h:∀ p∈ps,cS p.2=false)(hl:ps.length < 4096):rn (n+1) "_law_several" [.fz (.list (ps.map bA))]=.ok (.own (.dict (mkd (sts ps [])))):=by
 rw[Cy,if_pos,oN hl]
 ·rfl
 ·rw[List.isEmpty_iff,List.filter_eq_nil_iff];intro d hd;obtain⟨p,hp,rfl⟩:=List.mem_map.mp hd;show ¬ cS p.2=true;rw[h p hp];exact Bool.false_ne_true
theorem Sem.notNone{d:PyData}{t:TT}(h:Sem N m d t):cS d=false:=by
 obtain⟨i,rfl,rfl,_⟩ | ⟨m,l,f,_,rfl,rfl,B⟩:=h.inv'<;>rfl
end Mine
namespace Mine
open PySem
variable {N:List Str} {m:Nat}
noncomputable def bV(N:List Str)(m:Nat)(o:Option TT)(r:R V):Prop:=match o with
 |some s=>Gives r fun d=>Sem N m d s
 |none=>r=.ok (.fz .none)
theorem bV.rb{o:Option TT}{r:R V}(h:bV N m o r):bV N m o (rb r R.ok):=by
 cases o with
 |none=>have h:r=.ok (.fz .none):=h;rw[h];rfl
 |some t=>exact Gives.rb (P:=fun d=>Sem N m d t) h
theorem C2(l:LP):eT (.dict (mkd l))=.ok (.own (.list (l.map bA))):=by
 show own (.list ((mkd l).map fun p=>.tuple [p.1,p.2]))=_;simp only[mkd,List.map_map];rfl
theorem C3:∀ (a b c:LP),sts (a++b) c=sts b (sts a c):=by
 intro v0
 induction v0 with
 |nil =>
  intro _ _;exact rfl
 |cons p r ih =>
  intro b c;exact ih b (st c p.1 p.2)
noncomputable def js(vw tr one other:PyData)(j:Option V)(fo:Option V):aA:=cB (ζ vw) (ζ tr) (ζ one) (ζ other) j fo
theorem S0(H:Wld N)(n:Nat){a b:Str}{fs:List Str}{l:LP}{f:Str→Option TT}(B:Bld N m l f)(hn:m≤n):bV N (m+1) (aK (.join a b fs) (.br f)) (rn (n+2) "_law_joins" [.fz (enc (.join a b fs)),.fz (.dict (mkd l))]):=by
 simp only[Qj];show bV N (m+1) _ (rb (cV (so "get") (.ok (.fz (.dict (mkd l)))) [.ok (.fz (.str a))]) fun v1=>rb (cV (so "get") (.ok (.fz (.dict (mkd l)))) [.ok (.fz (.str b))]) fun v2=>_);simp only[lM,lM,aG,aG];have ht:∀ x,(∃ g,f x=some (.br g)∧eX g∧∃ l' m',m=m'+1∧lk l x=some (.dict (mkd l'))∧Bld N m' l' g∧rn (n+1) "_law_is_table" [.fz ((lk l x).getD .none)]=.ok (.fz (.bool true)))∨((∀ g,f x=some (.br g)→¬ eX g)∧rn (n+1) "_law_is_table" [.fz ((lk l x).getD .none)]=.ok (.fz (.bool false))):=fun x=>by
  refine ocs (lk l x) (fun e=>?_) fun d e=>?_
  ·try rewrite[e]
   exact .inr ⟨fun g hg=>(by simp only[B.none_iff.mpr e] at hg;cases hg),Sx n⟩
  ·try rewrite[e]
   obtain⟨t,h1,h2⟩:=B.get' e;show(∃ g,_∧_∧∃ l' m',m=m'+1∧some d=some (.dict (mkd l'))∧_∧rn (n+1) "_law_is_table" [.fz d]=_)∨(_∧rn (n+1) "_law_is_table" [.fz d]=_);simp only[uG n h2];obtain⟨i,_⟩ | ⟨m',l',g,B'⟩:=h2.inv
   ·exact .inr ⟨fun g hg=>(by simp only[h1] at hg;cases hg),rfl⟩
   ·by_cases hg:eX g
    ·exact .inl ⟨g,h1,hg,l',m',rfl,rfl,B',by simp only[show abB (.br g)=true from dR.mpr hg]⟩
    ·exact .inr ⟨fun g' hg'=>(by simp only[h1] at hg';cases hg';exact hg),by simp only[show abB (.br g)=false from fB.mpr hg]⟩
 simp only[bO,bO,bO,bX,bX];show bV N (m+1) _ (ifS (orS (unS .Not (rn (n+1) "_law_is_table" [.fz ((lk l a).getD .none)])) (unS .Not (rn (n+1) "_law_is_table" [.fz ((lk l b).getD .none)]))) _ _);obtain⟨g,fa,ga,l1,m',rfl,e1,B1,q1⟩ | ⟨ha,q1⟩:=ht a
 case inr=>simp only[q1,gN fun g h h1 h2 F=>ha g h1 F.ga];rfl
 obtain⟨h,fb,hb,l2,_,e,e2,B2,q2⟩ | ⟨hb,q2⟩:=ht b
 case inr=>simp only[q1,q2,gN fun g h h1 h2 F=>hb h h2 F.ha];rfl
 cases e;rw[q1,q2,e1,e2];show bV N (m'+1+1) _ (rb (ofP (items (.dict (mkd l1)))) fun l3=>aS (n9 (n+1)) oA l3 (js (enc (.join a b fs)) (.dict (mkd l)) (.dict (mkd l1)) (.dict (mkd l2)) none none) (fun σ=>sV (n+1) σ (fun _=>R.ok (.fz .none)) R.ok) R.ok);simp only[cP,aJ,aG];obtain⟨j,L1⟩:=oO (S:=fun (j:Option V)=>js (enc (.join a b fs)) (.dict (mkd l)) (.dict (mkd l1)) (.dict (mkd l2)) j none) (b:=n9 (n+1)) (t:=oA) (c:=gM g (·∈fs)) (v:=.fz .none) (xs:=ks l1) (fun x hx j=>⟨some (.fz (.str x)),fun kn kr=>by
  obtain⟨d,t,h1,h2,h3⟩:=B1.key hx;obtain⟨r1,rfl⟩:=ga x t h2;obtain⟨_,lr,_,rfl,Br⟩:=h3.br_inv';unfold js;simp only[Qk,aJ,aG,Ql];exact oU (Co a b fs) (Cq fs) Br h1 h2 _ _⟩) none
 simp only[L1,oS B1]
 by_cases c1:lL g (·∈fs)
 case neg=>rw[fB.mpr c1,gN fun g' h' h1 h2 F=>by rw[fa] at h1;cases h1;exact c1 F.gf];rfl
 simp only[dR.mpr c1,cI];unfold js;simp only[Qm];show bV N (m'+1+1) _ (rb (ofP (items (.dict (mkd l2)))) fun l3=>aS (oB (n+1)) oC l3 (js (enc (.join a b fs)) (.dict (mkd l)) (.dict (mkd l1)) (.dict (mkd l2)) j none) (fun σ=>sW (n+1) σ (fun _=>R.ok (.fz .none)) R.ok) R.ok);simp only[cP,aJ,aG];obtain⟨j2,L2⟩:=oO (S:=fun (j:Option V)=>js (enc (.join a b fs)) (.dict (mkd l)) (.dict (mkd l1)) (.dict (mkd l2)) j none) (b:=oB (n+1)) (t:=oC) (c:=gM h (·∉fs)) (v:=.fz .none) (xs:=ks l2) (fun x hx j=>⟨some (.fz (.str x)),fun kn kr=>by
  obtain⟨d,t,h1,h2,h3⟩:=B2.key hx;obtain⟨r1,rfl⟩:=hb x t h2;obtain⟨_,lr,_,rfl,Br⟩:=h3.br_inv';unfold js;simp only[Qn,aJ,aG,Qo];exact oU (Cp a b fs) (Cr fs) Br h1 h2 _ _⟩) j
 simp only[L2,oS B2]
 by_cases c2:lL h (·∉fs)
 case neg=>rw[fB.mpr c2,gN fun g' h' h1 h2 F=>by rw[fb] at h2;cases h2;exact c2 F.hf];rfl
 rw[dR.mpr c2,cI];unfold js;simp only[Qp];show bV N (m'+1+1) _ (rb (ofP (items (.dict (mkd l1)))) fun l3=>aS (kY (n+1)) kZ l3 (js (enc (.join a b fs)) (.dict (mkd l)) (.dict (mkd l1)) (.dict (mkd l2)) j2 (some (.own (.dict [])))) (fun σ=>sX (n+1) σ (fun _=>R.ok (.fz .none)) R.ok) R.ok);simp only[cP,aJ,aG];have hyes:aK (.join a b fs) (.br f)=some (.br (iC g h)):=(By (t:=.br f) fa fb).trans (eG ⟨ga,hb,c1,c2⟩ _);simp only[hyes];have L:=t0 H (m:=m') (S:=fun (c:LP) (j:Option V)=>js (enc (.join a b fs)) (.dict (mkd l)) (.dict (mkd l1)) (.dict (mkd l2)) j (some (.own (.dict (mkd c))))) (b:=kY (n+1)) (t:=kZ) (xs:=ks l1) (j:=j2) (iC g h) (E:=fun _=>False) fun k hk c j ha=>by
  obtain⟨d,t,h1,h2,h3⟩:=B1.key hk;obtain⟨r1,rfl⟩:=ga k t h2;obtain⟨m',lr,Br⟩:=h3.br_inv;refine⟨B1.sub k hk,?_⟩;have hb':∀ kn kr,(rb (ofP (aW kZ (.str k) (js (enc (.join a b fs)) (.dict (mkd l)) (.dict (mkd l1)) (.dict (mkd l2)) j (some (.own (.dict (mkd c))))))) fun σ=>kY (n+1) σ kn kr)=ifS (.ok (.fz (.bool (lk l2 k).isSome))) (bT (aH b6 (aB .Add (.ok (.own (.list (lr.map bA)))) (aH eT (ofP (getItem (.dict (mkd l2)) (.str k)))))) (.ok (.dict (mkd c))) (.ok (.fz (.str k))) fun o3=>kn (js (enc (.join a b fs)) (.dict (mkd l)) (.dict (mkd l1)) (.dict (mkd l2)) (ζ (.str k)) (some (.own o3)))) (kn (js (enc (.join a b fs)) (.dict (mkd l)) (.dict (mkd l1)) (.dict (mkd l2)) (ζ (.str k)) (some (.own (.dict (mkd c)))))):=fun kn kr=>by
   unfold js;simp only[Qq,aJ,aG,Qr];show ifS (aZ (ofP (Mine.contains (.str k) (.dict (mkd l2))))) (bT (aH b6 (aB .Add (aH eT (ofP (getItem (.dict (mkd l1)) (.str k)))) (aH eT (ofP (getItem (.dict (mkd l2)) (.str k)))))) _ _ _) _=_;simp only[fA,bI h1,show aH eT (ofP (.ok (.fz (.dict (mkd lr)))))=.ok (.own (.list (lr.map bA))) from congrArg ofP (C2 lr)];rfl
  refine ocs (lk l2 k) (fun hk2=>?_) fun d2 hk2=>?_
  ·try rewrite[hk2]
   refine .inl ⟨?_,some (.fz (.str k)),fun kn kr=>(hb' kn kr).trans (by simp only[hk2];rfl)⟩;show(g k).bind (fun r=>(h k).bind _)=none;simp only[h2,B2.none_iff.mpr hk2];rfl
  ·try rewrite[hk2]
   obtain⟨t2,q1,q2⟩:=B2.get' hk2;obtain⟨r2,rfl⟩:=hb k t2 q1;obtain⟨_,lr2,e,rfl,Br2⟩:=q2.br_inv';cases e;have hl1:=Br.len;have hl2:=Br2.len;have hN:=H.len;refine .inr (.inl ⟨.dict (mkd (sts (lr++lr2) [])),s8 (.br r1) (.br r2),some (.fz (.str k)),?_,?_,fun kn kr=>(hb' kn kr).trans ?_⟩)
   ·show(g k).bind (fun r=>(h k).bind _)=_;simp only[h2,q1];rfl
   ·simp only[C3];exact(((Bld.nil.upd Br).upd Br2).ext fun x=>by simp[gJ]).toSem
   ·simp only[hk2,bI hk2,show aH eT (ofP (.ok (.fz (.dict (mkd lr2)))))=.ok (.own (.list (lr2.map bA))) from congrArg ofP (C2 lr2)];show rb (rb (ofP (jW .Add (lr.map bA) (.list (lr2.map bA)))) fun v=>ofP (b6 (dOf v))) _=_;rw[show jW .Add (lr.map bA) (.list (lr2.map bA))=.ok (.own (.list ((lr++lr2).map bA))) from by
     show(if jV .Add=true∧(lr.map bA).length+(lr2.map bA).length≤aX then P.ok (V.own (.list (lr.map bA++lr2.map bA))) else .no)=_;rw[if_pos ⟨rfl,by have:aX=16777216:=rfl;simp only[List.length_map];exact Fh hl1 hl2 hN this⟩,List.map_append]]
    show rb (ofP (b6 (.list ((lr++lr2).map bA)))) _=_;rw[oN (by rw[List.length_append];exact Fg hl1 hl2 hN)];show rb (ofP (Mine.setItem (.dict (mkd c)) (.str k) _)) _=_;simp only[eH k _ ha];rfl
 obtain⟨c,j,hi,e⟩ | ⟨_,hx,_⟩:=L
 ·have hs:Sem N (m'+1) (.dict (mkd c)) (.br (iC g h)):=(B1.all (fun k h=>by show(g k).bind _=none;simp only[h];rfl) hi).toSem;simp only[show js (enc (.join a b fs)) (.dict (mkd l)) (.dict (mkd l1)) (.dict (mkd l2)) j2 (some (.own (.dict [])))=js (enc (.join a b fs)) (.dict (mkd l)) (.dict (mkd l1)) (.dict (mkd l2)) j2 (some (.own (.dict (mkd [])))) from rfl,e];unfold js;simp only[Qs];obtain⟨v,d,g1,g2,g3⟩:=(jM H hs (n:=n) hn).rb;exact⟨v,d,g1,g2,g3.mono (Nat.le_succ _)⟩
 ·exact hx.elim
end Mine
namespace Mine
open PySem
variable {N:List Str} {m:Nat}
section
theorem S4(n:Nat)(d:PyData):rn (n+1) "_law_seen" [.fz (enc .whole),.fz d]=rb (rn n "_law_copy" [.fz d]) R.ok:=by kernel_rfl
theorem S5(n:Nat)(a b:WW)(d:PyData):rn (n+1) "_law_seen" [.fz (enc (.andThen a b)),.fz d]=rb (rn n "_law_seen" [.fz (enc a),.fz d]) fun v=>rb (dN (aE (ofP (rdv v.clear)) .Is (.ok (.fz .none))) (.ok (.fz .none)) (aD (rn n "_law_seen") [.ok (.fz (enc b)),bB v.clear])) R.ok:=by kernel_rfl
theorem S6(n:Nat)(x:Str)(i:Int):rn (n+1) "_law_seen" [.fz (enc (.pick x)),.fz (.int i)]=.ok (.fz .none):=by kernel_rfl
theorem S7(n:Nat)(x y:Str)(i:Int):rn (n+1) "_law_seen" [.fz (enc (.call x y)),.fz (.int i)]=.ok (.fz .none):=by kernel_rfl
theorem S8(n:Nat)(x:Str)(y i:Int):rn (n+1) "_law_seen" [.fz (enc (.sift x y)),.fz (.int i)]=.ok (.fz .none):=by kernel_rfl
theorem S9(n:Nat)(x y:Str)(fs:List Str)(i:Int):rn (n+1) "_law_seen" [.fz (enc (.join x y fs)),.fz (.int i)]=.ok (.fz .none):=by kernel_rfl
theorem Ta(n:Nat)(v:WW)(i:Int):rn (n+1) "_law_seen" [.fz (enc (.each v)),.fz (.int i)]=.ok (.fz .none):=by kernel_rfl
theorem Tc(n:Nat)(v:WW)(i:Int):rn (n+1) "_law_seen" [.fz (enc (.beside v)),.fz (.int i)]=.ok (.fz .none):=by kernel_rfl
theorem Td(n:Nat)(x:Str)(l:List (PyData×PyData)):rn (n+1) "_law_seen" [.fz (enc (.pick x)),.fz (.dict l)]=rb (aD (rn n "_law_copy") [cV (so "get") (.ok (.fz (.dict l))) [.ok (.fz (.str x))]]) R.ok:=by kernel_rfl
theorem Te(n:Nat)(x y:Str)(l:List (PyData×PyData)):rn (n+1) "_law_seen" [.fz (enc (.call x y)),.fz (.dict l)]=ifS (orS (aZ (ofP (b5 (Mine.contains (.str x) (.dict l))))) (aZ (ofP (Mine.contains (.str y) (.dict l))))) (.ok (.fz .none)) (rb (aV (ofP (items (.dict l))) (fun d3=>tst (aZ (ofP (cmp .NotEq d3 (.str x))))) (fun d3=>aN [.ok (.fz d3),aD (rn n "_law_copy") [ofP (getItem (.dict l) d3)]])) fun v4=>rb (aH b6 (aB .Add (ofP (rdv v4.clear)) (eD [aN [.ok (.fz (.str y)),aD (rn n "_law_copy") [ofP (getItem (.dict l) (.str x))]]]))) R.ok):=by kernel_rfl
theorem Tf(n:Nat)(r:WW)(l:List (PyData×PyData)):rn (n+1) "_law_seen" [.fz (enc (.beside r)),.fz (.dict l)]=ifS (aE (aV (ofP (items (enc r))) (fun d5=>tst (aE (ofP (getItem d5 (.int 1))) .NotIn (.ok (.fz (.dict l))))) (fun d5=>.ok (.fz d5))) .NotEq (.ok (.own (.list [])))) (.ok (.fz .none)) (rb (aD (rn n "_law_several") [aV (ofP (items (enc r))) (fun d7=>.ok true) (fun d7=>aN [ofP (getItem d7 (.int 0)),aD (rn n "_law_seen") [ofP (getItem d7 (.int 2)),aI (.ok (.dict l)) (ofP (getItem d7 (.int 1)))]])]) R.ok):=by kernel_rfl
theorem Th(n:Nat)(v:WW)(l:List (PyData×PyData)):rn (n+1) "_law_seen" [.fz (enc (.each v)),.fz (.dict l)]=rb (aD (rn n "_law_several") [aV (ofP (items (.dict l))) (fun d9=>.ok true) (fun d9=>aN [.ok (.fz d9),aD (rn n "_law_seen") [.ok (.fz (enc v)),ofP (getItem (.dict l) d9)]])]) R.ok:=by kernel_rfl
theorem Ti(n:Nat)(x y:Str)(fs:List Str)(l:List (PyData×PyData)):rn (n+1) "_law_seen" [.fz (enc (.join x y fs)),.fz (.dict l)]=rb (rn n "_law_joins" [.fz (enc (.join x y fs)),.fz (.dict l)]) R.ok:=by kernel_rfl
theorem Tj(n:Nat)(x:Str)(i:Int)(l:List (PyData×PyData)):rn (n+1) "_law_seen" [.fz (enc (.sift x i)),.fz (.dict l)]=ifS (unS .Not (rn n "_law_is_table" [.fz (.dict l)])) (.ok (.fz .none)) (rb (aH b6 (aV (ofP (items (.dict l))) (fun d10=>tst (aD (rn n "_law_high") [ofP (getItem (.dict l) d10),.ok (.fz (.str x)),.ok (.fz (.int i))])) (fun d10=>aN [.ok (.fz d10),aD (rn n "_law_copy") [ofP (getItem (.dict l) d10)]]))) R.ok):=by kernel_rfl
end
theorem Tk:∀ {r:WW} {f:Str→Option TT} {z:TT},r.isRows=true→r.wf→aK r (.br f)=some z→∀ p∈r.parts,(f p).isSome=true:=by
 intro r
 induction r with
 |bnil=>intro f z _ _ _ p hp;exact cD hp
 |bcons n p v r ihv ihr =>
  intro f z _ hw h q hq;obtain⟨x,h1,h⟩:=bind_some h;obtain⟨y,h2,h⟩:=bind_some h;obtain⟨z1,h3,h⟩:=bind_some h;rcases List.mem_cons.mp (show q∈p::r.parts from hq) with rfl | hq
  ·have h1:f q=some x:=h1;rw[h1];rfl
  ·exact ihr hw.2.1.2 hw.2.1.1 h3 q hq
 |_=>intro f z h;exact bft h
noncomputable def uH:PyData→Str
 | .tuple [_,.str p,_]=>p
 |_=>⟨#[]⟩
theorem Tm{l:LP}:∀ {r:WW},r.isRows=true→okW N r→(∀ d∈a9 r,tst (aE (ofP (getItem d (.int 1))) .NotIn (.ok (.fz (.dict (mkd l)))))=.ok (!(lk l (uH d)).isSome))∧(((a9 r).filter fun d=>!(lk l (uH d)).isSome).isEmpty=true↔∀ p∈r.parts,(lk l p).isSome=true):=by
 intro r
 induction r with
 |bnil=>intro _ _;exact⟨fun d hd=>(by exact cD hd),⟨fun _ _ h=>cD h,fun _=>rfl⟩⟩
 |bcons n p v r ihv ihr =>
  intro _ ho;obtain⟨i1,i2⟩:=ihr ho.2.2.1.2 ho.2.2.1.1;refine⟨fun d hd=>?_,?_⟩
  ·rcases List.mem_cons.mp (show d∈.tuple [.str n,.str p,enc v]::a9 r from hd) with rfl | hd
   ·show tst (aZ (ofP (b5 (Mine.contains (.str p) (.dict (mkd l))))))=_;rw[fA];rfl
   ·exact i1 d hd
  ·rw[List.isEmpty_iff] at i2 ⊢;show List.filter _ (.tuple [.str n,.str p,enc v]::a9 r)=[]↔∀ q∈p::r.parts,_;rw[List.forall_mem_cons,← i2,List.filter_cons];show(if (!(lk l p).isSome)=true then _ else _)=[]↔_;cases (lk l p).isSome<;>simp
 |_=>intro h;exact bft h
noncomputable def uI(n:Nat)(l:LP):PyData→R V:=fun d7=>aN [ofP (getItem d7 (.int 0)),aD (rn n "_law_seen") [ofP (getItem d7 (.int 2)),aI (.ok (.dict (mkd l))) (ofP (getItem d7 (.int 1)))]]
inductive SeenW(N:List Str)(m:Nat)(r:R (List PyData))(nm:List Str)(o:Option TT):Prop where
 |mk (ps:LP) (e1:r=.ok (ps.map bA)) (e2:ks ps=nm) (e3:(∃ z,o=some z∧∀ p∈ps,p.1∈N∧∃ u,z.get p.1=some u∧Sem N m p.2 u)∨o=none∧∃ p∈ps,p.2=.none):SeenW N m r nm o
noncomputable def Tn(N:List Str)(w:WW):Prop:=∀ {m n d t},w.hgt+m+3≤n→Sem N m d t→bV N m (aK w t) (rn n "_law_seen" [.fz (enc w),.fz d])
noncomputable def To(N:List Str)(w:WW):Prop:=∀ {m n l f},w.hgt+m+3≤n→Bld N m l f→(∀ p∈w.parts,(f p).isSome=true)→SeenW N m (aU (fun _=>.ok true) (uI n l) (a9 w)) w.names (aK w (.br f))
structure SeenS(N:List Str)(w:WW):Prop where
 a:w.isRows=false→Tn N w
 b:w.isRows=true→To N w
theorem C4(H:Wld N):∀ {w:WW},okW N w→SeenS N w:=by
 intro w
 induction w with
 |whole =>
  refine fun _=>⟨fun _ m n d t hn hd=>?_,fun h=>by exact bft h⟩
  refine exnE (c:=2) n hn hn fun n hn=>?_;rw[S4];exact(jM H hd (by exact Fi hn)).rb
 |pick x =>
  refine fun _=>⟨fun _ m n d t hn hd=>?_,fun h=>by exact bft h⟩
  refine exnE (c:=2) n hn hn fun n hn=>?_
  revert hn;refine hd.by (fun m i _ hn=>?_) fun m l f B hn=>?_
  ·exact S6 _ _ _
  ·rw[Td,lM];refine bV.rb ?_;show bV N (m+1) (f x) (rn (n+1) "_law_copy" [.fz ((lk l x).getD .none)]);refine ocs (f x) (fun e=>?_) fun u e=>?_
   ·try rewrite[e]
    rw[B.none_iff.mp e];exact Sv n
   ·try rewrite[e]
    obtain⟨d,h1,h2⟩:=B.get e;rw[h1];obtain⟨v,d',g1,g2,g3⟩:=jM H h2 (n:=n) (by exact lT hn);exact⟨v,d',g1,g2,g3.mono (Nat.le_succ _)⟩
 |call x y =>
  refine fun ho=>⟨fun _ m n d t hn hd=>?_,fun h=>by exact bft h⟩
  refine exnE (c:=2) n hn hn fun n hn=>?_
  revert hn;refine hd.by (fun m i _ hn=>?_) fun m l f B hn=>?_
  ·rw[show aK (.call x y) (.num i:TT)=none from dO (fun h=>by cases h.1) _];exact S7 _ _ _ _
  ·rw[Te,fA,fA,B.dom,B.dom];show bV N (m+1) (grd ((f x).isSome=true∧f y=none) (some (.br (lD x y f)))) _
   by_cases hc:(f x).isSome=true∧f y=none
   case neg =>
    rw[dO hc];cases e1:f x with
    |none=>rfl
    |some u =>
     refine ocs (f y) (fun e2=>?_) fun v e2=>?_
     ·try rewrite[e2]
      exact absurd ⟨by rw[e1];rfl,e2⟩ hc
     ·try rewrite[e2]
      rfl
   rw[eG hc,hc.1,hc.2];obtain⟨u,hu⟩:=oV hc.1;obtain⟨dx,q1,q2⟩:=B.get hu;obtain⟨v,dx',g1,g2,g3⟩:=jM H q2 (n:=n) (by exact lT hn);obtain⟨ps,e1,e2,e3,e4⟩:=Ce (N:=N) (m:=m) (F:=fun k=>if k=x then none else f k) (t:=fun d3=>tst (aZ (ofP (cmp .NotEq d3 (.str x))))) (e:=fun d3=>aN [.ok (.fz d3),aD (rn (n+1) "_law_copy") [ofP (getItem (.dict (mkd l)) d3)]]) (xs:=ks l) fun k hk=>by
    obtain⟨d,u,h1,h2,h3⟩:=B.key hk;refine⟨B.sub k hk,?_⟩;show(R.ok (!(k==x))=_∧_)∨R.ok (!(k==x))=_∧_
    by_cases e:k=x
    ·exact .inl ⟨by simp[e],by simp[e]⟩
    ·obtain⟨v,d',e1,e2,e3⟩:=jM H h3 (n:=n) (by exact lT hn);refine .inr ⟨by simp[e],.fz (.tuple [.str k,d']),d',u,?_,rfl,by simp only[if_neg e];exact h2,e3⟩;rw[bI h1];exact iH _ e1 e2
   have hl:=B.lt H (k:=1000) (by decide);rw[eI] at e2;refine⟨.own (.dict (mkd (sts (ps++[(y,dx')]) []))),_,?_,rfl,?_⟩
   ·rw[cP,bI q1];show rb (rb (aU _ _ ((ks l).map .str)) fun r=>ofP (own (.list r))) (fun v4=>rb (aH b6 (aB .Add (ofP (rdv v4.clear)) (eD [aN [.ok (.fz (.str y)),rn (n+1) "_law_copy" [.fz dx]]]))) R.ok)=_;rw[e1,iH _ g1 g2];show rb (rb (ofP (jW .Add (ps.map bA) (.list [.tuple [.str y,dx']]))) fun v=>ofP (b6 (dOf v))) R.ok=_;rw[show jW .Add (ps.map bA) (.list [.tuple [.str y,dx']])=.ok (.own (.list ((ps++[(y,dx')]).map bA))) from by
     show(if jV .Add=true∧(ps.map bA).length+1≤aX then P.ok (V.own (.list (ps.map bA++[.tuple [.str y,dx']]))) else .no)=_;rw[if_pos ⟨rfl,by have:aX=16777216:=rfl;simp only[List.length_map];exact Fj e2 hl this⟩,List.map_append];rfl]
    show rb (ofP (b6 (.list ((ps++[(y,dx')]).map bA)))) R.ok=_;rw[oN (by rw[List.length_append];simp only[List.length_singleton];exact Fk e2 hl)];rfl
   ·rw[C3];refine(((jJ (F:=fun k=>if k=x then none else f k) Bld.nil e4).set ho.2.1 g3).ext fun k=>?_).toSem;simp only[upd,lD]
    by_cases ky:k=y
    ·rw[if_pos ky,if_pos ky,hu]
    ·rw[if_neg ky,if_neg ky]
     by_cases kx:k=x
     ·rw[if_pos kx];simp[kx]
     ·rw[if_neg kx]
      by_cases hk:k∈ks ps
      ·rw[if_pos hk]
      ·rw[if_neg hk];refine ocs (f k) (fun ef=>?_) fun u ef=>?_
       ·try rewrite[ef]
        rfl
       ·try rewrite[ef]
        exact absurd ((e3 k).mpr ⟨B.mem.mpr (by rw[ef];rfl),by simp[kx,ef]⟩) hk
 |sift x i =>
  refine fun _=>⟨fun _ m n d t hn hd=>?_,fun h=>by exact bft h⟩
  refine exnE (c:=2) n hn hn fun n hn=>?_
  revert hn;refine hd.by (fun m i _ hn=>?_) fun m l f B hn=>?_
  ·exact S8 _ _ _ _
  ·rw[Tj,uG n B.toSem];show bV N (m+1) (grd (eX f) (some (.br (iD x i f)))) _
   by_cases hc:eX f
   case neg=>rw[dO hc,show abB (.br f)=false from fB.mpr hc];rfl
   rw[eG hc,show abB (.br f)=true from dR.mpr hc];obtain⟨l',e,C⟩:=Re (N:=N) (m:=m) (F:=iD x i f) (t:=fun d10=>tst (aD (rn (n+1) "_law_high") [ofP (getItem (.dict (mkd l)) d10),.ok (.fz (.str x)),.ok (.fz (.int i))])) (e:=fun d10=>aN [.ok (.fz d10),aD (rn (n+1) "_law_copy") [ofP (getItem (.dict (mkd l)) d10)]]) (xs:=ks l) (by rw[eI];exact B.lt H (by decide)) fun k hk=>by
    obtain⟨d,u,h1,h2,h3⟩:=B.key hk;obtain⟨g,rfl⟩:=hc k u h2;obtain⟨_,lr,_,rfl,Br⟩:=h3.br_inv';refine⟨B.sub k hk,?_⟩;rw[bI h1,show iD x i f k=grd (jH x i (.br g)) (some (.br g)) from by show(f k).bind _=_;rw[h2];rfl];show(tst (rn (n+1) "_law_high" [.fz (.dict (mkd lr)),.fz (.str x),.fz (.int i)])=_∧_)∨tst (rn (n+1) "_law_high" [.fz (.dict (mkd lr)),.fz (.str x),.fz (.int i)])=_∧_;rw[Sz n Br x i];refine bcs (sb x i (.br g)) (fun hs=>?_) fun hs=>?_
    ·try rewrite[hs]
     exact .inl ⟨rfl,dO (jL.mp hs) _⟩
    ·try rewrite[hs]
     obtain⟨v,d',e1,e2,e3⟩:=jM H h3 (n:=n) (by exact lT hn);exact .inr ⟨rfl,.fz (.tuple [.str k,d']),d',.br g,iH _ e1 e2,rfl,eG (Cl.mp hs) _,e3⟩
   refine⟨.own (.dict (mkd l')),_,?_,rfl,(B.all (fun k h=>by show(f k).bind _=none;rw[h];rfl) C).toSem⟩;rw[cP,aJ,e];rfl
 |join a b fs =>
  refine fun _=>⟨fun _ m n d t hn hd=>?_,fun h=>by exact bft h⟩
  refine exnE (c:=3) n hn hn fun n hn=>?_
  revert hn;refine hd.by (fun m i _ hn=>?_) fun m l f B hn=>?_
  ·exact S9 _ _ _ _ _
  ·rw[Ti];exact(S0 H n B (by exact Fl hn)).rb
 |each v ih =>
  refine fun ho=>⟨fun _ m n d t hn hd=>?_,fun h=>by exact bft h⟩
  have hn:v.hgt+1+m+3≤n:=hn;refine exnE (c:=2) n hn hn fun n hn=>?_
  revert hn;refine hd.by (fun m i _ hn=>?_) fun m l f B hn=>?_
  ·exact Ta _ _ _
  ·have key:∀ xs:List Str,(∀ x∈xs,x∈ks l)→∃ ps:LP,aU (fun _=>.ok true) (fun d9=>aN [.ok (.fz d9),aD (rn (n+1) "_law_seen") [.ok (.fz (enc v)),ofP (getItem (.dict (mkd l)) d9)]]) (xs.map .str)=.ok (ps.map bA)∧ks ps=xs∧∀ p∈ps,(p.2=.none∧(f p.1).bind (aK v)=none∧(f p.1).isSome=true)∨∃ u,(f p.1).bind (aK v)=some u∧Sem N m p.2 u:=by
    intro xs
    induction xs with
    |nil=>exact fun _=>⟨[],rfl,rfl,fun p hp=>by exact cD hp⟩
    |cons x r ihx =>
     intro hx;obtain⟨ps,e1,e2,e3⟩:=ihx fun y hy=>hx y (List.mem_cons_of_mem _ hy);obtain⟨d,u,h1,h2,h3⟩:=B.key (hx x (by simp));have hv:=(ih ho.1).1 ho.2 (n:=n+1) (by exact vJ hn) h3;have hs:aU (fun _=>.ok true) (fun d9=>aN [.ok (.fz d9),aD (rn (n+1) "_law_seen") [.ok (.fz (enc v)),ofP (getItem (.dict (mkd l)) d9)]]) ((x::r).map .str)=rb (nx (aN [.ok (.fz (.str x)),aD (rn (n+1) "_law_seen") [.ok (.fz (enc v)),ofP (getItem (.dict (mkd l)) (.str x))]])) fun w=>rb (.ok (ps.map bA)) fun xs=>.ok (dOf w::xs):=by rw[← e1];rfl
     rw[hs,bI h1];refine ocs (aK v u) (fun hsu=>?_) fun s hsu=>?_
     ·try rewrite[hsu]
      rw[hsu] at hv;refine⟨(x,.none)::ps,?_,by rw[← e2];rfl,fun p hp=>?_⟩
      ·rw[iH (.str x) (show aD (rn (n+1) "_law_seen") [.ok (.fz (enc v)),ofP (.ok (.fz d))]=.ok (.fz .none) from hv) rfl];rfl
      ·rcases List.mem_cons.mp hp with rfl | hp
       ·exact .inl ⟨rfl,by show(f x).bind _=none;rw[h2];exact hsu,by show(f x).isSome=true;rw[h2];rfl⟩
       ·exact e3 p hp
     ·try rewrite[hsu]
      rw[hsu] at hv;obtain⟨w,d',g1,g2,g3⟩:=hv;refine⟨(x,d')::ps,?_,by rw[← e2];rfl,fun p hp=>?_⟩
      ·rw[iH (.str x) (show aD (rn (n+1) "_law_seen") [.ok (.fz (enc v)),ofP (.ok (.fz d))]=.ok w from g1) g2];rfl
      ·rcases List.mem_cons.mp hp with rfl | hp
       ·exact .inr ⟨s,by show(f x).bind _=_;rw[h2];exact hsu,g3⟩
       ·exact e3 p hp
   obtain⟨ps,e1,e2,e3⟩:=key (ks l) fun _ h=>h;have hl:ps.length < 4096:=by
    have:=congrArg List.length e2;rw[eI,eI] at this;have:=B.lt H (k:=4096) (by decide);lia
   rw[Th,cP];refine bV.rb ?_;show bV N (m+1) (grd _ _) (aD (rn (n+1) "_law_several") [rb (aU _ _ ((ks l).map .str)) fun r=>ofP (own (.list r))]);rw[e1];show bV N (m+1) (grd _ _) (rn (n+1) "_law_several" [.fz (.list (ps.map bA))])
   by_cases hc:∀ k x,f k=some x→(aK v x).isSome=true
   ·rw[eG hc];have e4:∀ p∈ps,∃ u,(f p.1).bind (aK v)=some u∧Sem N m p.2 u:=fun p hp=>by
     rcases e3 p hp with ⟨_,h2,h3⟩ | h
     ·obtain⟨u,hu⟩:=oV h3;rw[hu] at h2;have:=hc p.1 u hu;rw[show aK v u=none from h2] at this;exact bft this
     ·exact h
    refine⟨_,_,C0 n (fun p hp=>?_) hl,rfl,((jJ (F:=fun k=>(f k).bind (aK v)) Bld.nil fun p hp=>⟨?_,e4 p hp⟩).ext fun k=>?_).toSem⟩
    ·obtain⟨u,_,h⟩:=e4 p hp;exact h.notNone
    ·exact B.sub p.1 (e2▸List.mem_map_of_mem (f:=(·.1)) hp)
    ·rw[e2]
     by_cases hk:k∈ks l
     ·rw[if_pos hk]
     ·rw[if_neg hk];refine ocs (f k) (fun ef=>?_) fun u ef=>?_
      ·try rewrite[ef]
       rfl
      ·try rewrite[ef]
       exact absurd (B.mem.mpr (by rw[ef];rfl)) hk
   ·rw[dO hc];simp only[Classical.not_forall] at hc;obtain⟨k,x,hk,hx⟩:=hc;have hkl:k∈ks ps:=e2▸B.mem.mpr (by rw[hk];rfl);obtain⟨p,hp,rfl⟩:=List.mem_map.mp hkl;rcases e3 p hp with ⟨h1,_,_⟩ | ⟨u,h,_⟩
    ·exact Cz n hp h1
    ·rw[hk] at h;rw[show aK v x=some u from h] at hx;exact absurd rfl hx
 |andThen a b iha ihb =>
  refine fun ho=>⟨fun _ m n d t hn hd=>?_,fun h=>by exact bft h⟩
  have hn:max a.hgt b.hgt+1+m+3≤n:=hn;refine exnE (c:=1) n hn hn fun n hn=>?_;have ha:=(iha ho.1.1).1 ho.1.2 (n:=n) (by exact Fm hn) hd;rw[S5];show bV N m ((aK a t).bind (aK b)) _;refine ocs (aK a t) (fun hs=>?_) fun mid hs=>?_
  ·try rewrite[hs]
   rw[hs] at ha;have ha:rn n "_law_seen" [.fz (enc a),.fz d]=.ok (.fz .none):=ha;rw[ha];rfl
  ·try rewrite[hs]
   rw[hs] at ha;obtain⟨v,d',g1,g2,g3⟩:=ha;rw[g1,aG,g2,Option.bind_some];refine bV.rb ?_;show bV N m _ (dN (.ok (.fz (.bool (cS d')))) (.ok (.fz .none)) (rn n "_law_seen" [.fz (enc b),.fz d']));rw[g3.notNone];exact(ihb ho.2.1).1 ho.2.2 (n:=n) (by exact Fn hn) g3
 |beside r ih =>
  refine fun ho=>⟨fun _ m n d t hn hd=>?_,fun h=>by exact bft h⟩
  have hn:r.hgt+1+m+3≤n:=hn;refine exnE (c:=2) n hn hn fun n hn=>?_
  revert hn;refine hd.by (fun m i _ hn=>?_) fun m l f B hn=>?_
  ·have:aK (.beside r) (.num i:TT)=none:=by
    cases r with
    |bcons=>rfl
    |bnil=>have:=ho.2.1;simp[lB,lC] at this
    |_=>cases ho.1.2
   rw[this];exact Tc _ _ _
  ·obtain⟨f1,f2⟩:=Tm (l:=l) ho.1.2 ho.1.1;rw[Tf,oQ ho.1.2];show bV N (m+1) (aK r (.br f)) (ifS (aE (aV (.ok (a9 r)) _ _) _ _) _ _);rw[Cx f1]
   by_cases hp:∀ p∈r.parts,(f p).isSome=true
   case neg =>
    have:((a9 r).filter fun d=>!(lk l (uH d)).isSome).isEmpty=false:=by
     rw[Bool.eq_false_iff];exact fun h=>hp fun p hp=>by rw[← B.dom];exact f2.mp h p hp
    rw[this];refine ocs (aK r (.br f)) (fun hs=>?_) fun z hs=>?_
    ·try rewrite[hs]
     rfl
    ·try rewrite[hs]
     exact absurd (Tk ho.1.2 ho.1.1.wf hs) hp
   rw[f2.mpr fun p h=>by rw[B.dom];exact hp p h];obtain⟨ps,e1,e2,e3⟩:=(ih ho.1.1).2 ho.1.2 (n:=n+1) (by exact vJ hn) B hp;have hl:ps.length < 4096:=by
    have:=congrArg List.length e2;rw[eI] at this;have:=ho.2.2;lia
   show bV N (m+1) _ (rb (aD (rn (n+1) "_law_several") [rb (aU (fun _=>.ok true) (uI (n+1) l) (a9 r)) fun r=>ofP (own (.list r))]) R.ok);refine bV.rb ?_;rw[e1];show bV N (m+1) _ (rn (n+1) "_law_several" [.fz (.list (ps.map bA))]);rcases e3 with ⟨z,hz,e4⟩ | ⟨hz,p,hp,h0⟩
   ·obtain⟨zf,rfl,hd⟩:=uA ho.1.2 ho.1.1.wf hz;rw[hz];refine⟨_,_,C0 n (fun p hp=>?_) hl,rfl,((jJ (F:=zf) Bld.nil e4).ext fun k=>?_).toSem⟩
    ·obtain⟨_,u,_,h⟩:=e4 p hp;exact h.notNone
    ·rw[e2]
     by_cases hk:k∈r.names
     ·rw[if_pos hk]
     ·rw[if_neg hk];refine ocs (zf k) (fun ef=>?_) fun u ef=>?_
      ·try rewrite[ef]
       rfl
      ·try rewrite[ef]
       exact absurd ((hd k).mp (by rw[ef];rfl)) hk
   ·rw[hz];exact Cz n hp h0
 |bnil =>
  exact fun _=>⟨fun h=>(by cases h),fun _ m n l f hn B hp=>⟨[],rfl,rfl,.inl ⟨_,rfl,fun p hp=>by cases hp⟩⟩⟩
 |bcons x p v r ihv ihr =>
  refine fun ho=>⟨fun h=>(by exact btf h),fun _ m n l f hn B hp=>?_⟩
  have hn:max v.hgt r.hgt+m+3≤n:=hn;obtain⟨ps,e1,e2,e3⟩:=(ihr ho.2.2.1.1).2 ho.2.2.1.2 (n:=n) (by exact Fo hn) B fun q hq=>hp q (List.mem_cons_of_mem _ hq);obtain⟨u,hu⟩:=oV (hp p (by simp[Bu,Bv]));obtain⟨d,h1,h2⟩:=B.get hu;have hv:=(ihv ho.2.1.1).1 ho.2.1.2 (n:=n) (by exact Fp hn) h2;have hs:aU (fun _=>.ok true) (uI n l) (a9 (.bcons x p v r))=rb (nx (aN [.ok (.fz (.str x)),aD (rn n "_law_seen") [.ok (.fz (enc v)),ofP (getItem (.dict (mkd l)) (.str p))]])) fun w=>rb (.ok (ps.map bA)) fun xs=>.ok (dOf w::xs):=by rw[← e1];rfl
  have hst:aK (.bcons x p v r) (.br f)=(aK v u).bind fun y=>(aK r (.br f)).bind fun z=>some (.br (upd z.get x (some y))):=by
   show(f p).bind _=_;rw[hu];rfl
  rw[hs,bI h1,hst];refine ocs (aK v u) (fun hsu=>?_) fun s hsu=>?_
  ·try rewrite[hsu]
   rw[hsu] at hv;refine⟨(x,.none)::ps,?_,by rw[show ks ((x,PyData.none)::ps)=x::ks ps from rfl,e2];rfl,.inr ⟨rfl,(x,.none),by simp,rfl⟩⟩;rw[iH (.str x) (show aD (rn n "_law_seen") [.ok (.fz (enc v)),ofP (.ok (.fz d))]=.ok (.fz .none) from hv) rfl];rfl
  ·try rewrite[hsu]
   rw[hsu] at hv;obtain⟨w,d',g1,g2,g3⟩:=hv;refine⟨(x,d')::ps,?_,by rw[show ks ((x,d')::ps)=x::ks ps from rfl,e2];rfl,?_⟩
   ·rw[iH (.str x) (show aD (rn n "_law_seen") [.ok (.fz (enc v)),ofP (.ok (.fz d))]=.ok w from g1) g2];rfl
   ·rcases e3 with ⟨z,hz,e4⟩ | ⟨hz,q,hq,h0⟩
    ·rw[hz];refine .inl ⟨_,rfl,fun q hq=>?_⟩;rcases List.mem_cons.mp hq with rfl | hq
     ·exact⟨ho.1.1,s,by simp[gJ,upd],g3⟩
     ·obtain⟨i1,u',i2,i3⟩:=e4 q hq;refine⟨i1,u',?_,i3⟩;have hne:q.1≠x:=fun e=>ho.2.2.2.1 (e▸e2▸List.mem_map_of_mem (f:=(·.1)) hq);simp only[gJ,upd,if_neg hne];exact i2
    ·rw[hz];exact .inr ⟨rfl,q,List.mem_cons_of_mem _ hq,h0⟩
end Mine
namespace Mine
open PySem
theorem aR(a:Int){n:Int}(h:0 < n):0≤a.fmod n∧a.fmod n < n:=by
 rw[Int.fmod_eq_emod_of_nonneg a (by exact pD h)];exact⟨Int.emod_nonneg a (by exact Fq h),Int.emod_lt_of_pos a h⟩
theorem eJ(x:Int){y:Int}(h:y≠0):aC .Mod (.int x) (.int y)=.ok (.fz (.int (x.fmod y))):=if_pos h
theorem iI(x:Int){y:Int}(h:y.natAbs < 2 ^ 63):aC .Mult (.int x) (.int y)=.ok (.fz (.int (x*y))):=if_pos (.inr h)
theorem uJ(l:List PyData)(t:PyData→R Bool)(e:PyData→R V):aV (.ok l) t e=rb (aU t e l) fun r=>ofP (own (.list r)):=rfl
theorem oX{x:Int}(y:Int)(h:x.natAbs < 2 ^ 63):aC .Mult (.int x) (.int y)=.ok (.fz (.int (x*y))):=if_pos (.inl h)
theorem oY{l:List PyData}{k:Int}{d:PyData}(h0:0≤k)(h:l[k.toNat]?=some d):getItem (.list l) (.int k)=.ok (.fz d):=by
 have hk:k.toNat < l.length:=(List.getElem?_eq_some_iff.mp h).1;show(if 0≤k then (if 0≤k∧k < l.length then frz l[k.toNat]? else .no) else atN l k)=_;rw[if_pos h0,if_pos ⟨h0,by exact Fs hk⟩,h];rfl
noncomputable def Li(s:List Int):PyData:=.list (s.map .int)
noncomputable def dS(s:List Int)(k:Int):Int:=if k < s.length then (s[k.toNat]?).getD 0 else 0
noncomputable def bW(s:List Int)(k:Int):Int:=(dS s (2+k.fmod 24)*48271+7919*k+12345).fmod 2147483647
theorem uK(n:Nat)(s:List Int){k:Int}(hk:0≤k):rn (n+1) "_law_cell_at" [.fz (Li s),.fz (.int k)]=.ok (.fz (.int (dS s k))):=by
 rw[Pz];show(if decide (k < ((s.map PyData.int).length:Int))=true then rb (ofP (getItem (.list (s.map .int)) (.int k))) R.ok else R.ok (.fz (.int 0)))=_;rw[List.length_map];unfold dS
 by_cases h:k < s.length
 ·have hl:k.toNat < s.length:=by exact Ft hk h
  rw[if_pos (decide_eq_true h),if_pos h,oY hk (by rw[List.getElem?_map,List.getElem?_eq_getElem hl];rfl),List.getElem?_eq_getElem hl];rfl
 ·rw[if_neg (by simpa using h),if_neg h]
theorem lN(n:Nat)(s:List Int)(k:Int):rn (n+2) "_law_mixed" [.fz (Li s),.fz (.int k)]=.ok (.fz (.int (bW s k))):=by
 rw[P0];have h:=(aR k (n:=24) (by decide)).1;refine Eq.trans (b:=rb (aB .Mod (aB .Add (aB .Add (aB .Mult (rn (n+1) "_law_cell_at" [.fz (Li s),.fz (.int (2+k.fmod 24))]) (.ok (.fz (.int 48271)))) (ofP (aC .Mult (.int 7919) (.int k)))) (.ok (.fz (.int 12345)))) (.ok (.fz (.int 2147483647)))) R.ok) (by kernel_rfl) ?_;rw[uK n s (by exact Fu h),show aB .Mult (.ok (.fz (.int (dS s (2+k.fmod 24))))) (.ok (.fz (.int 48271)))=.ok (.fz (.int (dS s (2+k.fmod 24)*48271))) from congrArg ofP (iI _ (by decide)),oX _ (by decide)];rfl
theorem C5{n:Nat}{m:Int}(h0:0≤m)(h1:m < n):∃ k:Nat,k∈List.range n∧m=k:=by
 obtain⟨k,rfl⟩:=Int.eq_ofNat_of_zero_le h0;exact⟨k,List.mem_range.mpr (Int.ofNat_lt.mp h1),rfl⟩
theorem Tp{m:Int}(h:0≤m∧m < 14):∃ i:Int,aH iM (aB .Mult (.ok (.fz (.str (so "37")))) (.ok (.fz (.int (1+m)))))=.ok (.fz (.int i))∧0≤i∧i < 10 ^ 28:=by
 have all:∀ k∈List.range 14,∃ i:Int,aH iM (aB .Mult (.ok (.fz (.str (so "37")))) (.ok (.fz (.int (1+(k:Int))))))=.ok (.fz (.int i))∧0≤i∧i < 10 ^ 28:=by
  rw[show List.range 14=[0,1,2,3,4,5,6,7,8,9,10,11,12,13] from rfl]
  repeat rw[List.forall_mem_cons]
  exact⟨⟨37,by kernel_rfl,by decide⟩,⟨3737,by kernel_rfl,by decide⟩,⟨373737,by kernel_rfl,by decide⟩,⟨37373737,by kernel_rfl,by decide⟩,⟨3737373737,by kernel_rfl,by decide⟩,⟨373737373737,by kernel_rfl,by decide⟩,⟨37373737373737,by kernel_rfl,by decide⟩,⟨3737373737373737,by kernel_rfl,by decide⟩,⟨373737373737373737,by kernel_rfl,by decide⟩,⟨37373737373737373737,by kernel_rfl,by decide⟩,⟨3737373737373737373737,by kernel_rfl,by decide⟩,⟨373737373737373737373737,by kernel_rfl,by decide⟩,⟨37373737373737373737373737,by kernel_rfl,by decide⟩,⟨3737373737373737373737373737,by kernel_rfl,by decide⟩,fun _ h=>nomatch h⟩
 obtain⟨k,hk,rfl⟩:=C5 h.1 h.2;exact all k hk
inductive RInt(r:R V)(b:Nat):Prop where
 |mk (i:Int) (e:r=.ok (.fz (.int i))) (h:i.natAbs < b):RInt r b
theorem RInt.of{r r':R V}{b:Nat}(h:r=r')(x:RInt r' b):RInt r b:=h▸x
theorem nb4{m q:Int}(hm:0≤m∧m < 4)(hq:0≤q∧q < 3):RInt (rb (aB .Add (aI (dH (eD [(ofP (aC .Pow (.int 10) (.int 20))),(unS .USub (ofP (aC .Pow (.int 10) (.int 20)))),(ofP (aC .Pow (.int 10) (.int 12))),(.ok (.fz (.int 0)))])) (.ok (.fz (.int m)))) (.ok (.fz (.int q)))) R.ok) big:=by
 have all:∀ k∈List.range 4,∃ i:Int,rb (aB .Add (aI (dH (eD [(ofP (aC .Pow (.int 10) (.int 20))),(unS .USub (ofP (aC .Pow (.int 10) (.int 20)))),(ofP (aC .Pow (.int 10) (.int 12))),(.ok (.fz (.int 0)))])) (.ok (.fz (.int (k:Int))))) (.ok (.fz (.int q)))) R.ok=.ok (.fz (.int (i+q)))∧i.natAbs≤10 ^ 20:=by
  rw[show List.range 4=[0,1,2,3] from rfl]
  repeat rw[List.forall_mem_cons]
  exact⟨⟨10 ^ 20,by kernel_rfl,by decide⟩,⟨-10 ^ 20,by kernel_rfl,by decide⟩,⟨10 ^ 12,by kernel_rfl,by decide⟩,⟨0,by kernel_rfl,by decide⟩,fun _ h=>nomatch h⟩
 obtain⟨k,hk,rfl⟩:=C5 hm.1 hm.2;obtain⟨i,e,hi⟩:=all k hk;exact⟨i+q,e,by unfold big;omega⟩
theorem uL(n:Nat)(c:Int):RInt (rn (n+1) "_law_number" [.fz (.int c)]) big:=by
 rw[P6];refine RInt.of (r':=(if (c.fmod 5==4)=true then rb (aB .Add (aI (dH (eD [(ofP (aC .Pow (.int 10) (.int 20))),(unS .USub (ofP (aC .Pow (.int 10) (.int 20)))),(ofP (aC .Pow (.int 10) (.int 12))),(.ok (.fz (.int 0)))])) (.ok (.fz (.int ((c.fdiv 5).fmod 4))))) (.ok (.fz (.int ((c.fdiv 20).fmod 3))))) R.ok else if (c.fmod 5==3)=true then rb (aB .Sub (aB .Mod (ofP (aC .Mult (.int (c.fdiv 5)) (.int 48271))) (.ok (.fz (.int 2000003)))) (.ok (.fz (.int 1000001)))) R.ok else if (c.fmod 15==2)=true then rb (aB .Mult (aH iM (aB .Mult (.ok (.fz (.str (so "37")))) (.ok (.fz (.int (1+(c.fdiv 15).fmod 14)))))) (aB .Sub (.ok (.fz (.int 1))) (ofP (aC .Mult (.int ((c.fdiv 210).fmod 2)) (.int 2))))) R.ok else R.ok (.fz (.int ((c.fdiv 5).fmod 9 - 4))))) (by kernel_rfl) ?_
 split
 ·exact nb4 (aR _ (by decide)) (aR _ (by decide))
 split
 ·rw[iI _ (by decide)];refine⟨(c.fdiv 5*48271).fmod 2000003 - 1000001,rfl,?_⟩;have:=aR (c.fdiv 5*48271) (n:=2000003) (by decide);unfold big;omega
 split
 ·obtain⟨i,hi,hb⟩:=Tp (aR (c.fdiv 15) (n:=14) (by decide));have hq:=aR (c.fdiv 210) (n:=2) (by decide);rw[hi,iI _ (by decide)];refine⟨i*(1 - (c.fdiv 210).fmod 2*2),?_,?_⟩
  ·show rb (ofP (aC .Mult (.int i) (.int (1 - (c.fdiv 210).fmod 2*2)))) R.ok=_;rw[iI _ (by omega)];rfl
  ·have:(c.fdiv 210).fmod 2=0∨(c.fdiv 210).fmod 2=1:=by exact vK hq
   unfold big;rcases this with h | h<;>rw[h]<;>omega
 ·refine⟨_,rfl,?_⟩;have:=aR (c.fdiv 5) (n:=9) (by decide);unfold big;omega
theorem Tq:∀ (r:List Nat) (acc:Array Nat),(r.map fun c=>(⟨#[c]⟩:Str)).foldl (fun acc p=>acc++(so "").cps++p.cps) acc=acc++r.toArray:=by
 intro v0
 induction v0 with
 |nil =>
  intro acc;simp
 |cons c r ih =>
  intro acc;simp only[List.map_cons,List.foldl_cons];rw[ih];have:(so "").cps=#[]:=rfl;rw[this];simp
theorem Ts(cs:List Nat):Txt.join (so "") (cs.map fun c=>⟨#[c]⟩)=⟨cs.toArray⟩:=by
 show Builtin.Str.glued _ _=_;unfold Builtin.Str.glued;cases cs with
 |nil=>rfl
 |cons c r =>
  simp only[List.map_cons,List.drop_succ_cons,List.drop_zero,List.headD_cons];rw[Tq];simp
theorem C6:∀ cs:List Nat,strs? (cs.map bP)=some (cs.map fun c=>⟨#[c]⟩)
 | []=>rfl
 |c::r=>by
  show(strs? (r.map bP)).map (_::·)=_;rw[C6 r];rfl
theorem Tt:∀ (cs:List Nat) (a:Nat),(cs.map fun c=>(⟨#[c]⟩:Str)).foldl (fun x y=>x+y.length+(so "").length) a=a+cs.length:=by
 intro v0
 induction v0 with
 |nil =>
  intro a;simp
 |cons c r ih =>
  intro a;simp only[List.map_cons,List.foldl_cons];rw[ih];have:(so "").length=0:=rfl;have h1:(⟨#[c]⟩:Str).length=1:=rfl;rw[this,h1];simp;exact Fv
theorem C7{cs:List Nat}(h:cs.length≤1000):eR (.str (so "")) [.list (cs.map bP)]=.ok (.fz (.str ⟨cs.toArray⟩)):=by
 have e:eR (.str (so "")) [.list (cs.map bP)]=(ofO (strs? (cs.map bP))).bind fun l=>if JoinOk (so "") l then fz (.str (Txt.join (so "") l)) else .no:=rfl;rw[e,C6,eZ,eY];have hj:JoinOk (so "") (cs.map fun c=>⟨#[c]⟩)=true:=by
  unfold JoinOk Builtin.Str.tooLong;rw[List.foldl_toArray',Tt]<;>simp[sizeLine];exact Fw h
 rw[if_pos hj,Ts];rfl
theorem uM{n:Nat}{a:Int}(h0:0≤a)(h1:a≤n):clipAt n a=a.toNat:=by
 unfold clipAt;rw[if_neg (Int.not_lt.mpr h0),Int.min_eq_left h1,Int.max_eq_right h0]
theorem Tu{n:Nat}{a:Int}(h0:0≤a)(h1:(n:Int)≤a):clipAt n a=n:=by
 unfold clipAt;rw[if_neg (Int.not_lt.mpr h0),Int.min_eq_right h1,Int.max_eq_right (Int.natCast_nonneg n),Int.toNat_natCast]
theorem C8{α:Type}(l:List α){k:Int}(h:0≤k):slice l none (some k)=l.take k.toNat:=by
 show(l.drop 0).take (clipAt l.length k - 0)=_;rw[List.drop_zero,Nat.sub_zero];rcases Int.le_total k l.length with hk | hk
 ·rw[uM h hk]
 ·rw[Tu h hk,List.take_of_length_le (Nat.le_refl _),List.take_of_length_le];have:=Int.toNat_le_toNat hk
  rwa [Int.toNat_natCast] at this
noncomputable def LET:Str:=so "abcdefghijklmnopqrstuvwxyz"
noncomputable def ltr(m:Int):Nat:=(LET.cps[m.toNat]?).getD 0
theorem C9:∀ i:_root_.Fin 26,(LET.cps[i.val]?).isSome=true∧inL ((LET.cps[i.val]?).getD 0)=true∧(LET.cps[i.val]?).getD 0 < 16 ^ 8:=by decide +kernel
theorem uN(x:Int):getItem (.str (so "abcdefghijklmnopqrstuvwxyz")) (.int (x.fmod 26))=.ok (.fz (bP (ltr (x.fmod 26)))):=by
 have h:=aR x (n:=26) (by decide);show(if 0≤x.fmod 26∧x.fmod 26 < LET.cps.size then frz (LET.cps[(x.fmod 26).toNat]?.map bP) else .no)=_;rw[if_pos ⟨h.1,by show _ < ((26:Nat):Int);exact Fx h⟩];have hs:(LET.cps[(x.fmod 26).toNat]?).isSome=true:=(C9 ⟨(x.fmod 26).toNat,by exact lU h⟩).1;unfold ltr;cases e:LET.cps[(x.fmod 26).toNat]? with
 |none=>rw[e] at hs;exact bft hs
 |some c=>rfl
theorem uO{a:Int}(ha:0≤a∧a < 26):inL (ltr a)=true∧ltr a < 16 ^ 8:=(C9 ⟨a.toNat,by exact lU ha⟩).2
theorem Da{a b:Int}(ha:0≤a∧a < 26)(hb:0≤b∧b < 26)(h:ltr a=ltr b):a=b:=by
 have key:∀ i j:_root_.Fin 26,(LET.cps[i.val]?).getD 0=(LET.cps[j.val]?).getD 0→i=j:=by decide +kernel
 have:=key ⟨a.toNat,by exact lU ha⟩ ⟨b.toNat,by exact lU hb⟩ h;have:=congrArg _root_.Fin.val this;simp at this;exact Fy ha hb this
noncomputable def eK(c:Int):List Nat:=[0,1,2,3,4,5,6,7].map fun j:Int=>ltr ((c.fdiv 8+5*j).fmod 26)
noncomputable def nm(c k:Int):List Nat :=
 if (c.fdiv 1664).fmod 3=1 then ((eK c).set 0 (ltr ((c.fdiv 8+k.fdiv 8).fmod 26))).take (1+k.fmod 8).toNat
 else ((eK c).set ((c.fdiv 208).fmod (1+c.fmod 8)).toNat (ltr ((c.fdiv 8+7+k).fmod 26))).take (1+c.fmod 8).toNat
theorem Db{cs:List Nat}{k:Int}(h:0≤k∧k < cs.length)(x:Nat):Mine.setItem (.list (cs.map bP)) (.int k) (bP x)=.ok (.list ((cs.set k.toNat x).map bP)):=by
 show(if 0≤k∧k < (cs.map bP).length then P.ok (PyData.list ((cs.map bP).set k.toNat (bP x))) else .no)=_;rw[if_pos (by simpa using h),List.map_set]
theorem Tv(c:Int):aV (rgI (.ok (.fz (.int 8)))) (fun d2=>(.ok true)) (fun d2=>(aI (.ok (.str (so "abcdefghijklmnopqrstuvwxyz"))) (aB .Mod (aB .Add (ofP (aC .FloorDiv (.int c) (.int 8))) (ofP (aC .Mult (.int 5) d2))) (.ok (.fz (.int 26))))))=.ok (.own (.list ((eK c).map bP))):=by
 rw[show rgI (.ok (.fz (.int 8)))=.ok ([0,1,2,3,4,5,6,7].map PyData.int) from by kernel_rfl,uJ,oK (g:=fun d=>match d with | .int j=>bP (ltr ((c.fdiv 8+5*j).fmod 26)) | d=>d)]
 ·rfl
 ·intro d hd;obtain⟨j,_,rfl⟩:=List.mem_map.mp hd;refine⟨rfl,.fz (bP (ltr ((c.fdiv 8+5*j).fmod 26))),?_,rfl⟩;refine Eq.trans (b:=ofP (getItem (.str (so "abcdefghijklmnopqrstuvwxyz")) (.int ((c.fdiv 8+5*j).fmod 26)))) (by kernel_rfl) ?_;rw[uN];rfl
theorem iJ(c:Int):(eK c).length=8:=rfl
theorem Tx(n:Nat)(c k:Int):rn (n+1) "_law_name" [.fz (.int c),.fz (.int k)]=.ok (.fz (.str ⟨(nm c k).toArray⟩)):=by
 rw[P4];have h8:=aR c (n:=8) (by decide);have k8:=aR k (n:=8) (by decide);have hp:=aR (c.fdiv 208) (n:=1+c.fmod 8) (by exact Fz h8);rw[Tv c];refine Eq.trans (b:=if ((c.fdiv 1664).fmod 3==1)=true then rb (ofP (getItem (.str (so "abcdefghijklmnopqrstuvwxyz")) (.int ((c.fdiv 8+k.fdiv 8).fmod 26)))) (fun v=>rb (ofP (Mine.setItem (.list ((eK c).map bP)) (.int 0) (dOf v))) fun o=>rb (rb (rb (ofP (iL o none (some (1+k.fmod 8)))) fun v=>.ok [v.clear]) fun as=>ofP (eR (.str (so "")) (bZ as))) R.ok) else rb (ofP (getItem (.str (so "abcdefghijklmnopqrstuvwxyz")) (.int ((c.fdiv 8+7+k).fmod 26)))) (fun v=>rb (ofP (aC .Mod (.int (c.fdiv 208)) (.int (1+c.fmod 8)))) fun i=>rb (ofP (Mine.setItem (.list ((eK c).map bP)) (dOf i) (dOf v))) fun o=>rb (rb (rb (ofP (iL o none (some (1+c.fmod 8)))) fun v=>.ok [v.clear]) fun as=>ofP (eR (.str (so "")) (bZ as))) R.ok)) (by kernel_rfl) ?_;unfold nm
 by_cases h:(c.fdiv 1664).fmod 3=1
 ·rw[if_pos (by simpa using h),if_pos h,uN,aJ,aG,dQ,Db (by simp[iJ]),aJ,aG];show rb (ofP (eR (.str (so "")) [.list (slice (((eK c).set 0 _).map bP) none (some (1+k.fmod 8)))])) R.ok=_;rw[C8 _ (by exact vM k8),← List.map_take,C7 (by simp[iJ];exact vN)];rfl
 ·rw[if_neg (by simpa using h),if_neg h,uN,aJ,aG,dQ,eJ _ (by exact F0 h8),aJ,aG,dQ,Db (by simp[iJ];exact F1 h8 hp),aJ,aG];show rb (ofP (eR (.str (so "")) [.list (slice (((eK c).set _ _).map bP) none (some (1+c.fmod 8)))])) R.ok=_;rw[C8 _ (by exact vM h8),← List.map_take,C7 (by simp[iJ];exact vN)];rfl
theorem Ty(c k:Int):okN ⟨(nm c k).toArray⟩:=by
 have base:∀ x∈eK c,inL x=true∧x < 16 ^ 8:=by
  intro x hx;obtain⟨j,_,rfl⟩:=List.mem_map.mp hx;exact uO (aR _ (by decide))
 have h8:=aR c (n:=8) (by decide);have k8:=aR k (n:=8) (by decide);refine⟨?_,?_,fun x hx=>?_⟩
 ·show 1≤(nm c k).toArray.size;rw[List.size_toArray];unfold nm
  split<;>simp[iJ]<;>lia
 ·show(nm c k).toArray.size≤8;rw[List.size_toArray];unfold nm
  split<;>simp[iJ]<;>lia
 ·have hx:x∈nm c k:=by simpa using hx
  unfold nm at hx
  split at hx
  ·rcases List.mem_or_eq_of_mem_set (List.mem_of_mem_take hx) with h | h
   ·exact base x h
   ·rw[h];exact uO (aR _ (by decide))
  ·rcases List.mem_or_eq_of_mem_set (List.mem_of_mem_take hx) with h | h
   ·exact base x h
   ·rw[h];exact uO (aR _ (by decide))
theorem Dc{x a b:Int}(ha:0≤a∧a < 26)(hb:0≤b∧b < 26)(h:(x+a).fmod 26=(x+b).fmod 26):a=b:=by
 rw[Int.fmod_eq_emod_of_nonneg _ (by decide),Int.fmod_eq_emod_of_nonneg _ (by decide)] at h;exact F2 ha hb h
theorem fd8{k:Int}(hk:0≤k∧k < 14):0≤k.fdiv 8∧k.fdiv 8 < 26:=by
 rw[Int.fdiv_eq_ediv_of_nonneg _ (by decide)];exact F3 hk
theorem ml8{a b:Int}(ha:0≤a∧a < 8)(hb:0≤b∧b < 8)(h:min (1+a).toNat 8=min (1+b).toNat 8):a=b:=by exact F4 ha hb h
theorem po8{a:Int}(ha:0≤a∧a < 8):0 < (1+a).toNat:=by exact F5 ha
theorem lt8{a b:Int}(ha:0≤a∧a < 8)(hb:0≤b∧b < 1+a):b.toNat < 8∧b.toNat < (1+a).toNat:=by exact F6 ha hb
theorem Tz{c k k':Int}(hk:0≤k∧k < 14)(hk':0≤k'∧k' < 14)(h:nm c k=nm c k'):k=k':=by
 unfold nm at h
 by_cases hc:(c.fdiv 1664).fmod 3=1
 ·rw[if_pos hc,if_pos hc] at h;have hl:=congrArg List.length h;simp only[List.length_take,List.length_set,iJ] at hl;have h8:=ml8 (aR k (by decide)) (aR k' (by decide)) hl;have he:=congrArg (fun l=>l[0]?) h;simp only[List.getElem?_take,List.getElem?_set,if_pos (po8 (aR k (n:=8) (by decide))),if_pos (po8 (aR k' (n:=8) (by decide))),if_pos (show 0 < (eK c).length from Nat.succ_pos 7),if_true] at he;have hl2:=Dc (fd8 hk) (fd8 hk') (Da (aR _ (by decide)) (aR _ (by decide)) (si he));rw[← Int.mul_fdiv_add_fmod k 8,← Int.mul_fdiv_add_fmod k' 8,hl2,h8]
 ·rw[if_neg hc,if_neg hc] at h;have h8:=aR c (n:=8) (by decide);obtain⟨h1,h2⟩:=lt8 h8 (aR (c.fdiv 208) (n:=1+c.fmod 8) (Int.lt_add_one_of_le h8.1 |> fun h=>by rw[Int.add_comm];exact h));have he:=congrArg (fun l=>l[((c.fdiv 208).fmod (1+c.fmod 8)).toNat]?) h;simp only[List.getElem?_take,List.getElem?_set,if_pos h2,if_pos (show _ < (eK c).length from h1),if_true] at he;exact Dc ⟨hk.1,Int.lt_trans hk.2 (by decide)⟩ ⟨hk'.1,Int.lt_trans hk'.2 (by decide)⟩ (Da (aR _ (by decide)) (aR _ (by decide)) (si he))
noncomputable def nsI:List Int:=[0,1,2,3,4,5,6,7,8,9,10,11,12,13]
noncomputable def nms(c:Int):List Str:=nsI.map fun k=>⟨(nm c k).toArray⟩
theorem T0(c:Int):Wld (nms c):=by
 refine⟨rfl,?_,fun x hx=>?_⟩
 ·refine List.Pairwise.map _ (R:=fun a b=>(0≤a∧a < 14)∧(0≤b∧b < 14)∧a≠b) (fun a b h e=>?_) (by unfold nsI;decide);have:(nm c a).toArray=(nm c b).toArray:=Str.mk.inj e;exact h.2.2 (Tz h.1 h.2.1 (by simpa using congrArg Array.toList this))
 ·obtain⟨k,_,rfl⟩:=List.mem_map.mp hx;exact Ty c k
noncomputable def NL(N:List Str):PyData:=.list (N.map .str)
theorem T2(n:Nat)(s:List Int):rn (n+2) "_law_names" [.fz (Li s)]=.ok (.own (NL (nms (dS s 0)))):=by
 rw[P5];rw[show rgI (.ok (.fz (.int 14)))=.ok (nsI.map PyData.int) from by kernel_rfl,uJ,oK (g:=fun d=>match d with | .int k=>.str ⟨(nm (dS s 0) k).toArray⟩ | d=>d)]
 ·rfl
 ·intro d hd;obtain⟨j,_,rfl⟩:=List.mem_map.mp hd;refine⟨rfl,.fz (.str ⟨(nm (dS s 0) j).toArray⟩),?_,rfl⟩;rw[uK n s (by decide)];exact Tx n _ _
end Mine
namespace Mine
open PySem
theorem uP(x y:Int):aC .Add (.int x) (.int y)=.ok (.fz (.int (x+y))):=rfl
theorem uQ(x y:Int):aC .Sub (.int x) (.int y)=.ok (.fz (.int (x - y))):=rfl
theorem fO(x:Int){y:Int}(h:y≠0∧y.natAbs < 2 ^ 63):aC .FloorDiv (.int x) (.int y)=.ok (.fz (.int (x.fdiv y))):=if_pos h
theorem uR(x y:Int):cmp .Lt (.int x) (.int y)=.ok (decide (x < y)):=rfl
theorem uS(x y:Int):cmp .Gt (.int x) (.int y)=.ok (decide (y < x)):=rfl
theorem uT(x y:Int):cmp .Eq (.int x) (.int y)=.ok (x==y):=rfl
end Mine
namespace Mine
open PySem
variable {N:List Str} {m:Nat}
noncomputable def Tr(N:List Str)(m:Nat)(d:PyData):Prop:=∃ t,Sem N m d t
noncomputable def BT(N:List Str)(m:Nat)(l:LP):Prop:=∃ f,Bld N m l f
theorem BT.nil:BT N m []:=⟨_,Bld.nil⟩
theorem BT.set{l:LP}(B:BT N m l){k:Str}{d:PyData}(hk:k∈N)(h:Tr N m d):BT N m (st l k d):=by
 obtain⟨f,B⟩:=B;obtain⟨t,h⟩:=h;exact⟨_,B.set hk h⟩
theorem BT.toTr{l:LP}(B:BT N m l):Tr N (m+1) (.dict (mkd l)):=by obtain⟨f,B⟩:=B;exact⟨_,B.toSem⟩
theorem BT.lt(H:Wld N){l:LP}(B:BT N m l){k:Nat}(hk:14 < k):l.length < k:=by obtain⟨f,B⟩:=B;exact B.lt H hk
theorem Tr.int{i:Int}(h:i.natAbs < big):Tr N m (.int i):=⟨_,.num h⟩
theorem Tr.mono{m':Nat}{d:PyData}(h:Tr N m d)(hm:m≤m'):Tr N m' d:=by obtain⟨t,h⟩:=h;exact⟨t,h.mono hm⟩
inductive NlA(N:List Str)(i:Int)(r:P V):Prop where
 |mk (x:Str) (h:x∈N) (g:N[i.toNat]?=some x) (e:r=.ok (.fz (.str x))):NlA N i r
theorem cR(H:Wld N){i:Int}(h:0≤i∧i < 14):NlA N i (getItem (NL N) (.int i)):=by
 have hl:i.toNat < N.length:=by rw[H.len];exact F7 h
 refine⟨N[i.toNat],List.getElem_mem hl,List.getElem?_eq_getElem hl,oY h.1 ?_⟩;rw[List.getElem?_map,List.getElem?_eq_getElem hl];rfl
theorem T5:∀ {fs:List Str} {i:Int} {d:PyData},d∈dB i (fs.map .str)→∃ j f,d=.tuple [.int j,.str f]∧f∈fs:=by
 intro v0
 induction v0 with
 |nil =>
  intro _ _ h;exact cD h
 |cons x r ih =>
  intro i d h;rcases List.mem_cons.mp (show d∈.tuple [.int i,.str x]::dB (i+1) (r.map .str) from h) with rfl | h
  ·exact⟨i,x,rfl,by simp⟩
  ·obtain⟨j,f,e,hf⟩:=ih h;exact⟨j,f,e,by simp[hf]⟩
theorem Dd{q r l:List PyData}{x:PyData}(h:[]++l=q++x::r):x∈l:=by
 have:x∈q++x::r:=by simp
 rw[← h] at this;simpa using this
noncomputable def tS(s:List Int)(k:Int)(N fs:List Str)(c:LP)(j:PyData)(row:Option V)(o:Option V×Option V×Option V):aA:=cA (ζ (Li s)) (ζ (.int k)) (ζ (NL N)) (ζ (.list (fs.map .str))) (some (.own (.dict (mkd c)))) (ζ j) row o.1 o.2.1 o.2.2
theorem T6(H:Wld N)(n:Nat)(s:List Int)(k j:Int){fs:List Str}(hf:∀ x∈fs,x∈N)(c:LP)(o:Option V×Option V×Option V):∃ r o',BT N 1 r∧∀ kn kr,aS (kS (n+2)) kU (dB 0 (fs.map .str)) (tS s k N fs c (.int j) (some (.own (.dict []))) o) kn kr=kn (tS s k N fs c (.int j) (some (.own (.dict (mkd r)))) o'):=by
 have L:=lI (S:=fun (r:LP) (o:Option V×Option V×Option V)=>tS s k N fs c (.int j) (some (.own (.dict (mkd r)))) o) (b:=kS (n+2)) (t:=kU) (l:=dB 0 (fs.map .str)) (p:=[]) (a:=[]) (j:=o) (I:=fun _ r=>BT N 1 r) (E:=fun _=>False) (Q:=fun _=>False) (fun q d r a o hq hi=>by
  obtain⟨i,f,rfl,hff⟩:=T5 (Dd hq);obtain⟨x0,hx0,_,hg0⟩:=cR H (i:=0) (by decide);have hb:∀ kn kr,(rb (ofP (aW kU (.tuple [.int i,.str f]) (tS s k N fs c (.int j) (some (.own (.dict (mkd a)))) o))) fun σ=>kS (n+2) σ kn kr)=if decide (0 < (bW s (k+10*j+i+1)).fmod 4)=true then rb (rn (n+2) "_law_number" [.fz (.int ((bW s (k+10*j+i+1)).fdiv 4))]) (fun v=>rb (ofP (Mine.setItem (.dict (mkd a)) (.str f) (dOf v))) fun o2=>kn (tS s k N fs c (.int j) (some (.own o2)) (some (.fz (.int i)),some (.fz (.str f)),some (.fz (.int (bW s (k+10*j+i+1))))))) else if ((bW s (k+10*j+i+1)).fmod 12==0)=true then rb (ofP (Mine.setItem (.dict (mkd a)) (.str f) (.dict (mkd [(x0,.int (((bW s (k+10*j+i+1)).fdiv 12).fmod 5))])))) fun o2=>kn (tS s k N fs c (.int j) (some (.own o2)) (some (.fz (.int i)),some (.fz (.str f)),some (.fz (.int (bW s (k+10*j+i+1)))))) else kn (tS s k N fs c (.int j) (some (.own (.dict (mkd a)))) (some (.fz (.int i)),some (.fz (.str f)),some (.fz (.int (bW s (k+10*j+i+1)))))):=fun kn kr=>by
   unfold tS;rw[Qb,aJ,aG,Qc,hg0];simp(decide:=true) only [aB,unS,aT,orS,ifS,dN,aE,fL,aI,b9,dX,aH,kQ,aD,plI,rgI,enI,dH,bT,kR,
  aG,tB,aJ,dP,eY,eZ,cI,cZ,oF,tC,dQ,tD,bO,gK,bX,bU,jI,tE,tF,tG,oG,tH,tI,tJ,tK,tL,tM,tN,oH,tO,tP,tQ,tR,tT,tU,tV,tW,tX,uP,uQ,iI,oX,fO,eJ,uR,uS,uT,lN,gG,sK]
   rfl
  have h0:0≤((bW s (k+10*j+i+1)).fdiv 12).fmod 5∧((bW s (k+10*j+i+1)).fdiv 12).fmod 5 < 5:=aR _ (by decide);obtain⟨v,hv1,hv2⟩:=uL (n+1) ((bW s (k+10*j+i+1)).fdiv 4);cases c1:decide (0 < (bW s (k+10*j+i+1)).fmod 4) with
  |true =>
   refine Out.kn (st a f (.int v)) (some (.fz (.int i)),some (.fz (.str f)),some (.fz (.int (bW s (k+10*j+i+1))))) (hi.set (hf f hff) (.int hv2)) fun kn kr=>(hb kn kr).trans ?_;rw[c1,cI,hv1,aG,dQ,eH f _ (hi.lt H (by decide))];rfl
  |false =>
   cases c2:((bW s (k+10*j+i+1)).fmod 12==0) with
   |true =>
    refine Out.kn (st a f (.dict (mkd [(x0,.int (((bW s (k+10*j+i+1)).fdiv 12).fmod 5))]))) (some (.fz (.int i)),some (.fz (.str f)),some (.fz (.int (bW s (k+10*j+i+1))))) (hi.set (hf f hff) ((BT.nil (m:=0)).set hx0 (.int (i:=((bW s (k+10*j+i+1)).fdiv 12).fmod 5) (by unfold big;omega))).toTr) fun kn kr=>(hb kn kr).trans ?_;rw[c1,cZ,c2,cI,eH f _ (hi.lt H (by decide))];rfl
   |false =>
    refine Out.kn a (some (.fz (.int i)),some (.fz (.str f)),some (.fz (.int (bW s (k+10*j+i+1))))) hi fun kn kr=>(hb kn kr).trans ?_;rw[c1,cZ,c2,cZ]) BT.nil
 obtain⟨r,o',h1,h2⟩ | ⟨_,hx,_⟩ | ⟨_,hv,_⟩:=L
 ·exact⟨r,o',h1,h2⟩
 ·exact hx.elim
 ·exact hv.elim
inductive TabR(N:List Str)(r:R V):Prop where
 |mk (l:LP) (B:BT N 2 l) (e:r=.ok (.own (.dict (mkd l)))):TabR N r
theorem oZ(H:Wld N)(n:Nat)(s:List Int)(k:Int){fs:List Str}(hf:∀ x∈fs,x∈N):TabR N (rn (n+3) "_law_table" [.fz (Li s),.fz (.int k),.fz (NL N),.fz (.list (fs.map .str))]):=by
 have L:=lI (S:=fun (c:LP) (o:Option V×Option V×Option V×Option V×Option V)=>cA (ζ (Li s)) (ζ (.int k)) (ζ (NL N)) (ζ (.list (fs.map .str))) (some (.own (.dict (mkd c)))) o.1 o.2.1 o.2.2.1 o.2.2.2.1 o.2.2.2.2) (b:=n7 (n+2)) (t:=n8) (l:=[.int 0,.int 1,.int 2,.int 3]) (p:=[]) (a:=[]) (j:=(none,none,none,none,none)) (I:=fun _ r=>BT N 2 r) (E:=fun _=>False) (Q:=fun _=>False) (fun q d r c o hq hi=>by
  have hd:=Dd hq;obtain⟨j,hj,rfl⟩:∃ j:Int,(0≤j∧j < 4)∧d=.int j:=by
   simp only[List.mem_cons,List.not_mem_nil,or_false] at hd;rcases hd with rfl | rfl | rfl | rfl
   ·exact⟨0,by decide,rfl⟩
   ·exact⟨1,by decide,rfl⟩
   ·exact⟨2,by decide,rfl⟩
   ·exact⟨3,by decide,rfl⟩
  obtain⟨x,hx,_,hg⟩:=cR H (i:=9+j) (by exact F8 hj);obtain⟨r',o',hr,L2⟩:=T6 H n s k j hf c (o.2.2.1,o.2.2.2.1,o.2.2.2.2);have hb:∀ kn kr,(rb (ofP (aW n8 (.int j) (cA (ζ (Li s)) (ζ (.int k)) (ζ (NL N)) (ζ (.list (fs.map .str))) (some (.own (.dict (mkd c)))) o.1 o.2.1 o.2.2.1 o.2.2.2.1 o.2.2.2.2))) fun σ=>n7 (n+2) σ kn kr)=if decide (0 < (bW s (k+10*j)).fmod 3)=true then rb (ofP (Mine.setItem (.dict (mkd c)) (.str x) (.dict (mkd r')))) (fun o1=>kn (cA (ζ (Li s)) (ζ (.int k)) (ζ (NL N)) (ζ (.list (fs.map .str))) (some (.own o1)) (ζ (.int j)) (ζ (.dict (mkd r'))) o'.1 o'.2.1 o'.2.2)) else kn (cA (ζ (Li s)) (ζ (.int k)) (ζ (NL N)) (ζ (.list (fs.map .str))) (some (.own (.dict (mkd c)))) (ζ (.int j)) o.2.1 o.2.2.1 o.2.2.2.1 o.2.2.2.2):=fun kn kr=>by
   rw[P8,aJ,aG,P9,show enI (.ok (.fz (.list (fs.map .str))))=.ok (dB 0 (fs.map .str)) from rfl,aG];have:=L2 (fun σ=>sS (n+2) σ (fun σ=>stm BB (so "_law_table") (n+2) 23 (List.drop 1 (bR (List.drop 1 (aO BB (so "_law_table"))))) σ kn kr) kr) kr;unfold tS at this;rw[this,Qd];simp(decide:=true) only [aB,unS,aT,orS,ifS,dN,aE,fL,aI,b9,dX,aH,kQ,aD,plI,rgI,enI,dH,bT,kR,
  aG,tB,aJ,dP,eY,eZ,cI,cZ,oF,tC,dQ,tD,bO,gK,bX,bU,jI,tE,tF,tG,oG,tH,tI,tJ,tK,tL,tM,tN,oH,tO,tP,tQ,tR,tT,tU,tV,tW,tX,uP,uQ,iI,oX,fO,eJ,uR,uS,uT,lN,hg]
   rfl
  cases c1:decide (0 < (bW s (k+10*j)).fmod 3) with
  |true =>
   refine Out.kn (st c x (.dict (mkd r'))) (some (.fz (.int j)),some (.fz (.dict (mkd r'))),o'.1,o'.2.1,o'.2.2) (hi.set hx hr.toTr) fun kn kr=>(hb kn kr).trans ?_;rw[c1,cI,eH x _ (hi.lt H (by decide))];rfl
  |false =>
   refine Out.kn c (some (.fz (.int j)),o.2.1,o.2.2.1,o.2.2.2.1,o.2.2.2.2) hi fun kn kr=>(hb kn kr).trans ?_;rw[c1,cZ]) BT.nil
 obtain⟨l,o',h1,h2⟩ | ⟨_,hx,_⟩ | ⟨_,hv,_⟩:=L
 ·refine⟨l,h1,?_⟩;rw[P7,show rgI (.ok (.fz (.int 4)))=.ok [.int 0,.int 1,.int 2,.int 3] from by kernel_rfl];exact(h2 _ _).trans (Qa ..)
 ·exact hx.elim
 ·exact hv.elim
end Mine
namespace Mine
open PySem
variable {N:List Str} {m:Nat}
theorem De(ps:LP):j5 (mkd ps)=.ok (.own (.dict (mkd (sts ps [])))):=by
 show((ofO (keys? (mkd ps))).bind fun l=>own (.dict (cK l (mkd []))))=_;rw[mk_keys?,eZ,eY,s9];rfl
theorem Df(a:Str){r:R V}{v:V}{d:PyData}(hr:r=.ok v)(hv:v.clear=.fz d):gG [(.ok (.fz (.str a)),r)]=.ok (.own (.dict (mkd (sts [(a,d)] [])))):=by
 rw[hr,← iF hv];exact congrArg ofP (De [(a,dOf v)])
theorem iK(a b:Str){r1 r2:R V}{v1 v2:V}{d1 d2:PyData}(hr1:r1=.ok v1)(hv1:v1.clear=.fz d1)(hr2:r2=.ok v2)(hv2:v2.clear=.fz d2):gG [(.ok (.fz (.str a)),r1),(.ok (.fz (.str b)),r2)]=.ok (.own (.dict (mkd (sts [(a,d1),(b,d2)] [])))):=by
 rw[hr1,hr2,← iF hv1,← iF hv2];exact congrArg ofP (De [(a,dOf v1),(b,dOf v2)])
theorem uU(lo hi:Option Int):iL (NL N) lo hi=.ok (.own (.list ((slice N lo hi).map .str))):=by
 show P.ok (V.own (.list (slice (N.map PyData.str) lo hi)))=_;unfold slice;rw[List.length_map,List.map_take,List.map_drop]
theorem lO{α:Type}{l:List α}{lo hi:Option Int}{x:α}(h:x∈slice l lo hi):x∈l:=List.mem_of_mem_drop (List.mem_of_mem_take h)
theorem Dg{a b c:PyData}{i:Int}(h:0≤i∧i < 3):∃ d,getItem (.list [a,b,c]) (.int i)=.ok (.fz d)∧(d=a∨d=b∨d=c):=by
 have:i=0∨i=1∨i=2:=by exact F9 h
 rcases this with rfl | rfl | rfl
 ·exact⟨a,rfl,.inl rfl⟩
 ·exact⟨b,rfl,.inr (.inl rfl)⟩
 ·exact⟨c,rfl,.inr (.inr rfl)⟩
theorem Dh(l:LP)(x:Str)(d:PyData):eR (.dict (mkd l)) [.str x,d]=.ok (.fz ((lk l x).getD d)):=by
 show fz ((bM (mkd l) x).getD d)=_;rw[lE];rfl
theorem BT.get{l:LP}(B:BT N m l){x:Str}{d:PyData}(hd:Tr N m d):Tr N m ((lk l x).getD d):=by
 obtain⟨f,B⟩:=B;refine ocs (lk l x) (fun e=>?_) fun u e=>?_
 ·try rewrite[e]
  exact hd
 ·try rewrite[e]
  obtain⟨t,_,h⟩:=B.get' e;exact⟨t,h⟩
theorem T7(H:Wld N)(n:Nat)(s:List Int){l:LP}(B:BT N m l)(hl:∀ i x,i < 5→N[i]?=some x→(lk l x).isSome=true) :
  ∃ l' o,BT N m l'∧∀ kn kr,aS (kW (n+2)) kX [.int 0,.int 1,.int 2,.int 3,.int 4] (cY (ζ (Li s)) (ζ (NL N)) (some (.own (.dict (mkd l)))) none) kn kr=kn (cY (ζ (Li s)) (ζ (NL N)) (some (.own (.dict (mkd l')))) o):=by
 have L:=lI (S:=fun (c:LP) (o:Option V)=>cY (ζ (Li s)) (ζ (NL N)) (some (.own (.dict (mkd c)))) o) (b:=kW (n+2)) (t:=kX) (l:=[.int 0,.int 1,.int 2,.int 3,.int 4]) (p:=[]) (a:=l) (j:=none) (I:=fun p c=>BT N m c∧∀ i x,p.length≤i→i < 5→N[i]?=some x→(lk c x).isSome=true) (E:=fun _=>False) (Q:=fun _=>False) (fun q d r c o hq hi=>by
  have hg:([.int 0,.int 1,.int 2,.int 3,.int 4]:List PyData)[q.length]?=some d:=by
   rw[show([.int 0,.int 1,.int 2,.int 3,.int 4]:List PyData)=q++d::r from hq];simp
  have hlt:q.length < 5:=(List.getElem?_eq_some_iff.mp hg).1;have hd:d=.int q.length:=by
   generalize q.length=k at hg hlt;have:k=0∨k=1∨k=2∨k=3∨k=4:=by exact vO hlt
   rcases this with rfl | rfl | rfl | rfl | rfl<;>simpa using hg.symm
  subst hd;obtain⟨x,hx,hN,hgx⟩:=cR H (i:=(q.length:Int)) (by exact Ga hlt);have hN:N[q.length]?=some x:=by simpa using hN
  obtain⟨dx,hdx⟩:=oV (hi.2 q.length x (Nat.le_refl _) hlt hN);have hb:∀ kn kr,(rb (ofP (aW kX (.int q.length) (cY (ζ (Li s)) (ζ (NL N)) (some (.own (.dict (mkd c)))) o))) fun σ=>kW (n+2) σ kn kr)=if ((bW s (200+q.length)).fmod 9==0)=true then kn (cY (ζ (Li s)) (ζ (NL N)) (some (.own (.dict (mkd (dl c x))))) (ζ (.int q.length))) else kn (cY (ζ (Li s)) (ζ (NL N)) (some (.own (.dict (mkd c)))) (ζ (.int q.length))):=fun kn kr=>by
   rw[Qf,aJ,aG,Qg,hgx];have e:jC (.ok (.dict (mkd c))) (so "pop") [ofP (.ok (.fz (.str x)))] (fun o1=>kn (cY (ζ (Li s)) (ζ (NL N)) (some (.own o1)) (ζ (.int q.length))))=kn (cY (ζ (Li s)) (ζ (NL N)) (some (.own (.dict (mkd (dl c x))))) (ζ (.int q.length))):=by
    show rb (ofP (if (bM (mkd c) x).isSome then P.ok (PyData.dict (eO (mkd c) x)) else .no)) _=_;rw[lE,hdx,Rc];rfl
   rw[e];simp(decide:=true) only [aB,unS,aT,orS,ifS,dN,aE,fL,aI,b9,dX,aH,kQ,aD,plI,rgI,enI,dH,bT,kR,
  aG,tB,aJ,dP,eY,eZ,cI,cZ,oF,tC,dQ,tD,bO,gK,bX,bU,jI,tE,tF,tG,oG,tH,tI,tJ,tK,tL,tM,tN,oH,tO,tP,tQ,tR,tT,tU,tV,tW,tX,uP,uQ,iI,oX,fO,eJ,uR,uS,uT,lN]
  cases c1:((bW s (200+q.length)).fmod 9==0) with
  |true =>
   obtain⟨⟨f,Bf⟩,h2⟩:=hi;refine Out.kn (dl c x) (ζ (.int q.length)) ⟨⟨_,Bf.del x⟩,fun i y h3 h4 h5=>?_⟩ fun kn kr=>(hb kn kr).trans (by rw[c1,cI]);rw[List.length_append,List.length_singleton] at h3;rw[(B7 x Bf.nd).2.2,if_neg]
   ·exact h2 i y (by exact vQ h3) h4 h5
   ·intro e;subst e;have h6:=List.getElem?_eq_some_iff.mp h5;have h7:=List.getElem?_eq_some_iff.mp hN;have:=(List.getElem_inj (h₀:=h6.1) (h₁:=h7.1) H.nd).mp (h6.2.trans h7.2.symm);lia
  |false =>
   refine Out.kn c (ζ (.int q.length)) ⟨hi.1,fun i y h3 h4 h5=>?_⟩ fun kn kr=>(hb kn kr).trans (by rw[c1,cZ]);rw[List.length_append,List.length_singleton] at h3;exact hi.2 i y (by exact vQ h3) h4 h5) ⟨B,fun i x _ h1 h2=>hl i x h1 h2⟩
 obtain⟨l',o',h1,h2⟩ | ⟨_,hx,_⟩ | ⟨_,hv,_⟩:=L
 ·exact⟨l',o',h1.1,h2⟩
 ·exact hx.elim
 ·exact hv.elim
theorem T8(H:Wld N)(n:Nat)(s:List Int):Gives (rn (n+4) "_law_house" [.fz (Li s),.fz (NL N)]) fun d=>Tr N 5 d:=by
 obtain⟨x0,m0,i0,g0⟩:=cR H (i:=0) (by decide);obtain⟨x1,m1,i1,g1⟩:=cR H (i:=1) (by decide);obtain⟨x2,m2,i2,g2⟩:=cR H (i:=2) (by decide);obtain⟨x3,m3,i3,g3⟩:=cR H (i:=3) (by decide);obtain⟨x4,m4,i4,g4⟩:=cR H (i:=4) (by decide);obtain⟨x5,m5,_,g5⟩:=cR H (i:=5) (by decide);obtain⟨x6,m6,_,g6⟩:=cR H (i:=6) (by decide);obtain⟨v1,a1,b1⟩:=uL (n+2) (bW s 1);obtain⟨v2,a2,b2⟩:=uL (n+2) (bW s 2);obtain⟨l2,t2,e2⟩:=oZ H n s 20 (fs:=slice N (some 5) (some 7)) fun x hx=>lO hx;obtain⟨l3,t3,e3⟩:=oZ H n s 70 (fs:=slice N (some 7) (some 9)) fun x hx=>lO hx;obtain⟨l4,t4,e4⟩:=oZ H n s 120 (fs:=slice N (some 5) (some 9)) fun x hx=>lO hx;have q1:aD (rn (n+3) "_law_number") [rn (n+3) "_law_mixed" [.fz (Li s),.fz (.int 1)]]=.ok (.fz (.int v1)):=by rw[lN (n+1)];exact a1
 have q2:aD (rn (n+3) "_law_number") [rn (n+3) "_law_mixed" [.fz (Li s),.fz (.int 2)]]=.ok (.fz (.int v2)):=by rw[lN (n+1)];exact a2
 have tt:∀ (k:Int) lo hi {l:LP},rn (n+3) "_law_table" [.fz (Li s),.fz (.int k),.fz (NL N),.fz (.list ((slice N (some lo) (some hi)).map .str))]=.ok (.own (.dict (mkd l)))→aD (rn (n+3) "_law_table") [.ok (.fz (Li s)),.ok (.fz (.int k)),.ok (.fz (NL N)),b9 (.ok (NL N)) (some (.ok (.fz (.int lo)))) (some (.ok (.fz (.int hi))))]=.ok (.own (.dict (mkd l))):=fun k lo hi l h=>by
  rw[show b9 (.ok (NL N)) (some (.ok (.fz (.int lo)))) (some (.ok (.fz (.int hi))))=.ok (.own (.list ((slice N (some lo) (some hi)).map .str))) from congrArg ofP (uU _ _)];exact h
 have sl:∀ (l:LP) (x:Str) (r:R V) (v:V) (d:PyData) (k:PyData→R V),r=.ok v→v.clear=.fz d→l.length < aX→bT r (.ok (.dict (mkd l))) (.ok (.fz (.str x))) k=k (.dict (mkd (st l x d))):=fun l x r v d k h1 h2 h3=>by
  rw[h1];show rb (ofP (Mine.setItem (.dict (mkd l)) (.str x) (dOf v))) k=_;rw[iF h2,eH x d h3];rfl
 have B0:BT N 4 (sts [(x0,.int v1)] []):=BT.nil.set m0 (.int b1);have T1:Tr N 4 (.dict (mkd (sts [(x5,.int v2),(x6,.dict (mkd (sts [(x0,.int 3)] [])))] []))) :=
  Tr.mono (BT.toTr (m:=1) ((BT.nil.set m5 (.int b2)).set m6 (BT.toTr (m:=0) (BT.nil.set m0 (.int (by decide)))))) (by decide)
 have B1:=B0.set m1 T1;have B2:=B1.set m2 (t2.toTr.mono (by decide));have B3:=B2.set m3 (t3.toTr.mono (by decide));have T4:Tr N 4 (.dict (mkd (sts [(x2,.dict (mkd l4)),(x0,.int 1)] []))):=BT.toTr (m:=3) ((BT.nil.set m2 t4.toTr).set m0 (.int (by decide)));have B4:=B3.set m4 T4;obtain⟨l',o,hB,hL⟩:=T7 H (n+1) s B4 fun i x hi hx=>by
  have h1:∀ {y z:Str} {d:PyData} {l:LP},(lk l y).isSome=true→(lk (st l z d) y).isSome=true:=fun {y z d l} h=>by
   rw[oD];split
   ·rfl
   ·exact h
  have h2:∀ {y:Str} {d:PyData} {l:LP},(lk (st l y d) y).isSome=true:=fun {y d l}=>by rw[oD,if_pos rfl];rfl
  have:i=0∨i=1∨i=2∨i=3∨i=4:=by exact vO hi
  rcases this with rfl | rfl | rfl | rfl | rfl
  ·rw[show N[0]?=some x0 from i0] at hx;obtain rfl:=si hx;exact h1 (h1 (h1 (h1 h2)))
  ·rw[show N[1]?=some x1 from i1] at hx;obtain rfl:=si hx;exact h1 (h1 (h1 h2))
  ·rw[show N[2]?=some x2 from i2] at hx;obtain rfl:=si hx;exact h1 (h1 h2)
  ·rw[show N[3]?=some x3 from i3] at hx;obtain rfl:=si hx;exact h1 h2
  ·rw[show N[4]?=some x4 from i4] at hx;obtain rfl:=si hx;exact h2
 obtain⟨d,hd1,hd2⟩:=Dg (a:=.dict (mkd l')) (b:=(lk l' x2).getD (.dict [])) (c:=(lk l' x4).getD (.int 5)) (aR ((dS s 1).fmod 5) (n:=3) (by decide));refine⟨.fz d,d,?_,rfl,?_⟩
 ·rw[Qe,g0,g1,g2,g3,g4,g5,g6];simp only[aJ];rw[Df x0 q1 rfl,aG,Df x0 (r:=.ok (.fz (.int 3))) rfl rfl,iK x5 x6 q2 rfl rfl rfl,oG,aJ,sl _ _ _ _ _ _ rfl rfl (B0.lt H (by decide)),
   sl _ _ _ _ _ _ (tt 20 5 7 e2) rfl (B1.lt H (by decide)),sl _ _ _ _ _ _ (tt 70 7 9 e3) rfl (B2.lt H (by decide)),iK x2 x0 (tt 120 5 9 e4) rfl rfl rfl,sl _ _ _ _ _ _ rfl rfl (B3.lt H (by decide)),
   show rgI (.ok (.fz (.int 5)))=.ok [.int 0,.int 1,.int 2,.int 3,.int 4] from by kernel_rfl,aG]
  refine(hL _ _).trans ((Qh ..).trans ?_);rw[g2,g4,aJ,aJ,uK (n+2) s (by decide)];have h1:cV (so "get") (.ok (.fz (.dict (mkd l')))) [.ok (.fz (.str x2)),.ok (.own (.dict []))]=.ok (.fz ((lk l' x2).getD (.dict []))):=congrArg ofP (Dh l' x2 (.dict []));have h2:cV (so "get") (.ok (.fz (.dict (mkd l')))) [.ok (.fz (.str x4)),.ok (.fz (.int 5))]=.ok (.fz ((lk l' x4).getD (.int 5))):=congrArg ofP (Dh l' x4 (.int 5));rw[h1,h2];refine Eq.trans (b:=rb (ofP (getItem (.list [.dict (mkd l'),(lk l' x2).getD (.dict []),(lk l' x4).getD (.int 5)]) (.int (((dS s 1).fmod 5).fmod 3)))) R.ok) (by kernel_rfl) ?_;rw[hd1];rfl
 ·rcases hd2 with rfl | rfl | rfl
  ·exact hB.toTr
  ·exact Tr.mono (hB.get ((BT.nil (m:=3)).toTr)) (by decide)
  ·exact Tr.mono (hB.get (.int (by decide))) (by decide)
end Mine
namespace Mine
open PySem
variable {N:List Str} {m:Nat}
theorem Di{t:PyData→R Bool}{e:PyData→R V}{Q:PyData→Prop}:∀ {l:List PyData},(∀ d∈l,t d=.ok false∨t d=.ok true∧∃ v,e d=.ok v∧Q (dOf v))→∃ xs,aU t e l=.ok xs∧∀ x∈xs,Q x:=by
 intro v0
 induction v0 with
 |nil =>
  intro _;exact⟨[],rfl,by simp⟩
 |cons d r ih =>
  intro h;obtain⟨xs,e1,e2⟩:=ih fun d hd=>h d (List.mem_cons_of_mem _ hd);have hs:aU t e (d::r)=rb (nx (t d)) (fun b=>if b then rb (nx (e d)) fun v=>rb (aU t e r) fun xs=>.ok (dOf v::xs) else aU t e r):=rfl;rcases h d (by simp) with h1 | ⟨h1,v,h2,h3⟩
  ·exact⟨xs,by rw[hs,h1,dP,aG,cZ,e1],e2⟩
  ·refine⟨dOf v::xs,by rw[hs,h1,dP,aG,cI,h2,dP,aG,e1,aG],fun x hx=>?_⟩;rcases List.mem_cons.mp hx with rfl | hx
   ·exact h3
   ·exact e2 x hx
theorem jN(H:Wld N){l:LP}{f:Str→Option TT}(B:Bld N m l f):aH dC (ofP (cF (.dict (mkd l))))=.ok (.own (.list ((bC (ks l)).map .str))):=by
 rw[list_dict];show ofP (fR ((ks l).map .str))=_;rw[uF (by rw[eI];exact B.lt H (by decide))];rfl
theorem Dj{xs:List PyData}(h:xs≠[])(a:Int):∃ x,x∈xs∧rb (ofP (aC .Mod (.int a) (.int xs.length))) (fun i=>ofP (getItem (.list xs) (dOf i)))=.ok (.fz x):=by
 have hl:0 < xs.length:=List.length_pos_iff.mpr h;have hr:=aR a (n:=(xs.length:Int)) (by exact pE hl);have hk:(a.fmod xs.length).toNat < xs.length:=by exact Gb hr
 refine⟨xs[(a.fmod xs.length).toNat],List.getElem_mem hk,?_⟩;rw[eJ _ (by exact vR hl),aJ,aG,dQ,oY hr.1 (List.getElem?_eq_getElem hk)];rfl
theorem uV{S:List Str}(h:S≠[])(a:Int):∃ x,x∈S∧rb (ofP (aC .Mod (.int a) (.int (S.map PyData.str).length))) (fun i=>ofP (getItem (.list (S.map .str)) (dOf i)))=.ok (.fz (.str x)):=by
 obtain⟨d,hd,e⟩:=Dj (xs:=S.map PyData.str) (by simpa using h) a;obtain⟨x,hx,rfl⟩:=List.mem_map.mp hd;exact⟨x,hx,e⟩
theorem Dk(H:Wld N)(n:Nat)(c:Int){l:LP}{f:Str→Option TT}(B:Bld N m l f)(fl:Str):RInt (rn (n+1) "_law_least" [.fz (.int c),.fz (.dict (mkd l)),.fz (.str fl)]) (10 ^ 30):=by
 obtain⟨rows,e1,h1⟩:=Di (l:=(bC (ks l)).map .str) (t:=fun d1=>tst (dX (so "dict") (ofP (getItem (.dict (mkd l)) d1)))) (e:=fun d1=>ofP (getItem (.dict (mkd l)) d1)) (Q:=fun d=>∃ m' lr g,d=.dict (mkd lr)∧Bld N m' lr g) fun d hd=>by
  obtain⟨k,hk,rfl⟩:=List.mem_map.mp hd;obtain⟨d,t,q1,q2,q3⟩:=B.key (dA.mp hk);rw[bI q1];obtain⟨i,rfl,rfl,_⟩ | ⟨m',lr,g,_,rfl,rfl,C⟩:=q3.inv'
  ·exact .inl rfl
  ·exact .inr ⟨rfl,_,rfl,m',lr,g,rfl,C⟩
 obtain⟨xs,e2,h2⟩:=Di (l:=rows) (t:=fun d3=>tst (dX (so "int") (cV (so "get") (.ok (.fz d3)) [.ok (.fz (.str fl))]))) (e:=fun d3=>ofP (getItem d3 (.str fl))) (Q:=fun d=>∃ i:Int,d=.int i∧i.natAbs < big) fun d hd=>by
  obtain⟨m',lr,g,rfl,C⟩:=h1 d hd;rw[lM];refine ocs (lk lr fl) (fun e=>?_) fun d e=>?_
  ·try rewrite[e]
   exact .inl rfl
  ·try rewrite[e]
   obtain⟨t,q1,q2⟩:=C.get' e;obtain⟨i,rfl,rfl,hi⟩ | ⟨_,lr,g,_,rfl,rfl,_⟩:=q2.inv'
   ·exact .inr ⟨rfl,.fz (.int i),by rw[bI e];rfl,i,rfl,hi⟩
   ·exact .inl rfl
 have hr1:=aR (c.fdiv 3) (n:=7) (by decide);have hr2:=aR (c.fdiv 12) (n:=3) (by decide);rw[Qu,jN H B];have E:∀ X:R V,X=(if (xs.isEmpty||c.fmod 3==0)=true then .ok (.fz (.int ((c.fdiv 3).fmod 7 - 3))) else rb (aB .Sub (aB .Add (rb (ofP (aC .Mod (.int (c.fdiv 3)) (.int xs.length))) (fun i=>ofP (getItem (.list xs) (dOf i)))) (aB .Mod (ofP (aC .FloorDiv (.int c) (.int 12))) (.ok (.fz (.int 3))))) (.ok (.fz (.int 1)))) R.ok)→RInt X (10 ^ 30):=by
  rintro _ rfl
  refine bcs ((xs.isEmpty||c.fmod 3==0)) (fun hc=>?_) fun hc=>?_
  ·try rewrite[hc]
   have hne:xs≠[]:=fun e=>by rw[e] at hc;simp at hc
   obtain⟨x,hx,e⟩:=Dj hne (c.fdiv 3);obtain⟨i,rfl,hi⟩:=h2 x hx;refine⟨i+(c.fdiv 12).fmod 3 - 1,by rw[cZ,e];kernel_rfl,?_⟩;unfold big at hi;omega
  ·try rewrite[hc]
   exact⟨_,by rw[cI],by omega⟩
 refine E _ ?_;show rb (rb (aU _ _ ((bC (ks l)).map .str)) fun r=>ofP (own (.list r))) (fun v2=>rb (aV (plI (ofP (rdv (V.clear v2)))) _ _) _)=_;rw[e1];show rb (rb (aU _ _ rows) fun r=>ofP (own (.list r))) (fun v4=>_)=_;rw[e2];have hb:aE (ofP (rdv (V.clear (.own (.list xs))))) .Eq (.ok (.own (.list [])))=.ok (.fz (.bool xs.isEmpty)):=by
  show aZ (ofP (eqO (.list xs) (.list [])))=_;rw[Cv];rfl
 show ifS (orS (aE (ofP (rdv (V.clear (.own (.list xs))))) .Eq (.ok (.own (.list [])))) _) _ _=_;rw[hb];cases xs.isEmpty with
 |true=>kernel_rfl
 |false =>
  show(if (c.fmod 3==0)=true then _ else _)=_;cases (c.fmod 3==0) with
  |true=>kernel_rfl
  |false =>
   rw[cZ];generalize hZ:rb (ofP (aC .Mod (.int (c.fdiv 3)) (.int xs.length))) (fun i=>ofP (getItem (.list xs) (dOf i)))=Z;have hz:aI (bS (V.clear (V.clear (.own (.list xs))))) (aB .Mod (ofP (aC .FloorDiv (.int c) (.int 3))) (aH a8 (ofP (rdv (V.clear (V.clear (.own (.list xs))))))))=Z:=hZ▸by kernel_rfl
   rw[hz];rfl
inductive IsV(N:List Str)(h g:Nat)(r:R V):Prop where
 |mk (w:WW) (e:r=.ok (.fz (enc w))) (o:okW N w) (i:w.isRows=false) (a:w.hgt≤h) (b:w.grow≤g):IsV N h g r
theorem IsV.whole{h g:Nat}:IsV N h g (.ok (.fz (.tuple [.str (so "whole")]))):=⟨.whole,rfl,trivial,rfl,Nat.zero_le _,Nat.zero_le _⟩
theorem IsV.ite{h g:Nat}{c a b:R V}{t:Bool}(hc:c=.ok (.fz (.bool t)))(ha:t=true→IsV N h g a)(hb:t=false→IsV N h g b):IsV N h g (ifS c a b):=by
 rw[hc];cases t with
 |true=>exact ha rfl
 |false=>exact hb rfl
theorem T9(a b c:PyData):aN [.ok (.fz a),.ok (.fz b),.ok (.fz c)]=.ok (.fz (.tuple [a,b,c])):=rfl
theorem Dl(H:Wld N)(n:Nat)(c:Int){l:LP}{f:Str→Option TT}(B:Bld N m l f):IsV N 0 1 (ifS (rn (n+1) "_law_is_table" [.fz (.dict (mkd l))]) (rb (aI (.ok (NL N)) (aB .Add (.ok (.fz (.int 5))) (aB .Mod (ofP (aC .FloorDiv (.int c) (.int 4))) (.ok (.fz (.int 4)))))) fun v3=>(rb (aN [(.ok (.fz (.str (so "sift")))),(ofP (rdv (V.clear v3))),(aD (rn (n+1) "_law_least") [(ofP (aC .FloorDiv (.int c) (.int 16))),(.ok (.fz (.dict (mkd l)))),(bB (V.clear v3))])]) R.ok)) (R.ok (.fz (.tuple [(.str (so "whole"))])))):=by
 refine IsV.ite (uG n B.toSem) (fun _=>?_) fun _=>IsV.whole;have hr:=aR (c.fdiv 4) (n:=4) (by decide);obtain⟨x,hx,_,hg⟩:=cR H (i:=5+(c.fdiv 4).fmod 4) (by exact vS hr);obtain⟨i,hi,hb⟩:=Dk H n (c.fdiv 16) B x;rw[show aI (.ok (NL N)) (aB .Add (.ok (.fz (.int 5))) (aB .Mod (ofP (aC .FloorDiv (.int c) (.int 4))) (.ok (.fz (.int 4)))))=.ok (.fz (.str x)) from (by kernel_rfl:_=ofP (getItem (NL N) (.int (5+(c.fdiv 4).fmod 4)))).trans (by rw[hg];rfl),aG,
  show aD (rn (n+1) "_law_least") [(ofP (aC .FloorDiv (.int c) (.int 16))),(.ok (.fz (.dict (mkd l)))),(bB (V.clear (.fz (.str x))))]=.ok (.fz (.int i)) from (by kernel_rfl:_=rn (n+1) "_law_least" [.fz (.int (c.fdiv 16)),.fz (.dict (mkd l)),.fz (.str x)]).trans hi]
 exact⟨.sift x i,rfl,⟨hx,hb⟩,rfl,Nat.le_refl _,Nat.zero_le _⟩
theorem Dm(n:Nat)(c:Int){d nl:PyData}(h:bE d=false):rn (n+1) "_law_simple" [.fz (.int c),.fz d,.fz nl]=.ok (.fz (.tuple [.str (so "whole")])):=by
 rw[Bo,h];rfl
theorem Ua(H:Wld N)(n:Nat)(c:Int){l:LP}{f:Str→Option TT}(B:Bld N m l f):IsV N 0 1 (rn (n+2) "_law_simple" [.fz (.int c),.fz (.dict (mkd l)),.fz (NL N)]):=by
 rw[Bo];refine IsV.ite (t:=c.fmod 4==0) (by kernel_rfl) (fun _=>IsV.whole) fun _=>?_;rw[jN H B,aG];have hmem:∀ x∈bC (ks l),x∈ks l:=fun x hx=>dA.mp hx;generalize bC (ks l)=S at hmem;have hc:aT (aE (ofP (rdv (V.clear (.own (.list (S.map .str)))))) .NotEq (.ok (.own (.list [])))) (aE (ofP (aC .Mod (.int c) (.int 4))) .Lt (.ok (.fz (.int 3))))=.ok (.fz (.bool (!S.isEmpty&&decide (c.fmod 4 < 3)))):=by
  rw[show aE (ofP (rdv (V.clear (.own (.list (S.map .str)))))) .NotEq (.ok (.own (.list [])))=.ok (.fz (.bool (!S.isEmpty))) from (congrArg (fun p=>aZ (ofP (b5 p))) (lJ S)).trans rfl];cases S.isEmpty<;>kernel_rfl
 refine IsV.ite hc (fun ht=>?_) fun _=>Dl H n c B;have hS:S≠[]:=fun e=>by rw[e] at ht;simp at ht
 obtain⟨x,hx,hix⟩:=uV hS (c.fdiv 4);have hix':aI (bS (V.clear (V.clear (.own (.list (S.map .str)))))) (aB .Mod (ofP (aC .FloorDiv (.int c) (.int 4))) (aH a8 (ofP (rdv (V.clear (V.clear (.own (.list (S.map .str)))))))) )=.ok (.fz (.str x)):=(by kernel_rfl:_=rb (ofP (aC .Mod (.int (c.fdiv 4)) (.int (S.map PyData.str).length))) (fun i=>ofP (getItem (.list (S.map .str)) (dOf i)))).trans hix;rw[hix'];refine IsV.ite (t:=c.fmod 4==1) (by kernel_rfl) (fun _=>⟨.pick x,rfl,B.sub x (hmem x hx),rfl,Nat.le_refl _,Nat.le_refl _⟩) fun _=>?_;have hr:=aR (c.fdiv 16) (n:=14) (by decide);obtain⟨y,hy,_,hg⟩:=cR H (i:=(c.fdiv 16).fmod 14) hr;rw[show aI (.ok (NL N)) (aB .Mod (ofP (aC .FloorDiv (.int c) (.int 16))) (.ok (.fz (.int 14))))=.ok (.fz (.str y)) from (by kernel_rfl:_=ofP (getItem (NL N) (.int ((c.fdiv 16).fmod 14)))).trans (by rw[hg];rfl),aG];refine IsV.ite (t:=!(lk l y).isSome) ((congrArg (fun p=>aZ (ofP (b5 p))) (fA l y)).trans rfl) (fun hn=>?_) fun _=>Dl H n c B;refine⟨.call x y,rfl,⟨B.sub x (hmem x hx),hy,fun e=>?_⟩,rfl,Nat.le_refl _,Nat.zero_le _⟩;subst e;rw[lH.mpr (hmem x hx)] at hn;exact bft hn
end Mine
namespace Mine
open PySem
variable {N:List Str} {m:Nat}
theorem uW(H:Wld N)(n:Nat)(c:Int){d:PyData}(h:(∃ m t,Sem N m d t)∨d=.none):IsV N 0 1 (rn (n+2) "_law_simple" [.fz (.int c),.fz d,.fz (NL N)]):=by
 rcases h with ⟨m,t,h⟩ | rfl
 ·obtain⟨i,_⟩ | ⟨m,l,f,B⟩:=h.inv
  ·rw[Dm (n+1) c rfl];exact IsV.whole
  ·exact Ua H n c B
 ·rw[Dm (n+1) c rfl];exact IsV.whole
inductive SeenA(N:List Str)(m:Nat)(o:Option TT)(r:R V):Prop where
 |mk (v:V) (d':PyData) (e:r=.ok v) (c:v.clear=.fz d') (h:(∃ s,o=some s∧Sem N m d' s)∨o=none∧d'=.none):SeenA N m o r
theorem uX(H:Wld N){w:WW}(ho:okW N w)(hr:w.isRows=false){n:Nat}{d:PyData}{t:TT}(hn:w.hgt+m+3≤n)(hd:Sem N m d t):SeenA N m (aK w t) (rn n "_law_seen" [.fz (enc w),.fz d]):=by
 have h:=(C4 H ho).1 hr hn hd;cases hs:aK w t with
 |none=>rw[hs] at h;exact⟨_,_,h,rfl,.inr ⟨rfl,rfl⟩⟩
 |some s=>rw[hs] at h;obtain⟨v,d',a,b,c⟩:=h;exact⟨v,d',a,b,.inl ⟨s,rfl,c⟩⟩
theorem Ub(H:Wld N){h g:Nat}{w w1:WW}(ho:okW N w)(hr:w.isRows=false)(hh:w.hgt≤h)(hg:w.grow≤g)(ho1:okW N w1)(hr1:w1.isRows=false)(hh1:w1.hgt≤h)(hg1:w1.grow≤g){n:Nat}{d:PyData}{t:TT}(hn:w.hgt+m+3≤n)(hd:Sem N m d t) :
  IsV N h g (rb (dN (aE (aD (rn n "_law_seen") [.ok (.fz (enc w)),.ok (.fz d)]) .Is (.ok (.fz .none))) (.ok (.fz (enc w1))) (.ok (.fz (enc w)))) R.ok):=by
 obtain⟨v,d',e1,e2,e3⟩:=uX H ho hr hn hd;rw[show aD (rn n "_law_seen") [.ok (.fz (enc w)),.ok (.fz d)]=.ok v from e1];show IsV N h g (rb (if cS (dOf v)=true then _ else _) R.ok);cases cS (dOf v) with
 |true=>exact⟨w1,rfl,ho1,hr1,hh1,hg1⟩
 |false=>exact⟨w,rfl,ho,hr,hh,hg⟩
theorem Uc{l:List Str}{a b:Int}(h0:0≤a)(h1:a≤b)(h2:b≤l.length):(slice l (some a) (some b)).length=b.toNat - a.toNat:=by
 show((l.drop (clipAt l.length a)).take (clipAt l.length b - clipAt l.length a)).length=_;rw[uM h0 (Int.le_trans h1 h2),uM (Int.le_trans h0 h1) h2,List.length_take,List.length_drop,Nat.min_eq_left];have:=Int.toNat_le_toNat h2;rw[Int.toNat_natCast] at this;exact Nat.sub_le_sub_right this _
theorem Ud{l:List Str}{lo hi:Option Int}(h:l.Nodup):(slice l lo hi).Nodup:=((List.take_sublist _ _).trans (List.drop_sublist _ _)).nodup h
theorem Ue(lo hi:Int):aH eQ (b9 (.ok (NL N)) (some (.ok (.fz (.int lo)))) (some (.ok (.fz (.int hi)))))=.ok (.fz (.tuple ((slice N (some lo) (some hi)).map .str))):=by
 rw[show b9 (.ok (NL N)) (some (.ok (.fz (.int lo)))) (some (.ok (.fz (.int hi))))=.ok (.own (.list ((slice N (some lo) (some hi)).map .str))) from congrArg ofP (uU _ _)];rfl
theorem uY(H:Wld N){i j:Nat}{a b:Str}(ha:N[i]?=some a)(hb:N[j]?=some b)(hij:i≠j){lo hi:Int}(h0:0≤lo)(h1:lo < hi)(h2:hi≤lo+6)(h3:hi≤14):okW N (.join a b (slice N (some lo) (some hi))):=by
 have hl:=Uc (l:=N) h0 (Int.le_of_lt h1) (by rw[H.len];exact h3);obtain⟨p1,p2⟩:=List.getElem?_eq_some_iff.mp ha;obtain⟨q1,q2⟩:=List.getElem?_eq_some_iff.mp hb;refine⟨⟨p2▸List.getElem_mem p1,q2▸List.getElem_mem q1,fun e=>hij ?_⟩,⟨by exact Gc h0 h1 hl,by exact Gd h2 hl⟩,Ud H.nd,fun f hf=>lO hf⟩;exact(List.getElem_inj (h₀:=p1) (h₁:=q1) H.nd).mp (p2.trans (e.trans q2.symm))
theorem Uf(a b:WW):aN [.ok (.fz (.str (so "then"))),.ok (.fz (enc a)),.ok (.fz (enc b))]=.ok (.fz (enc (.andThen a b))):=rfl
theorem Ug(a:WW):aN [.ok (.fz (.str (so "each"))),.ok (.fz (enc a))]=.ok (.fz (enc (.each a))):=rfl
theorem uZ(a b:Str)(fs:List Str):aN [.ok (.fz (.str (so "join"))),.ok (.fz (.str a)),.ok (.fz (.str b)),.ok (.fz (.tuple (fs.map .str)))]=.ok (.fz (enc (.join a b fs))):=rfl
theorem Dn(a:Str):aN [.ok (.fz (.str (so "pick"))),.ok (.fz (.str a))]=.ok (.fz (enc (.pick a))):=rfl
theorem u0(a b:Str):aN [.ok (.fz (.str (so "call"))),.ok (.fz (.str a)),.ok (.fz (.str b))]=.ok (.fz (enc (.call a b))):=rfl
theorem Uh(a:Str)(i:Int):aN [.ok (.fz (.str (so "sift"))),.ok (.fz (.str a)),.ok (.fz (.int i))]=.ok (.fz (enc (.sift a i))):=rfl
theorem Do(H:Wld N)(n:Nat)(c:Int){d:PyData}{t:TT}(hd:Sem N m d t)(hn:m+4≤n):IsV N 1 2 (rn (n+1) "_law_small" [.fz (.int c),.fz d,.fz (NL N)]):=by
 refine exnE (c:=2) n hn hn fun n hn=>?_;obtain⟨w1,e1,o1,r1,h1,g1⟩:=uW H n (c.fdiv 6) (.inl ⟨m,t,hd⟩);rw[Qv,show aD (rn (n+2) "_law_simple") [(ofP (aC .FloorDiv (.int c) (.int 6))),(.ok (.fz d)),(.ok (.fz (NL N)))]=.ok (.fz (enc w1)) from (by kernel_rfl:_=rn (n+2) "_law_simple" [.fz (.int (c.fdiv 6)),.fz d,.fz (NL N)]).trans e1,aG];have hone:IsV N 1 2 (R.ok (.fz (enc w1))):=⟨w1,rfl,o1,r1,Nat.le_trans h1 (by decide),Nat.le_trans g1 (by decide)⟩
 obtain⟨i,_⟩ | ⟨m,l,f,B⟩:=hd.inv
 ·refine IsV.ite (t:=true) ?_ (fun _=>hone) fun h=>by exact btf h
  show orS (.ok (.fz (.bool (decide (c.fmod 6 < 2))))) (.ok (.fz (.bool true)))=_;cases decide (c.fmod 6 < 2)<;>rfl
 refine IsV.ite (t:=decide (c.fmod 6 < 2)) (by
  show orS (.ok (.fz (.bool (decide (c.fmod 6 < 2))))) (.ok (.fz (.bool false)))=_;cases decide (c.fmod 6 < 2)<;>rfl) (fun _=>hone) fun _=>?_
 rw[jN H B,aG];have hmem:∀ x∈bC (ks l),x∈ks l:=fun x hx=>dA.mp hx;generalize bC (ks l)=S at hmem;rw[bO,bX,bU,aJ];obtain⟨v,d',s1,s2,s3⟩:=uX H o1 r1 (n:=n+2) (by exact Ge h1 hn) hd;obtain⟨w2,e2,o2,r2,h2,g2⟩:=uW H n (c.fdiv 7) (d:=d') (s3.elim (fun hh=>by obtain⟨s,_,h⟩:=hh;exact .inl ⟨_,s,h⟩) fun h=>.inr h.2);rw[show aD (rn (n+2) "_law_simple") [(ofP (aC .FloorDiv (.int c) (.int 7))),(aD (rn (n+2) "_law_seen") [.ok (.fz (enc w1)),(.ok (.fz (.dict (mkd l))))]),(.ok (.fz (NL N)))]=.ok (.fz (enc w2)) from by
  rw[show aD (rn (n+2) "_law_seen") [.ok (.fz (enc w1)),(.ok (.fz (.dict (mkd l))))]=.ok v from s1];refine Eq.trans (b:=rn (n+2) "_law_simple" [.fz (.int (c.fdiv 7)),v.clear,.fz (NL N)]) (by kernel_rfl) ?_;rw[s2,e2],Uf,aG]
 have o3:okW N (.andThen w1 w2):=⟨⟨o1,r1⟩,o2,r2⟩
 have h3:(W.andThen w1 w2).hgt≤1:=by show max w1.hgt w2.hgt+1≤1;exact Gf h1 h2
 have g3:(W.andThen w1 w2).grow≤2:=by show w1.grow+w2.grow≤2;exact Gg g1 g2
 obtain⟨n2,m2,i2,gg2⟩:=cR H (i:=2) (by decide);obtain⟨n3,m3,i3,gg3⟩:=cR H (i:=3) (by decide);have o4:okW N (.join n2 n3 (slice N (some 5) (some 7))):=uY H i2 i3 (by decide) (by decide) (by decide) (by decide) (by decide);have hw1:w1.hgt≤1∧w1.grow≤2:=⟨by exact Gh h1,by exact vT g1⟩
 have fin:=fun {w:WW} (ho:okW N w) (hr:w.isRows=false) (hh:w.hgt≤1) (hg:w.grow≤2)=>Ub H (h:=1) (g:=2) ho hr hh hg o1 r1 hw1.1 hw1.2 (n:=n+2) (by exact Gi hn hh) hd;rw[gg2,gg3,Ue];simp only[aJ,uZ,aG,bO,bX,bU];have hc:aT (aE (ofP (aC .Mod (.int c) (.int 6))) .Gt (.ok (.fz (.int 2)))) (aE (ofP (rdv (V.clear (.own (.list (S.map .str)))))) .NotEq (.ok (.own (.list []))))=.ok (.fz (.bool (decide (2 < c.fmod 6)&&!S.isEmpty))):=by
  rw[show aE (ofP (rdv (V.clear (.own (.list (S.map .str)))))) .NotEq (.ok (.own (.list [])))=.ok (.fz (.bool (!S.isEmpty))) from (congrArg (fun p=>aZ (ofP (b5 p))) (lJ S)).trans rfl,show aE (ofP (aC .Mod (.int c) (.int 6))) .Gt (.ok (.fz (.int 2)))=.ok (.fz (.bool (decide (2 < c.fmod 6)))) from by kernel_rfl];cases decide (2 < c.fmod 6)<;>rfl
 have hc2:aT (aE (ofP (aC .Mod (.int c) (.int 6))) .Eq (.ok (.fz (.int 5)))) (aE (aB .Mod (ofP (aC .FloorDiv (.int c) (.int 6))) (.ok (.fz (.int 3)))) .Eq (.ok (.fz (.int 0))))=.ok (.fz (.bool (c.fmod 6==5&&(c.fdiv 6).fmod 3==0))):=by
  rw[show aE (ofP (aC .Mod (.int c) (.int 6))) .Eq (.ok (.fz (.int 5)))=.ok (.fz (.bool (c.fmod 6==5))) from by kernel_rfl];cases (c.fmod 6==5)<;>kernel_rfl
 refine IsV.ite hc (fun ht=>?_) fun _=>IsV.ite hc2 (fun _=>fin o4 rfl (Nat.zero_le _) (Nat.le_succ _)) fun _=>fin o3 rfl h3 g3;have hS:S≠[]:=fun e=>by rw[e] at ht;simp at ht
 obtain⟨x,hx,hix⟩:=uV hS (c.fdiv 6);have hix':aI (bS (V.clear (V.clear (.own (.list (S.map .str)))))) (aB .Mod (ofP (aC .FloorDiv (.int c) (.int 6))) (aH a8 (ofP (rdv (V.clear (V.clear (.own (.list (S.map .str)))))))) )=.ok (.fz (.str x)):=(by kernel_rfl:_=rb (ofP (aC .Mod (.int (c.fdiv 6)) (.int (S.map PyData.str).length))) (fun i=>ofP (getItem (.list (S.map .str)) (dOf i)))).trans hix;obtain⟨dx,tx,q1,q2,q3⟩:=B.key (hmem x hx);obtain⟨w5,e5,o5,r5,h5,g5⟩:=uW H n (c.fdiv 11) (.inl ⟨m,tx,q3⟩);have hr:=aR (c.fdiv 36) (n:=14) (by decide);obtain⟨y,hy,_,hgy⟩:=cR H (i:=(c.fdiv 36).fmod 14) hr;rw[hix',aG];simp only[aJ,bO,bU];rw[show aD (rn (n+2) "_law_simple") [(ofP (aC .FloorDiv (.int c) (.int 11))),(aI (.ok (.dict (mkd l))) (.ok (.fz (.str x)))),(.ok (.fz (NL N)))]=.ok (.fz (enc w5)) from by
  rw[show aI (.ok (.dict (mkd l))) (.ok (.fz (.str x)))=.ok (.fz dx) from congrArg ofP (bI q1)];exact(by kernel_rfl:_=rn (n+2) "_law_simple" [.fz (.int (c.fdiv 11)),.fz dx,.fz (NL N)]).trans e5,aG,
  show aI (.ok (NL N)) (aB .Mod (ofP (aC .FloorDiv (.int c) (.int 36))) (.ok (.fz (.int 14))))=.ok (.fz (.str y)) from (by kernel_rfl:_=ofP (getItem (NL N) (.int ((c.fdiv 36).fmod 14)))).trans (by rw[hgy];rfl)]
 have o6:okW N (.each w5):=⟨o5,r5⟩
 have o7:okW N (.beside (.bcons y x w5 .bnil)):=⟨⟨⟨⟨hy,B.sub x (hmem x hx)⟩,⟨o5,r5⟩,⟨trivial,rfl⟩,by simp[lB,lC],by simp[Bu,Bv]⟩,rfl⟩,Nat.le_refl _,Nat.succ_le_succ (Nat.zero_le _)⟩
 have hv6:∃ w6:WW,aI (dH (eD [(aN [(.ok (.fz (.str (so "each")))),.ok (.fz (enc w5))]),(aN [(.ok (.fz (.str (so "beside")))),(aN [(aN [.ok (.fz (.str y)),.ok (.fz (.str x)),.ok (.fz (enc w5))])])])])) (ofP (aC .Mod (.int c) (.int 2)))=.ok (.fz (enc w6))∧okW N w6∧w6.isRows=false∧w6.hgt≤1∧w6.grow≤2:=by
  have h2:=aR c (n:=2) (by decide);have:c.fmod 2=0∨c.fmod 2=1:=by exact vK h2
  rw[show aC .Mod (.int c) (.int 2)=.ok (.fz (.int (c.fmod 2))) from eJ _ (by decide)];rcases this with h | h
  ·rw[h];exact⟨.each w5,by kernel_rfl,o6,rfl,by show w5.hgt+1≤1;exact Gj h5,by show w5.grow≤2;exact vT g5⟩
  ·rw[h];exact⟨.beside (.bcons y x w5 .bnil),by kernel_rfl,o7,rfl,by show max w5.hgt 0+1≤1;exact Gk h5,by show max w5.grow 0≤2;exact Gl g5⟩
 obtain⟨w6,e6,ow6,rw6,hw6,gw6⟩:=hv6;simp only[aJ,bO,bU];rw[e6];simp only[aJ,aG,bO,bX,bU];exact IsV.ite hc2 (fun _=>fin o4 rfl (Nat.zero_le _) (Nat.le_succ _)) fun _=>fin ow6 rw6 hw6 gw6
end Mine
namespace Mine
open PySem
variable {N:List Str} {m:Nat}
noncomputable def eL:List (Str×Str×WW)→WW
 | []=>.bnil
 |x::r=>.bcons x.1 x.2.1 x.2.2 (eL r)
noncomputable def fP(x:Str×Str×WW):PyData:=.tuple [.str x.1,.str x.2.1,enc x.2.2]
theorem u4:∀ L:List (Str×Str×WW),(eL L).isRows=true
 | []=>rfl
 |_::_=>rfl
theorem Dq:∀ L:List (Str×Str×WW),a9 (eL L)=L.map fP
 | []=>rfl
 |x::r=>by
  show .tuple [.str x.1,.str x.2.1,enc x.2.2]::a9 (eL r)=_;rw[Dq r];rfl
theorem jO:∀ L:List (Str×Str×WW),(eL L).names=L.map (·.1)∧(eL L).parts=L.map (·.2.1)
 | []=>⟨rfl,rfl⟩
 |x::r=>⟨congrArg (x.1::·) (jO r).1,congrArg (x.2.1::·) (jO r).2⟩
theorem Ui{h g:Nat}:∀ {L:List (Str×Str×WW)},(∀ x∈L,x.1∈N∧x.2.1∈N∧okW N x.2.2∧x.2.2.isRows=false∧x.2.2.hgt≤h∧x.2.2.grow≤g)→(L.map (·.1)).Nodup→(L.map (·.2.1)).Nodup→okW N (eL L)∧(eL L).hgt≤h∧(eL L).grow≤g:=by
 intro v0
 induction v0 with
 |nil =>
  intro _ _ _;exact⟨trivial,Nat.zero_le _,Nat.zero_le _⟩
 |cons x r ih =>
  intro hx h1 h2;obtain⟨a1,a2⟩:=List.nodup_cons.mp h1;obtain⟨b1,b2⟩:=List.nodup_cons.mp h2;obtain⟨i1,i2,i3⟩:=ih (fun y hy=>hx y (List.mem_cons_of_mem _ hy)) a2 b2;obtain⟨c1,c2,c3,c4,c5,c6⟩:=hx x (by simp);refine⟨⟨⟨c1,c2⟩,⟨c3,c4⟩,⟨i1,u4 r⟩,?_,?_⟩,Nat.max_le.mpr ⟨c5,i2⟩,Nat.max_le.mpr ⟨c6,i3⟩⟩
  ·rw[(jO r).1];exact a1
  ·rw[(jO r).2];exact b1
theorem Dr:∀ {k:Nat} {i:Int} {q r:List PyData} {d:PyData},dK i k=q++d::r→d=.int (i+q.length)∧q.length < k
 |0,i,q,r,d,h=>by cases q<;>cases h
 |k+1,i,[],r,d,h=>by
  have h:PyData.int i::dK (i+1) k=d::r:=h;cases h;exact⟨by simp,by simp⟩
 |k+1,i,x::q,r,d,h=>by
  have h:PyData.int i::dK (i+1) k=x::(q++d::r):=h;obtain⟨h1,h2⟩:=Dr (List.cons.inj h).2;refine⟨?_,by simpa using h2⟩;rw[h1,List.length_cons];congr 1;exact Gm
theorem Uj:∀ (k:Nat) (i:Int),(dK i k).length=k:=by
 intro v0
 induction v0 with
 |zero =>
  intro _;exact rfl
 |succ k ih =>
  intro i;exact congrArg (·+1) (ih (i+1))
theorem pA{xs:List Str}{a:Int}{n:Int}(hn:n=xs.length)(h:0 < n):∃ x,x∈xs∧xs[(a.fmod n).toNat]?=some x∧getItem (.list (xs.map .str)) (.int (a.fmod n))=.ok (.fz (.str x)):=by
 have hr:=aR a h;have hk:(a.fmod n).toNat < xs.length:=by exact Gn hn hr
 refine⟨xs[(a.fmod n).toNat],List.getElem_mem hk,List.getElem?_eq_getElem hk,oY hr.1 ?_⟩;rw[List.getElem?_map,List.getElem?_eq_getElem hk];rfl
theorem Ds{a n:Int}{i j:Nat}(hn:0 < n)(hj:(j:Int) < n)(hij:i < j):(a+i).fmod n≠(a+j).fmod n:=by
 rw[Int.fmod_eq_emod_of_nonneg _ (by exact pD hn),Int.fmod_eq_emod_of_nonneg _ (by exact pD hn)];intro e;have:=Int.emod_emod_of_dvd (a+j - (a+i)) (Int.dvd_refl n);have h1:(a+j - (a+i)) % n=0:=by rw[Int.sub_emod,e,Int.sub_self,Int.zero_emod]
 have h2:a+j - (a+i)=(j:Int) - i:=by exact Go
 rw[h2,Int.emod_eq_of_lt (by exact Gp hij) (by exact Gq hj)] at h1;lia
theorem Dt{xs ys:List Str}{n a:Int}(hx:xs.Nodup)(hn:n=xs.length)(hn0:0 < n)(hl:(ys.length:Int)≤n)(h:∀ (i:Nat) y,ys[i]?=some y→xs[((a+i).fmod n).toNat]?=some y):ys.Nodup:=by
 refine List.pairwise_iff_getElem.mpr fun i j hi hj hij e=>?_;have h1:=h i _ (List.getElem?_eq_getElem hi);have h2:=h j _ (List.getElem?_eq_getElem hj);rw[← e] at h2;obtain⟨p1,p2⟩:=List.getElem?_eq_some_iff.mp h1;obtain⟨q1,q2⟩:=List.getElem?_eq_some_iff.mp h2;have e2:=(List.getElem_inj (h₀:=p1) (h₁:=q1) hx).mp (p2.trans q2.symm);have r1:=aR (a+i) hn0;have r2:=aR (a+j) hn0;exact Ds (a:=a) hn0 (by exact Gr hl hj) hij (by exact Gs e2 r1 r2)
theorem Uk(H:Wld N)(n:Nat)(c:Int){l:LP}{f:Str→Option TT}(B:Bld N m l f)(hn:m+4≤n)(hS:bC (ks l)≠[]):IsV N 2 2 (rn (n+2) "_law_wide" [.fz (.int c),.fz (.dict (mkd l)),.fz (.list ((bC (ks l)).map .str)),.fz (NL N)]):=by
 have hnd:=uD B.nd;have hmem:∀ x∈bC (ks l),x∈ks l:=fun x hx=>dA.mp hx;have hlen:(bC (ks l)).length≤14:=by rw[uE B.nd,eI];have:=B.len;rw[H.len] at this;exact this
 generalize bC (ks l)=S at hS hnd hmem hlen;have hpos:0 < S.length:=List.length_pos_iff.mpr hS;have hr6:=aR (c.fdiv 16) (n:=6) (by decide);rw[Qw];obtain⟨K,hK1,hK2,hK3,hK⟩:∃ K:Nat,1≤K∧K≤6∧K≤S.length∧rgI (kQ [ofP (a8 (.list (S.map .str))),aB .Add (.ok (.fz (.int 1))) (aB .Mod (ofP (aC .FloorDiv (.int c) (.int 16))) (.ok (.fz (.int 6))))])=.ok (dK 0 K):=by
  refine⟨(if 1+(c.fdiv 16).fmod 6 < (S.length:Int) then 1+(c.fdiv 16).fmod 6 else (S.length:Int)).toNat,?_,?_,?_,?_⟩
  ·split<;>lia
  ·split<;>lia
  ·split<;>lia
  ·refine Eq.trans (b:=ofP (pM (.int (if 1+(c.fdiv 16).fmod 6 < ((S.map PyData.str).length:Int) then 1+(c.fdiv 16).fmod 6 else ((S.map PyData.str).length:Int))))) (by kernel_rfl) ?_;rw[List.length_map];show ofP (if _ then _ else _)=_;rw[if_pos]
   ·rfl
   ·split<;>lia
 rw[hK,aG];have L:=lI (S:=fun (a:List (Str×Str×WW)) (o:Option V×Option V)=>iA (ζ (.int c)) (ζ (.dict (mkd l))) (ζ (.list (S.map .str))) (ζ (NL N)) (some (.own (.list (a.map fP)))) o.1 o.2) (b:=sY (n+1)) (t:=sZ) (l:=dK 0 K) (p:=[]) (a:=[]) (j:=(none,none))
  (I:=fun p a=>a.length=p.length∧(∀ x∈a,x.1∈N∧x.2.1∈N∧okW N x.2.2∧x.2.2.isRows=false∧x.2.2.hgt≤1∧x.2.2.grow≤2)∧(∀ (i:Nat) y,(a.map (·.1))[i]?=some y→N[((c.fdiv 64+i).fmod 14).toNat]?=some y)∧∀ (i:Nat) y,(a.map (·.2.1))[i]?=some y→S[((c+i).fmod S.length).toNat]?=some y) (E:=fun _=>False) (Q:=fun _=>False) (fun q d r a o hq hi=>by
   obtain⟨hd,hqk⟩:=Dr (show dK 0 K=q++d::r from hq);rw[Int.zero_add] at hd;subst hd;obtain⟨h1,h2,h3,h4⟩:=hi;obtain⟨x,hx,ix,gx⟩:=pA (xs:=S) (a:=c+q.length) (n:=S.length) rfl (by exact pE hpos);obtain⟨y,hy,iy,gy⟩:=pA (xs:=N) (a:=c.fdiv 64+q.length) (n:=14) (by rw[H.len];rfl) (by decide);obtain⟨dx,tx,q1,q2,q3⟩:=B.key (hmem x hx);obtain⟨w,e,ow,rw',hw,gw⟩:=Do H n (c.fdiv 7+5*q.length) q3 hn;refine Out.kn (a++[(y,x,w)]) (some (.fz (.int q.length)),some (.fz (.str x))) ⟨by simp[h1],fun z hz=>?_,fun i z hz=>?_,fun i z hz=>?_⟩ fun kn kr=>?_
   ·rcases List.mem_append.mp hz with hz | hz
    ·exact h2 z hz
    ·rw[List.mem_singleton.mp hz];exact⟨hy,B.sub x (hmem x hx),ow,rw',hw,gw⟩
   ·rw[List.map_append,List.getElem?_append] at hz
    split at hz
    ·exact h3 i z hz
    ·rename_i hlt;rw[List.length_map,h1] at hlt hz;have hi:i - q.length=0:=by
      rcases Nat.eq_zero_or_pos (i - q.length) with h | h
      ·exact h
      ·rw[List.getElem?_eq_none (by simp;exact vU h)] at hz;exact ns hz
     have:i=q.length:=by exact vV hlt hi
     subst this;rw[hi] at hz;obtain rfl:=si hz;exact iy
   ·rw[List.map_append,List.getElem?_append] at hz
    split at hz
    ·exact h4 i z hz
    ·rename_i hlt;rw[List.length_map,h1] at hlt hz;have hi:i - q.length=0:=by
      rcases Nat.eq_zero_or_pos (i - q.length) with h | h
      ·exact h
      ·rw[List.getElem?_eq_none (by simp;exact vU h)] at hz;exact ns hz
     have:i=q.length:=by exact vV hlt hi
     subst this;rw[hi] at hz;obtain rfl:=si hz;exact ix
   ·rw[Qx,aJ,aG,Qy];have z1:aI (.ok (.list (S.map .str))) (aB .Mod (ofP (aC .Add (.int c) (.int q.length))) (ofP (a8 (.list (S.map .str)))))=.ok (.fz (.str x)):=by
     refine Eq.trans (b:=rb (ofP (aC .Mod (.int (c+q.length)) (.int (S.map PyData.str).length))) (fun i=>ofP (getItem (.list (S.map .str)) (dOf i)))) (by kernel_rfl) ?_;rw[List.length_map,eJ _ (by exact vR hpos),aJ,aG,dQ,gx];rfl
    have z2:aI (.ok (NL N)) (aB .Mod (aB .Add (ofP (aC .FloorDiv (.int c) (.int 64))) (.ok (.fz (.int q.length)))) (.ok (.fz (.int 14))))=.ok (.fz (.str y)):=by
     refine Eq.trans (b:=ofP (getItem (NL N) (.int ((c.fdiv 64+q.length).fmod 14)))) (by kernel_rfl) ?_;rw[show getItem (NL N) (.int ((c.fdiv 64+q.length).fmod 14))=_ from gy];rfl
    have z3:aD (rn (n+1) "_law_small") [(aB .Add (ofP (aC .FloorDiv (.int c) (.int 7))) (ofP (aC .Mult (.int 5) (.int q.length)))),(aI (.ok (.dict (mkd l))) (.ok (.fz (.str x)))),(.ok (.fz (NL N)))]=.ok (.fz (enc w)):=by
     rw[show aI (.ok (.dict (mkd l))) (.ok (.fz (.str x)))=.ok (.fz dx) from congrArg ofP (bI q1)];exact(by kernel_rfl:_=rn (n+1) "_law_small" [.fz (.int (c.fdiv 7+5*q.length)),.fz dx,.fz (NL N)]).trans e
    rw[z1,aG,bO,bU,aJ,z2,z3,T9];show rb (ofP (if (a.map fP).length < aX then P.ok (PyData.list (a.map fP++[fP (y,x,w)])) else .no)) _=_;rw[if_pos (by rw[List.length_map,h1];have:aX=16777216:=rfl;exact Gu hK2 hqk this),show a.map fP++[fP (y,x,w)]=(a++[(y,x,w)]).map fP from by simp];rfl) ⟨rfl,fun x hx=>(by cases hx),fun i y h=>(by cases i<;>cases h),fun i y h=>(by cases i<;>cases h)⟩
 obtain⟨a,o,⟨h1,h2,h3,h4⟩,e⟩ | ⟨_,hx,_⟩ | ⟨_,hv,_⟩:=L
 ·rw[List.nil_append,Uj] at h1;obtain⟨k1,k2,k3⟩:=Ui h2 (Dt (xs:=N) (n:=14) H.nd (by rw[H.len];rfl) (by decide) (by rw[List.length_map];exact Gv hK2 h1) h3) (Dt (xs:=S) (n:=S.length) hnd rfl (by exact pE hpos) (by rw[List.length_map];exact Gw hK3 h1) h4);refine⟨.beside (eL a),?_,⟨⟨k1,u4 a⟩,?_,?_⟩,rfl,Nat.succ_le_succ k2,k3⟩
  ·refine(e _ _).trans ((Qz ..).trans ?_);show R.ok (V.fz (.tuple [.str (so "beside"),.tuple (a.map fP)]))=R.ok (V.fz (.tuple [.str (so "beside"),enc (eL a)]));rw[oQ (u4 a),Dq]
  ·rw[(jO a).1,List.length_map];lia
  ·rw[(jO a).1,List.length_map];lia
 ·exact hx.elim
 ·exact hv.elim
end Mine
namespace Mine
open PySem
variable {N:List Str} {m:Nat}
theorem Ul(S:List Str):aE (.ok (.fz (.list (S.map .str)))) .NotEq (.ok (.own (.list [])))=.ok (.fz (.bool (!S.isEmpty))):=(congrArg (fun p=>aZ (ofP (b5 p))) (lJ S)).trans rfl
inductive NlR(N:List Str)(i:Int)(r:R V):Prop where
 |mk (x:Str) (h:x∈N) (g:N[i.toNat]?=some x) (e:r=.ok (.fz (.str x))):NlR N i r
theorem jP(H:Wld N){e:R V}{i:Int}(he:e=.ok (.fz (.int i)))(h:0≤i∧i < 14):NlR N i (aI (.ok (NL N)) e):=by
 obtain⟨x,hx,ix,gx⟩:=cR H h;exact⟨x,hx,ix,by rw[he];exact congrArg ofP gx⟩
theorem u5{S:List Str}(h:S≠[])(M:Int):∃ x,x∈S∧aI (.ok (.list (S.map .str))) (aB .Mod (.ok (.fz (.int M))) (aH a8 (.ok (.fz (.list (S.map .str))))))=.ok (.fz (.str x)):=by
 obtain⟨x,hx,e⟩:=uV h M;exact⟨x,hx,(by kernel_rfl:_=rb (ofP (aC .Mod (.int M) (.int (S.map PyData.str).length))) (fun i=>ofP (getItem (.list (S.map .str)) (dOf i)))).trans e⟩
theorem u6{lo hi:R V}{a b:Int}(h1:lo=.ok (.fz (.int a)))(h2:hi=.ok (.fz (.int b))):b9 (.ok (NL N)) (some lo) (some hi)=.ok (.own (.list ((slice N (some a) (some b)).map .str))):=by
 rw[h1,h2];exact congrArg ofP (uU _ _)
set_option maxHeartbeats 1000000 in
theorem u7(H:Wld N)(n:Nat)(c:Int){d:PyData}{t:TT}(hd:Sem N m d t)(hn:m+4≤n):IsV N 2 2 (rn (n+3) "_law_piece" [.fz (.int c),.fz d,.fz (NL N)]):=by
 rw[Q0,show aC .Mod (.int c) (.int 10)=.ok (.fz (.int (c.fmod 10))) from eJ _ (by decide),show aC .FloorDiv (.int c) (.int 10)=.ok (.fz (.int (c.fdiv 10))) from fO _ (by decide)];simp only[aJ,aG,bO,bU,bX];generalize c.fmod 10=K;generalize c.fdiv 10=M;obtain⟨i,_⟩ | ⟨m,l,f,B⟩:=hd.inv
 ·exact IsV.whole
 refine IsV.ite (t:=K==0) (by kernel_rfl) (fun _=>IsV.whole) fun _=>?_;rw[jN H B];simp only[aG,gK,bO,bU,aJ,bX,jI];have hwide:=Uk H n M B (by exact Gx hn);have hmem:∀ x∈bC (ks l),x∈ks l:=fun x hx=>dA.mp hx;generalize bC (ks l)=S at hmem hwide;have r4:=aR M (n:=4) (by decide);obtain⟨x4,m4,_,g4⟩:=jP H (e:=aB .Add (.ok (.fz (.int 5))) (aB .Mod (.ok (.fz (.int M))) (.ok (.fz (.int 4))))) (i:=5+M.fmod 4) (by kernel_rfl) (by exact vS r4);obtain⟨i5,hi5,hb5⟩:=Dk H (n+1) (M.fdiv 4) B x4;rw[g4];simp only[aG,bO,bU,aJ,bX];rw[show aD (rn (n+2) "_law_least") [(aB .FloorDiv (.ok (.fz (.int M))) (.ok (.fz (.int 4)))),(.ok (.fz (.dict (mkd l)))),.ok (.fz (.str x4))]=.ok (.fz (.int i5)) from (by kernel_rfl:_=rn (n+2) "_law_least" [.fz (.int (M.fdiv 4)),.fz (.dict (mkd l)),.fz (.str x4)]).trans hi5,Uh,Ul];simp only[aG];refine IsV.ite (t:=decide (K < 3)&&!S.isEmpty) (by
  rw[show aE (R.ok (V.fz (.int K))) .Lt (.ok (.fz (.int 3)))=.ok (.fz (.bool (decide (K < 3)))) from by kernel_rfl];cases decide (K < 3)<;>rfl) (fun ht=>?_) fun _=>?_
 ·have hS:S≠[]:=fun e=>by rw[e] at ht;simp at ht
  obtain⟨x,hx,e⟩:=u5 hS M;rw[e,Dn];exact⟨.pick x,rfl,B.sub x (hmem x hx),rfl,Nat.zero_le _,Nat.le_succ _⟩
 have r14:=aR (M.fdiv 16) (n:=14) (by decide);obtain⟨y,hy,_,gy⟩:=jP H (e:=aB .Mod (aB .FloorDiv (.ok (.fz (.int M))) (.ok (.fz (.int 16)))) (.ok (.fz (.int 14)))) (i:=(M.fdiv 16).fmod 14) (by kernel_rfl) r14;rw[gy,show aE (R.ok (V.fz (.str y))) .NotIn (R.ok (V.fz (.list (S.map .str))))=.ok (.fz (.bool !(S.contains y))) from by
  show aZ (ofP (b5 ((ofO (strs? (S.map .str))).bind fun ss=>P.ok (ss.contains y))))=_;rw[iE];rfl]
 refine IsV.ite (t:=K==3&&(!S.isEmpty&&!(S.contains y))) (by
  rw[show aE (R.ok (V.fz (.int K))) .Eq (.ok (.fz (.int 3)))=.ok (.fz (.bool (K==3))) from by kernel_rfl];cases (K==3)<;>cases S.isEmpty<;>rfl) (fun ht=>?_) fun _=>?_
 ·have hS:S≠[]:=fun e=>by rw[e] at ht;simp at ht
  have hyS:y∉S:=fun h=>by simp[h] at ht
  obtain⟨x,hx,e⟩:=u5 hS M;rw[e,u0];exact⟨.call x y,rfl,⟨B.sub x (hmem x hx),hy,fun e=>hyS (e▸hx)⟩,rfl,Nat.zero_le _,Nat.zero_le _⟩
 refine IsV.ite (t:=K==4&&!S.isEmpty) (by
  rw[show aE (R.ok (V.fz (.int K))) .Eq (.ok (.fz (.int 4)))=.ok (.fz (.bool (K==4))) from by kernel_rfl];cases (K==4)<;>rfl) (fun ht=>?_) fun _=>?_
 ·have hS:S≠[]:=fun e=>by rw[e] at ht;simp at ht
  obtain⟨w,e,a1,a2,a3,a4⟩:=hwide hS;rw[show aD (rn (n+2) "_law_wide") [.ok (.fz (.int M)),(.ok (.fz (.dict (mkd l)))),.ok (.fz (.list (S.map .str))),(.ok (.fz (NL N)))]=.ok (.fz (enc w)) from e];exact⟨w,rfl,a1,a2,a3,a4⟩
 refine IsV.ite (t:=K==7||K==8) (by
  rw[show aE (R.ok (V.fz (.int K))) .Eq (.ok (.fz (.int 7)))=.ok (.fz (.bool (K==7))) from by kernel_rfl];cases (K==7)<;>kernel_rfl) (fun _=>?_) fun _=>?_
 ·have r2:=aR M (n:=2) (by decide);have r8:=aR (M.fdiv 8) (n:=4) (by decide);have r32:=aR (M.fdiv 32) (n:=6) (by decide);obtain⟨a,ma,ia,ga⟩:=jP H (e:=aB .Add (.ok (.fz (.int 2))) (aB .Mod (.ok (.fz (.int M))) (.ok (.fz (.int 2))))) (i:=2+M.fmod 2) (by kernel_rfl) (by exact Gy r2);obtain⟨b,mb,ib,gb⟩:=jP H (e:=aB .Sub (.ok (.fz (.int 3))) (aB .Mod (.ok (.fz (.int M))) (.ok (.fz (.int 2))))) (i:=3 - M.fmod 2) (by kernel_rfl) (by exact Gz r2);have hab:(2+M.fmod 2).toNat≠(3 - M.fmod 2).toNat:=by exact G0
  rw[ga,gb,show aB .Add (R.ok (V.fz (.int 5))) (aB .Mult (.ok (.fz (.int 2))) (aB .Mod (.ok (.fz (.int M))) (.ok (.fz (.int 2)))))=.ok (.fz (.int (5+2*M.fmod 2))) from by kernel_rfl];simp only[aG,bO,bU,aJ];rw[u6 (a:=5+2*M.fmod 2) (b:=5+2*M.fmod 2+2) rfl (by kernel_rfl)];simp only[aG,gK,bU,aJ];refine IsV.ite (t:=(M.fdiv 2).fmod 4==1) (by kernel_rfl) (fun _=>?_) fun _=>?_
  ·rw[show aB .Add (R.ok (V.fz (.int 4))) (aB .Mod (aB .FloorDiv (.ok (.fz (.int M))) (.ok (.fz (.int 8)))) (.ok (.fz (.int 4))))=.ok (.fz (.int (4+(M.fdiv 8).fmod 4))) from by kernel_rfl];simp only[aG,bO,bU,aJ];rw[u6 (a:=4+(M.fdiv 8).fmod 4) (b:=4+(M.fdiv 8).fmod 4+1+(M.fdiv 32).fmod 6) rfl (by kernel_rfl)];simp only[aG,gK,bU,aJ];rw[show aH eQ (R.ok (V.fz (.list ((slice N (some (4+(M.fdiv 8).fmod 4)) (some (4+(M.fdiv 8).fmod 4+1+(M.fdiv 32).fmod 6))).map .str))))=.ok (.fz (.tuple ((slice N (some (4+(M.fdiv 8).fmod 4)) (some (4+(M.fdiv 8).fmod 4+1+(M.fdiv 32).fmod 6))).map .str))) from rfl,uZ];exact⟨.join a b _,rfl,uY H ia ib hab (by exact G1 r8) (by exact G2 r32) (by exact G3 r32) (by exact G4 r8 r32),rfl,Nat.zero_le _,Nat.le_succ _⟩
  ·rw[show aH eQ (R.ok (V.fz (.list ((slice N (some (5+2*M.fmod 2)) (some (5+2*M.fmod 2+2))).map .str))))=.ok (.fz (.tuple ((slice N (some (5+2*M.fmod 2)) (some (5+2*M.fmod 2+2))).map .str))) from rfl,uZ];exact⟨.join a b _,rfl,uY H ia ib hab (by exact G5 r2) (by exact G6) (by exact G7) (by exact G8 r2),rfl,Nat.zero_le _,Nat.le_succ _⟩
 refine IsV.ite (t:=K==9) (by kernel_rfl) (fun _=>?_) fun _=>⟨.sift x4 i5,rfl,⟨m4,hb5⟩,rfl,Nat.zero_le _,Nat.zero_le _⟩
 obtain⟨dx,hdx,tx,hx⟩:∃ dx,dN (.ok (.fz (.bool (!S.isEmpty)))) (aI (.ok (.dict (mkd l))) (aI (.ok (.list (S.map .str))) (aB .Mod (.ok (.fz (.int M))) (aH a8 (.ok (.fz (.list (S.map .str)))))))) (.ok (.fz (.int 0)))=.ok (.fz dx)∧∃ tx,Sem N m dx tx:=by
  cases hE:S.isEmpty with
  |true=>exact⟨.int 0,rfl,_,.num (by decide)⟩
  |false =>
   have hS:S≠[]:=fun e=>by rw[e] at hE;exact btf hE
   obtain⟨x,hx,e⟩:=u5 hS M;obtain⟨dx,tx,q1,q2,q3⟩:=B.key (hmem x hx);refine⟨dx,?_,tx,q3⟩;rw[e];exact congrArg ofP (bI q1)
 obtain⟨w,e,ow,rw',hw,gw⟩:=Do H (n+1) (M.fdiv 5) hx (by exact G9 hn);rw[hdx,show aD (rn (n+2) "_law_small") [(aB .FloorDiv (.ok (.fz (.int M))) (.ok (.fz (.int 5)))),.ok (.fz dx),(.ok (.fz (NL N)))]=.ok (.fz (enc w)) from (by kernel_rfl:_=rn (n+2) "_law_small" [.fz (.int (M.fdiv 5)),.fz dx,.fz (NL N)]).trans e,Ug];exact⟨.each w,rfl,⟨ow,rw'⟩,rfl,Nat.succ_le_succ hw,gw⟩
inductive FitV(N:List Str)(h g:Nat)(t:TT)(r:R V):Prop where
 |mk (w:WW) (e:r=.ok (.fz (enc w))) (o:okW N w∧w.isRows=false) (a:w.hgt≤h∧w.grow≤g) (s:TT) (i:aK w t=some s):FitV N h g t r
theorem Wa(H:Wld N)(n:Nat)(c:Int){d:PyData}{t:TT}(hd:Sem N m d t)(hn:m+4≤n):FitV N 2 2 t (rn (n+4) "_law_fitting" [.fz (.int c),.fz d,.fz (NL N)]):=by
 obtain⟨w,e,ow,rw',hw,gw⟩:=u7 H n c hd hn;obtain⟨v,d',s1,s2,s3⟩:=uX H ow rw' (n:=n+3) (by exact Ha hn hw) hd;rw[Q1,e];simp only[aG,bO,bX,bU,aJ];rw[show aD (rn (n+3) "_law_seen") [.ok (.fz (enc w)),.ok (.fz d)]=.ok v from s1];show FitV N 2 2 t (rb (if cS (dOf v)=true then _ else _) R.ok);rw[iF s2];rcases s3 with ⟨s,h1,h2⟩ | ⟨h1,h2⟩
 ·rw[h2.notNone];exact⟨w,rfl,⟨ow,rw'⟩,⟨hw,gw⟩,s,h1⟩
 ·rw[h2];exact⟨.whole,rfl,⟨trivial,rfl⟩,⟨Nat.zero_le _,Nat.zero_le _⟩,t,rfl⟩
end Mine
namespace Mine
open PySem
variable {N:List Str} {m:Nat}
theorem Du{xs:List Str}(h:xs.Nodup){i j:Nat}{x y:Str}(hi:xs[i]?=some x)(hj:xs[j]?=some y)(ij:i≠j):x≠y:=fun e=>by
 obtain⟨p1,p2⟩:=List.getElem?_eq_some_iff.mp hi;obtain⟨q1,q2⟩:=List.getElem?_eq_some_iff.mp hj;exact ij ((List.getElem_inj (h₀:=p1) (h₁:=q1) h).mp (p2.trans (e.trans q2.symm)))
theorem Dv{a b:Int}(ha:0≤a)(hb:0≤b)(h:a≠b):a.toNat≠b.toNat:=fun e=>h (by rw[← Int.toNat_of_nonneg ha,e,Int.toNat_of_nonneg hb])
theorem Dw{S:List Str}{e:R V}{a:Int}(he:e=.ok (.fz (.int a)))(h:0 < (S.length:Int)):∃ x,x∈S∧S[(a.fmod S.length).toNat]?=some x∧aI (.ok (.list (S.map .str))) (aB .Mod e (aH a8 (.ok (.fz (.list (S.map .str))))))=.ok (.fz (.str x)):=by
 obtain⟨x,hx,ix,gx⟩:=pA (xs:=S) (a:=a) rfl h;refine⟨x,hx,ix,?_⟩;rw[he];show rb (ofP (aC .Mod (.int a) (.int ((S.map PyData.str).length:Nat)))) (fun i=>ofP (getItem (.list (S.map .str)) (dOf i)))=_;rw[List.length_map,eJ _ (by omega)];exact congrArg ofP gx
theorem Um(a b:Str):aN [.ok (.fz (.str (so "beside"))),aN [aN [.ok (.fz (.str a)),.ok (.fz (.str a)),.ok (.fz (.tuple [.str (so "whole")]))],aN [.ok (.fz (.str b)),.ok (.fz (.str b)),.ok (.fz (.tuple [.str (so "whole")]))]]]=.ok (.fz (enc (.beside (.bcons a a .whole (.bcons b b .whole .bnil))))):=rfl
theorem Un(H:Wld N)(n:Nat)(c:Int){d:PyData}{t:TT}(hd:Sem N m d t):IsV N 2 2 (rn (n+1) "_law_unfit" [.fz (.int c),.fz d,.fz (NL N)]):=by
 rw[Q3,show aC .Mod (.int c) (.int 4)=.ok (.fz (.int (c.fmod 4))) from eJ _ (by decide),show aC .FloorDiv (.int c) (.int 4)=.ok (.fz (.int (c.fdiv 4))) from fO _ (by decide),show aC .FloorDiv (.int c) (.int 56)=.ok (.fz (.int (c.fdiv 56))) from fO _ (by decide)];simp only[aJ];generalize c.fmod 4=K;generalize c.fdiv 4=M;have r13:=aR (c.fdiv 56) (n:=13) (by decide);have e13:aB .Mod (.ok (.fz (.int (c.fdiv 56)))) (.ok (.fz (.int 13)))=.ok (.fz (.int ((c.fdiv 56).fmod 13))):=by kernel_rfl
 rw[e13];generalize (c.fdiv 56).fmod 13=J at r13;have ra:=aR M (n:=14) (by decide);have rb':=aR (M+1+J) (n:=14) (by decide);have hne:M.fmod 14≠(M+1+J).fmod 14:=by
  rw[Int.fmod_eq_emod_of_nonneg _ (by decide),Int.fmod_eq_emod_of_nonneg _ (by decide)];omega
 obtain⟨a,ma,ia,ga⟩:=jP H (e:=aB .Mod (.ok (.fz (.int M))) (.ok (.fz (.int 14)))) (i:=M.fmod 14) (by kernel_rfl) ra;obtain⟨b,mb,ib,gb⟩:=jP H (e:=aB .Mod (aB .Add (aB .Add (.ok (.fz (.int M))) (.ok (.fz (.int 1)))) (.ok (.fz (.int J)))) (.ok (.fz (.int 14)))) (i:=(M+1+J).fmod 14) (by kernel_rfl) rb';have hab:a≠b:=Du H.nd ia ib (Dv ra.1 rb'.1 hne);rw[ga,aG,gb,aG];simp only[bO,bU,aJ];rw[Dn,u0,Um];have tail:IsV N 2 2 (ifS (aE (.ok (.fz (.int K))) .Eq (.ok (.fz (.int 1)))) (rb (.ok (.fz (enc (.pick a)))) R.ok) (ifS (aE (.ok (.fz (.int K))) .Eq (.ok (.fz (.int 2)))) (rb (.ok (.fz (enc (.call a b)))) R.ok) (rb (.ok (.fz (enc (.beside (.bcons a a .whole (.bcons b b .whole .bnil)))))) R.ok))):=by
  refine IsV.ite (t:=K==1) rfl (fun _=>⟨.pick a,rfl,ma,rfl,Nat.zero_le _,Nat.le_succ _⟩) fun _=>?_;refine IsV.ite (t:=K==2) rfl (fun _=>⟨.call a b,rfl,⟨ma,mb,hab⟩,rfl,Nat.zero_le _,Nat.zero_le _⟩) fun _=>?_;have h1:a∉[b]:=fun h=>hab (List.mem_singleton.mp h);exact⟨.beside (.bcons a a .whole (.bcons b b .whole .bnil)),rfl,⟨⟨⟨⟨ma,ma⟩,⟨trivial,rfl⟩,⟨⟨⟨mb,mb⟩,⟨trivial,rfl⟩,⟨trivial,rfl⟩,List.not_mem_nil,List.not_mem_nil⟩,rfl⟩,h1,h1⟩,rfl⟩,show 1≤2 by decide,show 2≤6 by decide⟩,rfl,show 1≤2 by decide,Nat.zero_le _⟩
 obtain⟨i,_⟩ | ⟨m,l,f,B⟩:=hd.inv
 ·exact tail
 ·refine IsV.ite (t:=decide (1 < (l.length:Int))&&(K==0)) (by
   rw[show aE (ofP (a8 (.dict (mkd l)))) .Gt (.ok (.fz (.int 1)))=.ok (.fz (.bool (decide (1 < ((mkd l).length:Int))))) from by kernel_rfl,lG];cases decide (1 < (l.length:Int))<;>rfl) (fun ht=>?_) fun _=>tail
  have hl:1 < (l.length:Int):=of_decide_eq_true (Bool.and_eq_true _ _▸ht:_∧_).1;rw[jN H B];simp only[aG,gK,jI,bU,aJ];have hnd:=uD B.nd;have hmem:∀ x∈bC (ks l),x∈ks l:=fun x hx=>dA.mp hx;have hlen:((bC (ks l)).length:Int)=l.length:=by rw[uE B.nd,eI]
  generalize bC (ks l)=S at hnd hmem hlen;have hp:0 < (S.length:Int):=by omega
  obtain⟨x,hx,ix,gx⟩:=Dw (S:=S) (e:=.ok (.fz (.int M))) (a:=M) rfl hp;obtain⟨y,hy,iy,gy⟩:=Dw (S:=S) (e:=aB .Add (.ok (.fz (.int M))) (.ok (.fz (.int 1)))) (a:=M+1) (by kernel_rfl) hp;rw[gx,gy,u0];have hxy:x≠y:=Du hnd ix iy (Dv (aR M hp).1 (aR (M+1) hp).1 (by
   have:=Ds (a:=M) (i:=0) (j:=1) hp (by omega) (by decide);simpa using this))
  exact⟨.call x y,rfl,⟨B.sub x (hmem x hx),B.sub y (hmem y hy),hxy⟩,rfl,Nat.zero_le _,Nat.zero_le _⟩
end Mine
namespace Mine
open PySem
variable {N:List Str} {m:Nat}
theorem eM(f:List V→R V)(a b:PyData):aD f [.ok (.fz a),.ok (.fz b)]=f [.fz a,.fz b]:=rfl
theorem u8(f:List V→R V)(a b c:PyData):aD f [.ok (.fz a),.ok (.fz b),.ok (.fz c)]=f [.fz a,.fz b,.fz c]:=rfl
theorem Uo(f:List V→R V)(a b:PyData):aD f [.ok (.dp a),.ok (.fz b)]=f [.fz a,.fz b]:=rfl
theorem Up(f:List V→R V)(a b c d:PyData):aD f [.ok (.fz a),.ok (.fz b),.ok (.fz c),.ok (.own d)]=f [.fz a,.fz b,.fz c,.fz d]:=rfl
theorem Dx(a b:R V):ifS (.ok (.fz (.bool false))) a b=b:=rfl
theorem u9(t:Bool)(a b:R V):ifS (.ok (.fz (.bool t))) a b=if t=true then a else b:=rfl
theorem Uq(s:List Int)(lo hi:Option Int):slice (s.map PyData.int) lo hi=(slice s lo hi).map .int:=by
 unfold slice;rw[List.length_map,List.map_take,List.map_drop]
noncomputable def jQ:PyData:=.tuple [.str (so "refused"),.str (so "tree")]
theorem Ur(n:Nat):A4 BB (so "ViewError") (.exc XT) (fun y1=>run BB (n+1) true (so "_law_word") [.ex y1]) R.ok=.ok (.fz jQ):=by kernel_rfl
noncomputable def TlD(N:List Str)(m:Nat)(o:Option TT)(r:R V):Prop:=match o with
 |some s=>∃ d,r=.ok (.dp d)∧Sem N m d s
 |none=>r=.ok (.fz jQ)
theorem Dy(H:Wld N){w:WW}(ho:okW N w)(hr:w.isRows=false){n:Nat}{d:PyData}{t:TT}(hn:3*w.hgt+m+6≤n+1)(hd:Sem N m d t):TlD N m (aK w t) (rn (n+2) "_law_told" [.fz (enc w),.fz d]):=by
 have hp:=Sn H ho hr hn hd;rw[Q2];refine ocs (aK w t) (fun hpt=>?_) fun r hpt=>?_
 ·rw[hpt] at hp;have hp:rn (n+1) "show" [.fz (enc w),.fz d]=.exc XT:=hp;rw[hp,hpt];exact Ur n
 ·rw[hpt] at hp;obtain⟨d',e1,e3⟩:=hp;rw[e1,hpt];exact⟨d',rfl,e3⟩
inductive Pr(N:List Str)(p:PyData):Prop where
 |mk (a b:PyData) (t:TT) (e:p=.tuple [a,b]) (h:Sem N 5 a t) (g:Sem N 5 b t):Pr N p
noncomputable def jR(N:List Str)(hs:List PyData):Prop:=∀ p∈hs,Pr N p
noncomputable def lS(s:List Int)(w2 w3:V)(hs:List PyData)(o5 o6 o7 o8 o9 o10 o11:Option V):aA:=cO (ζ (Li s)) (some w2) (some w3) (some (.own (.list hs))) o5 o6 o7 o8 o9 o10 o11
theorem Us:aZ (ofP (cmp .NotEq jQ jQ))=.ok (.fz (.bool false)):=by kernel_rfl
theorem Ut{d:PyData}(h:cS d=false):aE (.ok (.fz d)) .Is (.ok (.fz .none))=.ok (.fz (.bool false)):=by
 show R.ok (V.fz (.bool (cS d)))=_;rw[h]
theorem Uu{fu:Nat}{t:R V}{f:List V→R V}{e2:PyData→R V}{c0:R V}{c1:PyData→PyData→R V}{e1:R V}{c2:PyData→PyData→R V}{r2:R V}{l:R (List PyData)}{g:PyData→PyData→R V}{dd:R V}{c3:PyData→PyData→R V}{r3:PyData→R V}{k0:R V}{k3:PyData→R V}{kr:V→R V}{p u:PyData}
  (ht:t=.ok (.fz p)) (hf:f [.fz p]=.ok (.dp p)) (he:e2 p=.ok (.fz u)) (hc:c0=.ok (.fz (.bool true))) (h1:c1 p u=.ok (.fz (.bool false))):kP fu t f e2 c0 c1 e1 c2 r2 l g dd c3 r3 k0 k3 kr=k0:=by
 unfold kP;rw[ht,aG,dQ,hf,aG,show dpD (.dp p)=.ok p from rfl,aJ,aG,he,aG,hc];show rb (tst (c1 p u)) _=_;rw[h1];rfl
theorem Uv{fu:Nat}{t:R V}{f:List V→R V}{e2:PyData→R V}{c0:R V}{c1:PyData→PyData→R V}{e1:R V}{c2:PyData→PyData→R V}{r2:R V}{l:R (List PyData)}{g:PyData→PyData→R V}{dd:R V}{c3:PyData→PyData→R V}{r3:PyData→R V}{k0:R V}{k3:PyData→R V}{kr:V→R V}{p u v w:PyData}{L:List PyData}
  (ht:t=.ok (.fz p)) (hf:f [.fz p]=.ok (.dp p)) (he:e2 p=.ok (.dp u)) (hc:c0=.ok (.fz (.bool false))) (hp:bJ fu p=true) (hu:bJ fu u=true) (h2:c2 p u=.ok (.fz (.bool false))) (hl:l=.ok L) (hg:g p u=.ok (.dp v)) (hd:dd=.ok (.fz w)) (hL:L.length < aX) (h3:c3 (.list (L++[.tuple [v,w]])) u=.ok (.fz (.bool false))):kP fu t f e2 c0 c1 e1 c2 r2 l g dd c3 r3 k0 k3 kr=k3 (.list (L++[.tuple [v,w]])):=by
 unfold kP;rw[ht,aG,dQ,hf,aG,show dpD (.dp p)=.ok p from rfl,aJ,aG,he,aG,hc];show(if bJ fu p=true∧bJ fu u=true then _ else _)=_;rw[if_pos ⟨hp,hu⟩,h2];show rb l _=_;rw[hl,aG,hg,aG,show dpD (.dp v)=.ok v from rfl,aJ,aG,hd,aG,if_pos hL,dQ,h3];rfl
theorem lQ(H:Wld N){d1 d2:PyData}{t:TT}(h1:Sem N 5 d1 t)(h2:Sem N 5 d2 t):unS .Not (rn 399 "_law_same" [.fz d1,.fz d2])=.ok (.fz (.bool false)):=by rw[Sw H h1 h2 (by decide)];rfl
inductive InT(N:List Str)(hs:List PyData)(r:KN→R V)(S:List PyData→Option V→aA):Prop where
 |mk (hs':List PyData) (o9:Option V) (h:jR N hs') (l:hs'.length≤hs.length+1) (e:∀ kn,r kn=kn (S hs' o9)):InT N hs r S
theorem Uw(H:Wld N){w:WW}(ho:okW N w)(hr:w.isRows=false)(hh:w.hgt≤2)(s:List Int){w2 w3 w7 w8:V}{x5 x6:PyData}(o9 o10 o11:Option V){hs:List PyData}(hH:jR N hs)(hl:hs.length < 1000){p:PyData}{t:TT}(hp:Sem N 5 p t)(h7:w7.clear=.fz p)(h8:w8.clear=.fz (enc w))(kr:KR) :
  InT N hs (fun kn=>iB 399 (lS s w2 w3 hs (ζ x5) (ζ x6) (some w7) (some w8) o9 o10 o11) kn kr) (fun hs o9=>lS s w2 w3 hs (ζ x5) (ζ x6) (ζ p) (ζ (enc w)) o9 none none):=by
 have S:=(C4 H ho).a hr (n:=399) (by omega) hp;have Tl:=Dy H ho hr (n:=397) (by omega) hp;have Tw:=Dy H (w:=.whole) (N:=N) trivial rfl (n:=397) (by show 3*0+5+6≤398;decide) hp;obtain⟨dw,Tw,sw⟩:∃ d,rn 399 "_law_told" [.fz (.tuple [.str (so "whole")]),.fz p]=R.ok (.dp d)∧Sem N 5 d t:=Tw;have last:unS .Not (aD (rn 399 "_law_same") [aD (rn 399 "_law_told") [.ok (.fz (.tuple [.str (so "whole")])),.ok (.fz p)],.ok (.fz p)])=.ok (.fz (.bool false)):=by
  rw[eM,Tw,Uo];exact lQ H sw hp
 have cp:=Cu (n:=398) hp (by decide);have hb:∀ kn,iB 399 (lS s w2 w3 hs (ζ x5) (ζ x6) (some w7) (some w8) o9 o10 o11) kn kr=_:=fun kn=>by
  unfold lS;rw[Ra,h7,h8]
 refine ocs (aK w t) (fun e=>?_) fun u e=>?_
 ·rw[e] at S Tl;have S:rn 399 "_law_seen" [.fz (enc w),.fz p]=.ok (.fz .none):=S;have Tl:rn 399 "_law_told" [.fz (enc w),.fz p]=.ok (.fz jQ):=Tl;refine⟨hs,some (.fz .none),hH,Nat.le_succ _,fun kn=>(hb kn).trans ?_⟩;simp only[bO,bX,bU,aJ];rw[eM,S,aG];refine(Uu (p:=p) (u:=jQ) rfl cp ((eM _ _ _).trans Tl) rfl Us).trans ?_;simp only[bO,bX,bU,aJ];rw[last,Dx];rfl
 ·rw[e] at S Tl;obtain⟨v1,e1,S1,S2,S3⟩:=S;obtain⟨d2,T1,T3⟩:∃ d,rn 399 "_law_told" [.fz (enc w),.fz p]=R.ok (.dp d)∧Sem N 5 d u:=Tl;refine⟨hs++[.tuple [d2,e1]],some (.fz e1),fun q hq=>?_,by rw[List.length_append];exact Nat.le_refl _,fun kn=>(hb kn).trans ?_⟩
  ·rcases List.mem_append.mp hq with hq | hq
   ·exact hH q hq
   ·rw[List.mem_singleton.mp hq];exact⟨_,_,u,rfl,T3,S3⟩
  simp only[bO,bX,bU,aJ];rw[eM,S1,aG,S2];simp only[bO,bX,bU,aJ];refine(Uv (p:=p) (u:=d2) (v:=d2) (w:=e1) (L:=hs) rfl cp ((eM _ _ _).trans T1) (Ut S3.notNone) (oP hp (by decide)) (oP T3 (by decide)) ?_ rfl ((eM _ _ _).trans T1) rfl (Nat.lt_trans hl (by decide)) ?_).trans ?_
  ·show orS (unS .Not (aD (rn 399 "_law_same") [.ok (.fz d2),.ok (.fz e1)])) (unS .Not (aD (rn 399 "_law_same") [.ok (.fz p),.ok (.fz p)]))=_;rw[eM,eM,lQ H T3 S3,lQ H hp hp];rfl
  ·show unS .Not (aD (rn 399 "_law_same") [.ok (.fz d2),.ok (.fz e1)])=_;rw[eM,lQ H T3 S3]
  ·rw[last,Dx];rfl
inductive ViT(N:List Str)(d p:PyData)(r:KN→R V)(S:V→V→V→V→KN→R V):Prop where
 |mk (w:WW) (o:okW N w∧w.isRows=false∧w.hgt≤2) (w2 w3 w7 w8:V) (c2:w2.clear=.fz (NL N)) (c3:w3.clear=.fz d) (c7:w7.clear=.fz p) (c8:w8.clear=.fz (enc w)) (e:∀ kn,r kn=S w2 w3 w7 w8 kn):ViT N d p r S
theorem Dz(H:Wld N)(s:List Int){c j:Int}{w2 w3 w7 w8:V}{w:WW}{d p:PyData}(ho:okW N w∧w.isRows=false∧w.hgt≤2){t:TT}(hp:Sem N 5 p t)(h2:w2.clear=.fz (NL N))(h3:w3.clear=.fz d)(h7:w7.clear=.fz p)(h8:w8.clear=.fz (enc w))(hs:List PyData)(o9 o10 o11:Option V)(kr:KR) :
  ViT N d p (fun kn=>lA 399 (lS s w2 w3 hs (ζ (.int j)) (ζ (.int c)) (some w7) (some w8) o9 o10 o11) kn kr) fun w2 w3 w7 w8 kn=>iB 399 (lS s w2 w3 hs (ζ (.int j)) (ζ (.int c)) (some w7) (some w8) o9 o10 o11) kn kr:=by
 obtain⟨w',e,o,i,a,b⟩:=Un H 398 (c.fdiv 9) hp;have hb:∀ kn,lA 399 (lS s w2 w3 hs (ζ (.int j)) (ζ (.int c)) (some w7) (some w8) o9 o10 o11) kn kr=_:=fun kn=>by
  unfold lS;rw[Q9,h7,h2,show aE (ofP (aC .Mod (.int c) (.int 9))) .Eq (.ok (.fz (.int 5)))=.ok (.fz (.bool (c.fmod 9==5))) from by kernel_rfl,u9,show aC .FloorDiv (.int c) (.int 9)=.ok (.fz (.int (c.fdiv 9))) from fO _ (by decide),aJ,bX,bX,u8,e,aG]
 refine bcs (c.fmod 9==5) (fun h=>?_) fun h=>?_
 ·exact⟨w,ho,w2,w3,w7,w8,h2,h3,h7,h8,fun kn=>(hb kn).trans (by rw[h,if_neg (by decide)];rfl)⟩
 ·exact⟨w',⟨o,i,a⟩,.fz (NL N),w3,.fz p,.fz (enc w'),rfl,h3,rfl,rfl,fun kn=>(hb kn).trans (by rw[h,if_pos rfl];rfl)⟩
theorem Ux(H:Wld N)(s:List Int){c j:Int}{w2 w3 w7:V}{d p:PyData}{t td:TT}(hp:Sem N 5 p t)(hd:Sem N 5 d td)(h2:w2.clear=.fz (NL N))(h3:w3.clear=.fz d)(h7:w7.clear=.fz p)(hs:List PyData)(o8 o9 o10 o11:Option V)(kr:KR) :
  ViT N d p (fun kn=>jG 399 (lS s w2 w3 hs (ζ (.int j)) (ζ (.int c)) (some w7) o8 o9 o10 o11) kn kr) fun w2 w3 w7 w8 kn=>iB 399 (lS s w2 w3 hs (ζ (.int j)) (ζ (.int c)) (some w7) (some w8) o9 o10 o11) kn kr:=by
 obtain⟨w,e,o,i,a,b⟩:=u7 H 396 (c.fdiv 3+j) hp (by decide);obtain⟨w',e',o',i',a',b'⟩:=u7 H 396 (c.fdiv 9) hd (by decide);have hb:∀ kn,jG 399 (lS s w2 w3 hs (ζ (.int j)) (ζ (.int c)) (some w7) o8 o9 o10 o11) kn kr=_:=fun kn=>by
  unfold lS;rw[Q8,h7,h2,h3,bO,bX,bX,bX,show aB .Add (ofP (aC .FloorDiv (.int c) (.int 3))) (.ok (.fz (.int j)))=.ok (.fz (.int (c.fdiv 3+j))) from by kernel_rfl,u8,e,aG,show aE (ofP (aC .Mod (.int c) (.int 9))) .Eq (.ok (.fz (.int 4)))=.ok (.fz (.bool (c.fmod 9==4))) from by kernel_rfl,u9,show aC .FloorDiv (.int c) (.int 9)=.ok (.fz (.int (c.fdiv 9))) from fO _ (by decide),aJ,u8,e',aG]
 refine bcs (c.fmod 9==4) (fun h=>?_) fun h=>?_
 ·obtain⟨u,q,y2,y3,y7,y8,c2,c3,c7,c8,e⟩:=Dz H s (c:=c) (j:=j) (w2:=.fz (NL N)) (w3:=w3) (w7:=.fz p) (w8:=.fz (enc w)) ⟨o,i,a⟩ hp rfl h3 rfl rfl hs o9 o10 o11 kr;exact⟨u,q,y2,y3,y7,y8,c2,c3,c7,c8,fun kn=>(hb kn).trans (Eq.trans (by rw[h,if_neg (by decide)];rfl) (e kn))⟩
 ·obtain⟨u,q,y2,y3,y7,y8,c2,c3,c7,c8,e⟩:=Dz H s (c:=c) (j:=j) (w2:=.fz (NL N)) (w3:=.fz d) (w7:=.fz p) (w8:=.fz (enc w')) ⟨o',i',a'⟩ hp rfl rfl rfl rfl hs o9 o10 o11 kr;exact⟨u,q,y2,y3,y7,y8,c2,c3,c7,c8,fun kn=>(hb kn).trans (Eq.trans (by rw[h,if_pos rfl];rfl) (e kn))⟩
inductive PaT(N:List Str)(d:PyData)(r:KN→R V)(S:V→V→V→KN→R V):Prop where
 |mk (p:PyData) (t:TT) (h:Sem N 5 p t) (w2 w3 w7:V) (c2:w2.clear=.fz (NL N)) (c3:w3.clear=.fz d) (c7:w7.clear=.fz p) (e:∀ kn,r kn=S w2 w3 w7 kn):PaT N d r S
theorem D0(l:LP)(b:Bool):aT (.ok (.fz (.bool true))) (aT (.ok (.fz (.bool b))) (aE (aH a8 (.ok (.fz (.dict (mkd l))))) .Gt (.ok (.fz (.int 0)))))=.ok (.fz (.bool (b&&decide (0 < (l.length:Int))))):=by
 rw[show aE (aH a8 (.ok (.fz (.dict (mkd l))))) .Gt (.ok (.fz (.int 0)))=.ok (.fz (.bool (decide (0 < ((mkd l).length:Int))))) from by kernel_rfl,lG];cases b<;>rfl
theorem Uy(H:Wld N){l:LP}{f:Str→Option TT}(B:Bld N m l f)(c:Int)(hl:0 < (l.length:Int)):∃ p t,Sem N m p t∧aI (.ok (.dict (mkd l))) (aI (dH (aH dC (aH cF (.ok (.fz (.dict (mkd l))))))) (aB .Mod (.ok (.fz (.int c))) (aH a8 (.ok (.fz (.dict (mkd l)))))))=.ok (.fz p):=by
 obtain⟨x,hx,ix,gx⟩:=pA (xs:=bC (ks l)) (a:=c) (n:=l.length) (by rw[uE B.nd,eI]) hl;obtain⟨p,t,q1,q2,q3⟩:=B.key (dA.mp hx);refine⟨p,t,q3,?_⟩;rw[show aH cF (.ok (.fz (.dict (mkd l))))=ofP (cF (.dict (mkd l))) from rfl,jN H B];show rb (rb (ofP (aC .Mod (.int c) (.int ((mkd l).length:Nat)))) (fun i=>ofP (getItem (.list ((bC (ks l)).map .str)) (dOf i)))) (fun i=>ofP (getItem (.dict (mkd l)) (dOf i)))=_;rw[lG,eJ _ (by omega),aJ,aG,dQ,gx,aJ,aG];exact congrArg ofP (bI q1)
theorem Uz(H:Wld N)(s:List Int){c:Int}{j:Int}(hj:0≤j∧j < 100){w2 w3:V}{d:PyData}{t:TT}(hd:Sem N 5 d t)(h2:w2.clear=.fz (NL N))(h3:w3.clear=.fz d)(hs:List PyData)(o5 o6 o7 o8 o9 o10 o11:Option V)(kr:KR) :
  PaT N d (fun kn=>rb (ofP (aW jF (.tuple [.int j,.int c]) (lS s w2 w3 hs o5 o6 o7 o8 o9 o10 o11))) fun σ=>jE 399 σ kn kr) fun w2 w3 w7 kn=>jG 399 (lS s w2 w3 hs (ζ (.int j)) (ζ (.int c)) (some w7) o8 o9 o10 o11) kn kr:=by
 obtain⟨l',Bl,et⟩:=oZ H 396 s (20+j) (fs:=slice N (some 5) (some 9)) fun x hx=>lO hx;obtain⟨p,e1,e2⟩:=Dg (a:=d) (b:=.dict (mkd l')) (c:=.int j) (i:=((c.fdiv 10).fmod 5).fmod 3) (aR _ (by decide));have hp:Tr N 5 p:=by
  rcases e2 with rfl | rfl | rfl
  ·exact⟨t,hd⟩
  ·exact Bl.toTr.mono (by decide)
  ·exact .int (by unfold big;omega)
 obtain⟨tp,hp⟩:=hp;have hb:∀ kn,(rb (ofP (aW jF (.tuple [.int j,.int c]) (lS s w2 w3 hs o5 o6 o7 o8 o9 o10 o11))) fun σ=>jE 399 σ kn kr)=_:=fun kn=>by
  unfold lS;rewrite[Q5,aJ,aG,Q6,h2,h3];simp only[bO,bX,bU,aJ,jI];rw[show aC .Add (.int 20) (.int j)=.ok (.fz (.int (20+j))) from by kernel_rfl,aJ,u6 (a:=5) (b:=9) rfl rfl,Up,et,show aE (ofP (aC .Mod (.int c) (.int 7))) .Eq (.ok (.fz (.int 3)))=.ok (.fz (.bool (c.fmod 7==3))) from by kernel_rfl,show aC .FloorDiv (.int c) (.int 70)=.ok (.fz (.int (c.fdiv 70))) from fO _ (by decide),aJ,
   show aI (dH (eD [.ok (.fz d),.ok (.own (.dict (mkd l'))),.ok (.fz (.int j))])) (aB .Mod (aB .Mod (ofP (aC .FloorDiv (.int c) (.int 10))) (.ok (.fz (.int 5)))) (.ok (.fz (.int 3))))=.ok (.fz p) from Eq.trans (b:=ofP (getItem (.list [d,.dict (mkd l'),.int j]) (.int (((c.fdiv 10).fmod 5).fmod 3)))) (by kernel_rfl) (by rw[e1];rfl),aG]
 obtain⟨i,rfl,rfl,hi⟩ | ⟨_,l,f,e,rfl,rfl,B⟩:=hd.inv'
 ·exact⟨p,tp,hp,.fz (NL N),.fz (.int i),.fz p,rfl,rfl,rfl,fun kn=>(hb kn).trans rfl⟩
 ·cases e;refine bcs (c.fmod 7==3&&decide (0 < (l.length:Int))) (fun h=>?_) fun h=>?_
  ·exact⟨p,tp,hp,.fz (NL N),.fz (.dict (mkd l)),.fz p,rfl,rfl,rfl,fun kn=>(hb kn).trans (Eq.trans (congrArg (fun x=>ifS x _ _) ((D0 l _).trans (by rw[h]))) rfl)⟩
  ·obtain⟨p',t',q1,q2⟩:=Uy H B (c.fdiv 70) (of_decide_eq_true (Bool.and_eq_true _ _▸h:_∧_).2);exact⟨p',t',q1.mono (by decide),.fz (NL N),.fz (.dict (mkd l)),.fz p',rfl,rfl,rfl,fun kn=>(hb kn).trans (Eq.trans (congrArg (fun x=>ifS x _ _) ((D0 l _).trans (by rw[h]))) (by rw[u9,if_pos rfl,q2,aG];rfl))⟩
inductive LT(N:List Str)(d:PyData)(hs:List PyData)(r:KN→R V)(S:V→V→List PyData→Option V→Option V→Option V→Option V→Option V→aA):Prop where
 |mk (w2 w3:V) (hs':List PyData) (o5 o6 o7 o8 o9:Option V) (h:jR N hs') (l:hs'.length≤hs.length+1) (c2:w2.clear=.fz (NL N)) (c3:w3.clear=.fz d) (e:∀ kn,r kn=kn (S w2 w3 hs' o5 o6 o7 o8 o9)):LT N d hs r S
theorem U0(H:Wld N)(s:List Int){c:Int}{j:Int}(hj:0≤j∧j < 100){w2 w3:V}{d:PyData}{t:TT}(hd:Sem N 5 d t)(h2:w2.clear=.fz (NL N))(h3:w3.clear=.fz d){hs:List PyData}(hH:jR N hs)(hl:hs.length < 1000)(o5 o6 o7 o8 o9 o10 o11:Option V)(kr:KR) :
  LT N d hs (fun kn=>rb (ofP (aW jF (.tuple [.int j,.int c]) (lS s w2 w3 hs o5 o6 o7 o8 o9 o10 o11))) fun σ=>jE 399 σ kn kr) (fun w2 w3 hs o5 o6 o7 o8 o9=>lS s w2 w3 hs o5 o6 o7 o8 o9 none none):=by
 obtain⟨p,tp,hp,w2,w3,w7,c2,c3,c7,e⟩:=Uz H s (c:=c) hj hd h2 h3 hs o5 o6 o7 o8 o9 o10 o11 kr;obtain⟨w,⟨a1,a2,a3⟩,w2,w3,w7,w8,c2,c3,c7,c8,e'⟩:=Ux H s (c:=c) (j:=j) hp hd c2 c3 c7 hs o8 o9 o10 o11 kr;obtain⟨hs',o9,b1,b2,e2⟩:=Uw H a1 a2 a3 s (w2:=w2) (w3:=w3) (x5:=.int j) (x6:=.int c) o9 o10 o11 hH hl hp c7 c8 kr;exact⟨w2,w3,hs',_,_,_,_,o9,b1,b2,c2,c3,fun kn=>(e kn).trans ((e' kn).trans (e2 kn))⟩
theorem U3(H:Wld N)(s:List Int){d:PyData}{t:TT}(hd:Sem N 5 d t)(kn:KN)(kr:KR):∀ (cs:List Int) (j:Int) {w2 w3:V} (hs:List PyData) (o5 o6 o7 o8 o9 o10 o11:Option V),jR N hs→0≤j→j+cs.length < 100→hs.length+cs.length < 900→w2.clear=.fz (NL N)→w3.clear=.fz d →
  ∃ w2' w3' hs' p5 p6 p7 p8 p9 p10 p11,jR N hs'∧aS (jE 399) jF (dB j (cs.map .int)) (lS s w2 w3 hs o5 o6 o7 o8 o9 o10 o11) kn kr=kn (lS s w2' w3' hs' p5 p6 p7 p8 p9 p10 p11):=by
 intro cs
 induction cs with
 |nil=>exact fun j {w2 w3} hs o5 o6 o7 o8 o9 o10 o11 hH _ _ _ _ _=>⟨w2,w3,hs,o5,o6,o7,o8,o9,o10,o11,hH,rfl⟩
 |cons c cs ih =>
  intro j w2 w3 hs o5 o6 o7 o8 o9 o10 o11 hH h0 hj hl h2 h3;rw[List.length_cons] at hl hj;obtain⟨w2,w3,hs',p5,p6,p7,p8,p9,hH',hl',c2,c3,e⟩:=U0 H s (c:=c) (j:=j) ⟨h0,by omega⟩ hd h2 h3 hH (by omega) o5 o6 o7 o8 o9 o10 o11 kr;obtain⟨x2,x3,hs2,q5,q6,q7,q8,q9,q10,q11,i,e'⟩:=ih (j+1) hs' p5 p6 p7 p8 p9 none none hH' (by omega) (by omega) (by omega) c2 c3;exact⟨x2,x3,hs2,q5,q6,q7,q8,q9,q10,q11,i,Eq.trans (e _) e'⟩
theorem U4(s:List Int):(slice s (some 2) (some 26)).length < 64:=by
 have h:∀ k n:Nat,clipAt n 26 - k≤26:=fun k n=>by unfold clipAt;split<;>omega
 unfold slice;rw[List.length_take];exact Nat.lt_of_le_of_lt (Nat.le_trans (Nat.min_le_left _ _) (h _ _)) (by decide)
theorem U5(s:List Int):rn 400 "law" [.fz (Li s)]=.ok (.fz (.bool true)):=by
 have H:=T0 (dS s 0);obtain⟨v2,d0,e1,e2,t,e3⟩:=T8 H 395 s;have hl:=U4 s;rw[Q4,T2 397 s,aG,gK,bX,show aD (rn 399 "_law_house") [.ok (.fz (Li s)),.ok (.fz (NL (nms (dS s 0))))]=.ok v2 from (eM _ _ _).trans e1,aG,
  show enI (b9 (.ok (Li s)) (some (.ok (.fz (.int 2)))) (some (.ok (.fz (.int 26)))))=.ok (dB 0 ((slice s (some 2) (some 26)).map .int)) from by
   show R.ok (dB 0 (slice (s.map PyData.int) (some 2) (some 26)))=_;rw[Uq],aG]
 obtain⟨w2,w3,hs',o5,o6,o7,o8,o9,o10,o11,hH,e⟩:=U3 H s e3 (fun σ=>s6 399 σ (fun _=>R.ok (.fz .none)) R.ok) R.ok (slice s (some 2) (some 26)) 0 (w2:=.fz (NL (nms (dS s 0)))) (w3:=v2) [] none none none none none none none (fun p hp=>by exact cD hp) (by decide) (by omega) (by rw[List.length_nil];omega) rfl e2;refine Eq.trans e ?_;unfold lS;rw[Q7];show rb (aE (aV (.ok hs') _ _) .Eq (.ok (.own (.list [])))) R.ok=_;rw[uJ,Cw (g:=fun _=>false) fun p hp=>by
  obtain⟨a,b,t,rfl,h,g⟩:=hH p hp;show tst (unS .Not (aD (rn 399 "_law_same") [.ok (.fz a),.ok (.fz b)]))=_;rw[eM,lQ H h g];rfl]
 rw[show hs'.filter (fun _=>false)=[] from by simp];rfl
end Mine
namespace Mine
open PySem
noncomputable def vA(k:Nat):Option (Arguments×List Stmt×Scope):=(BB.drop k).head?.bind fun s=>match sv s with
 | .fn _ a b sc=>some (a,b,sc)
 |_=>none
theorem shp:Shp BB where
 cp:=.mk _ _ _ ((by kernel_rfl:b4 "_law_copy" BB=vA 44).trans rfl) (.mk _ _ _ _ _ _ _ _ _ _ _ _ _ _ _ _ _ _ _ _ _ _ _ _ rfl (by kernel_rfl) (by kernel_rfl) (by kernel_rfl) (by kernel_rfl) (by kernel_rfl) (by kernel_rfl) (by kernel_rfl) (by kernel_rfl) (by decide +kernel) (by decide +kernel) rfl)
 cd:=.mk _ _ _ ((by kernel_rfl:b4 "copied" BB=vA 13).trans rfl) (.mk _ _ _ _ _ _ _ _ _ _ _ _ _ _ _ _ _ _ _ _ _ _ _ _ _ _ _ _ rfl (by kernel_rfl) (by kernel_rfl) (by kernel_rfl) (by kernel_rfl) (by kernel_rfl) (by kernel_rfl) (by decide +kernel) (by decide +kernel) rfl)
 em:=.mk _ _ _ ((by kernel_rfl:b4 "_law_emptied" BB=vA 60).trans rfl) (.mk _ _ _ _ _ _ _ _ _ _ _ _ _ _ _ _ _ _ _ _ _ _ _ _ (by kernel_rfl) rfl (by kernel_rfl) (by kernel_rfl) (by kernel_rfl) (by kernel_rfl) (by kernel_rfl) (by kernel_rfl) (by decide +kernel) (by decide +kernel) rfl)
end Mine
set_option Elab.async false
namespace Mine
open PySem PySem.W PyProof.Rows
set_option maxRecDepth 100000 in
set_option maxHeartbeats 8000000 in
theorem U6:PySem.Challenge.rw_uf010037_03.wellSaid=true:=by
 unfold OpenLaw.wellSaid OpenRow.wellSaid OpenRow.partSaid looksOpen
 with_reducible repeat' (refine look_both ?_ ?_)
 all_goals decide +kernel
end Mine
open PySem PySem.W PyProof.Rows Mine
set_option maxRecDepth 100000 in
set_option maxHeartbeats 8000000 in
theorem PySem.Challenge.cw_uf010037_03_holds : PySem.Challenge.rw_uf010037_03.Holds := by
 refine holds_law Mine.U6 fun said=>?_;refine holds_open (q:=Mine.V03) (loose:=[]) (Xt:=fun s=>(xlAt Mine.V03 [] s&&recOk (RowW.records PySem.Challenge.rw_uf010037_03.row.toRowW) s)&&Mine.qL s.heap PySem.Challenge.rw_uf010037_03.row.prog.main.body) (XP:=fun mg h=>XL Mine.V03 [] mg h∧Mine.jB PySem.Challenge.rw_uf010037_03.row.prog.main.body mg h) (Yf:=Hook.obs Hook.none) (Ya:=Hook.val Hook.none) (YP:=Hook.says Hook.none) (N:=5664)
  Mine.Id (Hook.of Hook.none) (Hook.keeps Hook.none) (fun s e=>⟨xl_of s (Bool.and_eq_true_iff.mp (Bool.and_eq_true_iff.mp e).1).1,Mine.Ol (Bool.and_eq_true_iff.mp e).2⟩) (fun mg h h' x k=>⟨XL.keeps mg h h' x.1 k,x.2.keeps k⟩) (by rfl) (by rfl) (by rfl) (fun s e=>recFacts_of (Bool.and_eq_true_iff.mp (Bool.and_eq_true_iff.mp e).1).2) (by rfl) said (by decide +kernel) ⟨rfl,rfl,rfl,rfl,rfl,by decide +kernel⟩ ?hw ?hc
 case hw=>w_witness2
 intro w s₀ s₁ mg mb G Y fa o pm cd doc dV kV ho hd hcd hD hmg hg args vals as hpre hlay hrd hwl hlo;have GL:Mine.Glo PySem.Challenge.rw_uf010037_03.row.prog w mg mb s₁.heap:=Mine.Ot G.T G.X.2 (fun f=>by kernel_rfl) (by kernel_rfl) (by kernel_rfl) (by kernel_rfl);replace hmg:mg (Str.ofString "law")=some (.ref fa):=hmg;clear ho hd hcd hD G Y
 wrow_args hpre hlay hrd hwl hlo
 rename_i ns _ _ _ _ _ _ _ l _ _ _ _ hw _ _ _ hn _;refine Mine.Ov Mine.shp GL hmg hw (by omega) (by kernel_rfl) (N:=400) (by decide) (Mine.U5 ns) fun s' k=>?_;obtain⟨h',tk,rfl,hk⟩:=k;exact GoodW.toG ⟨.inl ⟨_,.bool true,[],rfl,fun _=>by kernel_rfl,.bool true,by kernel_rfl,fun _=>⟨List.nodup_nil,by simp⟩⟩,hk,rfl,hg⟩
