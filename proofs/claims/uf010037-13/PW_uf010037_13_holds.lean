import PyProof.Rows.All
import Wide.All
import OpenK.AllK
import Wide.FinOn
import PySem.Challenge.RW_uf010037_13
set_option Elab.async false
set_option genSizeOf false
set_option tactic.hygienic false
set_option linter.all false
set_option maxRecDepth 100000
noncomputable section
namespace Mine.Internal
open PySem
variable {x a n:Int}{b c d e:Nat}
abbrev U:=@Nat.le_trans
abbrev aa:=@PySem.wpAny_bind
abbrev ac:=@List.mem_cons_self
abbrev ae:=@Nat.le_refl
abbrev af:=@List.mem_cons_of_mem
abbrev ag:=@PySem.wpAny_pure
abbrev ah:=@Nat.succ_le_succ
abbrev ai:=@PySem.Heap.get?_push_of_some
abbrev aj:=@Nat.lt_of_le_of_lt
abbrev ak:=@Nat.le_add_left
abbrev al:=@Nat.le_add_right
abbrev am:=@Nat.zero_le
abbrev ao:=@Nat.add_le_add_left
abbrev aq:=@Nat.le_of_eq
abbrev au:=@Nat.le_succ
abbrev aw:=@Nat.add_comm
abbrev ax:=@Bool.and_eq_true_iff
abbrev ay:=@Nat.add_le_add
abbrev az:=@PySem.wpAny_mono
abbrev ba:=@Nat.add_right_comm
abbrev bb:=@List.all_eq_true
abbrev bc:=@Nat.add_le_add_right
abbrev be:=@Nat.le_of_succ_le_succ
abbrev bf:=@Int.le_trans
abbrev bg:=@List.getElem?_eq_getElem
abbrev bh:=@Nat.le_of_lt
abbrev bi:=@Nat.le_of_succ_le
abbrev bj:=@Option.map_eq_some_iff
abbrev bl:=@PySem.wpAny_holding
abbrev bn:=@Nat.le_succ_of_le
abbrev bo:=@List.nodup_cons
abbrev bp:=@Nat.ne_of_gt
abbrev bq:=@List.mem_map
abbrev bu:=@List.map_append
abbrev bv:=@List.mem_append
abbrev bw:=@Nat.lt_of_lt_of_le
abbrev bx:=@PySem.Heap.lt_size
abbrev bz:=@List.append_nil
abbrev ca:=@PySem.wpAny_loadPart_at
abbrev cb:=@List.count_cons_of_ne
abbrev cc:=@Nat.sub_add_cancel
abbrev ce:=@Nat.zero_add
abbrev cf:=@PySem.wpAny_field
abbrev cg:=@Int.ofNat_le
abbrev ci:=@Int.ofNat_lt
abbrev cj:=@List.mem_of_getElem?
abbrev ck:=@PySem.Heap.get?_push_size
abbrev cm:=@Int.natCast_nonneg
abbrev cn:=@Int.lt_of_lt_of_le
abbrev co:=@List.length_eq_zero_iff
abbrev cq:=@PySem.wpAny_standAt
abbrev cr:=@List.getElem?_eq_some_iff
abbrev cu:=@Nat.ne_of_lt
abbrev cv:=@List.append_assoc
abbrev cw:=@List.size_toArray
abbrev cx:=@List.count_append
abbrev cy:=@Nat.succ_pos
abbrev cz:=@Nat.lt_succ_self
abbrev de:=@List.forall_mem_cons
abbrev dh:=@PySem.wpAny_items_nil
abbrev di:=@PySem.Heap.size_push
abbrev dj:=@Bool.false_ne_true
abbrev dm:=@Int.add_comm
abbrev dp:=@Int.add_nonneg
abbrev dq:=@Int.toNat_lt
abbrev dr:=@Nat.le_of_add_le_add_right
abbrev dw:=@PySem.wpAny_truthy_bool
abbrev dz:=@PySem.wpAny_items_cons
abbrev ec:=@List.nodup_nil
abbrev ed:=@Int.toNat_le
abbrev ei:=@Nat.add_assoc
abbrev ej:=@Int.le_of_lt
abbrev eq:=@Bool.eq_iff_iff
abbrev er:=@List.getElem?_append_left
abbrev eu:=@Nat.le_of_ble_eq_true
abbrev ew:=@PySem.wpAny_seqItems
abbrev fb:=@List.count_cons_self
abbrev fc:=@Nat.min_le_right
abbrev fe:=@Int.lt_trans
abbrev fh:=@Nat.max_le
abbrev fj:=@Nat.le_max_left
abbrev fk:=@Nat.le_max_right
abbrev fm:=@Nat.lt_succ_of_lt
abbrev fq:=@List.getElem?_append_right
abbrev ft:=@PySem.Heap.get?_none_of_le
abbrev fu:=@PySem.wpAny_isSubtype_exc
abbrev fw:=@Int.not_lt
abbrev fx:=@Int.lt_of_le_of_lt
abbrev fy:=@Int.add_le_add_left
abbrev gc:=@Nat.lt_add_of_pos_right
abbrev ge:=@List.getElem_mem
abbrev gg:=@List.mem_append_left
abbrev gh:=@List.filter_eq_nil_iff
abbrev gi:=@List.length_eq_one_iff
abbrev gj:=@Int.toNat_of_nonneg
abbrev gk:=@Nat.lt_trans
abbrev gm:=@Nat.mul_succ
abbrev gn:=@Int.le_add_of_nonneg_right
abbrev gq:=@Nat.lt_of_succ_lt
abbrev gr:=@Nat.le_total
abbrev gu:=@List.not_lt
abbrev gv:=@List.pairwise_cons
abbrev gz:=@PySem.wpAny_call_entry
abbrev ic:=@List.take_of_length_le
abbrev ie:=@List.mem_map_of_mem
abbrev ig:=@PySem.wpAny_pyIter_tuple
abbrev ii:=@PySem.wpAny_Call_method_lateS
abbrev ij:=@Option.isSome_iff_exists
abbrev ik:=@PySem.wpAny_setField_rec
abbrev il:=@PySem.wpAny_assign_Name
abbrev im:=@Option.bind_eq_some_iff
abbrev io:=@List.mem_of_mem_drop
abbrev ip:=@Int.natCast_inj
abbrev iq:=@Int.eq_ofNat_of_zero_le
abbrev ir:=@Int.zero_lt_one
abbrev iu:=@Nat.lt_irrefl
abbrev iw:=@PySem.wpAny_Call_NameR
abbrev iz:=@List.toArray_inj
abbrev jc:=@Bool.or_true
abbrev jd:=@List.nil_append
abbrev je:=@List.map_take
abbrev jf:=@List.mem_of_mem_take
abbrev jg:=@Nat.le_of_not_lt
abbrev jh:=@Nat.mul_le_mul_left
abbrev ji:=@Int.self_le_toNat
abbrev jj:=@Nat.lt_of_succ_lt_succ
abbrev jk:=@Nat.pos_of_ne_zero
abbrev jl:=@Nat.le_mul_of_pos_left
abbrev jm:=@List.getElem?_drop
abbrev jo:=@List.take_length
abbrev jp:=@PySem.wpAny_pyIter_list
abbrev jq:=@List.map_congr_left
abbrev jr:=@List.nodup_append
abbrev jt:=@List.length_filter_le
abbrev ju:=@PySem.wpAny_pyIter_enum
abbrev jv:=@PySem.wpAny_storeName_local
abbrev jw:=@PySem.wpAny_Return_some
abbrev jx:=@List.filter_cons
abbrev jy:=@List.mem_append_right
abbrev jz:=@List.mem_filterMap
abbrev ka:=@List.filter_cons_of_pos
abbrev kc:=@Bool.not_eq_false'
theorem xE{y:Int}(hx:0<=x)(hy:0<=y)(h:x.toNat=y.toNat):x=y:=by rw[<- gj hx,h,gj hy]
theorem mU{n:Nat}(h:a < n):(1+a).toNat<=n:=ed.mpr (by rw[dm];exact h)
theorem p1(h:0<=a):0<=1+a:=dp (by decide) h
theorem nbs{k:Int}(h:0<=x/\x < n)(e:k.natAbs+n.natAbs<=b):(x - k).natAbs < b:=by
 have e1:x.natAbs < n.natAbs:=(Int.natAbs_lt_natAbs_of_nonneg_of_lt h.1 h.2)
 exact bw (aj (Int.natAbs_sub_le x k) (Nat.add_lt_add_right e1 _)) (U (aq (aw _ _)) e)
theorem nb0(h:0<=x/\x < n)(e:n.natAbs<=b):x.natAbs < b:=bw (Int.natAbs_lt_natAbs_of_nonneg_of_lt h.1 h.2) e
inductive KMin(r:Int)(n:Nat):Prop where
 |mk (k:Nat) (e:(if 1+r < (n:Int) then 1+r else (n:Int))=(k:Int)) (h1:1<=k) (h6:k<=6) (hn:k<=n):KMin r n
theorem xF{r:Int}(h:0<=r):1<=(1+r).toNat:=by
 obtain⟨j,rfl⟩:=iq h;exact al 1 j
theorem ax0{a:Nat}(h:a+16*b+300 < c):a+70 < c:=aj (ay (al a (16*b)) (by decide:70<=300)) h
theorem ax2{a:Nat}(h:a+70 < b):a < b:=aj (al _ _) h
theorem ax4{a:Nat}(h:¬a < b):b<=a:=jg h
theorem ax5{a:Nat}(h:a=b)(h1:¬c < a):b<=c:=h▸jg h1
theorem ax6:0<=300:=by decide
theorem ax7{a:Nat}(h:a < 63):a / 30+1<=300:=ah (U (Nat.div_le_self _ _) (U (bh h) (by decide)))
theorem ax8{a:Nat}(h:a<=300):¬a > 300:=Nat.not_lt.mpr h
theorem ax9{a:Nat}(h:a<=1024):a<=16777216:=U h (by decide)
theorem Gz{a:Nat}:a+b+c*b=a+(c*b+b):=by first | lia | omega
theorem G0(h:a<=1024):a.toNat<=1024:=ed.mpr h
theorem G1(h:a.toNat*b<=1024*1024):a.toNat*b<=16777216:=U h (by decide)
theorem G2{b:Int}(h:0<=a/\a<=1000/\b.natAbs < c):a<=1000000:=bf h.2.1 (by decide)
theorem G3(h:1<=a):0 < a:=h
theorem G4(h:1<=a):0<=a:=bf (by decide) h
theorem G5(h:¬a < 1):1<=a:=fw.mp h
theorem G6{a:Nat}{b c:Int}(h:(↑a:Int)<=(b - 1) / c):¬(↑a:Int) > (b - 1) / c:=fw.mpr h
theorem G7(h:-100<=a/\a<=1024/\b<=1024):a.toNat<=1024:=ed.mpr h.2.1
theorem G8{a:Nat}:min (a - b) (c - b)<=c:=U (fc _ _) (Nat.sub_le _ _)
theorem xG{a:Nat}(h:a - b=0)(h1:b<=a):b=a:=Nat.le_antisymm h1 (Nat.le_of_sub_eq_zero h)
theorem xH{a:Nat}(h:a - b=c+1):b < a:=Nat.lt_of_sub_pos (by rw[h];exact cy c)
theorem G9{a:Nat}(h:a<=b):min c a<=b:=U (fc _ _) h
theorem xI{a:Nat}(h:a - b=c+1):a - (b+1)=c:=congrArg Nat.pred h
theorem Ha{a:Nat}:min a b<=b:=fc _ _
theorem Hb:0 < 4096:=by decide
theorem xJ{a:Nat}(h:a < 64):a+1 < 4096:=aj h (by decide)
theorem Hc{a:Nat}(h:a<=3):a < 30:=aj h (by decide)
theorem xK:a+1+(↑b:Int)=a+((↑b:Int)+1):=by rw[Int.add_assoc,dm 1]
theorem Hd:-10000<=0:=by decide
theorem He(h:a<=4096):a<=10000:=bf h (by decide)
theorem Hf:-10000<=1:=by decide
theorem Hg:-10000<=(↑a.toNat:Int):=bf (by decide) (cm _)
theorem Hh(h:a<=4096):(↑a.toNat:Int)<=10000:=cg.mpr (ed.mpr (bf h (by decide)))
theorem Hi(h:-10000<=a):-10000<=a+(1 - 1):=by rw[Int.sub_self,Int.add_zero];exact h
theorem Hj(h:a<=4096):a+(1 - 1)<=10000:=by rw[Int.sub_self,Int.add_zero];exact bf h (by decide)
theorem Hk(h:a<=4096):a.toNat<=16777216:=ed.mpr (bf h (by decide))
theorem Hl(h:-4096<=a/\a<=4096):-10000<=a:=bf (by decide) h.1
theorem xL{a:Nat}(h:a+b=c)(h1:¬a=c):a < c:=Nat.lt_of_le_of_ne (h▸al a b) h1
theorem qS{a:Nat}(h:a+b=c)(h1:¬a=c):b - 1 < b:=by
 cases b with
 |zero=>exact absurd h h1
 |succ b=>exact cz b
theorem qT{a:Nat}(h:a+b=c)(h1:¬a=c):a+1+(b - 1)=c:=by
 cases b with
 |zero=>exact absurd h h1
 |succ b=>exact(ba a 1 b).trans h
theorem Hm{a:Nat}(h:a<=b):a<=b+1:=bn h
theorem Hn{a f:Nat}(h:a<=b)(h1:c+d=a)(h2:e<=c)(h3:f=e):f<=b:=by rw[h3];exact U h2 (U (U (al c d) (aq h1)) h)
theorem Ho{a:Nat}(h:a<=b):a<=b:=h
theorem Hp{a:Nat}(h:(↑a:Int) < (↑b:Int)):a < b:=ci.mp h
theorem Hq{a:Nat}(h:a < b)(h1:c=a)(h2:d<=c+1)(h3:b=e):d<=e:=by rw[<- h3];exact U h2 (by rw[h1];exact h)
theorem Hr(h:0<=a/\a < (↑b:Int))(h1:c=b):a < (↑c:Int):=by rw[h1];exact h.2
theorem Hs{a:Nat}(h:a=b)(h1:c < a):c < b:=h▸h1
theorem Ht{a:Nat}(h:a=1)(h1:b=16777216):a<=b:=by rw[h,h1];decide
theorem Hu{a:Nat}(h:1 < a):0 < a:=gk Nat.zero_lt_one h
theorem Hv{a:Nat}(h:a+b+1 < c):a+1 < c:=aj (ah (al _ _)) h
theorem Hw{a:Nat}(h:a+(b+1)+1 < c):a+1+b+1 < c:=by rw[ba a 1 b];exact h
theorem Hx{a:Nat}(h:a+16*(b+1)+300 < c):a+3+16*b+300 < c:=by rw[ba a 3];exact aj (by rw[gm,<- ei];exact bc (ao (by decide) _) 300) h
theorem Hy{a:Nat}(h:a+(b+1)+1 < c):a < c:=aj (U (al _ _) (al _ _)) h
theorem Hz{a:Nat}(h:a<=63)(h1:b=a)(h2:c=16777216):b<=c:=by rw[h1,h2];exact U h (by decide)
theorem H0{a:Nat}(h:a<=400)(h1:b+400+1 < c):b+a+1 < c:=aj (ah (ao h b)) h1
theorem H1{a:Nat}(h:a<=400)(h1:b+16*400+300 < c):b+16*a+300 < c:=aj (bc (ao (jh 16 h) b) 300) h1
theorem H3{a:Nat}(h:a<=b - 1)(h1:0 < b):a+1<=b:=U (ah h) (aq (cc h1))
theorem H4{a:Nat}(h:14 < a)(h1:b<=14):b < a:=aj h1 h
theorem H5(h:0 < a):0<=a:=ej h
theorem H6(h:0 < a):a≠0:=λe=>Int.lt_irrefl 0 (e▸h)
theorem H7(h:a.toNat < b):a < (↑b:Int):=fx (ji a) (ci.mpr h)
theorem H8(h:0<=a)(h1:a < (↑b:Int)):a.toNat < b:=(dq h).mpr h1
theorem H9(h:0<=a):0<=2+a:=dp (by decide) h
theorem Ia(h:0<=a/\a < 2):a=0\/a=1:=by first | lia | omega
theorem Ib{a:Nat}:a+1+b=a+(b+1):=ba a 1 b
theorem Ic{a:Nat}(h:a<=1000):a<=16777216:=U h (by decide)
theorem Id(h:0<=a/\a < 26):a < (↑26:Int):=h.2
theorem mV(h:0<=a/\a < 26):a.toNat < 26:=(dq h.1).mpr h.2
theorem Ie{b:Int}(h:0<=a/\a < 26)(h1:0<=b/\b < 26)(h2:a.toNat=b.toNat):a=b:=xE h.1 h1.1 h2
theorem Ig(h:0<=a/\a < 8):0 < 1+a:=cn ir (gn h.1)
theorem xM(h:0<=a/\a < 8):0<=1+a:=dp (by decide) h.1
theorem xN:min (1+a).toNat 8<=1000:=U (fc _ _) (by decide)
theorem Ih(h:0<=a/\a < 8):1+a≠0:=λe=>absurd (gn h.1:(1:Int)<=1+a) (by rw[e];decide)
theorem Ii{b:Int}(h:0<=a/\a < 8)(h1:0<=b/\b < 1+a):0<=b/\b < 8:=⟨h1.1,cn h1.2 (by rw[dm];exact h.2)⟩
theorem Ij{b c:Int}(h:0<=a/\a < 26)(h1:0<=b/\b < 26)(h2:(c+a) % 26=(c+b) % 26):a=b:=by
 have:=Int.emod_add_cancel_left.mp h2
 rwa [Int.emod_eq_of_lt h.1 h.2,Int.emod_eq_of_lt h1.1 h1.2] at this
theorem Ik(h:0<=a/\a < 14):0<=a / 8/\a / 8 < 26:=⟨Int.ediv_nonneg h.1 (by decide),fx (Int.ediv_le_self 8 h.1) (fe h.2 (by decide))⟩
theorem Il{b:Int}(h:0<=a/\a < 8)(h1:0<=b/\b < 8)(h2:min (1+a).toNat 8=min (1+b).toNat 8):a=b:=by
 rw[Nat.min_eq_left (mU h.2),Nat.min_eq_left (mU h1.2)] at h2;exact Int.add_left_cancel (xE (p1 h.1) (p1 h1.1) h2)
theorem Io(h:0<=a/\a < 8):0 < (1+a).toNat:=(Int.lt_toNat).mpr (cn ir (gn h.1))
theorem Ip{b:Int}(h:0<=a/\a < 8)(h1:0<=b/\b < 1+a):b.toNat < 8/\b.toNat < (1+a).toNat:=⟨(dq h1.1).mpr (cn h1.2 (by rw[dm];exact h.2)),(dq h1.1).mpr (cn h1.2 (ji _))⟩
theorem Iq(h:0<=a/\a < 14):a.toNat < 14:=(dq h.1).mpr h.2
theorem Ir(h:0<=a/\a < 4):0<=9+a/\9+a < 14:=⟨dp (by decide) h.1,cn (Int.add_lt_add_left h.2 9) (by decide)⟩
theorem Iu(h:0<=a/\a < 3):a=0\/a=1\/a=2:=by first | lia | omega
theorem xO{a:Nat}(h:a < 5):a=0\/a=1\/a=2\/a=3\/a=4:=(by decide:∀ a < 5,a=0\/a=1\/a=2\/a=3\/a=4) a h
theorem Iv{a:Nat}(h:a < 5):0<=(↑a:Int)/\(↑a:Int) < 14:=⟨cm a,fe (ci.mpr h) (by decide)⟩
theorem xP{a:Nat}(h:a+1<=b):a<=b:=bi h
theorem xQ{a:Nat}(h:0 < a):0 < (↑a:Int):=ci.mpr h
theorem Iw(h:0<=a/\a < (↑b:Int)):a.toNat < b:=(dq h.1).mpr h.2
theorem xR{a:Nat}(h:0 < a):(↑a:Int)≠0:=λe=>bp h (Int.ofNat.inj e)
theorem xS(h:0<=a/\a < 4):0<=5+a/\5+a < 14:=⟨dp (by decide) h.1,cn (Int.add_lt_add_left h.2 5) (by decide)⟩
theorem Ix{b:Int}(h:0<=a)(h1:a < b)(h2:c=b.toNat - a.toNat):1<=c:=by rw[h2];exact Nat.sub_pos_of_lt ((dq h).mpr (cn h1 (ji b)))
theorem Iy{b:Int}(h:a<=b+6)(h1:c=a.toNat - b.toNat):c<=6:=by
 rw[h1];exact Nat.sub_le_of_le_add (ed.mpr (bf h (by rw[Int.natCast_add,dm];exact fy (ji b) 6)))
theorem Iz:a+1+(↑b:Int)=a+(↑(b+1):Int):=by rw[Int.natCast_add,Int.add_assoc,Int.natCast_one,dm 1]
theorem I0{c:Int}(h:a=(↑b:Int))(h1:0<=c/\c < a):c.toNat < b:=(dq h1.1).mpr (h▸h1.2)
theorem I4{a:Nat}(h:a<=6)(h1:b < a)(h2:c=16777216):b < c:=by rw[h2];exact bw h1 (U h (by decide))
theorem I5(h:0<=a/\a < 2):0<=2+a/\2+a < 14:=⟨dp (by decide) h.1,fe (Int.add_lt_add_left h.2 2) (by decide)⟩
theorem I6(h:0<=a/\a < 2):0<=3 - a/\3 - a < 14:=⟨Int.sub_nonneg.mpr (bf (ej h.2) (by decide)),fx (Int.sub_le_self 3 h.1) (by decide)⟩
theorem I7(h:0<=a/\a < 4):0<=4+a:=dp (by decide) h.1
theorem I8{b:Int}(h:0<=a/\a < 6):4+b < 4+b+1+a:=Int.lt_add_of_pos_right _ (cn ir (gn h.1)) |> λz=>by rw[Int.add_assoc (4+b)];exact z
theorem I9{b:Int}(h:0<=a/\a < 6):4+b+1+a<=4+b+6:=by rw[Int.add_assoc (4+b),dm 1 a];exact fy h.2 _
theorem Ja{b:Int}(h:0<=a/\a < 4)(h1:0<=b/\b < 6):4+a+1+b<=14:=by
 have e1:a<=3:=Int.le_of_lt_add_one h.2;have e2:b<=5:=Int.le_of_lt_add_one h1.2;exact bf (Int.add_le_add (Int.add_le_add_right (fy e1 4) 1) e2) (by decide)
theorem Jb(h:0<=a/\a < 2):0<=5+2*a:=dp (by decide) (Int.mul_nonneg (by decide) h.1)
theorem Jc:5+2*a < 5+2*a+2:=by first | lia | omega
theorem Jd:5+2*a+2<=5+2*a+6:=by first | lia | omega
theorem Je(h:0<=a/\a < 2):5+2*a+2<=14:=bf (Int.add_le_add_right (fy (Int.mul_le_mul_of_nonneg_left (ej h.2) (by decide)) 5) 2) (by decide)
theorem Jf{a:Nat}:-(↑(a+1):Int)<=-1:=Int.neg_le_neg (cg.mpr (cy a))
theorem Jg{a:Nat}:(-1+(↑(a+1):Int)).toNat=a:=by rw[Int.natCast_add,dm,Int.natCast_one,Int.add_neg_cancel_right,Int.toNat_natCast]
theorem Jh{a:Nat}:1<=(↑(a+1):Int):=cg.mpr (cy a)
theorem Ji{a:Nat}:(max 0 (min (-1+((↑a:Int)+1)) ((↑a:Int)+1))).toNat=a:=by rw[(dm _ _).trans (Int.add_neg_cancel_right (↑a:Int) 1),Int.min_eq_left (Int.le_add_one (Int.le_refl _)),Int.max_eq_right (cm a),Int.toNat_natCast]
theorem Jj(h:0<=a/\a < 4):1<=(1+a).toNat:=(Int.lt_toNat).mpr (cn ir (gn h.1))
theorem Jk(h:0<=a/\a < 4):(1+a).toNat<=4:=mU h.2
theorem Jl(h:0<=a/\a < 4):-4096<=1+a/\1+a<=4096:=⟨bf (by decide) (dp (by decide:(0:Int)<=1) h.1),bf (fy (ej h.2) 1) (by decide)⟩
theorem Jm{a:Nat}(h:a<=4)(h1:b < a)(h2:c=16777216):b < c:=by rw[h2];exact bw h1 (U h (by decide))
theorem Jn{a:Nat}(h:a<=4)(h1:b+1=a):b<=3:=by rw[<- h1] at h;exact be h
theorem Jo{a:Nat}(h:a<=3)(h1:a+1=b+1):b<=3:=Nat.succ.inj h1▸h
theorem xT{a:Nat}(h:a<=3):2+a<=5:=ao h 2
end Mine.Internal
namespace Mine.Internal
variable {e d f k a b c:Nat}
theorem ayq(h:d<=k):min e d+(d - f)<=k+k:=ay (U (fc e d) h) (U (Nat.sub_le d f) h)
theorem ayr(h:48<=a/\a<=57):a - 48 < 10:=aj (Nat.sub_le_sub_right h.2 48) (by decide)
theorem ays(x:Nat):x - 2+2<=x+2:=bc (Nat.sub_le x 2) 2
theorem ayt(h:a+(0+1+1+b+(0+1))+e<=f):b<=f:=U (ak _ _) (bi (U (ak _ a) (U (al _ e) h)))
theorem ayu{x:Nat}(h:x+(c - 1)+(0+1)+(0+1)<=d):x<=d:=U (al x (c - 1+2)) h
theorem ayv(h:a<=b)(h1:c<=d):max a c<=b+d:=fh.mpr ⟨U h (al b d),U h1 (ak d b)⟩
theorem ayw(a:Nat):a<=a - 1+1:=Nat.le_add_of_sub_le (ae _)
theorem ayx(h:a<=b):a+k<=b+k:=bc h k
theorem ayy(h:a<=b):k*a<=k*b:=jh k h
theorem ay0(h:a < 100)(h1:b < 100)(h2:c=16777216):a+b<=c:=h2▸U (ay (bh h) (bh h1)) (by decide)
theorem ay1(h:a < 100)(h1:b < 100):a+b < 4096:=aj (ay (bh h) (bh h1)) (by decide)
theorem ay2(h:a+b+3<=c+2):b<=c:=dr (U (ay (ak b a) (by decide:2<=3)) h)
theorem ay3(h:a+(b+1)+3<=c+2):b<=c:=dr (U (ay (U (au b) (ak _ a)) (by decide:2<=3)) h)
theorem ay4(h:a<=b)(h1:b < 1000)(h2:c=16777216):a+1<=c:=by rw[h2];exact U (Nat.succ_le_of_lt (aj h h1)) (by decide)
theorem ay5(h:a<=b)(h1:b < 1000):a+1 < 4096:=aj (Nat.succ_le_of_lt (aj h h1)) (by decide)
theorem ay6(h:a+(b+1)+3<=c+3):b<=c:=dr (U (bc (U (au b) (ak _ a)) 3) h)
theorem ay7(h:a+1+(b+1)+3<=c+2):a+b+3<=c+1:=be (show a+b+4<=c+2 from U (by rw[ba a 1 (b+1)];exact ao (by decide:4<=5) (a+b)) h)
theorem ay8(h:max a b+1+c+3<=d+1):a+c+3<=d:=be (U (bc (bc (fj a b) c) 4) ((ba (max a b) 1 c)▸h:max a b+c+1+3<=d+1))
theorem ay9(h:max a b+1+c+3<=d+1):b+c+3<=d:=be (U (bc (bc (fk a b) c) 4) ((ba (max a b) 1 c)▸h:max a b+c+1+3<=d+1))
theorem Jp(h:max a b+c+3<=d):b+c+3<=d:=U (bc (bc (fk a b) c) 3) h
theorem Jq(h:max a b+c+3<=d):a+c+3<=d:=U (bc (bc (fj a b) c) 3) h
theorem Jr(h:a<=(b+1)*c)(h1:d<=b):d+a+1<=(b+1)*c+(b+1):=by rw[aw d a];exact(ay h (ah h1):a+(d+1)<=_)
theorem xU{a:Int}(h:0<=a/\a < 6):1<=(1+a).toNat:=(Int.lt_toNat).mpr (cn ir (gn h.1))
theorem xV{a:Int}(h:0<=a/\a < 6):(1+a).toNat<=6:=mU h.2
theorem Js{a:Int}(h:0<=a/\a < 6):-4096<=1+a/\1+a<=4096:=⟨bf (by decide) (dp (by decide:(0:Int)<=1) h.1),bf (fy (ej h.2) 1) (by decide)⟩
theorem Jt(h:a<=6)(h1:b=a)(h2:c<=(1+1)*b):c+1<=13:=ah (U h2 (jh 2 (h1▸h)))
theorem Ju(h:a<=6)(h1:b=a):b<=6:=h1▸h
theorem Jv(h:a+3<=b):0+a+3<=b:=(ce a).symm▸h
theorem xW(h:a+b+3<=c):b+3<=c:=U (bc (ak b a) 3) h
theorem Jw(h:a+4<=b)(h1:c<=1/\d<=13):c+a+3<=b+4:=U (bc (bc h1.1 a) 3) (by rw[aw 1 a];exact Nat.le_add_right_of_le h)
theorem Jx(h:a<=b)(h1:c<=d):max a c+1<=max b d+1:=ah (fh.mpr ⟨U h (fj ..),U h1 (fk ..)⟩)
theorem Jy:a.succ+b<=a+(b+1):=aq (Nat.succ_add a b)
theorem Jz:a+13+1+14*b<=a+14*(b+1):=by rw[gm,aw (14*b),<- ei];exact ae _
theorem J0:2+a+1<=2+(a+1):=ae _
theorem J1:13+(13+14*a)+1<=13+14*(a+1):=by rw[gm,aw 13 (14*a)];exact ae _
theorem J2(h:a+4<=b)(h1:c<=1/\d<=13):c+a+3<=b+5:=U (bc (bc h1.1 a) 3) (by rw[aw 1 a];exact Nat.le_add_right_of_le h)
theorem xX(h:a<=3):13+14*a<=55:=ao (jh 14 h) 13
theorem J3{a:Int}(h:0<=a/\a < 4):a=0\/a=1\/a=2\/a=3:=by obtain⟨n,rfl⟩:=iq h.1;exact(by decide:∀ n < 4,((n:Nat):Int)=0\/(n:Int)=1\/(n:Int)=2\/(n:Int)=3) n (ci.mp h.2)
theorem J4(h:a<=b):max a 0+1<=b+2:=bn (ah (fh.mpr ⟨h,am _⟩))
theorem J5(h:a<=b):a+1+1<=b+4:=(ay h (by decide:2<=4):a+2<=b+4)
theorem J6(h:a<=b):max 0 a+1+1<=b+2:=bc (fh.mpr ⟨am _,h⟩) 2
theorem J7(h:a<=b):1+a+1+1<=b+4:=by rw[aw 1 a];exact(ay h (by decide:3<=4):a+3<=b+4)
theorem J8(h:a<=b):max a (max 0 0)+1<=b+2:=bn (ah (fh.mpr ⟨h,am _⟩))
theorem J9(h:a<=b):a+(1+0+1)+1+1<=b+4:=bc h 4
theorem Ka{a:Int}(h:0<=a/\a < 6):1<=(1+a).toNat/\(1+a).toNat<=6:=⟨xU h,xV h⟩
theorem Kb(h:a<=b):max 0 a+1<=b+2:=bn (ah (fh.mpr ⟨am _,h⟩))
theorem Kc(h:a<=b):2+a+1<=b+4:=by rw[aw 2 a];exact(ay h (by decide:3<=4):a+3<=b+4)
theorem iX(h:a < b):b=b - 1+1:=(cc (Nat.zero_lt_of_lt h)).symm
theorem Kd(h:a=b+1)(h1:c+(a+d) < e+1):b+d < e:=by subst h;exact jj (aj (U (aq (Nat.succ_add b d).symm) (ak _ c)) h1)
theorem xY(h:a+1 < b+1):a < b:=jj h
theorem Ke(h:a=b+1)(h1:c+(a+d+1)+1 < e+1):b+d < e:=by subst h;exact aj (U (bc (au b) d) (U (au _) (ak _ c))) (jj h1)
theorem Kf(h:a<=b)(h1:c+d=b - a):a+(c+d)=b:=by rw[h1];exact Nat.add_sub_of_le h
theorem Kg(h:a < b)(h1:c+(d+e)=a):d < b:=aj (U (al d e) (U (ak _ c) (aq h1))) h
theorem Kh(h:a+(b+c)=d):a+b+c=d:=(ei a b c).trans h
theorem Ki:a < a+(b+1):=gc (cy b)
theorem Kj(h:a<=b)(h1:b<=a):a=b:=Nat.le_antisymm h h1
theorem xZ(h:a < b):b - (a+1)+1=b - a:=by rw[Nat.sub_add_eq];exact cc (Nat.sub_pos_of_lt h)
theorem yA(h:a<=b+1)(h1:c+1=a):c<=b:=be (h1▸h:c+1<=b+1)
theorem Kk(h:a+b < c):a < c:=aj (al a b) h
theorem yB(h:a - b<=c+1)(h1:d+e=a)(h2:b+1 < d):e<=c:=by subst h1;exact dr (U (ao (bh h2) e) (aw d e▸ba c 1 b▸Nat.le_add_of_sub_le h:e+d<=c+b+1))
theorem yC(h:a+b=c):a<=c:=h▸al a b
theorem Kl(h:a+1 < b):a<=b:=bh (gq h)
theorem Km(h:a - b < c+1)(h1:d+e=a)(h2:b+1 < d):e < c:=by subst h1;exact dr (b:=b) (U (aq (ba e 1 b)) (U (au _) (U (ao h2 e) (aw d e▸Nat.le_add_of_sub_le (Nat.le_of_lt_succ h)))))
theorem Kn(h:a+(b - c) < d)(h1:e+f=b)(h2:c+1 < e):a+1+f < d:=by subst h1;exact aj (U (aq (ei a 1 f)) (ao (Nat.le_sub_of_add_le (by rw[aw (1+f) c,<- ei];exact bc (bh h2) f)) a)) h
theorem Ko(h:a+1 < b)(h1:b<=c):a<=c:=U (bh (gq h)) h1
theorem Kq(h:a<=b):a+(b - a)=b:=Nat.add_sub_of_le h
theorem Kr(h:a+1 < b):a+1<=b:=bh h
theorem Ks(h:a < b)(h1:c+d=a):d < b:=aj (U (ak d c) (aq h1)) h
theorem Kt(h:a < b)(h1:c+d=a)(h2:e=16777216)(h3:b=8192):1+d < e:=by subst h1 h2 h3;rw[aw];exact aj (aj (ak d c) h:d+1<=8192) (by decide)
theorem kC(h:a+(b+1)=c):a+1+b=c:=(ba a 1 b).trans h
theorem Ku(h:a+1 < b)(h1:b<=c):a < c+1:=fm (bw (gq h) h1)
theorem yD(h:1<=a/\a<=6):a < 64:=aj h.2 (by decide)
theorem yE(h:1<=a/\a<=6)(h1:b=a):b < 64:=h1▸aj h.2 (by decide)
theorem Kv(h:a+3<=b):b=b - 1+1:=(cc (U (ak 1 (a+2)) h)).symm
theorem Kw(h:a+1+3<=b+1):b=b - 3+3:=(cc (U (ak 3 a) (be h))).symm
theorem Kx(h:a+1+3<=b+3+1):a+3<=b+3:=be h
theorem Ky:a < a+1+1+1:=gc (by decide:0 < 3)
theorem Kz(h:a+1+1+1+3<=b+3+1):a+3<=b+1:=dr (b:=3) h
theorem K0:a+(b+c)+1=a+b+(c+1):=congrArg Nat.succ (ei a b c).symm
theorem K1(h:a+b=c+1):0+a+(b+1)=c+1+1:=by rw[ce];exact congrArg Nat.succ h
theorem K2(h:a+b+(c+1)=d+1):a+1+b+(c+1)=d+1+1:=by rw[ba a 1 b,ba (a+b) 1,h]
theorem K3(h:a<=2*b)(h1:b+c=d+1)(h2:d<=4032):a+(min e c+(c - f))<=8066:=by have x:=ay h (ayq (e:=e) (f:=f) (ae c));rw[<- Nat.two_mul,<- Nat.mul_add,h1] at x;exact U x (ayy (ah h2))
theorem K4(h:a<=63)(h1:b<=2*a):b<=127:=U h1 (U (ayy h) (by decide))
theorem K5(h:a<=8066)(h1:b=8192):a - 1 < b:=h1▸aj (U (Nat.sub_le a 1) h) (by decide)
theorem K6(h:a<=b)(h1:c<=1)(h2:d<=4032):min a d+(c+(d - b))<=4033:=by
 have x:min a d+(d - b)<=d:=by
  rcases gr b d with x | x
  ·exact U (ayx (U (Nat.min_le_left a d) h)) (aq (Nat.add_sub_of_le x))
  ·rw[Nat.sub_eq_zero_of_le x];exact fc a d
 exact U (aq (Nat.add_left_comm ..)) (ay h1 (U x h2))
theorem K7(h:a<=63)(h1:b<=a)(h2:c<=a)(h3:d<=1):b+(d+c)<=127:=ay (U h1 h) (ay h3 (U h2 h))
theorem K8:0 < (↑a:Int)+1:=Int.natCast_pos.mpr (cy a)
theorem K9{a:Int}(h:0<=a/\a < (↑b:Int)+1):a.toNat<=b:=ed.mpr (Int.lt_add_one_iff.mp h.2)
theorem La:(↑a:Int)+1≠0:=by lia
theorem Lb{a:Int}(h:0<=a/\a < (↑b:Int)):a.toNat < b:=(dq h.1).mpr h.2
theorem Lc(h:a=16777216)(h1:b<=4032):b+2<=a:=h▸U (ayx h1) (by decide)
theorem Ld(h:0 < a):0 < (↑a:Int):=ci.mpr h
theorem Le(h:0 < a):(↑a:Int)≠0:=λe=>bp h (Int.ofNat.inj e)
theorem Lf(h:a=16777216)(h1:b<=4032)(h2:c+d=b+1):min e d+(d - f)<=a:=h▸U (ayq (U (ak d c) (U (aq h2) (ah h1)))) (by decide)
theorem Lg(h:a=16777216)(h1:b<=4032):min c b+1<=a:=h▸U (ah (U (fc c b) h1)) (by decide)
theorem Lh(h:a=16777216)(h1:b<=4032):min c b+1+(b - d)<=a:=h▸U (aq (ba ..)) (U (ah (ayq h1)) (by decide))
theorem Lj(h:a=8192)(h1:b<=4032):b < a:=h▸aj h1 (by decide)
theorem yF(h:a<=63):a<=127:=U h (by decide)
theorem Lk(h:a=16777216)(h1:b<=4032):min c b+(b - (c+1))<=a:=h▸U (ayq h1) (by decide)
theorem Ll{a:Int}(h:0<=a/\a < 16):a.toNat < 16:=(dq h.1).mpr h.2
theorem Lm(h:a=8192)(h1:b < 100):b < a:=h▸gk h1 (by decide)
theorem yG(h:a<=b+c)(h1:b=d):a<=d+c:=h1▸h
theorem Ln(h:a<=b+1):c+(a+0)+d<=b+(c+d)+1:=U (aq (ba c a d)) (U (ao h (c+d)) (aq (congrArg Nat.succ (aw (c+d) b))))
theorem Lo(h:a<=b+1)(h1:c<=a+d):c<=b+(d+1):=U h1 (U (ayx h) (aq (ba b 1 d)))
theorem Lp(h:a=0)(h1:b<=a+c)(h2:b=d):d<=c:=by subst h h2;exact ce c▸h1
theorem yH(h:260<=a)(h1:b<=127):b+2<=a+1:=U (ayx h1) (U (by decide) (bn h))
theorem yI(h:260<=a)(h1:b<=127):2*b+2<=a+1:=U (ayx (ayy h1)) (U (by decide) (bn h))
theorem Lq(h:3*(a+1)+3<=b+2):3*a+3<=b+1:=be (U (ao (by decide:4<=6) (3*a)) h)
theorem Lr(h:3*(max a b+1)+3<=c+2):3*a+3<=c+1:=be (U (ay (ayy (fj a b)) (by decide:4<=6)) h)
theorem Ls(h:3*(max a b+1)+3<=c+2):3*b+3<=c+1:=be (U (ay (ayy (fk a b)) (by decide:4<=6)) h)
theorem Lu(h:3*(a+1)+3<=b+2):3*a+4<=b:=dr (b:=2) h
theorem Lv(h:3*max a b+4<=c+2):3*a+3<=c+1:=be (U (ayx (k:=4) (ayy (fj a b))) h)
theorem Lw(h:3*max a b+4<=c):3*b+4<=c:=U (ayx (ayy (fk a b))) h
theorem Lx(h:a<=b+2+2*c):a<=b+2*(c+1):=U h (aq (ba b 2 (2*c)))
theorem Ly(h:a<=b+4+4*c):a<=b+4*(c+1):=U h (aq (ba b 4 (4*c)))
theorem Lz(h:a<=127):2*a+2<=397:=U (ayx (ayy h)) (by decide)
theorem L0(h:a<=127)(h1:b<=a):3*b+3<=399:=U (ayx (ayy (U h1 h))) (by decide)
theorem L3(h:a<=127):2*a+6<=397:=U (ayx (ayy h)) (by decide)
theorem L4{a:Int}(h:0<=a/\a < 3):a=0\/a=1\/a=2:=by lia
theorem L5{a:Int}(h:0<=a/\a < 5):a=0\/a=1\/a=2\/a=3\/a=4:=by obtain⟨n,rfl⟩:=iq h.1;exact(by decide:∀ n < 5,((n:Nat):Int)=0\/(n:Int)=1\/(n:Int)=2\/(n:Int)=3\/(n:Int)=4) n (ci.mp h.2)
theorem L6(h:a<=2)(h1:b<=55+4*a):b<=63:=U h1 (ao (ayy h) 55)
theorem L7(h:a<=63)(h1:b<=64*a):b<=4032:=U h1 (ayy h)
theorem L8(h:a<=63):2*a+2<=399:=U (ayx (ayy h)) (by decide)
theorem L9:1<=(↑(a+1):Int):=cg.mpr (cy a)
theorem Ma(h:a+1<=b)(h1:c=a/\d<=e):1+c<=b:=by rw[aw,h1.1];exact h
theorem Mb(h:a+1<=b)(h1:c<=a)(h2:d<=e):c+d+1<=b+e:=U (aq (ba c d 1)) (ay (U (ah h1) h) h2)
theorem Mc(h:a+2<=b):b=b - 2+2:=(cc (U (ak 2 a) h)).symm
theorem yJ(h:a+1+2<=b+2):a+2<=b+1:=be h
theorem Md:a < a+1+1:=gc (by decide:0 < 2)
theorem Me(h:a+1+1+2<=b+2):a+2<=b+1:=bi (be h)
theorem Mf(h:a+1<=b):2<=b+1:=ah (U (ak 1 a) h)
theorem qU(h:a+1+2<=b+1):a+2<=b:=be h
theorem qV(h:a+b+1+2<=c+1):a+2<=c:=be (U (ayx (k:=3) (al a b)) h)
theorem yK(h:a+b+1+2<=c+1):b+2<=c:=be (U (ayx (k:=3) (ak b a)) h)
theorem yL(h:a+b+1+2<=c):b+2<=c:=U (ay (ak b a) (by decide:2<=3)) h
theorem Mg(h:a+b+1+2<=c):a+2<=c:=U (ay (al a b) (by decide:2<=3)) h
theorem Mh(h:a+1+(b+1) < c):a+1 < c:=aj (al _ _) h
theorem Mi(h:a+1+(b+1) < c):a+1+1+b < c:=by rw[ba (a+1) 1 b];exact h
theorem Mj(h:a+1+(b+1) < c):0+b < c:=by rw[ce];exact aj (U (au b) (ak _ _)) h
theorem mW(h:a+(b+1) < c):a+b < c:=gq h
theorem Ml:¬(↑(a+1+1):Int) < 2:=by lia
theorem yM(h:a+(b+1) < c):a < c:=aj (al a _) h
theorem Mm(h:a+1+1+(b+1) < c):a+1+b < c:=aj (ay (au _) (au b)) h
theorem yN(h:a+(b+1) < c):a+1+b < c:=(ba a 1 b).symm▸h
theorem Mo(h:a+1+(b+1) < c):a+1+b < c:=gq h
theorem Mp(h:a+1 < b):0+1+a < b:=by rw[aw];exact h
theorem Mq(h:a+1 < b):0+a < b:=by rw[ce];exact gq h
theorem yO:(↑(a+1+1):Int)≠1:=by lia
theorem Mr(h:¬a < 10):0 < a / 10:=Nat.div_pos (jg h) (by decide)
theorem Ms(h:¬a < 10):a / 10≠0:=bp (Nat.div_pos (jg h) (by decide))
theorem Mt(h:a < b)(h1:48<=c/\c<=57):a*10+(c - 48) < b*10:=bw (Nat.add_lt_add_left (ayr h1) _) (U (aq (Nat.succ_mul a 10).symm) (Nat.mul_le_mul_right 10 h))
theorem Mu:0*10+(a - 48)=a - 48:=ce _
theorem yP(h:48<=a/\a<=57):a < 58:=aj h.2 (by decide)
theorem Mv(h:48<=a/\a<=57)(h1:a - 48=0):a=48:=Nat.le_antisymm (Nat.le_of_sub_eq_zero h1) h.1
theorem Mw(h:a≠0):a*10+(b - 48)≠0:=λe=>h ((Nat.mul_eq_zero.mp (Nat.add_eq_zero_iff.mp e).1).resolve_right (by decide))
theorem Mx(h:a≠0):¬a*10+(b - 48) < 10:=Nat.not_lt.mpr (U (Nat.mul_le_mul_right 10 (jk h)) (al _ _))
theorem My(h:48<=a/\a<=57):(b*10+(a - 48)) / 10=b:=by rw[Nat.mul_comm,Nat.mul_add_div (by decide),Nat.div_eq_of_lt (ayr h)];rfl
theorem Mz(h:48<=a/\a<=57):(b*10+(a - 48)) % 10=a - 48:=by rw[Nat.mul_comm,Nat.mul_add_mod];exact Nat.mod_eq_of_lt (ayr h)
theorem M0(h:a < b)(h1:b<=c):(-(↑a:Int)).natAbs < c:=by rw[Int.natAbs_neg];exact bw h h1
theorem M1(h:a < b)(h1:b<=c):(↑a:Int).natAbs < c:=bw h h1
theorem M2(h:a≠0):a=a - 1+1:=(cc (jk h)).symm
theorem M3:0 < (↑(a+1):Int):=Int.natCast_pos.mpr (cy a)
theorem M4(h:a<=30):a+1<=31:=ah h
theorem M5(h:a<=30):a<=31:=U h (by decide)
theorem yQ(h:a<=31):a<=4300:=U h (by decide)
theorem M6(h:a<=31):a<=640:=U h (by decide)
theorem M7(h:97<=a/\a<=122):32<=a:=U (by decide) h.1
theorem M8(h:97<=a/\a<=122):a < 127:=aj h.2 (by decide)
theorem M9(h:48<=a/\a<=57):a≠32:=bp (bw (by decide) h.1)
theorem Na(h:48<=a/\a<=57):a≠40:=bp (bw (by decide) h.1)
theorem Nb(h:48<=a/\a<=57):a≠41:=bp (bw (by decide) h.1)
theorem Nc(h:a<=29+1):a<=31:=U h (by decide)
theorem yR(h:48<=a/\a<=57):32<=a:=U (by decide) h.1
theorem yS(h:48<=a/\a<=57):a < 127:=aj h.2 (by decide)
theorem Nd(h:a<=29+1):a+1<=31:=ah h
theorem Nf(h:a<=b)(h1:c<=d):a+c+1<=b+1+d:=U (aq (ba a c 1)) (ay (ah h) h1)
theorem Ng:a+b+1=a+1+b:=(ba a 1 b).symm
theorem Nh:a+(b+1)=a+1+b:=(ba a 1 b).symm
theorem Ni(h:a=b+1)(h1:a<=c)(h2:d<=e):3+(a - 1)+d<=c+2+e:=by subst h;exact ay (U (aq (aw 3 b)) (bc h1 2)) h2
theorem Nj:8+1+9*a<=9*(a+1):=aq (aw 9 (9*a))
theorem Nk:8+1+(8+1+0)<=62:=by decide
theorem Nl:8+1+(8+1+(8+1+0))<=62:=by decide
theorem Nm:8+1+(8+1+(31+1+0))<=62:=by decide
theorem Nn(h:a<=6):8+1+(8+1+(8+1+(9*a+2+0)))<=126:=U (ao (ao (ao (ayx (ayy h)) 9) 9) 9) (by decide)
theorem No:8+1+(64*a - 2+2+0)<=64*(a+1) - 2:=U (ao (ays (64*a)) 9) (aw 9 (64*a+2)▸ao (by decide:11<=62) (64*a))
theorem Np(h:1<=a):a - 1+1+0=a+1 - 1:=cc h
theorem Nq:8+1+(64*a - 2+2+(64*b - 2+2+0))<=64*(a+b+1) - 2:=by rw[gm,Nat.mul_add];exact U (ao (ay (ays _) (ays _)) 9) (by rw[aw 9,ba (64*a) 2];exact ao (by decide:13<=62) (64*a+64*b))
theorem Nr(h:1<=a)(h1:1<=b):a - 1+1+(b - 1+1+0)=a+b+1 - 1:=by rw[cc h,Nat.add_zero,cc h1];rfl
theorem Nt:8+1+64*a<=64*(a+1) - 2:=aw 9 (64*a)▸ao (by decide:9<=62) (64*a)
theorem Nu:8+1+(8+1+(64*a - 2+2+0))+2+64*b<=64*(a+b+1):=by rw[gm,Nat.mul_add];exact U (ayx (ayx (ao (ao (ays _) 9) 9))) (by rw[aw 9 (64*a+2),aw 9];exact U (aq (ba (64*a) 22 (64*b))) (ao (by decide:22<=64) _))
theorem Nv(h:1<=a):a - 1+1+0+1+b=a+b+1:=by show a - 1+1+1+b=_;rw[cc h,ba]
theorem Nw(h:a=b - 1)(h1:1<=b)(h2:c=a+1):c=b:=by subst h h2;exact cc h1
theorem Nx(h:a=b)(h1:a=c - 1)(h2:1<=c)(h3:d=b+1):d=c:=by subst h3 h;rw[h1];exact cc h2
theorem Ny(h:a<=64*b - 2)(h1:a=c+1):c+1+1<=64*b:=by subst h1;exact aj h (Nat.sub_lt (jk λe=>by rw[e] at h;exact Nat.not_succ_le_zero _ h) (by decide))
theorem Nz(h:a<=b)(h1:c<=d):max (a+1) c<=b+d+1:=fh.mpr ⟨ah (U h (al b d)),U h1 (U (ak d b) (au _))⟩
theorem N0(h:2*a+2<=b):a < b:=bw (aj (jl a (by decide:0 < 2)) (gc (by decide:0 < 2))) h
theorem N1(h:2*a+2<=b):a+2<=b:=U (ayx (jl a (by decide))) h
theorem N2(h:2*a+6<=b):a < b:=bw (aj (jl a (by decide:0 < 2)) (gc (by decide:0 < 6))) h
theorem N3(h:a+b=c)(h1:a=c):b=0:=Nat.add_eq_left.mp (h.trans h1.symm)
theorem N4(h:2*a+6<=b):b=b - 1+1:=(cc (U (ak 1 (2*a+5)) h)).symm
theorem N5(h:2*a+6<=b+1)(h1:c<=d)(h2:d+1=a):c+3<=b+1:=U (ay (U h1 (U (h2▸au d) (jl a (by decide)))) (by decide:3<=6)) h
theorem N6(h:2*a+6<=b+1)(h1:c<=d)(h2:d+1=a):2*c+3+3<=b+1:=U (ayx (k:=6) (ayy (U h1 (h2▸au d)))) h
theorem N7:a+1<=a+b+1:=ah (al a b)
theorem N8(h:a+1<=b):a+1<=c+b+1:=bn (U h (ak b c))
theorem N9(h:a+(b+1)+c<=d):a+(0+1)<=d:=U (ao (ak 1 b) a) (U (al _ c) h)
theorem Oa(h:a+(b+1)+c<=d):a+(b+1)<=d:=U (al _ c) h
theorem Ob(h:a+b+c<=d):a+b<=d:=U (al _ c) h
theorem Oc{a:Int}(h:0 < a):0 < a+1:=Int.add_pos h (by decide)
theorem Od(h:a+(b+c+1)<=d):a+0+b+c<=d:=U (aq (ei a b c)) (bi h)
theorem Oe(h:a+(b+c+1)<=d):a+0+b<=d:=U (ao (bn (al b c)) a) h
theorem Of(h:a+1+b+(0+1)<=c):a+1<=c:=U (al (a+1) (b+1)) h
theorem Og(h:a+1+b+(0+1)<=c):a+1+b<=c:=bi h
theorem Oh(h:5+(a+(b+(0+1+1)+1)+1)+(c - 1)+(0+1)+(0+1)<=d):5+(a+(b+(0+1+1)+1)+1)+c<=d:=U (ao (ayw c) _) (bi h)
theorem Oi(h:5+(a+(b+(0+1+1)+1)+1)+(c - 1)+(0+1)+(0+1)<=d):5+(a+1)<=d:=U (ao (ah (al a _)) 5) (ayu h)
theorem Oj(h:5+(a+(b+(0+1+1)+1)+1)+(c - 1)+(0+1)+(0+1)<=d):5+(a+(0+1)+1)<=d:=U (ao (ah (ao (ak 1 (b+2)) a)) 5) (ayu h)
theorem Ok(h:5+(a+(b+(0+1+1)+1)+1)+(c - 1)+(0+1)+(0+1)<=d):5+(a+(b+1)+1)<=d:=U (ao (ah (ao (ao (by decide:1<=3) b) a)) 5) (ayu h)
theorem Ol(h:5+(a+(b+(0+1+1)+1)+1)+(c - 1)+(0+1)+(0+1)<=d):5+(a+(b+(0+1+1)+1)+1)<=d:=ayu h
theorem Om(h:5+(a+(b+(0+1+1)+1)+1)+(c - 1)+(0+1)+(0+1)<=d):5+(a+(b+(0+1+1)+1)+1)+(c - 1)+(0+1)<=d:=bi h
theorem On(h:a+1<=b)(h1:b - 1+(0+1)+1<=c):a<=c:=U (bi h) (U (ayw b) (bi h1))
theorem qW(h:2*(a+1)+2<=b+1):2*a+2<=b:=bi (be h)
theorem Oo(h:2*(max a b+1)+2<=c+1):2*a+2<=c:=U (ayx (ayy (fj a b))) (bi (be h))
theorem Op(h:2*(max a b+1)+2<=c+1):2*b+2<=c:=U (ayx (ayy (fk a b))) (bi (be h))
theorem Oq(h:7+a+(0+1)<=b):7+a<=b:=bi h
theorem Os(h:2*max a b+2<=c):2*b+2<=c:=U (ayx (ayy (fk a b))) h
theorem Ot(h:2*max a b+2<=c):2*a+2<=c:=U (ayx (ayy (fj a b))) h
theorem Ou(h:a+(0+1+1+(b+(c+(d+1)+1))+(0+1))+e<=f):d<=f:=U (U (U (au d) (ak _ c)) (U (au _) (ak _ b))) (ayt h)
theorem Ov(h:a+(0+1+1+(b+(c+(d+1)+1))+(0+1))+e<=f):b+(0+1)<=f:=U (ao (ak 1 _) b) (ayt h)
theorem Ow(h:a+(0+1+1+(b+(c+(d+1)+1))+(0+1))+e<=f):b+(c+1)<=f:=U (ao (ah (al c _)) b) (ayt h)
theorem Ox(h:a+(0+1+1+(b+(c+(d+1)+1))+(0+1))+e<=f):b+(c+(0+1)+1)<=f:=U (ao (ah (ao (ak 1 d) c)) b) (ayt h)
theorem Oy(h:a+(0+1+1+(b+(c+(d+1)+1))+(0+1))+e<=f):b+(c+(d+1)+1)<=f:=ayt h
theorem Oz(h:a+(0+1+1+(b+(c+(d+1)+1))+(0+1))+e<=f):a+(0+1+1)<=f:=U (ao (Nat.le_add_right_of_le (al _ _)) a) (U (al _ e) h)
theorem O0(h:a+(0+1+1+(b+(c+(d+1)+1))+(0+1))+e<=f):a+(0+1+1+(b+(c+(d+1)+1)))<=f:=bi (U (al _ e) h)
theorem O1(h:a+(0+1+1+(b+(c+(d+1)+1))+(0+1))+e<=f):a+(0+1+1+(b+(c+(d+1)+1))+(0+1))<=f:=U (al _ e) h
theorem O2(h:a<=b)(h1:c<=d):max a c+1<=b+d+1:=ah (ayv h h1)
theorem O3(h:a<=b)(h1:c<=d):max a c<=b+d+1:=bn (ayv h h1)
theorem O4(h:2*a+2<=b)(h1:c<=a):2*c+2<=b:=U (ayx (ayy h1)) h
theorem O5:a+1<=max (a+1) b:=fj _ _
theorem O6(h:a+1<=b):a+1<=max (c+1) b:=U h (fk _ _)
theorem O7:a - 1+(b+1)+1+1=3+(a - 1)+b:=show a - 1+b+3=_ by rw[aw 3,ba]
theorem O8(h:a<=b):a<=c+b+1:=bn (U h (ak b c))
theorem O9:a<=3+(a - 1)+b:=U (ayw a) (U (aw 3 (a - 1)▸ao (by decide:1<=3) (a - 1)) (al _ b))
theorem Pa(h:a<=b):a<=3+(c - 1)+b:=U h (ak b _)
theorem Pb(h:a<=b):a+1<=c+b+1:=ah (U h (ak b c))
theorem Pc(h:a<=b):a+1<=3+(c - 1)+b:=U (aq (aw a 1)) (ay (U (by decide:1<=3) (al 3 _)) h)
theorem qX:0+1<=2*a+3:=U (by decide:1<=3) (ak 3 _)
theorem Pd(h:a+3<=b):b=b - 3+3:=(cc (U (ak 3 a) h)).symm
theorem Pe(h:a<=b)(h1:c+1<=a):c < b:=U h1 h
theorem Pf(h:a+b+1 < c):b < c:=aj (U (ak b a) (au _)) h
theorem Pg(h:a<=b)(h1:c+1<=a):c<=b:=bi (U h1 h)
theorem Ph(h:a+3<=b+3)(h1:c<=a)(h2:d+1<=c)(h3:e+1<=d):e+3<=b+1:=ah (U (ah h3) (U h2 (U h1 (dr h))))
theorem Pi(h:a+1<=b)(h1:c+1<=a):2*c+3<=2*b - 1:=Nat.le_sub_of_add_le (ayy (k:=2) (U (ah h1) h))
theorem Pj(h:a=b):2*b - 1+1+1+1<=2*a+3:=by subst h;exact bc (Nat.sub_le (2*a) 1) 3
theorem Pk(h:a+3<=b+3)(h1:c<=a)(h2:d+1<=c):d+3<=b+1+1:=bc (U h2 (U h1 (dr h))) 2
theorem Pl(h:a+1<=b):2*a+3<=2*b+1:=ah (ayy (k:=2) h)
theorem Pm(h:a < b)(h1:c=d)(h2:d<=a):1+c<=b:=by subst h1;rw[aw];exact aj h2 h
theorem Pn(h:a=b):2*b+1+1<=2*a+3:=by subst h;exact au _
theorem Po:1+1<=2*a+3:=U (by decide:2<=3) (ak 3 _)
theorem yT(h:a=b)(h1:b<=6):a < 64:=h▸aj h1 (by decide)
theorem Pp(h:2*(a+b+1)+2<=c+1):2*a+2<=c:=U (ayx (ayy (al a b))) (bi (be h))
theorem Pq(h:2*(a+b+1)+2<=c+1):2*b+2<=c:=U (ayx (ayy (ak b a))) (bi (be h))
theorem Pr(h:2*(a+1)+2<=b+2):2*a+1<=b:=bi (dr (b:=2) h)
theorem Ps(h:2*(a+b+1)+1<=c+2):2*a+2<=c+1:=U (ayx (ayy (al a b))) (be h)
theorem Pt(h:2*(a+b+1)+1<=c):2*b+1<=c:=U (ay (ayy (ak b a)) (by decide:1<=3)) h
theorem Pu(h:a+b=c):a+d+b=c+d:=by rw[ba,h]
theorem Pv(h:a<=b):a<=c+b:=U h (ak b c)
theorem Pw(h:a<=b):a+1<=c+1+b:=U (ah h) (U (aq (aw b 1)) (ayx (ak 1 c)))
theorem Px(h:a<=b):a+0<=c+b:=U h (ak b c)
theorem yU(h:a<=3*b)(h1:c<=3):c+a<=3*(b+1):=U (ay h1 h) (aq (aw 3 (3*b)))
theorem Py:0+a=a+0:=ce a
theorem Pz(h:a=32\/a=40\/a=32):a=32\/a=40\/a=41:=h.elim .inl λx=>x.elim (λy=>.inr (.inl y)) .inl
theorem P0(h:a=32\/a=41\/a=32):a=32\/a=40\/a=41:=h.elim .inl λx=>x.elim (λy=>.inr (.inr y)) .inl
theorem yV(h:a < b)(h1:b=8192)(h2:c=16777216)(h3:d<=3*a):d<=c:=by subst h1 h2;exact U h3 (U (ayy (bh h)) (by decide))
theorem P1(h:a < b)(h1:b=8192):a<=1048576:=by subst h1;exact U (bh h) (by decide)
theorem P2(h:a < b)(h1:b=8192)(h2:c<=3*a):c<=1048576:=by subst h1;exact U h2 (U (ayy (bh h)) (by decide))
theorem P3(h:a < b)(h1:b=8192)(h2:c=16777216)(h3:d<=3*a):d+2<=c:=by subst h1 h2;exact U (ayx (U h3 (ayy (bh h)))) (by decide)
theorem P4:a<=a+4:=al a 4
theorem P5:a<=a+2:=al a 2
theorem P6:a<=a+3:=al a 3
theorem P7:a<=a:=ae a
theorem P8:a<=a+1:=au a
theorem P9{b:Int}(h:(↑a:Int)=max 0 (min b (↑c:Int))):a<=c:=cg.mp (by rw[h];exact Int.max_le.mpr ⟨cm c,Int.min_le_right _ _⟩)
theorem Qa(h:a - b=c)(h1:¬c=0)(h2:a<=c):b=0:=Nat.eq_zero_of_not_pos λhb=>absurd (Nat.sub_lt (jk λe=>h1 (by rw[<- h,e,Nat.zero_sub])) hb) (Nat.not_lt.mpr (h▸h2))
theorem Qb{a:Int}(h:1<=a/\a<=(↑b:Int)):a.toNat<=b:=ed.mpr h.2
theorem Qc{a:Int}(h:1<=a/\a<=(↑b:Int)):1<=a.toNat:=Int.lt_toNat.mpr h.1
theorem Qd:-(↑(a+1):Int)<=-1:=Int.neg_le_neg (cg.mpr (cy a))
theorem Qe:(-1+(↑(a+1):Int)).toNat=a:=by rw[Int.natCast_add,dm,Int.natCast_one,Int.add_neg_cancel_right,Int.toNat_natCast]
theorem Qf(h:a+(b+1)=c):a < c:=h▸gc (cy b)
theorem Qg(h:a+(b+1)=c)(h1:d<=a):¬d=c+1:=λe=>absurd h1 (Nat.not_le.mpr (by rw[e,<- h];exact fm (gc (cy b))))
theorem qY(h:a<=b):a<=b+1:=bn h
theorem Qh(h:a<=b):a+1<=b+1:=ah h
theorem Qi(h:a+70 < b):a+1 < b:=aj (ao (by decide) a) h
theorem ayz{a:Int}{n:Nat}(h:0<=a/\a < 6)(hp:0 < n):1<=(if 1+a < (n:Int) then 1+a else (n:Int)).toNat/\(if 1+a < (n:Int) then 1+a else (n:Int)).toNat<=6/\(if 1+a < (n:Int) then 1+a else (n:Int)).toNat<=n:=by
 by_cases c:1+a < (n:Int)
 ·rw[if_pos c];exact⟨xU h,xV h,ed.mpr (ej c)⟩
 ·rw[if_neg c];exact⟨hp,cg.mp (bf (fw.mp c) (fy (Int.le_of_lt_add_one (b:=5) h.2) 1)),ae n⟩
end Mine.Internal
namespace Mine.Internal
open PySem
variable {p:Prop}{α:Type}
inductive P(α:Type) where
 |no
 |ok (a:α)
theorem bft(h:false=true):p:=Bool.noConfusion h
theorem btf(h:true=false):p:=Bool.noConfusion h
theorem ns{a:α}(h:none=some a):p:=nomatch h
theorem sn{a:α}(h:some a=none):p:=nomatch h
theorem si{a b:α}(h:some a=some b):a=b:=Option.some.inj h
theorem pno{a:α}(h:P.no=.ok a):p:=nomatch h
theorem pi{a b:α}(h:P.ok a=.ok b):a=b:=P.ok.inj h
theorem aZ{a:α}(h:a∈([]:List α)):p:=nomatch h
theorem hde(h:∀ q:Prop,(p->q)->q):p:=h p λx=>x
theorem ocs(o:Option α)(h:o=none->p)(g:∀ x,o=some x->p):p:=by cases o with | none=>exact h rfl | some x=>exact g x rfl
theorem bcs(b:Bool)(h:b=false->p)(g:b=true->p):p:=by cases b with | false=>exact h rfl | true=>exact g rfl
theorem pcs(o:P α)(h:o=.no->p)(g:∀ x,o=.ok x->p):p:=by cases o with | no=>exact h rfl | ok x=>exact g x rfl
noncomputable def P.bind{α β:Type}(x:P α)(f:α->P β):P β :=
 match x with
 | .no=>.no
 | .ok a=>f a
structure X where
 cls:Str
 fields:List (Str×PyData)
inductive V where
 |fz (d:PyData)
 |own (d:PyData)
 |ex (x:X)
 |pil (l:List PyData)
noncomputable def hO:V->Bool
 | .own _=>true
 | .pil _=>true
 |_=>false
noncomputable abbrev aA:=List (Str×Option V)
noncomputable def aA.get:aA->Str->Option (Option V)
 | [],_=>none
 | (y,v)::r,x=>if x=y then some v else aA.get r x
noncomputable def aA.set:aA->Str->V->aA
 | [],_,_=>[]
 | (y,v)::r,x,u=>if x=y then (y,some u)::r else (y,v)::aA.set r x u
noncomputable def V.cl:V->V
 | .own d=>.fz d
 | .pil l=>.fz (.list l)
 |v=>v
def aA.cl:aA->List Str->aA
 | [],_=>[]
 | (y,v)::r,xs=>(y,if xs.contains y then v.map V.cl else v)::aA.cl r xs
noncomputable def dOf:V->PyData
 | .fz d=>d
 | .own d=>d
 | .ex _=>.none
 | .pil l=>.list l
inductive R(α:Type) where
 |no
 |ok (a:α)
 |exc (x:X)
noncomputable def rb{α β:Type}(r:R α)(k:α->R β):R β :=
 match r with
 | .no=>.no
 | .ok a=>k a
 | .exc x=>.exc x
noncomputable def ofP{α:Type}:P α->R α
 | .no=>.no
 | .ok a=>.ok a
noncomputable def nx{α:Type}:R α->R α
 | .ok a=>.ok a
 |_=>.no
noncomputable def ofO{α:Type}:Option α->P α
 |some a=>.ok a
 |none=>.no
noncomputable def Qj:PyData->P Bool
 | .bool b=>.ok b
 |_=>.no
def c9:V->P Bool
 | .fz d=>Qj d
 |_=>.no
noncomputable def aF:Nat:=16777216
def mkS(s:Str):P V:=if s.length<=aF then .ok (.fz (.str s)) else .no
noncomputable def kD(x:Str)(n:Int):Str :=
 if n < 1 then Str.empty else if (n==1||x.length==0)=true then x else ⟨(List.replicate n.toNat x.cps).foldl (·++·) #[]⟩
noncomputable def yW(op:Operator)(x y:Int):P V :=
 match op with
 | .Add=>.ok (.fz (.int (x+y)))
 | .Sub=>.ok (.fz (.int (x - y)))
 | .Mult=>if x.natAbs < 2 ^ 63\/y.natAbs < 2 ^ 63 then .ok (.fz (.int (x*y))) else .no
 | .FloorDiv=>if y≠0/\y.natAbs < 2 ^ 63 then .ok (.fz (.int (x.fdiv y))) else .no
 | .Mod=>if y≠0 then .ok (.fz (.int (x.fmod y))) else .no
 | .Pow=>if 0<=y/\y<=1000/\x.natAbs < 2 ^ 63 then .ok (.fz (.int (x ^ y.toNat))) else .no
 |_=>.no
noncomputable def fB:Operator->Bool
 | .Add=>true
 |_=>false
noncomputable def yX:Operator->Bool
 | .Mult=>true
 |_=>false
def Qk(op:Operator)(x:Int):PyData->P V
 | .int y=>yW op x y
 |_=>.no
def Ql(op:Operator)(x:Str):PyData->P V
 | .str y=>if fB op=true/\x.length+y.length<=aF then .ok (.fz (.str (x++y))) else .no
 | .int y=>if yX op=true/\-100<=y/\y<=1024/\x.length<=1024 then .ok (.fz (.str (kD x y))) else .no
 |_=>.no
def qZ(op:Operator)(x:List PyData):PyData->P V
 | .list y=>if fB op=true/\x.length+y.length<=aF then .ok (.own (.list (x++y))) else .no
 |_=>.no
def Qm(op:Operator)(x:List PyData):PyData->P V
 | .tuple y=>if fB op=true/\x.length+y.length<=aF then .ok (.fz (.tuple (x++y))) else .no
 |_=>.no
def aD(op:Operator)(a b:PyData):P V :=
 match a with
 | .int x=>Qk op x b
 | .str x=>Ql op x b
 | .list x=>qZ op x b
 | .tuple x=>Qm op x b
 |_=>.no
noncomputable def eqI(x:Int):PyData->P Bool
 | .int y=>.ok (x==y)
 |_=>.no
noncomputable def eqS(x:Str):PyData->P Bool
 | .str y=>.ok (x==y)
 |_=>.no
noncomputable def eqB(x:Bool):PyData->P Bool
 | .bool y=>.ok (x==y)
 |_=>.no
noncomputable def strs?:List PyData->Option (List Str)
 | []=>some []
 |d::r=>match d with
  | .str s=>(strs? r).map (s::·)
  |_=>none
def fC(x y:List PyData):P Bool :=
 match strs? x with
 |none=>.no
 |some a=>match strs? y with
  |none=>.no
  |some b=>.ok (a==b)
def eqL(x:List PyData):PyData->P Bool
 | .list y=>if x.length=y.length then fC x y else .ok false
 | .str _=>.ok false
 |_=>.no
noncomputable def fD(a:Str):List Str->List Str
 | []=>[a]
 |b::r=>if b.cps.toList < a.cps.toList then b::fD a r else a::b::r
def cQ:List Str->List Str
 | []=>[]
 |a::r=>fD a (cQ r)
noncomputable def cH:List (PyData×PyData)->Str->Option PyData
 | [],_=>none
 | (.str y,v)::r,x=>if x=y then some v else cH r x
 |_::r,x=>cH r x
noncomputable def eG:List (PyData×PyData)->Str->PyData->List (PyData×PyData)
 | [],x,u=>[(.str x,u)]
 | (.str y,v)::r,x,u=>if x=y then (.str y,u)::r else (.str y,v)::eG r x u
 |p::r,x,u=>p::eG r x u
noncomputable def fE:List (PyData×PyData)->Str->List (PyData×PyData)
 | [],_=>[]
 | (.str y,v)::r,x=>if x=y then r else (.str y,v)::fE r x
 |p::r,x=>p::fE r x
def eqT(x:List PyData):PyData->P Bool
 | .tuple y=>if y.isEmpty=true then .ok x.isEmpty else if x.length=y.length then fC x y else .no
 |_=>.no
def eqO(a b:PyData):P Bool :=
 match a with
 | .int x=>eqI x b
 | .str x=>eqS x b
 | .bool x=>eqB x b
 | .list x=>eqL x b
 | .tuple x=>eqT x b
 |_=>.no
noncomputable def slice{α:Type}(l:List α)(lo hi:Option Int):List α:=(l.drop (lo.elim 0 (clipAt l.length))).take (hi.elim l.length (clipAt l.length) - lo.elim 0 (clipAt l.length))
noncomputable def bB(c:Nat):PyData:=.str ⟨#[c]⟩
noncomputable def frz:Option PyData->P V
 |some d=>.ok (.fz d)
 |none=>.no
def atP(l:List PyData)(k:Int):P V:=if 0<=k/\k < l.length then frz l[k.toNat]? else .no
def atN(l:List PyData)(k:Int):P V:=if k < 0/\-(l.length:Int)<=k then frz l[(k+l.length).toNat]? else .no
def atS(s:Str)(k:Int):P V:=if 0<=k/\k < s.cps.size then frz (s.cps[k.toNat]?.map bB) else .no
def Qn(k:Int):PyData->P V
 | .list l=>if 0<=k then atP l k else atN l k
 | .tuple l=>atP l k
 | .str s=>atS s k
 |_=>.no
def Qo(x:Str):PyData->P V
 | .dict l=>frz (cH l x)
 |_=>.no
def getItem(a i:PyData):P V :=
 match i with
 | .int k=>Qn k a
 | .str x=>Qo x a
 |_=>.no
noncomputable def Qp(l:List PyData)(lo hi:Option Int):P V:=match lo with
 |some a=>(match hi with | none=>if 1<=a/\a<=l.length then .ok (.fz (.tuple (l.drop a.toNat))) else .no | some _=>.no)
 |none=>.no
def iY(a:PyData)(lo hi:Option Int):P V :=
 match a with
 | .list l=>.ok (.own (.list (slice l lo hi)))
 | .str s=>.ok (.fz (.str ⟨(slice s.cps.toList lo hi).toArray⟩))
 | .tuple l=>Qp l lo hi
 |_=>.no
def mX(x:Str)(l:List PyData):P Bool:=(ofO (strs? l)).bind λss=>.ok (ss.contains x)
def inS(x:Str):PyData->P Bool
 | .str y=>.ok (Txt.contains y x)
 | .dict l=>.ok (cH l x).isSome
 | .list l=>mX x l
 | .tuple l=>mX x l
 |_=>.no
noncomputable def bF:PyData->Bool
 | .none=>true
 |_=>false
noncomputable def eO:PyData->Bool
 | .none=>true
 | .tuple _=>true
 |_=>false
def Qq:PyData->P Bool
 | .list l=>if l.all eO=true then .ok (l.any bF) else .no
 |_=>.no
def contains(a b:PyData):P Bool :=
 match a with
 | .none=>Qq b
 | .str x=>inS x b
 |_=>.no
noncomputable def cI(p:P Bool):P Bool:=p.bind λb=>.ok (!b)
def mY(a b:PyData):P Bool :=
 match b with
 | .none=>.ok (bF a)
 |_=>.no
noncomputable def kE(f:Int->Int->Bool)(a b:PyData):P Bool :=
 match a with
 | .int x=>(match b with | .int y=>.ok (f x y) | _=>.no)
 |_=>.no
def cmp(op:CmpOp)(a b:PyData):P Bool :=
 match op with
 | .Eq=>eqO a b
 | .NotEq=>cI (eqO a b)
 | .Lt=>kE (λx y=>decide (x < y)) a b
 | .LtE=>kE (λx y=>decide (x<=y)) a b
 | .Gt=>kE (λx y=>decide (y < x)) a b
 | .GtE=>kE (λx y=>decide (y<=x)) a b
 | .In=>contains a b
 | .NotIn=>cI (contains a b)
 | .Is=>mY a b
 | .IsNot=>cI (mY a b)
def items:PyData->P (List PyData)
 | .list l=>.ok l
 | .tuple l=>.ok l
 | .dict l=>.ok (l.map (·.1))
 | .str s=>.ok (s.cps.toList.map bB)
 |_=>.no
noncomputable def mZ:PyData->P (List PyData)
 | .list l=>.ok l
 | .tuple l=>.ok l
 |_=>.no
noncomputable def cU(i:Int):List PyData->List PyData
 | []=>[]
 |x::r=>.tuple [.int i,x]::cU (i+1) r
noncomputable def dY(l m:List PyData):List PyData:=List.zipWith (λa b=>.tuple [a,b]) l m
noncomputable def cJ(i:Int):Nat->List PyData
 |0=>[]
 |n+1=>.int i::cJ (i+1) n
noncomputable def bools?:List PyData->Option (List Bool)
 | []=>some []
 | .bool b::r=>(bools? r).map (b::·)
 |_::_=>none
def Qr(l:List PyData):P Bool:=(ofO (bools? l)).bind λbs=>.ok (bs.all id)
noncomputable def bO:List Str->List Str
 | []=>[]
 |a::r=>if r.contains a then bO r else a::bO r
noncomputable def Qs:List PyData->Option (PyData×PyData)
 | []=>none
 |a::r=>match r with
  | []=>none
  |b::r=>match r with
   | []=>some (a,b)
   |_::_=>none
def two:PyData->Option (PyData×PyData)
 | .tuple l=>Qs l
 |_=>none
noncomputable def keys?:List (PyData×PyData)->Option (List (Str×PyData))
 | []=>some []
 |p::r=>match p.1 with
  | .str k=>(keys? r).map ((k,p.2)::·)
  |_=>none
def twos?:List PyData->Option (List (PyData×PyData))
 | []=>some []
 |x::r=>(two x).bind λp=>(twos? r).map (p::·)
def eH:List (Str×PyData)->List (PyData×PyData)->List (PyData×PyData)
 | [],acc=>acc
 |p::r,acc=>eH r (eG acc p.1 p.2)
noncomputable def kF(i:Int):Str:=Str.ofString (toString i)
noncomputable def dZ:PyData->Bool
 | .dict _=>true
 |_=>false
noncomputable def iZ:PyData->Bool
 | .int _=>true
 | .bool _=>true
 |_=>false
noncomputable def i5:PyData->Bool
 | .bool _=>true
 |_=>false
noncomputable def eP:PyData->Bool
 | .str _=>true
 |_=>false
noncomputable def kG:PyData->Bool
 | .list _=>true
 |_=>false
noncomputable def cC:PyData->Bool
 | .tuple _=>true
 |_=>false
noncomputable def fz(d:PyData):P V:=.ok (.fz d)
noncomputable def own(d:PyData):P V:=.ok (.own d)
def fzb(b:P Bool):P V:=b.bind λb=>.ok (.fz (.bool b))
def aW:PyData->P V
 | .list l=>fz (.int l.length)
 | .tuple l=>fz (.int l.length)
 | .str s=>fz (.int s.cps.size)
 | .dict l=>fz (.int l.length)
 |_=>.no
def b7:PyData->P V
 | .list l=>fzb (Qr l)
 |_=>.no
def m8(l:List PyData):P V:=(ofO (strs? l)).bind λl=>if l.length < 64 then own (.list ((cQ l).map .str)) else .no
def kH:PyData->P V
 | .list l=>m8 l
 | .dict l=>m8 (l.map (·.1))
 |_=>.no
def fT:PyData->P V
 | .dict l=>own (.list (l.map (·.1)))
 | .list l=>own (.list l)
 | .tuple l=>own (.list l)
 |_=>.no
def bJ:PyData->P V
 | .list l=>fz (.tuple l)
 |_=>.no
def cK:PyData->P V
 | .list l=>(ofO (twos? l)).bind λl=>(ofO (keys? l)).bind λl=>if l.length < 4096 then own (.dict (eH l [])) else .no
 | .dict l=>own (.dict l)
 |_=>.no
def cL:PyData->P V
 | .bool b=>fz (.int (if b then 1 else 0))
 | .str s=>if s.length<=640 then (ofO (PySem.intText? s)).bind λi=>fz (.int i) else .no
 |_=>.no
def hU:PyData->P V
 | .str s=>fz (.str s)
 | .int i=>if i.natAbs.log2 < 1920 then fz (.str (kF i)) else .no
 |_=>.no
def q0:PyData->P V
 | .int i=>fz (.int (if i < 0 then -i else i))
 |_=>.no
def rA(f:Str)(d:PyData):P V :=
 if f = "len" then aW d
 else if f = "all" then b7 d
 else if f = "sorted" then kH d
 else if f = "list" then fT d
 else if f = "tuple" then bJ d
 else if f = "dict" then cK d
 else if f = "int" then cL d
 else if f = "str" then hU d
 else if f = "abs" then q0 d
 else .no
noncomputable def i6(f:Str):Bool:=f == "len" || f == "all" || f == "sorted" || f == "list" || f == "tuple" || f == "dict" || f == "int" || f == "str" || f == "abs"
noncomputable def Qt:List PyData->Option PyData
 | []=>some .none
 |d::r=>match r with
  | []=>some d
  |_::_=>none
def yY(l:List (PyData×PyData))(r:List PyData):PyData->P V
 | .str k=>(ofO (Qt r)).bind λd=>fz ((cH l k).getD d)
 |_=>.no
noncomputable def yZ:PyData->P (List PyData)
 | .list l=>.ok l
 |_=>.no
def y5(sep:Str)(r:List PyData)(d:PyData):P V :=
 match r with
 | []=>(mZ d).bind λl=>(ofO (strs? l)).bind λl=>if JoinOk sep l then fz (.str (Txt.join sep l)) else .no
 |_::_=>.no
noncomputable def bR(c:Nat)(b:List Nat)(l:List Nat):List Nat:=l.flatMap λx=>if x=c then b else [x]
noncomputable def bW(c:Nat):Bool:=decide (32<=c/\c < 127)
noncomputable def aQ(c:Nat):List Nat->List (List Nat)
 | []=>[[]]
 |x::r=>if x=c then []::aQ c r else (match aQ c r with | []=>[[x]] | w::ws=>(x::w)::ws)
def aY(l:List Nat):List (List Nat):=(aQ 32 l).filter λw=>!w.isEmpty
noncomputable def hV(l:List Nat):PyData:=.str ⟨l.toArray⟩
noncomputable def i7:PyData->Option Nat
 | .str c=>(match c.cps.toList with | []=>none | k::r=>(match r with | []=>some k | _::_=>none))
 |_=>none
def y6(s:Str)(as:List PyData):P V:=if s.cps.toList.all bW=true/\s.length+2<=aF then (match as with
 | []=>own (.list ((aY s.cps.toList).map hV))
 |d::r=>match r with
  | []=>(ofO (i7 d)).bind λk=>own (.list ((aQ k s.cps.toList).map hV))
  |_::_=>.no) else .no
noncomputable def Qu:PyData->Option Str
 | .str s=>some s
 |_=>none
def rC(s:Str)(as:List PyData):P V:=match as with
 | []=>.no
 |a::r=>match r with
  | []=>.no
  |b::r=>(match r with | []=>(ofO (i7 a)).bind λc=>(ofO (Qu b)).bind λb=>if (bR c b.cps.toList s.cps.toList).length<=aF/\s.length<=1048576/\1 < b.length/\b.length<=14 then fz (hV (bR c b.cps.toList s.cps.toList)) else .no | _::_=>.no)
def y7(m:Str)(l:List PyData)(as:List PyData):P V:=match as with
 | []=>.no
 |d::r=>match r with
  | []=>(match d with
   | .bool k=>(ofO (bools? l)).bind λbs=>if m = "count" then fz (.int (bs.countP (·==k))) else (ofO (bs.findIdx? (·==k))).bind λj=>if j < aF then fz (.int j) else .no
   | .str k=>(ofO (strs? l)).bind λss=>if m = "index" then (ofO (ss.findIdx? (·==k))).bind λj=>if j < aF then fz (.int j) else .no else .no
   |_=>.no)
  |_::_=>.no
noncomputable def mOk(m:Str)(o:PyData):Bool :=
 match o with
 | .dict _=>decide (m = "get")
 | .str _=>decide (m = "join")||decide (m = "split")||decide (m = "replace")
 | .list _=>decide (m = "count")||decide (m = "index")
 |_=>false
def fU(o:PyData)(as:List PyData):P V :=
 match as with
 | []=>.no
 |k::r=>match o with
  | .dict l=>yY l r k
  | .str sep=>y5 sep r k
  |_=>.no
def rD(m:Str)(o:PyData)(as:List PyData):P V:=match o with
 | .list l=>y7 m l as
 | .str s=>if m = "split" then y6 s as else if m = "replace" then rC s as else fU o as
 |_=>fU o as
set_option genInjectivity false in
inductive EW where
 |name (x:Str)
 |tup (es:List Expr)
 |star
 |call (f:Expr) (as:List Expr) (kws:List Keyword) (q:Pos)
 |attr (o:Expr) (m:Str) (p:Pos)
 |sub (o i:Expr)
 |slice (a b c:Option Expr)
 |comp
 |setd
 |lst (es:List Expr)
 |dct (ks:List (Option Expr)) (vs:List Expr)
 |cst (c:Const)
 |other
noncomputable def vw:Expr->EW
 | .Name x _=>.name x
 | .Tuple es _ _=>.tup es
 | .Starred _ _=>.star
 | .Call f as kws q=>.call f as kws q
 | .Attribute o m p=>.attr o m p
 | .Subscript o i _=>.sub o i
 | .Slice a b c _=>.slice a b c
 | .ListComp _ _ _ _=>.comp
 | .SetComp _ _ _ _=>.comp
 | .DictComp _ _ _ _ _=>.comp
 | .Set _ _ _=>.setd
 | .List es _=>.lst es
 | .Dict ks vs _=>.dct ks vs
 | .Constant c _ _=>.cst c
 |_=>.other
noncomputable def bC(e:Expr):Option Str:=match vw e with | .name x=>some x | _=>none
noncomputable def rE(e:Expr):Bool:=match vw e with | .call _ _ _ _=>true | _=>false
noncomputable def hY(e:Expr):Bool:=match vw e with | .comp=>true | _=>false
noncomputable def Qv(e:Expr):Bool:=match vw e with | .slice _ _ _=>true | _=>false
noncomputable def gH(e:Expr):Bool:=match vw e with | .tup _=>true | _=>false
noncomputable def gI(e:Expr):Option (Expr×List Expr×List Keyword×Pos):=match vw e with | .call f as kws q=>some (f,as,kws,q) | _=>none
noncomputable def kI(e:Expr):Option (Expr×Str×Pos):=match vw e with | .attr o m p=>some (o,m,p) | _=>none
noncomputable def m9{α:Type}(kws:List Keyword)(a:α):Option α:=match kws with | []=>some a | _::_=>none
noncomputable def bad(e:Expr):Bool:=match vw e with | .star=>true | .setd=>true | .slice _ _ _=>true | _=>false
set_option genInjectivity false in
structure Ctx where
 call:Str->List V->R V
 has:Str->Bool
 const:Str->Option PyData
 hd:Bool
 sub:Str->Str->Option Bool
 init:Str->Option (Option (List Str))
def evs(rec:Expr->R V):List Expr->R (List V)
 | []=>.ok []
 |e::r=>rb (rec e) λv=>rb (evs rec r) λvs=>.ok (v.cl::vs)
def bV(l:List V):List PyData:=l.map dOf
noncomputable def isG(sc:Scope)(x:Str):Bool:=sc.names.lookup x==some .globalImplicit
noncomputable def isL(sc:Scope)(x:Str):Bool :=
 match sc.names.lookup x with
 |some .local=>true
 |some .cell=>true
 |some .free=>true
 |_=>false
def tst(r:R V):R Bool:=rb r λv=>ofP (c9 v)
def kJ(rec:Expr->R V):List Expr->R V
 | []=>.no
 |e::r=>match r with
  | []=>rec e
  |r=>rb (rec e) λv=>rb (ofP (c9 v)) λb=>if b then kJ rec r else .ok v
def kK(rec:Expr->R V):List Expr->R V
 | []=>.no
 |e::r=>match r with
  | []=>rec e
  |r=>rb (rec e) λv=>rb (ofP (c9 v)) λb=>if b then .ok v else kK rec r
def aV(b:R Bool):R V:=rb b λb=>.ok (.fz (.bool b))
def rF(rec:Expr->R V)(a:PyData)(op:CmpOp)(e:Expr):R Bool:=rb (rec e) λv=>ofP (cmp op a (dOf v))
def Qw(rec:Expr->R V)(a:PyData)(op op':CmpOp)(e e':Expr):R Bool:=rb (rec e) λv=>rb (ofP (cmp op a (dOf v))) λt=>if t then rF rec (dOf v) op' e' else .ok false
def nA(rec:Expr->R V)(a:PyData)(ops:List CmpOp)(es:List Expr):R Bool :=
 match ops with
 | []=>.no
 |op::ops=>match es with
  | []=>.no
  |e::es=>match ops with
   | []=>(match es with | []=>rF rec a op e | _::_=>.no)
   |op'::ops=>match es with
    | []=>.no
    |e'::es=>match ops with
     | []=>(match es with | []=>Qw rec a op op' e e' | _::_=>.no)
     |_::_=>.no
def nB(rec:Expr->R V):List (Option Expr)->List Expr->R (List (PyData×PyData))
 | [],[]=>.ok []
 |some k::ks,e::es=>rb (rec k) λk=>rb (rec e) λv=>rb (nB rec ks es) λr=>.ok ((dOf k,dOf v)::r)
 |_,_=>.no
def kL(l:List (PyData×PyData)):P V:=(ofO (keys? l)).bind λl=>own (.dict (eH l []))
noncomputable def dC:List Expr->Option (List Str)
 | []=>some []
 |e::r=>(bC e).bind λx=>(dC r).map (x::·)
def i8(rec:Expr->R V)(e:Expr):R (List PyData):=rb (rec e) λv=>ofP (items (dOf v))
def nC(n:PyData):P (List PyData) :=
 match n with
 | .int n=>if -4096<=n/\n<=4096 then .ok (cJ 0 n.toNat) else .no
 |_=>.no
noncomputable def iA:V->P PyData
 | .fz d=>.ok d
 |_=>.no
def nD(rec:Expr->R V)(a:Expr):R (List PyData):=rb (rec a) λv=>ofP ((iA v).bind nC)
noncomputable def y8:PyData->P (List PyData)
 | .list l=>.ok l.reverse
 |_=>.no
def nE(rec:Expr->R V)(a:Expr):R (List PyData):=rb (rec a) λv=>ofP (y8 (dOf v))
def nF(rec:Expr->R V)(a:Expr):R (List PyData):=rb (rec a) λv=>ofP ((mZ (dOf v)).bind λl=>.ok (cU 0 l))
noncomputable def nG:PyData->P (List PyData)
 | .tuple l=>.ok l
 |_=>.no
def iB(e:Expr):Option (Str×List Expr):=(gI e).bind λc=>(bC c.1).bind λx=>m9 c.2.2.1 (x,c.2.1)
def y9(a b:PyData):P (List PyData):=(nG a).bind λl=>(nG b).bind λm=>.ok (dY l m)
def zA(vs:List V):P (List PyData):=match vs with
 | []=>.no
 |a::r=>match r with
  | []=>.no
  |b::r=>(match r with | []=>y9 (dOf a) (dOf b) | _::_=>.no)
def rG(rec:Expr->R V)(target:Expr)(as:List Expr):R (List PyData):=if gH target=true/\as.any bad=false then rb (evs rec as) λvs=>ofP (zA vs) else .no
def fV(rec:Expr->R V)(hd:Bool)(sc:Scope)(target:Expr)(e:Expr):R (List PyData) :=
 if hd then .no else
 match iB e with
 |none=>i8 rec e
 |some c =>
  if c.1 = "range" \/ c.1 = "enumerate" \/ c.1 = "reversed" \/ c.1 = "zip" then
   if isG sc c.1 then (if c.1 = "zip" then rG rec target c.2 else match c.2 with
    | []=>.no
    |a::r=>match r with
     | []=>if c.1 = "range" then nD rec a else if c.1 = "enumerate" /\ gH target=true then nF rec a else if c.1 = "reversed" then nE rec a else .no
     |_::_=>.no)
   else .no
  else i8 rec e
noncomputable def bnd(x:Str)(d:PyData)(σ:aA):aA:=(".0", none)::(x,some (.fz d))::σ
def aN(test:PyData->R Bool)(elt:PyData->R V):List PyData->R (List PyData)
 | []=>.ok []
 |d::r=>rb (nx (test d)) λb =>
  if b then rb (elt d) λv=>rb (aN test elt r) λxs=>.ok (dOf v::xs)
  else aN test elt r
inductive Tg where
 |one (x:Str)
 |pair (x y:Str)
noncomputable def tgL:List Str->Option Tg
 | []=>none
 |x::r=>match r with
  | []=>none
  |y::r=>(match r with | []=>some (.pair x y) | _::_=>none)
def kM(e:Expr):Option Tg:=match vw e with
 | .name x=>some (.one x)
 | .tup es=>(dC es).bind tgL
 |_=>none
noncomputable def Tg.ns:Tg->List Str
 | .one x=>[x]
 | .pair x y=>[x,y]
noncomputable def Tg.apart:Tg->Bool
 | .one _=>true
 | .pair x y=>x != y
def kN(t:Tg)(d:PyData)(σ:aA):Option aA:=match t with
 | .one x=>some (bnd x d σ)
 | .pair x y=>(two d).map λq=>(".0", none)::(y,some (.fz q.2))::(x,some (.fz q.1))::σ
def kO{α:Type}(t:Tg)(d:PyData)(σ:aA)(k:aA->R α):R α:=match t with
 | .one x=>k (bnd x d σ)
 | .pair x y=>match two d with
  |some q=>k ((".0", none)::(y,some (.fz q.2))::(x,some (.fz q.1))::σ)
  |none=>.no
def gJ(test:aA->R Bool)(elt:aA->R V)(t:Tg)(σ:aA)(l:List PyData):R (List PyData):=aN (λd=>kO t d σ test) (λd=>kO t d σ elt) l
def kP(sc:Scope)(σ:aA)(x:Str):Option PyData :=
 match aA.get σ x with
 |some o=>(match o with
  |some v=>(match v with | .own d=>if isL sc x then some d else none | _=>none)
  |none=>none)
 |none=>none
def nH(sc:Scope)(σ:aA)(e:Expr):Option PyData:=match bC e with | some x=>kP sc σ x | none=>none
noncomputable def nI:V->Option Nat
 | .own d=>(match d with | .list l=>some l.length | _=>none)
 | .pil l=>some l.length
 |_=>none
def zB(sc:Scope)(σ:aA)(x:Str):Option Nat :=
 match aA.get σ x with
 |some o=>(match o with | some v=>if isL sc x then nI v else none | none=>none)
 |none=>none
def nJ(sc:Scope)(σ:aA)(f:Str)(as:List Expr):Option Nat:=if f = "len" then (match as with
 | []=>none
 |a::r=>(match r with | []=>(bC a).bind (zB sc σ) | _::_=>none)) else none
def zC(sc:Scope)(σ:aA)(x:Str):Option X :=
 match aA.get σ x with
 |some o=>(match o with
  |some v=>(match v with | .ex d=>if isL sc x then some d else none | _=>none)
  |none=>none)
 |none=>none
def gK(sc:Scope)(σ:aA)(e:Expr):Option X:=match bC e with | some x=>zC sc σ x | none=>none
def nK(rec:Expr->R V)(sc:Scope)(σ:aA)(o:Expr):R PyData :=
 match nH sc σ o with
 |some d=>.ok d
 |none=>rb (rec o) λv=>.ok (dOf v)
noncomputable def nL:Option NameKind->Bool
 |some .cell=>true
 |some .free=>true
 |_=>false
def nN(sc sc':Scope)(t:Tg):Bool :=
 sc'.kind==.function&&(sc'.names.all λp=>match p.2 with
  | .local=>(p.1 == ".0" || t.ns.contains p.1)&&sc'.names.lookup p.1==some .local
  | .cell=>false
  | .free=>nL (sc.names.lookup p.1)
  |_=>true)&&(t.ns.all λx=>x != ".0" && sc'.names.lookup x==some .local)&&t.apart&&(sc'.names.lookup (Str.ofString "__debug__")).isNone&&(sc'.names.lookup (Str.ofString "__classdict__")).isNone
def Qx(a b:PyData):P V :=
 match a with
 | .int x=>(match b with | .int y=>fz (.int (if y < x then y else x)) | _=>.no)
 |_=>.no
def nO:List V->P V
 | []=>.no
 |a::r=>match r with
  | []=>.no
  |b::r=>(match r with | []=>(iA a).bind λa=>(iA b).bind λb=>Qx a b | _::_=>.no)
def nP(t:Str)(d:PyData):P V :=
 if t = "dict" then fz (.bool (dZ d))
 else if t = "int" then fz (.bool (iZ d))
 else if t = "bool" then fz (.bool (i5 d))
 else if t = "str" then fz (.bool (eP d))
 else if t = "list" then fz (.bool (kG d))
 else if t = "tuple" then fz (.bool (cC d))
 else .no
noncomputable def nQ(e:Expr):Bool:=match vw e with | .call f _ _ _=>(bC f).isNone | _=>true
def dD(d:PyData):P V:=(mZ d).bind λl=>(ofO (strs? l)).bind λss=>if ss.length < 64 then fz (.int (bO ss.reverse).length) else .no
def fW:PyData->P V
 | .dict l=>own (.list (l.map λp=>.tuple [p.1,p.2]))
 |_=>.no
def zD(rec:Expr->R V)(sc:Scope)(as:List Expr):R V :=
 match as with
 | []=>.no
 |x::r=>match r with
  | []=>if isG sc "set" = true then rb (rec x) λv=>ofP (dD (dOf v)) else .no
  |_::_=>.no
def zE(rec:Expr->R V)(o:Expr)(ap cp:Pos)(as:List Expr):R V :=
 match as with
 | []=>if nQ o=true/\(ap.endLine==cp.line)=true then rb (rec o) λv=>ofP (fW (dOf v)) else .no
 |_::_=>.no
noncomputable def rH(f:Str):Bool:=f == "all" || f == "list" || f == "set" || f == "sorted" || f == "dict"
def gL(rec:Expr->R V)(hd:Bool)(f:Str)(a:Expr):R V:=if hd&&rH f then .no else rb (rec a) λv=>ofP (rA f (dOf v))
def zF(rec:Expr->R V)(hd:Bool)(sc:Scope)(f:Str)(as:List Expr)(kws:List Keyword):R V :=
 if f = "len" /\ hd=false then (match kws with | []=>zD rec sc as | _::_=>.no) else .no
def zG(rec:Expr->R V)(hd:Bool)(f:Str)(o:Expr)(ap cp:Pos)(as:List Expr)(kws:List Keyword):R V :=
 if f = "list" /\ hd=false then (match kws with | []=>zE rec o ap cp as | _::_=>.no) else .no
def zH(rec:Expr->R V)(hd:Bool)(sc:Scope)(f:Str)(a:Expr)(as:List Expr)(kws:List Keyword)(cp:Pos):EW->R V
 | .name g=>if g = "set" then zF rec hd sc f as kws else gL rec hd f a
 | .attr o m ap=>if m = "items" then zG rec hd f o ap cp as kws else gL rec hd f a
 |_=>gL rec hd f a
def rI(rec:Expr->R V)(hd:Bool)(sc:Scope)(f:Str)(a:Expr):R V :=
 match gI a with
 |some c=>zH rec hd sc f a c.2.1 c.2.2.1 c.2.2.2 (vw c.1)
 |none=>gL rec hd f a
def isX(K:Ctx)(c t:Str):P V:=(ofO (K.sub c t)).bind λb=>if t = "ValueError" then (if b=true then fz (.bool true) else .no) else fz (.bool b)
def zI(rec:Expr->R V)(K:Ctx)(sc:Scope)(σ:aA)(a:Expr)(r:List Expr):Option Str->R V
 |some t=>(match r with
  | []=>if isG sc t then (match gK sc σ a with
   |some x=>ofP (isX K x.cls t)
   |none=>rb (rec a) λv=>ofP (nP t (dOf v))) else .no
  |_::_=>.no)
 |none=>.no
def zJ(rec:Expr->R V)(K:Ctx)(sc:Scope)(σ:aA)(as:List Expr):R V :=
 match as with
 | []=>.no
 |a::r=>match r with
  | []=>.no
  |b::r=>zI rec K sc σ a r (bC b)
def Qy(rec:Expr->R V)(hd:Bool)(sc:Scope)(f:Str)(as:List Expr):R V :=
 match as with
 | []=>.no
 |a::r=>(match r with | []=>rI rec hd sc f a | _::_=>.no)
def i9(rec:Expr->R V)(sc:Scope)(σ:aA)(e:Expr):R V :=
 match gK sc σ e with
 |some x=>.ok (.ex x)
 |none=>rec e
def nR(rec:Expr->R V)(K:Ctx)(sc:Scope)(σ:aA)(f:Str)(as:List Expr):R V :=
 if isG sc f then
  if f = "isinstance" then zJ rec K sc σ as
  else if f = "min" then (if as.any bad=true\/K.hd=true then .no else rb (evs rec as) λvs=>ofP (nO vs))
  else if i6 f then (match nJ sc σ f as with | some n=>.ok (.fz (.int n)) | none=>Qy rec K.hd sc f as)
  else if as.any bad=true\/K.has f=false then .no else rb (evs (i9 rec sc σ) as) λvs=>K.call f vs
 else .no
def rJ(rec:Scope->aA->Expr->R V)(sc':Scope):List Expr->Option (aA->R Bool)
 | []=>some λ_=>.ok true
 | [c]=>some λσ'=>tst (rec sc' σ' c)
 |_=>none
def jA(rec:Scope->aA->Expr->R V)(hd:Bool)(sc:Scope)(σ:aA)(elt:Expr)(g:Comprehension)(sc':Scope):R V :=
 match kM g.target with
 |none=>.no
 |some x=>if nN sc sc' x&&g.is_async==0 then match rJ rec sc' g.ifs with
  |none=>.no
  |some t=>rb (rb (fV (rec sc σ) hd sc g.target g.iter) λl=>gJ t (λσ'=>rec sc' σ' elt) x σ l) λr=>ofP (own (.list r))
 else .no
noncomputable def rdv:V->P V
 | .fz d=>.ok (.fz d)
 |_=>.no
def rK(K:Ctx)(sc:Scope)(σ:aA)(x:Str):P V :=
 if isL sc x then match aA.get σ x with
  |some o=>(match o with | some v=>rdv v | none=>.no)
  |none=>.no
 else if isG sc x then (ofO (K.const x)).bind fz
 else .no
def rL:Const->P V
 | .none=>fz .none
 | .bool b=>fz (.bool b)
 | .int i=>fz (.int i)
 | .str s=>mkS s
 |_=>.no
def zK:PyData->P V
 | .int i=>fz (.int (-i))
 |_=>.no
def fF(op:UnaryOp)(v:V):P V :=
 match op with
 | .Not=>(c9 v).bind λb=>fz (.bool !b)
 | .USub=>zK (dOf v)
 |_=>.no
def Qz(rec:Expr->R V)(a:PyData)(i:Expr):R V:=rb (rec i) λi=>ofP (getItem a (dOf i))
noncomputable def toI:V->P (Option Int)
 | .fz d=>(match d with | .int i=>.ok (some i) | _=>.no)
 |_=>.no
def rM(rec:Expr->R V):Option Expr->R (Option Int)
 |none=>.ok none
 |some e=>rb (rec e) λv=>ofP (toI v)
noncomputable def kQ(e:Expr):Option (Option Expr×Option Expr×Option Expr):=match vw e with | .slice a b c=>some (a,b,c) | _=>none
def rN(rec:Expr->R V)(sc:Scope)(σ:aA)(o i:Expr):R V :=
 match kQ i with
 |some c=>(match c.2.2 with
  |none=>rb (nK rec sc σ o) λa=>rb (rM rec c.1) λlo=>rb (rM rec c.2.1) λhi=>ofP (iY a lo hi)
  |some _=>.no)
 |none=>if bad i then .no else rb (nK rec sc σ o) λa=>Qz rec a i
noncomputable def kR(e:Expr):Bool:=match vw e with | .cst c=>(match c with | .str _=>true | _=>false) | _=>false
def kS(rec:Expr->R V)(o:Expr)(m:Str)(ap:Pos)(as:List Expr)(cp:Pos):R V :=
 if m = "items" \/ nQ o=false\/(ap.endLine==cp.line)=false\/as.any bad=true\/3 < as.length\/(m = "replace" /\ (as.all kR=false\/as.length≠2)) then .no else
  rb (rec o) λo=>if mOk m (dOf o) then rb (evs rec as) λas=>ofP (rD m (dOf o) (bV as)) else .no
def fG(rec:Scope->aA->Expr->R V)(K:Ctx)(sc:Scope)(σ:aA)(e:Expr):R V :=
 match e with
 | .Constant c _ _=>ofP (rL c)
 | .Name x _=>ofP (rK K sc σ x)
 | .BoolOp op vs _=>match op with | .And=>kJ (rec sc σ) vs | .Or=>kK (rec sc σ) vs
 | .BinOp l op r _=>rb (rec sc σ l) λa=>rb (rec sc σ r) λb=>ofP (aD op (dOf a) (dOf b))
 | .UnaryOp op x _=>rb (rec sc σ x) λv=>ofP (fF op v)
 | .IfExp t b o _=>rb (tst (rec sc σ t)) λc=>if c then rec sc σ b else rec sc σ o
 | .Dict ks vs _=>if ks.all Option.isSome=true/\ks.length=vs.length/\vs.length<=15 then rb (nB (rec sc σ) ks vs) λl=>ofP (kL l) else .no
 | .List es _=>rb (evs (rec sc σ) es) λl=>if l.length<=aF then .ok (.own (.list (bV l))) else .no
 | .Tuple es _ _=>rb (evs (rec sc σ) es) λl=>if l.length<=aF then .ok (.fz (.tuple (bV l))) else .no
 | .ListComp elt gens sc' _=>match gens with
  | []=>.no
  |g::gs=>(match gs with | []=>jA rec K.hd sc σ elt g sc' | _::_=>.no)
 | .Compare l ops es _=>rb (rec sc σ l) λa=>aV (nA (rec sc σ) (dOf a) ops es)
 | .Subscript o i _=>rN (rec sc σ) sc σ o i
 | .Call f as kws cp=>match kws with
  | []=>(match vw f with
   | .attr o m ap=>kS (rec sc σ) o m ap as cp
   | .name f=>nR (rec sc σ) K sc σ f as
   |_=>.no)
  |_::_=>.no
 |_=>.no
def evE(K:Ctx):Nat->Scope->aA->Expr->R V
 |0=>λ_ _ _=>.no
 |k+1=>fG (evE K k) K
set_option genInjectivity false in
inductive SV where
 |fn (n:Str) (a:Arguments) (b:List Stmt) (sc:Scope)
 |cls (n:Str) (bs:List Expr) (b:List Stmt)
 |asg (ts:List Expr) (e:Expr)
 |ret (o:Option Expr)
 |ex (e:Expr)
 |blk (b:List Stmt) (t:Expr) (o:List Stmt)
 |other
noncomputable def sv:Stmt->SV
 | .FunctionDef n a b _ _ _ sc _ _ _=>.fn n a b sc
 | .ClassDef n bs _ b _ _ _ _ _ _ _=>.cls n bs b
 | .Assign ts e _=>.asg ts e
 | .Return o _=>.ret o
 | .Expr e _=>.ex e
 | .If t b o _=>.blk b t o
 | .For t _ b _ _=>.blk b t []
 | .While t b _ _=>.blk b t []
 |_=>.other
noncomputable def jB(e:Expr):Option Const:=match vw e with
 | .cst c=>some c
 |_=>none
def dR(f:Str):List Stmt->Option (Arguments×List Stmt×Scope)
 | []=>none
 |s::r=>match sv s with
  | .fn n a b sc=>if f=n then some (a,b,sc) else dR f r
  |_=>dR f r
def zL(s:Stmt):Option (Str×Const):=match sv s with
 | .asg ts e=>(match ts with
  | []=>none
  |t::r=>(match r with
   | []=>(bC t).bind λx=>(jB e).bind λc=>some (x,c)
   |_::_=>none))
 |_=>none
def Q0:Const->Option PyData
 | .int i=>some (.int i)
 | .str s=>if s.length<=aF then some (.str s) else none
 |_=>none
def iC(body:List Stmt)(x:Str):Option PyData :=
 if x = "__name__" then none else body.findSome? λs=>(zL s).bind λp=>if x=p.1 then Q0 p.2 else none
def zM(b:List Stmt):Option (List Str):=match b with
 | []=>none
 |s::r=>(match r with
  | []=>(match sv s with | .fn _ a _ _=>some (a.args.drop 1 |>.map (·.arg)) | _=>none)
  |_::_=>none)
def bQ(c:Str):List Stmt->Option (Str×Option (List Str))
 | []=>none
 |s::r=>match sv s with
  | .cls n bs b=>if c=n then (match dC bs with | some [y]=>some (y,zM b) | _=>none) else bQ c r
  |_=>bQ c r
def jC(body:List Stmt):Nat->Str->Str->Bool
 |0,_,_=>false
 |n+1,c,d=>c==d||(match bQ c body with | some p=>jC body n p.1 d | none=>false)
def fH(body:List Stmt)(c d:Str):Option Bool :=
 if ((bQ d body).isSome||d == "ValueError")&&(bQ c body).isSome then some (jC body 4 c d) else none
noncomputable def esc:Nat->Expr->List Str
 |0,_=>[]
 |k+1,e =>
  match e with
  | .Name x _=>[x]
  | .BoolOp _ vs _=>vs.flatMap (esc k)
  | .BinOp l _ r _=>esc k l++esc k r
  | .UnaryOp _ x _=>esc k x
  | .IfExp a b c _=>esc k a++esc k b++esc k c
  | .Dict ks vs _=>ks.flatMap (λo=>o.elim [] (esc k))++vs.flatMap (esc k)
  | .List es _=>es.flatMap (esc k)
  | .Tuple es _ _=>es.flatMap (esc k)
  | .ListComp elt gens _ _=>esc k elt++gens.flatMap λg=>esc k g.iter++g.ifs.flatMap (esc k)
  | .Compare l _ es _=>esc k l++es.flatMap (esc k)
  | .Subscript o i _=>if (bC o).isSome then esc k i else esc k o++esc k i
  | .Slice a b _ _=>a.elim [] (esc k)++b.elim [] (esc k)
  | .Attribute o _ _=>esc k o
  | .Call f as _ _=>if bC f=some "len" /\ as.all (λa=>(bC a).isSome)=true then [] else (kI f).elim [] (λc=>esc k c.1)++as.flatMap (esc k)
  |_=>[]
noncomputable def bX:Nat:=8192
noncomputable def cD(x:Str)(v:V)(σ:aA):P aA :=
 match aA.get σ x with
 |some _=>.ok (aA.set σ x v)
 |none=>.no
def nT:List Str->List PyData->aA->P aA
 | [],[],σ=>.ok σ
 |x::xs,d::ds,σ=>(cD x (.fz d) σ).bind λσ=>nT xs ds σ
 |_,_,_=>.no
def bA(target:Expr)(d:PyData)(σ:aA):P aA :=
 match vw target with
 | .name x=>cD x (.fz d) σ
 | .tup es=>(nG d).bind λds=>(ofO (dC es)).bind λxs=>nT xs ds σ
 |_=>.no
noncomputable abbrev KN:=aA->R V
noncomputable abbrev KR:=V->R V
def a8(body:aA->KN->KR->R V)(target:Expr):List PyData->aA->KN->KR->R V
 | [],σ,kn,_=>kn σ
 |d::r,σ,kn,kr=>rb (ofP (bA target d σ)) λσ=>body σ (λσ=>a8 body target r σ kn kr) kr
def dE(test:aA->R Bool)(body:aA->KN->KR->R V):Nat->aA->KN->KR->R V
 |0,_,_,_=>.no
 |n+1,σ,kn,kr=>rb (test σ) λb=>if b then body σ (λσ=>dE test body n σ kn kr) kr else kn σ
def zN(l:List (PyData×PyData))(d:PyData):PyData->P PyData
 | .str k=>if l.length < aF then .ok (.dict (eG l k d)) else .no
 |_=>.no
noncomputable def zO(l:List PyData)(d:PyData):PyData->P PyData
 | .int k=>if 0<=k/\k < l.length then .ok (.list (l.set k.toNat d)) else .no
 |_=>.no
def setItem(o:PyData)(i d:PyData):P PyData :=
 match o with
 | .dict l=>zN l d i
 | .list l=>zO l d i
 |_=>.no
noncomputable def jD:V->P PyData
 | .own d=>.ok d
 |_=>.no
noncomputable def kT(σ:aA)(x:Str):P PyData :=
 match aA.get σ x with
 |some o=>(match o with | some v=>jD v | none=>.no)
 |none=>.no
noncomputable def blk(rec:Stmt->aA->KN->KR->R V):List Stmt->aA->KN->KR->R V
 | [],σ,kn,_=>kn σ
 |s::r,σ,kn,kr=>rec s σ (λσ=>blk rec r σ kn kr) kr
noncomputable def jE(m:Str):PyData->Bool
 | .list _=>decide (m = "append")
 | .dict _=>decide (m = "pop")
 |_=>false
def zP(l:List (PyData×PyData)):PyData->P PyData
 | .str k=>if (cH l k).isSome then .ok (.dict (fE l k)) else .no
 |_=>.no
def nU(m:Str)(o:PyData)(as:List PyData):P PyData :=
 match as with
 | []=>.no
 |d::r=>match r with
  | []=>(match o with
   | .list l=>if l.length < aF then .ok (.list (l++[d])) else .no
   | .dict l=>zP l d
   |_=>.no)
  |_::_=>.no
def nV(e:Expr):Option (Str×Str×Pos×List Expr×Pos) :=
 (gI e).bind λc=>(kI c.1).bind λa=>(bC a.1).bind λx=>m9 c.2.2.1 (x,a.2.1,a.2.2,c.2.1,c.2.2.2)
noncomputable abbrev EV:=aA->Expr->R V
noncomputable def Q1(e:Expr):Option Str:=match vw e with
 | .sub o _=>(match vw o with | .sub o' _=>bC o' | _=>none)
 |_=>none
noncomputable def jF:Nat->Expr->List Str
 |0,_=>[]
 |k+1,e=>match e with
  | .BoolOp _ vs _=>vs.flatMap (jF k)
  | .Compare l _ _ _=>jF k l
  | .Call f as _ _=>if bC f=some "len" then as.flatMap λa=>(match vw a with | .sub o _=>(bC o).toList | _=>[]) else []
  | .Subscript _ _ _=>(Q1 e).toList
  |_=>[]
def rO(ev:EV)(F:Nat)(sc:Scope)(σ:aA)(e:Expr)(kr:KR):R V :=
 match bC e with
 |some x=>(match kP sc σ x with
  |some d=>kr (.own d)
  |none=>rb (ev σ e) kr)
 |none=>rb (ev (aA.cl σ (esc F e++jF F e)) e) kr
def rP(ev:EV)(σ:aA)(x:Str)(i e:Expr)(kn:KN):R V :=
 if Qv i then .no else
 rb (ev σ e) λv=>rb (ofP (kT σ x)) λo=>rb (ev σ i) λiv=>rb (ofP (setItem o (dOf iv) (dOf v))) λo=>rb (ofP (cD x (.own o) σ)) kn
def zQ(ev:EV)(hd:Bool)(σ:aA)(t e:Expr)(kn:KN):R V :=
 if (rE e=true\/(bC e).isSome=true)/\hd=false then rb (ev σ e) λv=>rb (ofP (bA t (dOf v) σ)) kn else .no
noncomputable def eQ(e:Expr):Bool:=match vw e with
 | .lst es=>es.isEmpty
 |_=>false
def kU(e:Expr):Option Nat:=match vw e with
 | .lst es=>if es.isEmpty=false/\es.all eQ=true/\es.length<=aF then some es.length else none
 |_=>none
noncomputable def kW(σ:aA)(x:Str):P (List PyData) :=
 match aA.get σ x with
 |some o=>(match o with | some v=>(match v with | .pil l=>.ok l | _=>.no) | none=>.no)
 |none=>.no
def fI:List PyData->P (List PyData)
 | []=>.no
 |d::r=>match r with
  | []=>yZ d
  |_::_=>fI r
def kX(e:Expr):Option (Str×Pos×Pos):=(iB e).bind λc=>if c.1 = "tuple" then (match c.2 with
 | []=>none
 |a::r=>(match r with | []=>(nV a).bind λm=>if m.2.1 = "pop" /\ m.2.2.2.1.isEmpty=true then some (m.1,m.2.2.1,m.2.2.2.2) else none | _::_=>none)) else none
def nW(sc:Scope)(σ:aA)(y x:Str)(ap cp:Pos)(kn:KN):R V :=
 if (ap.endLine==cp.line)=false\/isG sc "tuple" = false then .no else
 rb (ofP (kW σ x)) λl=>rb (ofP (fI l)) λw=>rb (ofP (cD x (.pil l.dropLast) σ)) λσ=>rb (ofP (cD y (.fz (.tuple w)) σ)) kn
noncomputable def zR:Expr->Bool
 | .UnaryOp op e _=>(match op with | .USub=>(match jB e with | some c=>(match c with | .int i=>decide (i=1) | _=>false) | none=>false) | _=>false)
 |_=>false
def nX(e:Expr):Option (Str×Expr×Pos×Pos):=(gI e).bind λc=>(kI c.1).bind λa=>if a.2.1 = "append" then (match vw a.1 with
 | .sub o i=>(bC o).bind λx=>if zR i=true then (match c.2.1 with
  | []=>none
  |e::r=>(match r with | []=>if (bC e).isSome=true then m9 c.2.2.1 (x,e,a.2.2,c.2.2.2) else none | _::_=>none)) else none
 |_=>none) else none
def rQ(ev:EV)(σ:aA)(x:Str)(e:Expr)(ap cp:Pos)(kn:KN):R V :=
 if (ap.endLine==cp.line)=false then .no else
 rb (ofP (kW σ x)) λl=>rb (ofP (fI l)) λw=>rb (ev σ e) λv=>if w.length < aF then rb (ofP (cD x (.pil (l.dropLast++[.list (w++[dOf v])])) σ)) kn else .no
noncomputable def rR(m:Str)(as:List Expr):Bool:=decide (m = "append")&&(match as with | []=>false | a::r=>(match r with | []=>eQ a | _::_=>false))
def rS(σ:aA)(x:Str)(ap cp:Pos)(kn:KN):R V :=
 if (ap.endLine==cp.line)=false then .no else rb (ofP (kW σ x)) λl=>if l.length < aF then rb (ofP (cD x (.pil (l++[.list []])) σ)) kn else .no
def rT(ev:EV)(F:Nat)(hd:Bool)(sc:Scope)(σ:aA)(t e:Expr)(kn:KN):R V :=
 match vw t with
 | .name x=>(match kU e with
  |some k=>rb (ofP (cD x (.pil (List.replicate k (.list []))) σ)) kn
  |none=>(match kX e with
   |some c=>nW sc σ x c.1 c.2.1 c.2.2 kn
   |none=>rb (ev (aA.cl σ (esc F e)) e) λv=>rb (ofP (cD x v (aA.cl σ (esc F e)))) kn))
 | .sub o i=>(match bC o with
  |some x=>rP ev (aA.cl σ (esc F e)) x i e kn
  |none=>.no)
 | .tup _=>zQ ev hd (aA.cl σ (esc F e)) t e kn
 |_=>.no
def kY(ev:EV)(σ:aA)(x m:Str)(ap:Pos)(as:List Expr)(cp:Pos)(kn:KN):R V :=
 if (ap.endLine==cp.line)=false\/as.any bad=true\/3 < as.length then .no else
 rb (ofP (kT σ x)) λo=>if jE m o then rb (evs (ev σ) as) λas'=>rb (ofP (nU m o (bV as'))) λo=>rb (ofP (cD x (.own o) σ)) kn else .no
def rU(ev:EV)(F:Nat)(σ:aA)(e:Expr)(kn:KN):R V :=
 match nV e with
 |some (x,m,ap,as,cp)=>if rR m as=true then rS σ x ap cp kn else kY ev (aA.cl σ (as.flatMap (esc F))) x m ap as cp kn
 |none=>if hY e then .no else match nX e with
  |some c=>rQ ev σ c.1 c.2.1 c.2.2.1 c.2.2.2 kn
  |none=>rb (ev (aA.cl σ (esc F e)) e) λ_=>kn (aA.cl σ (esc F e))
def nY(ev:EV)(F:Nat)(K:Ctx)(sc:Scope)(σ:aA)(e:Expr):R V :=
 match iB e with
 |some (c,as)=>if isG sc c=true/\as.any bad=false/\K.hd=false then
   (match K.init c with
   |some i=>(match i with | none=>rb (evs (ev (aA.cl σ (as.flatMap (esc F)))) as) λvs=>if vs.length=1 then .exc ⟨c,[]⟩ else .no | some _=>.no)
   |none=>.no) else .no
 |none=>.no
def gM:List Stmt->Option Expr
 | []=>none
 |s::r=>match r with
  | []=>(match sv s with | .ret o=>o | _=>none)
  |_::_=>none
def n6:List ExceptHandler->Option (Str×Option Str×Expr)
 | []=>none
 |h::r=>match r with
  | []=>(match h with
   | .ExceptHandler t x b _=>match t with
    |some t=>(match bC t with
     |some c=>(match gM b with | some e=>some (c,x,e) | none=>none)
     |none=>none)
    |none=>none)
  |_::_=>none
def n7(ev ev':EV)(F:Nat)(K:Ctx)(sc:Scope)(σ:aA)(e:Expr)(c z:Str)(e':Expr)(kr:KR):R V :=
 if isG sc c=true/\(K.init c).isSome=true/\sc.names.lookup z=some .local then match ev (aA.cl σ (esc F e)) e with
  | .no=>.no
  | .ok v=>kr v
  | .exc y=>if K.sub y.cls c=some true then rb (ofP (cD z (.ex y) (aA.cl σ (esc F e)))) λσ=>rb (nx (ev' (aA.cl σ (esc F e')) e')) kr else .no
 else .no
def zS(ev ev':EV)(F:Nat)(K:Ctx)(sc:Scope)(rec:Stmt->aA->KN->KR->R V)(s:Stmt)(σ:aA)(kn:KN)(kr:KR):R V :=
 match s with
 | .Return o _=>(match o with | none=>kr (.fz .none) | some e=>rO ev F sc σ e kr)
 | .Assign ts e _=>match ts with
  | []=>.no
  |t::r=>(match r with | []=>rT ev F K.hd sc σ t e kn | _::_=>.no)
 | .Expr e _=>rU ev F σ e kn
 | .If t b o _=>rb (tst (ev (aA.cl σ (esc F t++jF F t)) t)) λc=>if c then blk rec b (aA.cl σ (esc F t++jF F t)) kn kr else blk rec o (aA.cl σ (esc F t++jF F t)) kn kr
 | .For t it b o _=>match o with
  | []=>rb (fV (ev (aA.cl σ (esc F it))) K.hd sc t it) λl=>a8 (blk rec b) t l (aA.cl σ (esc F it)) kn kr
  |_::_=>.no
 | .While t b o _=>match o with
  | []=>dE (λσ=>tst (ev σ t)) (blk rec b) bX σ kn kr
  |_::_=>.no
 | .Raise o c _=>match o with
  |some e=>(match c with | none=>nY ev F K sc σ e | some _=>.no)
  |none=>.no
 | .Try b hs o f _=>match o with
  | []=>(match f with
   | []=>(match gM b with
    |some e=>(match n6 hs with | some (c,x,e')=>(match x with | some z=>if K.hd then .no else n7 ev ev' F K sc σ e c z e' kr | none=>.no) | none=>.no)
    |none=>.no)
   |_::_=>.no)
  |_::_=>.no
 | .Pass _=>kn σ
 |_=>.no
def evS(ev ev':EV)(F:Nat)(K:Ctx)(sc:Scope):Nat->Stmt->aA->KN->KR->R V
 |0=>λ_ _ _ _=>.no
 |k+1=>zS ev ev' F K sc (evS ev ev' F K sc k)
noncomputable def eI(ps:List Str)(vs:List V):List (Str×NameKind)->aA
 | []=>[]
 | (x,k)::r=>match k with
  | .local=>(x,(ps.zip vs).lookup x)::eI ps vs r
  | .cell=>(x,(ps.zip vs).lookup x)::eI ps vs r
  |_=>eI ps vs r
noncomputable def dS:Nat:=24
noncomputable def kZ:List Str->Bool
 | []=>true
 |x::r=>!r.contains x&&kZ r
noncomputable def n8(a:Arguments)(sc:Scope):Bool :=
 a.posonlyargs.isEmpty&&a.vararg.isNone&&a.kwonlyargs.isEmpty&&a.kwarg.isNone&&a.defaults.isEmpty&&a.kw_defaults.isEmpty &&
 sc.kind==.function&&!sc.isGenerator&&!sc.isCoroutine&&kZ (sc.names.map (·.1))&&kZ (a.args.map (·.arg)) &&
 (sc.names.all λp=>p.2 != .free)&&(a.args.all λx=>match sc.names.lookup x.arg with | some .local=>true | some .cell=>true | _=>false) &&
 (sc.names.lookup (Str.ofString "__debug__")).isNone&&(sc.names.lookup (Str.ofString "__classdict__")).isNone
def eJ(body:List Stmt)(call:Str->List V->R V)(hd:Bool):Ctx :=
 ⟨call,λf=>(dR f body).isSome,iC body,hd,fH body,λc=>(bQ c body).map (·.2)⟩
def run(body:List Stmt):Nat->Bool->Str->List V->R V
 |0,_,_,_=>.no
 |n+1,hd,f,vs=>match dR f body with
  |none=>.no
  |some (a,b,sc) =>
   if a.args.length=vs.length/\n8 a sc=true then
    blk (evS (evE (eJ body (run body n hd) hd) dS sc) (evE (eJ body (run body n true) true) dS sc) dS (eJ body (run body n hd) hd) sc dS) b (eI (a.args.map (·.arg)) vs sc.names) (λ_=>.ok (.fz .none)) .ok
   else .no
noncomputable def bmV:List Value:=[.type "ValueError", .type "Exception", .type "BaseException", .type "object"]
def n9(body:List Stmt):Nat->Str->List Str
 |0,_=>[]
 |n+1,c=>match bQ c body with
  |some p=>(match bQ p.1 body with | some _=>p.1::n9 body n p.1 | none=>[])
  |none=>[]
noncomputable def rV(h:Heap)(n:Str):Value:=(h.nsMap mainGlobals n).getD .none
def k6(h:Heap)(chain:List Str):List Value:=chain.map (rV h)++bmV
noncomputable def rW(h:Heap)(ns:Addr)(l:List Str):Bool:=l.all λn=>(h.nsMap ns n).isNone
def rX(h:Heap)(l:List Str)(chain:List Str):Bool:=chain.all λn=>match h.clsAt mainGlobals n with
 |some x=>h.isNs x.2.2.ns&&rW h x.2.2.ns l
 |none=>false
noncomputable def hid:List Str:=[Str.ofString "__getattribute__", Str.ofString "__getattr__", Str.ofString "__class__"]
def Q2(h:Heap)(cd:ClassData)(chain:List Str)(ini:Option (List Str)):Bool :=
 (ini.isSome||(h.nsMap cd.ns "__init__").isNone)&&rW h cd.ns hid&&rX h (Str.ofString "__init__" :: hid) chain
def oA(h:Heap)(chain:List Str)(ini:Option (List Str))(x:Addr×Obj×ClassData):Bool :=
 decide (x.2.1.cls=.type "type")&&decide (x.2.2.mro=.ref x.1::k6 h chain)&&!x.2.2.hasDel&&decide (x.2.1.slots.size=6)&&decide (x.2.1.slots[4]?=some (some (.builtin "ValueError.__new__")))&&h.isNs x.2.2.ns&&Q2 h x.2.2 chain ini
def Q3(s:Stmt):Option Str:=match sv s with
 | .cls n _ _=>some n
 |_=>none
def oB(body:List Stmt):List Str:=body.filterMap Q3
def zT(h:Heap)(body:List Stmt)(c:Str)(C:Addr):Bool:=(oB body).all λd=>match h.nsMap mainGlobals d with
 |some (.ref D)=>decide ((Value.ref C::k6 h (n9 body 4 c)).contains (.ref D)=jC body 4 c d)
 |_=>true
def Q4(h:Heap)(body:List Stmt)(c:Str)(p:Str×Option (List Str)):Bool:=(h.clsAt mainGlobals c).any λx=>oA h (n9 body 4 c) p.2 x&&zT h body c x.1
def oE(h:Heap)(body:List Stmt):Bool:=(oB body).all λc=>match bQ c body with
 |none=>true
 |some p=>Q4 h body c p
end Mine.Internal
namespace Mine.Internal
open PySem PySem.W PyProof.Rows
def Q5(s:Stmt):Bool:=match sv s with
 | .asg ts _=>(match ts with
  | []=>true
  |t::r=>(match r with
   | []=>(bC t).elim true λx=>!(x == "__name__")
   |_::_=>true))
 |_=>true
def Q6(p:Program):Program:={ p with main:={ p.main with body:=p.main.body.filter Q5 } }
end Mine.Internal
namespace Mine.Internal
open PySem PySem.W
noncomputable def k7(tb:String->Option Builtin)(p:Program)(w:World)(ln:Nat)(ann:Option Value):Nat->SharedT->Thread->Option SharedT
 |0,_,_=>none
 |n+1,s,t=>match through t with
  |true=>some s
  |false=>match stepOk ln ann t with
   |false=>none
   |true=>match stepT (denote tb) p w s t with
    |some r=>k7 tb p w ln ann n r.1 r.2
    |none=>none
theorem Q7{tb:String->Option Builtin}{p:Program}{w:World}{ln:Nat}{ann:Option Value}:∀ {n:Nat} {s s':SharedT} {t:Thread},k7 tb p w ln ann n s t=some s'->topRun tb p w ln ann n s.abs t=some s'.abs:=by
 intro v0
 induction v0 with
 |zero =>
  intro _ _ _ h;cases h
 |succ n ih =>
  intro s s' t h;unfold k7 at h;unfold topRun;cases he:through t with
  |true=>rw[he] at h;cases h;rfl
  |false =>
   rw[he] at h;cases hk:stepOk ln ann t with
   |false=>rw[hk] at h;cases h
   |true =>
    rw[hk] at h;cases hs:stepT (denote tb) p w s t with
    |none=>rw[hs] at h;cases h
    |some r=>obtain⟨km,mf⟩:=r;rw[hs] at h;rw[stepT_spec hs];exact ih h
noncomputable def zU(l:List Obj):BT×Nat:=l.foldl (λx o=>(x.1.ins x.2 o,x.2+1)) (.nil,0)
def k9(w:World)(os:OsState):SharedT:=⟨(zU (boot_heap w.params).objs.toList).1,(zU (boot_heap w.params).objs.toList).2,(boot_heap w.params).life,Array.mk [],boot_drawn,boot_toks,os⟩
noncomputable def rY{α:Type}(p q:Program)(loose:List Str)(Xt:Shared->Bool)(Yf:Shared->α)(g0:Bool)(w:World)(S:SharedT) :=
 (staticsOk (importedModules p.main.body) (boot_heap w.params) S.abs.heap&&namesBound p S.abs.heap&&gensDone S.abs&&laidKept (boot_heap w.params) S.abs.heap,openSeen q loose (importedModules p.main.body) Xt g0 S.abs,Yf S.abs)
theorem Q8{p q:Program}{loose:List Str}{Xt:Shared->Bool}{α:Type}{Yf:Shared->α}{Ya:World->α}{N:Nat}{g0:Bool}
  (ho:∀ w:World,(fencedOpening treeTable p w N).map (λs=>(s.heap,s.gens,s.drawn,s.toks))=some (boot_heap w.params,Array.mk [],boot_drawn,boot_toks))
  (hb:∀ w os,(k9 w os).abs=⟨boot_heap w.params,Array.mk [],boot_drawn,boot_toks,os⟩) (hns:∀ w:World,(boot_heap w.params).isNs mainGlobals=true)
  (hr:∀ (w:World) (os:OsState),(k7 treeTable p w (boot_heap w.params).objs.size ((boot_heap w.params).nsMap mainGlobals "__annotations__") N (k9 w os) (topStub p)).map (rY p q loose Xt Yf g0 w)=some (true,openGood q loose,Ya w)):LeftO p q loose Xt Yf Ya N g0:=λw=>by
 obtain⟨s,hs,hv⟩:=bj.mp (ho w);obtain⟨S,h1,h2⟩:=bj.mp (hr w s.os);have e:s=(k9 w s.os).abs:=by
  rw[hb];obtain⟨h,g,d,t,os⟩:=s;cases hv;rfl
 have h3:=Q7 h1;rw[<- e] at h3;have eh:s.heap=boot_heap w.params:=congrArg (·.1) hv;have eg:s.gens=Array.mk []:=congrArg (·.2.1) hv;unfold openEnds;rw[hs];show(topFrom treeTable p w N s).map _=_;unfold topFrom;rw[eh,eg,hns w];unfold rY at h2;obtain⟨k1,k2⟩:=Prod.mk.inj h2;show((topRun treeTable p w (boot_heap w.params).objs.size ((boot_heap w.params).nsMap mainGlobals "__annotations__") N s (topStub p)).bind _).map _=_;rw[h3];show(match (staticsOk (importedModules p.main.body) (boot_heap w.params) S.abs.heap&&namesBound p S.abs.heap&&gensDone S.abs&&laidKept (boot_heap w.params) S.abs.heap) with | true=>some S.abs | false=>none).map _=_;rw[k1];exact congrArg some k2
end Mine.Internal
namespace Mine.Internal
open PySem PySem.W PyProof.Rows
def V13:Program:=Q6 PySem.Challenge.rw_uf010037_13.prog
set_option maxRecDepth 100000 in
set_option maxHeartbeats 8000000 in
theorem Q9:∀ w os,(k9 w os).abs=⟨boot_heap w.params,Array.mk [],boot_drawn,boot_toks,os⟩:=λw os=>by kernel_rfl
set_option maxRecDepth 100000 in
theorem Ra:∀ w:World,(boot_heap w.params).isNs mainGlobals=true:=λw=>by kernel_rfl
set_option maxRecDepth 100000 in
theorem Rb:∀ w:World,(fencedOpening treeTable PySem.Challenge.rw_uf010037_13.row.prog w 5086).map (λs=>(s.heap,s.gens,s.drawn,s.toks))=some (boot_heap w.params,Array.mk [],boot_drawn,boot_toks) :=
 boot_open (by kernel_rfl) (by kernel_rfl) λs=>by kernel_rfl
end Mine.Internal
namespace Mine.Internal
open PySem PySem.W PyProof.Rows
noncomputable def tkf(s:Shared):Bool:=Nat.ble 1 s.toks
noncomputable def zV(q:Program)(S:SharedT):=(seen ((recsOf q).map (·.name)) (ownsOf q) [] { S.abs with gens:=#[] },S.abs.heap.bltView)
noncomputable def zW{α:Type}(p q:Program)(loose:List Str)(Xt:Shared->Bool)(Yf:Shared->α)(g0:Bool)(w:World)(S:SharedT) :=
 (staticsOk (importedModules p.main.body) (boot_heap w.params) S.abs.heap&&namesBound p S.abs.heap&&gensDone S.abs&&laidKept (boot_heap w.params) S.abs.heap,
  S.abs.heap.keysOk (looseW q loose) ((recsOf q).map (·.name)) ((litsOf q).map (·.1)) ((clssOf q (looseW q loose)).map (·.name))&&S.abs.heap.accountedOkI (importedModules p.main.body)&&S.abs.heap.isNs mainGlobals&&S.abs.heap.isNs builtinsNs&&tablesOk q S.abs.heap&&Xt S.abs&&(if g0 then S.abs.gens.size==0 else !leftWithCleanup S.abs.gens),Yf S.abs)
noncomputable def rZ(q:Program)(loose:List Str)(S:SharedT):=(tabsOk q S.abs,pinSeenD q (drecsOf q) S.abs,plainSeenE q (looseW q loose) S.abs,plainSeenD q loose S.abs,wideSeen q S.abs,clsSeenW q loose S.abs)
theorem Rc{p q:Program}{loose:List Str}{Xt:Shared->Bool}{α:Type}{Yf:Shared->α}{Ya:α}{g0:Bool}{w:World}{o:Option SharedT}
  (h1:o.map (zV q)=some (expectedOf q,bltViewBooted)) (h2:o.map (zW p q loose Xt Yf g0 w)=some (true,true,Ya)) (h3:o.map (rZ q loose)=some (true,pinGoodD (drecsOf q),plainGoodE q (looseW q loose),plainGoodD q loose,wideGood q,clsGoodW q loose)) :
  o.map (rY p q loose Xt Yf g0 w)=some (true,openGood q loose,Ya):=by
 cases o with
 |none=>cases h1
 |some S =>
  obtain⟨a1,a2⟩:=Prod.mk.inj (Option.some.inj h1);obtain⟨b1,b2⟩:=Prod.mk.inj (Option.some.inj h2);obtain⟨b2,b3⟩:=Prod.mk.inj b2;have c:=Option.some.inj h3;show some (_,(_,_,_,rZ q loose S),Yf S.abs)=_;rw[b1,a1,a2,b2,c,b3];rfl
def r9(w:World)(os:OsState):Option SharedT:=k7 treeTable PySem.Challenge.rw_uf010037_13.row.prog w (boot_heap w.params).objs.size ((boot_heap w.params).nsMap mainGlobals "__annotations__") 5086 (k9 w os) (topStub PySem.Challenge.rw_uf010037_13.row.prog)
set_option maxRecDepth 100000 in
set_option maxHeartbeats 8000000 in
theorem Rd:∀ (w:World) (os:OsState),(r9 w os).map (zV V13)=some (expectedOf V13,bltViewBooted):=λw os=>by kernel_rfl
set_option maxRecDepth 100000 in
set_option maxHeartbeats 8000000 in
theorem Re:∀ (w:World) (os:OsState),(r9 w os).map (zW PySem.Challenge.rw_uf010037_13.row.prog V13 [] (λs=>(xlAt V13 [] s&&recOk (RowW.records PySem.Challenge.rw_uf010037_13.row.toRowW) s)&&oE s.heap PySem.Challenge.rw_uf010037_13.row.prog.main.body) tkf true w)=some (true,true,true):=λw os=>by kernel_rfl
set_option maxRecDepth 100000 in
set_option maxHeartbeats 8000000 in
theorem Rf:∀ (w:World) (os:OsState),(r9 w os).map (rZ V13 [])=some (true,pinGoodD (drecsOf V13),plainGoodE V13 (looseW V13 []),plainGoodD V13 [],wideGood V13,clsGoodW V13 []):=λw os=>by kernel_rfl
theorem Rg:LeftO PySem.Challenge.rw_uf010037_13.row.prog V13 [] (λs=>(xlAt V13 [] s&&recOk (RowW.records PySem.Challenge.rw_uf010037_13.row.toRowW) s)&&oE s.heap PySem.Challenge.rw_uf010037_13.row.prog.main.body) tkf (λ_=>true) 5086 :=
 Q8 Rb Q9 Ra λw os=>Rc (Rd w os) (Re w os) (Rf w os)
end Mine.Internal
namespace Mine.Internal
open PySem
variable {a L I D TI TO i1 i2 l1 l2 ad:Addr}{av av' wr av0 avn S li:Addr->Prop}{A:Around}{ys:Array Value}{hd:Bool}{op:CmpOp}{C C':Ctx}{ev:EV}{env env':Env}{e t target elt iter:Expr}{rec:Expr->R V}{h h' B:Heap}{dep:Int}{kvs:List (Str×Value)}{fp:List Addr}{ops:List CmpOp}{l:List Env}{es as elts ifs:List Expr}{ds:List PyData}{body:List Stmt}{xs ss:List Str}{ts:List Tok}{us:List V}{bm vs bmB vals:List Value}{M:Model}{i n j kk nn F:Nat}{St St0:Nat->Heap->Prop}{o oe:Obj}{ini:Option (List Str)}{v0:Option V}{pos p' ap cp cpos xp:Pos}{c:Prop}{d od:PyData}{pt pb po r:R V}{sc scope sc':Scope}{s s' s'' ki:Shared}{x y f m:Str}{kindOf:Str->Option NameKind}{α β γ β':Type}{v u va vb vi fv it old a0 fl cls vd:Value}{E Q:Value->Shared->Prop}{σ σ':aA}
def Vw(e:Expr):EW->Prop
 | .name x=>∃ p,e=.Name x p
 | .tup es=>∃ k p,e=.Tuple es k p
 | .call f as kws q=>e=.Call f as kws q
 | .attr o m p=>e=.Attribute o m p
 | .sub o i=>∃ p,e=.Subscript o i p
 | .slice a b c=>∃ p,e=.Slice a b c p
 | .lst es=>∃ p,e=.List es p
 | .dct ks vs=>∃ p,e=.Dict ks vs p
 | .cst c=>∃ k p,e=.Constant c k p
 |_=>True
theorem Rh(e:Expr):Vw e (vw e):=by
 cases e<;>first | exact trivial | exact⟨_,rfl⟩ | exact⟨_,_,rfl⟩ | exact rfl
theorem cA{v:EW}(h:vw e=v):Vw e v:=h▸Rh e
def Sv(s:Stmt):SV->Prop
 | .ret o=>∃ p,s=.Return o p
 | .ex e=>∃ p,s=.Expr e p
 |_=>True
theorem Ri(s:Stmt):Sv s (sv s):=by
 cases s<;>first | exact trivial | exact⟨_,rfl⟩
theorem Rj{s:Stmt}{v:SV}(h:sv s=v):Sv s v:=h▸Ri s
theorem ob{o:Option α}{f:α->Option β}{b:β}(h:o.bind f=some b):∃ a,o=some a/\f a=some b:=by
 cases o with
 |none=>exact ns h
 |some a=>exact⟨a,rfl,h⟩
theorem oF{kws:List Keyword}{a b:α}(h:m9 kws a=some b):kws=[]/\a=b:=by
 cases kws with
 |nil=>obtain rfl:=si h;exact⟨rfl,rfl⟩
 |cons=>exact ns h
theorem dJ(h:bC e=some x):∃ p,e=.Name x p:=by
 unfold bC at h;generalize hv:vw e=v at h;cases v with
 |name y=>obtain rfl:=si h;exact cA hv
 |_=>exact ns h
theorem oG{c:Expr×List Expr×List Keyword×Pos}(h:gI e=some c):e=.Call c.1 c.2.1 c.2.2.1 c.2.2.2:=by
 unfold gI at h;generalize hv:vw e=v at h;cases v with
 |call f as kws q=>obtain rfl:=si h;exact cA hv
 |_=>exact ns h
theorem zX{c:Expr×Str×Pos}(h:kI e=some c):e=.Attribute c.1 c.2.1 c.2.2:=by
 unfold kI at h;generalize hv:vw e=v at h;cases v with
 |attr o m p=>obtain rfl:=si h;exact cA hv
 |_=>exact ns h
theorem Rk{c:Option Expr×Option Expr×Option Expr}(h:kQ e=some c):∃ p,e=.Slice c.1 c.2.1 c.2.2 p:=by
 unfold kQ at h;generalize hv:vw e=v at h;cases v with
 |slice=>obtain rfl:=si h;exact cA hv
 |_=>exact ns h
theorem zY{v:V}:hO v.cl=false:=by cases v<;>rfl
theorem zZ(h:bad e=false)(x:Value):foldedSetIterable e env x=pure x:=by
 cases e<;>first | rfl | exact btf h
theorem fJ(h:bad e=false):starEach (e::es) env=(false,eval e env)::starEach es env:=by
 cases e<;>first | rfl | exact btf h
theorem Rl{t:Sem Value}(h:bad e=false):markedBehindIn op e t=t:=by
 refine markedBehindIn_of_false ?_;cases e<;>first | rfl | exact btf h
theorem Rm{o i:Value}(h:bad e=false):subscripted e false o i=operate [o,i] (PySem.getItem o i):=by
 cases e<;>first | rfl | exact btf h
theorem fK{r:R α}(hb:bad e=true->r=.no)(h:r≠.no):bad e=false:=by
 cases e':bad e with
 |false=>rfl
 |true=>exact absurd (hb e') h
theorem sA{c:Str×List Expr}(h:iB e=some c):∃ p q,e=.Call (.Name c.1 p) c.2 [] q:=by
 obtain⟨c1,h1,h⟩:=ob h;obtain⟨x,h2,h⟩:=ob h;obtain⟨p,e2⟩:=dJ h2;exact⟨p,c1.2.2.2,by rw[oG h1,e2,(oF h).1,<- (oF h).2]⟩
theorem swz{t:Option Expr}{line:Nat}(hc:hY e=false):swapsWith e t line env=pure false:=by
 cases e<;>first | rfl | exact btf hc
theorem z0{P:Expr->Prop}(h:hY e=true)(l:∀ a b c d,P (.ListComp a b c d))(s:∀ a b c d,P (.SetComp a b c d))(g:∀ a b c d f,P (.DictComp a b c d f)):P e:=by
 cases e with
 |ListComp=>exact l ..
 |SetComp=>exact s ..
 |DictComp=>exact g ..
 |_=>exact bft h
def Kp(s s':Shared):Prop:=Keeps s s'
def sB(v:Value)(d:PyData):Prop:=(∃ i t,v=.int i t/\d=.int i)\/∃ x t,v=.str x t/\d=.str x/\x.length<=sizeLine
section
variable (O:Program)(w:World)(mg mb:Str->Option Value)(base:Heap)
noncomputable def sE:List (Str×Value):=[("isinstance", .builtin "isinstance"),("len", .builtin "len"),("all", .builtin "all"),("sorted", .builtin "sorted"),("abs", .builtin "abs"),("min", .builtin "min"),("repr", .builtin "repr"),("list", .type "list"),("tuple", .type "tuple"),("dict", .type "dict"),("set", .type "set"),("int", .type "int"),("str", .type "str"),("bool", .type "bool"),("range", .type "range"),("enumerate", .type "enumerate"),("reversed", .type "reversed"),("zip", .type "zip"),("ValueError", .type "ValueError")]
def jG(x:Str):Option Value:=sE.lookup x
inductive MadeAt(s:Shared)(C:Addr)(v:Value)(s':Shared):Prop where
 |mk (k:Kp s s') (e:Addr) (dx:Option Addr) (t:Addr) (ve:v=.ref e) (n:s.heap.get? e=none) (he:s'.heap.get? e=some { cls:=.ref C,dict:=dx,data:=.fields #[.ref t,.none,.none,.none,.bool false,.none] }):MadeAt s C v s'
inductive ClsObj(base:Heap)(C:Addr)(bm:List Value):Prop where
 |mk (nm q N bs hdct sn sub ab col dd k0 k1 k2 k3 k5 newId) (h:base.get? C=some (excClassObj nm q C N bs bm hdct sn sub ab col dd k0 k1 k2 k3 k5 newId)):ClsObj base C bm
theorem ClsObj.up{base:Heap}{C:Addr}(x:ClsObj base C bm)(k:∀ b o,base.get? b=some o->h.get? b=some o):ClsObj h C bm:=by
 obtain⟨nm,q,N,bs,hdct,sn,sub,ab,col,dd,k0,k1,k2,k3,k5,newId,e⟩:=x;exact⟨nm,q,N,bs,hdct,sn,sub,ab,col,dd,k0,k1,k2,k3,k5,newId,k _ _ e⟩
structure ClsOk(C:Addr)(bm:List Value)(ini:Option (List Str)):Prop where
 obj:ClsObj base C bm
 exc:bm.contains (.type "BaseException")=true
 val:bm.contains (.type "ValueError")=true
 make:ini=none->∀ (A:Around) (vals:List Value) (s:Shared) (E Q:Value->Shared->Prop),A.depth+1 < recursionLimit->(∀ b o,base.get? b=some o->s.heap.get? b=some o)->vals.length=1->(∀ v s',MadeAt s C v s'->Q v s')->wpAny (model O w) A (call (.ref C) vals) Q E s
 isi:∀ (A:Around) (s:Shared) (e:Addr) (o:Obj) (D:Addr) (bm':List Value) (b:Bool) (E Q:Value->Shared->Prop),(∀ b o,base.get? b=some o->s.heap.get? b=some o)->s.heap.get? e=some o->o.cls=.ref C->ClsObj s.heap D bm'->(Value.ref C::bm).contains (.ref D)=b->(∀ tk,Q (.bool b) { s with toks:=tk })->wpAny (model O w) A (call (.builtin "isinstance") [.ref e,.ref D]) Q E s
 isv:∀ (A:Around) (s:Shared) (e:Addr) (o:Obj) (E Q:Value->Shared->Prop),(∀ b o,base.get? b=some o->s.heap.get? b=some o)->s.heap.get? e=some o->o.cls=.ref C->(∀ tk,Q (.bool true) { s with toks:=tk })->wpAny (model O w) A (call (.builtin "isinstance") [.ref e,.type "ValueError"]) Q E s
structure Glo:Prop where
 g:base.Ns mainGlobals mg
 b:base.Ns builtinsNs mb
 nolimit:base.NoLimit
 mods:∃ mm,base.Ns sysModules mm
 fn:∀ f a b sc,dR f O.main.body=some (a,b,sc)->∃ ad o pm cd doc,mg f=some (.ref ad)/\base.get? ad=some o/\o.data=.func (Calls.docDef f a b sc pm cd doc)/\base.CodeRec cd f
 const:∀ x d,iC O.main.body x=some d->∃ v,mg x=some v/\sB v d
 blt:∀ x v,jG x=some v->mg x=none/\mb x=some v
 cls:∀ c p,bQ c O.main.body=some p->∃ C bm,mg c=some (.ref C)/\ClsOk O w base C bm p.2/\∀ d q D,bQ d O.main.body=some q->mg d=some (.ref D)->(Value.ref C::bm).contains (.ref D)=jC O.main.body 4 c d
end
structure GG where
 a:Program
 b:World
 c:Str->Option Value
 d:Str->Option Value
 e:Shared
open PySem.W PyProof.Rows in
def Law(g:GG):Prop:=∀ (fa l:Addr) (ns:List Int) (N:Nat) (Q E:Value->Shared->Prop),Glo g.a g.b g.c g.d g.e.heap->g.c (Str.ofString "law")=some (.ref fa) ->
 Well g.b.params g.e.heap (.ref l) (ofPy (.list (ns.map .int)))->ns.length<=63->0 < g.e.toks->(dR (Str.ofString "law") g.a.main.body).isSome=true->N<=400 ->
 run g.a.main.body N false (Str.ofString "law") [.fz (.list (ns.map .int))]=.ok (.fz (.bool true))->(∀ s',Kp g.e s'->Q (.bool true) s')->wpAny (model g.a g.b) callerA (call (.ref fa) [.ref l]) Q E g.e
noncomputable def gC:GG:=@Classical.epsilon GG ⟨⟨default,⟨λ_ _=>0,{ strHash:=λ_=>0,shareClass:=λ_=>0,mergeTok:=id,idOf:=λ_=>0,idOfShared:=λ_ _=>0,followText:=λ_=>false,idOfImm:=λ_=>0 }⟩,λ_=>none,λ_=>none,{}⟩⟩ λg=>¬ Law g
theorem Rn(h:Law gC)(g:GG):Law g:=Classical.byContradiction λn=>@Classical.epsilon_spec _ (λg=>¬ Law g) ⟨g,n⟩ h
def O:Program:=gC.a
def w:World:=gC.b
def mg:Str->Option Value:=gC.c
def mb:Str->Option Value:=gC.d
def base:Heap:=gC.e.heap
def PlT(h:Heap)(a:Addr)(vs:Array Value):Prop:=∃ n,h.get? a=some { cls:=.type "tuple", data:=.seq vs n }
theorem PlT.isTuple{vs:Array Value}(x:PlT h a vs):h.IsTuple a vs:=by obtain⟨n,e⟩:=x;exact⟨_,e,rfl,n,rfl⟩
theorem PlT.at{vs:Array Value}(x:PlT h a vs)(hk:∀ o,h.get? a=some o->h'.get? a=some o):PlT h' a vs:=by obtain⟨n,e⟩:=x;exact⟨n,hk _ e⟩
section
inductive Rep(h:Heap)(av:Addr->Prop):Value->PyData->Prop where
 |none:Rep h av .none .none
 |bool (b:Bool):Rep h av (.bool b) (.bool b)
 |int (i:Int) (t:Tok):Rep h av (.int i t) (.int i)
 |str (x:Str) (t:Tok):x.length<=sizeLine->Rep h av (.str x t) (.str x)
 |list {a:Addr} {vs:List Value} {ds:List PyData}:¬ av a->h.PlainList a vs.toArray->vs.length=ds.length->vs.length<=sizeLine ->
   (∀ (i:Nat) (v:Value) (d:PyData),vs[i]?=some v->ds[i]?=some d->Rep h av v d)->Rep h av (.ref a) (.list ds)
 |tuple {a:Addr} {vs:List Value} {ds:List PyData}:¬ av a->PlT h a vs.toArray->vs.length=ds.length->vs.length<=sizeLine ->
   (∀ (i:Nat) (v:Value) (d:PyData),vs[i]?=some v->ds[i]?=some d->Rep h av v d)->Rep h av (.ref a) (.tuple ds)
 |dict {a:Addr} {kvs:List (Str×Value)} {ds:List (PyData×PyData)}:¬ av a->h.DictOf (strKind O w) a kvs->(kvs.length<=sizeLine/\∀ kv∈kvs,kv.1.length<=sizeLine)->(a==sysModules)=false ->
   ds.map (·.1)=kvs.map (λkv=>PyData.str kv.1)->(∀ (i:Nat) (kv:Str×Value) (d:PyData×PyData),kvs[i]?=some kv->ds[i]?=some d->Rep h av kv.2 d.2) ->
   Rep h av (.ref a) (.dict ds)
theorem Rep.mono(hk:∀ b o,¬ av b->h.get? b=some o->h'.get? b=some o)(ha:∀ b o,h.get? b=some o->av' b->av b)(r:Rep h av v d):
  Rep h' av' v d:=by
 induction r with
 |none=>exact .none
 |bool b=>exact .bool b
 |int i t=>exact .int i t
 |str x t hx=>exact .str x t hx
 |list h1 h2 h3 h4 _ ih=>exact .list (λx=>h1 (by obtain⟨_,e⟩:=h2;exact ha _ _ e x)) (h2.at λo e=>hk _ o h1 e) h3 h4 ih
 |tuple h1 h2 h3 h4 _ ih=>exact .tuple (λx=>h1 (by obtain⟨_,e⟩:=h2;exact ha _ _ e x)) (h2.at λo e=>hk _ o h1 e) h3 h4 ih
 |dict h1 h2 h3 h4 h5 _ ih =>
  obtain⟨o,es,ep,e,r⟩:=h2;exact .dict (λx=>h1 (ha _ _ e x)) ⟨o,es,ep,hk _ o h1 e,r⟩ h3 h4 h5 ih
theorem Rep.keeps(hk:∀ b o,h.get? b=some o->h'.get? b=some o)(r:Rep h av v d):Rep h' av v d :=
 r.mono (λb o _ e=>hk b o e) λ_ _ _ x=>x
inductive BodyL(h:Heap)(av:Addr->Prop)(a:Addr)(ds:List PyData):Prop where
 |mk (vs:List Value) (p:h.PlainList a vs.toArray) (l:vs.length=ds.length) (z:vs.length<=sizeLine) (r:∀ (i:Nat) (v:Value) (d:PyData),vs[i]?=some v->ds[i]?=some d->Rep h av v d):BodyL h av a ds
inductive BodyD(h:Heap)(av:Addr->Prop)(a:Addr)(ds:List (PyData×PyData)):Prop where
 |mk (kvs:List (Str×Value)) (p:h.DictOf (strKind O w) a kvs) (z:kvs.length<=sizeLine/\∀ kv∈kvs,kv.1.length<=sizeLine) (m:(a==sysModules)=false) (l:ds.map (·.1)=kvs.map (λkv=>PyData.str kv.1))
  (r:∀ (i:Nat) (kv:Str×Value) (d:PyData×PyData),kvs[i]?=some kv->ds[i]?=some d->Rep h av kv.2 d.2):BodyD h av a ds
def bL(h:Heap)(av:Addr->Prop)(a:Addr):PyData->Prop
 | .list ds=>BodyL h av a ds
 | .dict ds=>BodyD h av a ds
 |_=>False
theorem bL.mono(hk:∀ b o,¬ av b->h.get? b=some o->h'.get? b=some o)(ha:∀ b o,h.get? b=some o->av' b->av b)(hs:∀ o,h.get? a=some o->h'.get? a=some o)
  {d:PyData} (r:bL h av a d):bL h' av' a d:=by
 cases d with
 |list ds=>obtain⟨vs,h1,h2,h3,h4⟩:=r;exact⟨vs,h1.at hs,h2,h3,λi v d e1 e2=>(h4 i v d e1 e2).mono hk ha⟩
 |dict ds =>
  obtain⟨kvs,⟨o,es,ep,e,r⟩,h2,h3,h4,h5⟩:=r;exact⟨kvs,⟨o,es,ep,hs _ e,r⟩,h2,h3,h4,λi v d e1 e2=>(h5 i v d e1 e2).mono hk ha⟩
 |_=>exact r.elim
theorem bL.rep(ha:¬ av a)(r:bL h av a d):Rep h av (.ref a) d:=by
 cases d with
 |list ds=>obtain⟨vs,h1,h2,h3,h4⟩:=r;exact .list ha h1 h2 h3 h4
 |dict ds=>obtain⟨kvs,h1,h2,h3,h4,h5⟩:=r;exact .dict ha h1 h2 h3 h4 h5
 |_=>exact r.elim
def Own(s:Shared)(h:Heap)(av:Addr->Prop)(v:Value)(d:PyData):Prop :=
 ∃ a,v=.ref a/\s.heap.get? a=none/\bL h (λb=>av b\/b=a) a d
def bD(s:Shared)(h:Heap)(av:Addr->Prop)(v:Value):V->Prop
 | .fz d=>Rep h av v d
 | .own d=>Own s h av v d
 | .ex _=>False
 | .pil _=>False
theorem Own.rep(hlt:∀ b,av b->∃ o,s.heap.get? b=some o)(r:Own s h av v d):Rep h av v d:=by
 obtain⟨a,rfl,ha,r⟩:=r;exact bL.rep (λx=>by obtain⟨o,e⟩:=hlt _ x;rw[ha] at e;exact ns e) (r.mono (λ_ _ x e=>e) (λ_ _ _ x=>.inl x) λ_ e=>e)
theorem bD.rep{u:V}(hlt:∀ b,av b->∃ o,s.heap.get? b=some o)(r:bD s h av v u):Rep h av v (dOf u):=by
 cases u with
 |fz d'=>exact r
 |own d'=>exact Own.rep hlt r
 |ex x=>exact r.elim
 |pil l=>exact r.elim
theorem Kp.rfl'(s:Shared):Kp s s:=⟨s.heap,s.toks,rfl,λ_ _ e=>e⟩
theorem Kp.tr(x:Kp s s')(y:Kp s' s''):Kp s s'':=by
 obtain⟨h,t,rfl,k⟩:=x;obtain⟨h',t',rfl,k'⟩:=y;exact⟨h',t',rfl,λb o e=>k' b o (k b o e)⟩
theorem Kp.heap(x:Kp s s'):∀ b o,s.heap.get? b=some o->s'.heap.get? b=some o:=by
 obtain⟨h,t,rfl,k⟩:=x;exact k
theorem Kp.tok'(s:Shared)(t:Nat):Kp s { s with toks:=t }:=⟨s.heap,t,rfl,λ_ _ e=>e⟩
theorem Kp.push'(s:Shared)(o:Obj):Kp s { s with heap:=s.heap.push o }:=⟨s.heap.push o,s.toks,rfl,λ_ _ e=>ai o e⟩
end
noncomputable abbrev WP(γ:Type):=(γ->Shared->Prop)->(Value->Shared->Prop)->Prop
def Yd{γ β:Type}(W:WP γ)(R:γ->Shared->β->Prop):P β->Prop
 | .no=>True
 | .ok b=>∀ Q E,(∀ v s',R v s' b->Q v s')->W Q E
theorem Yd.pureBind{W:WP γ}{R:γ->Shared->β'->Prop}{p:P β}{f:β->P β'}(k:∀ b,p=.ok b->Yd W R (f b)):Yd W R (p.bind f):=by
 cases p with
 |no=>exact trivial
 |ok b=>exact k b rfl
theorem Yd.optBind{W:WP γ}{R:γ->Shared->β'->Prop}{p:Option β}{f:β->P β'}(k:∀ b,p=some b->Yd W R (f b)):Yd W R ((ofO p).bind f):=by
 cases p with
 |none=>exact trivial
 |some b=>exact k b rfl
theorem Yd.ite{W:WP γ}{R:γ->Shared->β->Prop}[Decidable c]{p:P β}(k:c->Yd W R p):Yd W R (if c then p else .no):=by
 by_cases h:c
 ·rw[if_pos h];exact k h
 ·rw[if_neg h];exact trivial
theorem Yd.ite2{W:WP γ}{R:γ->Shared->β->Prop}[Decidable c]{p q:P β}(k:c->Yd W R p)(k':¬ c->Yd W R q):Yd W R (if c then p else q):=by
 by_cases h:c
 ·rw[if_pos h];exact k h
 ·rw[if_neg h];exact k' h
set_option tactic.hygienic true
theorem Runs.tk{Γ:PySem.Ctx}{p:Pos}{t:Sem PySem.Fin}{fs:List Frame}{e:End}(h:Runs M Γ p t fs s e s'):s.toks<=s'.toks:=by
 induction h with
 |fresh _ ih=>exact U (au _) ih
 |call _ _ a b=>exact U a b
 |resumeFresh _ _ _ _ a b=>exact U a b
 |resumeSuspended _ _ _ _ a b=>exact U a b
 |segRet _ _ a b=>exact U a b
 |segGen _ _ a b=>exact U a b
 |segSuspGen _ _ _ _ a b=>exact U a b
 |done=>exact ae _
 |raise=>exact ae _
 |yield=>exact ae _
 |_=>assumption
theorem Wakes.tk{Γ:PySem.Ctx}{p:Pos}{g:Nat}{r:Resume}{res:GenResult}(h:Wakes M Γ p g r s res s'):s.toks<=s'.toks:=by
 unfold Wakes at h
 repeat' split at h
 all_goals first
  |exact h.elim
  | (obtain⟨_,_,h1,_,_,h2⟩:=h;rw[h2];have:=Runs.tk h1;exact this)
  | (obtain⟨_,rfl⟩:=h;exact ae _)
theorem Ro(M:Model)(Γ:PySem.Ctx){Q:α->Pos->Shared->Prop}{E:Value->Pos->Shared->Prop}:∀ (t:Sem α) (p:Pos) (s:Shared) (m:Nat),m<=s.toks ->
  Sem.wp M Γ t (λa p' s'=>m<=s'.toks->Q a p' s') (λa p' s'=>m<=s'.toks->E a p' s') p s->Sem.wp M Γ t Q E p s:=by
 intro t
 induction t with
 |pure a=>exact λp s m hm h=>h hm
 |raise e=>exact λp s m hm h=>h hm
 |load a part k ih=>intro p s m hm h;obtain⟨o,h1,h2⟩:=h;exact⟨o,h1,ih o p s m hm h2⟩
 |update a part f k ih=>exact λp s m hm h=>⟨h.1,ih () p _ m hm h.2⟩
 |fresh k ih=>exact λp s m hm h=>ih _ p _ m (U hm (au _)) h
 |choose src n k ih=>exact λp s m hm h=>⟨h.1,ih _ p _ m hm h.2⟩
 |call c h g l k ih=>intro p s m hm x;obtain⟨r,s',h1,h2⟩:=x;exact⟨r,s',h1,ih r p s' m (U hm (Runs.tk h1)) h2⟩
 |genState g k ih=>intro p s m hm h;obtain⟨o,h1,h2⟩:=h;exact⟨o,h1,ih _ p s m hm h2⟩
 |resume g r l k ih=>intro p s m hm h;obtain⟨res,s',h1,h2⟩:=h;exact⟨res,s',h1,ih _ p s' m (U hm (Wakes.tk h1)) h2⟩
 |unsupported=>exact λp s m hm h=>h
 |finish=>exact λp s m hm h=>h
 |register=>exact λp s m hm h=>h
 | «yield»=>exact λp s m hm h=>h
 |fork=>exact λp s m hm h=>h
 |await=>exact λp s m hm h=>h
 |_=>rename_i ih;exact λp s m hm h=>ih _ _ _ m hm h
theorem dA{t:Sem α}{Q:α->Shared->Prop}(h:wpAny M A t (λa s'=>s.toks<=s'.toks->Q a s') (λa s'=>s.toks<=s'.toks->E a s') s):wpAny M A t Q E s :=
 λΓ p hΓ=>Ro M Γ t p s s.toks (ae _) (h Γ p hΓ)
set_option tactic.hygienic false
def frs(l:List Env)(b:Addr):Prop:=b∈l.filterMap (·.frame)
inductive K(l:List Env)(s s':Shared):Prop where
 |mk (h:Heap) (t:Nat) (e:s'={ s with heap:=h,toks:=t }) (k:∀ b o,¬ frs l b->s.heap.get? b=some o->h.get? b=some o) (u:∀ b o,s.heap.get? b=some o->∃ sl,h.get? b=some { o with slots:=sl }) (m:s.toks<=s'.toks):K l s s'
theorem K.of(x:Kp s s')(m:s.toks<=s'.toks):K l s s':=by
 obtain⟨h,t,rfl,k⟩:=x;exact⟨h,t,rfl,λb o _ e=>k b o e,λb o e=>⟨o.slots,k b o e⟩,m⟩
theorem K.rf(l:List Env)(s:Shared):K l s s:=K.of (Kp.rfl' s) (ae _)
theorem K.tr(x:K l s s')(y:K l s' s''):K l s s'':=by
 obtain⟨h,t,rfl,k,u,m⟩:=x;obtain⟨h',t',rfl,k',u',m'⟩:=y;exact⟨h',t',rfl,λb o n e=>k' b o n (k b o n e),λb o e=>by obtain⟨_,e1⟩:=u b o e;exact by obtain⟨sl,e2⟩:=u' b _ e1;exact⟨sl,e2⟩,U m m'⟩
theorem K.trp(x:K l s s')(y:Kp s' s'')(m:s'.toks<=s''.toks):K l s s'':=x.tr (K.of y m)
theorem K.tk(x:K l s s'):s.toks<=s'.toks:=by
 obtain⟨h,t,e,k,u,m⟩:=x;exact m
theorem K.at(x:K l s s'){b:Addr}(n:¬ frs l b)(e:s.heap.get? b=some o):s'.heap.get? b=some o:=by
 obtain⟨h,t,rfl,k,u⟩:=x;exact k b o n e
theorem K.up(x:K l s s'){b:Addr}(e:s.heap.get? b=some o):∃ sl,s'.heap.get? b=some { o with slots:=sl }:=by
 obtain⟨h,t,rfl,k,u⟩:=x;exact u b o e
theorem K.upTo(x:K l s s'):s.heap.UpToSlots s'.heap:=λ_ _ e _=>x.up e
theorem K.non(x:K l s s'){b:Addr}(e:s'.heap.get? b=none):s.heap.get? b=none:=by
 refine ocs (s.heap.get? b) (λh=>?_) λo h=>?_
 ·try rewrite[h]
  rfl
 ·obtain⟨sl,e'⟩:=x.up h;rw[e] at e';cases e'
def Fin{α β:Type}(r:R α)(k:α->R β)(fin:R β):Prop:=rb r k=fin/\fin≠.no
theorem sF(p:R α)(f:α->R β)(g:β->R γ):rb (rb p f) g=rb p λa=>rb (f a) g:=by cases p<;>rfl
theorem Fin.b{r:R α}{f:α->R γ}{k:γ->R β}{fin:R β}(h:Fin (rb r f) k fin):Fin r (λa=>rb (f a) k) fin:=⟨(sF r f k)▸h.1,h.2⟩
theorem Fin.unb{r:R α}{f:α->R γ}{k:γ->R β}{fin:R β}(h:Fin r (λa=>rb (f a) k) fin):Fin (rb r f) k fin:=⟨(sF r f k).symm▸h.1,h.2⟩
theorem Fin.no{k:α->R β}{fin:R β}(h:Fin (.no:R α) k fin):False:=h.2 h.1.symm
theorem Fin.ne{r:R α}{k:α->R β}{fin:R β}(h:Fin r k fin):r≠.no:=λe=>by subst e;exact h.no
theorem Fin.ok{a:α}{k:α->R β}{fin:R β}(h:Fin (.ok a) k fin):k a=fin:=h.1
theorem Fin.p{p:P α}{k:α->R β}{fin:R β}(h:Fin (ofP p) k fin):∃ a,p=.ok a/\k a=fin:=by
 cases p with
 |no=>exact h.no.elim
 |ok a=>exact⟨a,rfl,h.1⟩
theorem Fin.ite[Decidable c]{r:R α}{k:α->R β}{fin:R β}(h:Fin (if c then r else .no) k fin):c/\Fin r k fin:=by
 by_cases hc:c
 ·rw[if_pos hc] at h;exact⟨hc,h⟩
 ·rw[if_neg hc] at h;exact h.no.elim
def Tk{γ:Type}(s:Shared)(W:WP γ):Prop:=∀ Q E,W (λv s'=>s.toks<=s'.toks->Q v s') E->W Q E
theorem tk1{t:Sem γ}:Tk s λQ E=>wpAny M A t Q E s :=
 λ_ _ h=>dA (az h (λ_ _ x=>x) λ_ _ x _=>x)
theorem tk2{δ:Type}{t:Sem δ}{f:δ->Sem γ}:Tk s λQ E=>wpAny M A t (λx ke=>wpAny M A (f x) Q E ke) E s :=
 λ_ _ h=>dA (az h (λ_ _ x m=>dA (az x (λ_ _ y m'=>y (U m m')) λ_ _ y _=>y)) λ_ _ x _=>x)
theorem Yd.fin{W:WP γ}{C:γ->Shared->α->Prop}{p:P α}{k:α->R β}{fin:R β}{Q:γ->Shared->Prop}(hW:Tk s W)(h:Yd W C p)(hf:Fin (ofP p) k fin)(hq:∀ v s' a,C v s' a->s.toks<=s'.toks->k a=fin->Q v s'):W Q E:=by
 obtain⟨a,rfl,e⟩:=hf.p;exact hW Q E (h _ E λv s' c m=>hq v s' a c m e)
section
inductive ExAt(h:Heap)(av:Addr->Prop)(e:Addr)(x:X):Prop where
 |mk (na:¬ av e) (o:Obj) (vs:Array Value) (C:Addr) (he:h.get? e=some o) (hd:o.data=.fields vs) (hc:o.cls=.ref C) (hm:mg x.cls=some (.ref C)):ExAt h av e x
inductive PilAt(l:List Env)(h:Heap)(av:Addr->Prop)(v:Value)(ds:List PyData):Prop where
 |mk (a:Addr) (bs:List Addr) (e:v=.ref a) (na:¬ frs l a) (p:h.PlainList a (bs.map Value.ref).toArray) (hl:bs.length=ds.length) (z:bs.length<=sizeLine) (nd:bs.Nodup) (nab:a∉bs) (nf:∀ b∈bs,¬ frs l b)
  (r:∀ (i:Nat) (b:Addr) (d:PyData),bs[i]?=some b->ds[i]?=some d->bL h av b d):PilAt l h av v ds
def bS(l:List Env)(h:Heap)(av:Addr->Prop)(v:Value):V->Prop
 | .fz d=>Rep h av v d
 | .own d=>∃ a,v=.ref a/\¬ frs l a/\bL h av a d
 | .ex x=>∃ e,v=.ref e/\ExAt h av e x
 | .pil ds=>PilAt l h av v ds
structure Room(n:Nat)(hd:Bool)(l:List Env)(A:Around):Prop where
 depth:A.depth+n+1 < recursionLimit
 units:A.units+16*n+300 < cLine
 handled:hd=false->A.handled=none
 guards:A.guards=some []
 frames:A.frames=some l
def a9(env:Env)(h:Heap)(x:Str)(u:Value):Prop :=
 (env.kindOf x=some .local/\∃ m,h.Ns env.locals m/\m x=some u) \/
 ((env.kindOf x=some .cell\/env.kindOf x=some .free)/\∃ c,env.cells.lookup x=some c/\h.IsCell c (some u))
structure Gnd(l:List Env)(av:Addr->Prop)(s:Shared):Prop where
 glo:Glo O w mg mb base
 stay:∀ b o,base.get? b=some o->s.heap.get? b=some o
 ff:s.heap.FunFrames base l
 fav:∀ b,frs l b->av b
 avlt:∀ b,av b->∃ o,s.heap.get? b=some o
 avS:av sysModules
 pos:0 < s.toks
structure Inv0(l:List Env)(env:Env)(sc:Scope)(σ:aA)(av:Addr->Prop)(s:Shared):Prop where
 gnd:Gnd l av s
 top:∃ lw kg,l=lw::kg/\env.frame=lw.frame
 kind:env.scope.kind=.function
 eg:env.globals=mainGlobals
 eb:env.builtins=builtinsNs
 dbg:sc.names.lookup (Str.ofString "__debug__")=none
 cld:sc.names.lookup (Str.ofString "__classdict__")=none
 glob:∀ x,isG sc x=true->env.kindOf x=some .globalImplicit
 kinds:∀ x,nL (sc.names.lookup x)=true->nL (env.kindOf x)=true/\∃ c,env.cells.lookup x=some c
 get:∀ x v,isL sc x=true->aA.get σ x=some (some v)->∃ u,a9 env s.heap x u/\bS l s.heap av u v
inductive Tb(s:Shared)(h:Heap)(e:Addr)(fl:Value):Prop where
 |mk (oz vz z yz xz) (a:h.get? e=some oz) (b:oz.data=.fields vz) (c:vz[1]?=some (.ref z)) (d:s.heap.get? z=none) (f:z≠e) (g:h.get? z=some yz) (i:yz.data=.fields xz) (j:xz[3]?=some fl):Tb s h e fl
inductive Fly(l:List Env)(s:Shared)(av:Addr->Prop)(x:X)(v:Value)(s':Shared):Prop where
 |mk (k:K l s s') (e:Addr) (a:v=.ref e) (b:s.heap.get? e=none) (c:ExAt s'.heap av e x) (fl:Value) (d:Tb s s'.heap e fl):Fly l s av x v s'
def QH{β:Type}(l:List Env)(s:Shared)(av:Addr->Prop)(k:V->R β)(fin:R β)(Q:Value->Shared->Prop):Prop :=
 ∀ v s' u,K l s s'->bD s s'.heap av v u->k u=fin->Q v s'
def EH{β:Type}(l:List Env)(s:Shared)(av:Addr->Prop)(fin:R β)(E:Value->Shared->Prop):Prop :=
 ∀ x v s',fin=.exc x->Fly l s av x v s'->E v s'
def aH(n:Nat)(hd:Bool)(l:List Env)(sc:Scope)(σ:aA)(e:Expr)(r:R V):Prop :=
 ∀ (A:Around) (env:Env) (s:Shared) (av:Addr->Prop),Room n hd l A->Inv0 l env sc σ av s ->
  ∀ {β:Type} {k:V->R β} {fin:R β} {Q:Value->Shared->Prop} {E:Value->Shared->Prop},Fin r k fin->QH l s av k fin Q->EH l s av fin E->wpAny (model O w) A (eval e env) Q E s
theorem sB.rep(c:sB v d):Rep h av v d:=by
 rcases c with ⟨i,t,rfl,rfl⟩ | ⟨x,t,rfl,rfl,hx⟩
 ·exact .int i t
 ·exact .str x t hx
theorem Rep.k(fav:∀ b,frs l b->av b)(k:K l s s')(r:Rep s.heap av v d):Rep s'.heap av v d :=
 r.mono (λ_ _ n e=>k.at (λf=>n (fav _ f)) e) λ_ _ _ x=>x
theorem bL.k(fav:∀ b,frs l b->av b)(k:K l s s')(n:¬ frs l a)(r:bL s.heap av a d):bL s'.heap av a d :=
 r.mono (λ_ _ n e=>k.at (λf=>n (fav _ f)) e) (λ_ _ _ x=>x) λ_ e=>k.at n e
theorem ExAt.mono(hk:∀ b o,¬ av b->h.get? b=some o->h'.get? b=some o)(ha:∀ b o,h.get? b=some o->av' b->av b){e:Addr}{x:X}(r:ExAt h av e x):ExAt h' av' e x:=by
 obtain⟨h1,o,vs,C,h2,h3,h4,h5⟩:=r;exact⟨λx=>h1 (ha _ _ h2 x),o,vs,C,hk _ _ h1 h2,h3,h4,h5⟩
theorem bS.k(fav:∀ b,frs l b->av b)(k:K l s s'){u:V}(r:bS l s.heap av v u):bS l s'.heap av v u:=by
 cases u with
 |fz d=>exact Rep.k fav k r
 |own d=>obtain⟨a,e,n,r⟩:=r;exact⟨a,e,n,r.k fav k n⟩
 |ex x=>obtain⟨e,h,r⟩:=r;exact⟨e,h,r.mono (λ_ _ n e=>k.at (λf=>n (fav _ f)) e) λ_ _ _ x=>x⟩
 |pil ds=>obtain⟨a,bs,e,na,p,hl,z,nd,nab,nf,r⟩:=r;exact⟨a,bs,e,na,p.at λ_ e=>k.at na e,hl,z,nd,nab,nf,λi b d e1 e2=>(r i b d e1 e2).k fav k (nf b (cj e1))⟩
theorem a9.k(k:K l s s')(v:a9 env s.heap x u):a9 env s'.heap x u:=by
 rcases v with ⟨h1,m,hn,e⟩ | ⟨h1,c,e,o,hc⟩
 ·exact .inl ⟨h1,m,k.upTo.ns hn,e⟩
 ·exact .inr ⟨h1,c,e,by obtain⟨sl,e⟩:=k.up hc.1;exact⟨_,e,hc.2⟩⟩
theorem Gnd.k(I:Gnd l av s)(k:K l s s'):Gnd l av s' where
 glo:=I.glo
 stay:=λb o e=>k.at (λf=>by rw[(I.ff.mem f).1] at e;exact ns e) (I.stay b o e)
 ff:=I.ff.of_keeps λb o e _=>by obtain⟨_,e'⟩:=k.up e;exact⟨_,e',rfl⟩
 fav:=I.fav
 avlt:=λb hb=>by obtain⟨_,e⟩:=I.avlt b hb;exact by obtain⟨_,e'⟩:=k.up e;exact⟨_,e'⟩
 avS:=I.avS
 pos:=bw I.pos k.tk
theorem Inv0.k(I:Inv0 l env sc σ av s)(k:K l s s'):Inv0 l env sc σ av s' :=
 { I with gnd:=I.gnd.k k,get:=λx v hl e=>by obtain⟨u,h1,h2⟩:=I.get x v hl e;exact⟨u,h1.k k,h2.k I.gnd.fav k⟩ }
theorem bD.back{u:V}(k:K l s s')(r:bD s' h av v u):bD s h av v u:=by
 cases u with
 |fz d=>exact r
 |own d=>obtain⟨a,e,hn,r⟩:=r;exact⟨a,e,k.non hn,r⟩
 |ex x=>exact r
 |pil l=>exact r
theorem Kp.non(x:Kp s s'){b:Addr}(e:s'.heap.get? b=none):s.heap.get? b=none:=by
 refine ocs (s.heap.get? b) (λh=>?_) λo h=>?_
 ·try rewrite[h]
  rfl
 ·have:=x.heap b o h;rw[e] at this;cases this
theorem Own.backp(k:Kp s s')(r:Own s' h av v d):Own s h av v d :=
 by obtain⟨a,e,hn,r⟩:=r;exact⟨a,e,k.non hn,r⟩
theorem Fly.back{x:X}(k:K l s s')(f:Fly l s' av x v s''):Fly l s av x v s'':=by
 obtain⟨k',e,h1,h2,h3,fl,oe,vs,T,oT,ts,g1,g2,g3,g4,g5,g6,g7,g8⟩:=f;exact⟨k.tr k',e,h1,k.non h2,h3,fl,oe,vs,T,oT,ts,g1,g2,g3,k.non g4,g5,g6,g7,g8⟩
theorem EH.back{fin:R β}(h:EH l s av fin E)(k:K l s s'):EH l s' av fin E :=
 λx v s'' e f=>h x v s'' e (f.back k)
theorem QH.step{k:V->R β}{fin:R β}(h:QH l s av k fin Q)(kk:K l s s'){u:V}(r:Kp s' s''/\bD s' s''.heap av v u)(m:s'.toks<=s''.toks)(e:k u=fin):Q v s'' :=
 h v s'' u (kk.trp r.1 m) (r.2.back kk) e
theorem QH.back{k:V->R β}{fin:R β}(h:QH l s av k fin Q)(kk:K l s s'):QH l s' av k fin Q :=
 λv s'' u k' r e=>h v s'' u (kk.tr k') (r.back kk) e
theorem Room.h0(h:Room n false l A):A.handled=none:=h.handled rfl
theorem Room.units80(h:Room n hd l A):A.units+70 < cLine:=by have:=h.units;exact ax0 this
theorem sG(I:Inv0 l env sc σ av s)(h:isL sc x=true\/isG sc x=true):(x==("__debug__" : Str))=false:=by
 refine bcs (x==("__debug__" : Str)) (λhx=>?_) λhx=>?_
 ·try rewrite[hx]
  rfl
 ·have e:x=Str.ofString "__debug__" := eq_of_beq hx;subst e;rcases h with h | h
  ·simp only[isL,I.dbg] at h;exact bft h
  ·simp only[isG,I.dbg] at h;exact bft h
theorem Rp(I:Inv0 l env sc σ av s)(h:isL sc x=true):(x==("__classdict__" : Str))=false:=by
 refine bcs (x==("__classdict__" : Str)) (λhx=>?_) λhx=>?_
 ·try rewrite[hx]
  rfl
 ·have e:x=Str.ofString "__classdict__" := eq_of_beq hx;subst e;simp only[isL,I.cld] at h;exact bft h
theorem eR(I:Inv0 l env sc σ av s)(hl:isL sc x=true)
  (v:a9 env s.heap x u) (h:Q u s):wpAny (model O w) A (eval (.Name x pos) env) Q E s:=by
 refine wpAny_Name ?_ (sG I (.inl hl));rcases v with ⟨k,m,hn,e⟩ | ⟨k | k,c,e,hc⟩
 ·exact wpAny_loadName_local I.kind k hn e h
 ·exact wpAny_loadName_cell I.kind k e hc h
 ·exact wpAny_loadName_free I.kind k e hc h (Rp I hl)
theorem Gnd.g(G:Gnd l av s):s.heap.Ns mainGlobals mg:=G.glo.g.keeps G.stay
theorem lA(I:Inv0 l env sc σ av s)(hg:isG sc x=true)
  (v:mg x=some u) (h:Q u s):wpAny (model O w) A (eval (.Name x pos) env) Q E s :=
 Calls.Name_function_global I.kind (I.glob x hg) (Calls.loadGlobal_global (I.eg▸I.gnd.g) v h) (sG I (.inr hg))
theorem dK(I:Inv0 l env sc σ av s)(hg:isG sc x=true)
  (v:jG x=some u) (h:Q u s):wpAny (model O w) A (eval (.Name x pos) env) Q E s :=
 Calls.Name_function_global I.kind (I.glob x hg) (Calls.loadGlobal_builtin (I.eg▸I.gnd.g) (I.gnd.glo.blt x u v).1 (I.eb▸I.gnd.glo.b.keeps I.gnd.stay) (I.gnd.glo.blt x u v).2 h) (sG I (.inr hg))
theorem Rq(hc:C.const=iC O.main.body):aH n hd l sc σ (.Name x pos) (ofP (rK C sc σ x)):=by
 intro A env s av hA I β k fin Q E hf hq he;obtain⟨u,e1,e2⟩:=hf.p;unfold rK at e1
 split at e1
 ·rename_i hl;refine ocs (aA.get σ x) (λe=>?_) λo e=>?_
  ·rw[e] at e1;exact pno e1
  ·rw[e] at e1;cases o with
   |none=>exact pno e1
   |some v =>
    cases v with
    |fz d =>
     obtain rfl:=pi e1;obtain⟨u,h1,h2⟩:=I.get _ _ hl e;exact eR I hl h1 (hq _ _ (.fz d) (K.rf l s) h2 e2)
    |_=>exact pno e1
 ·split at e1
  ·rename_i hg;rw[hc] at e1;refine ocs (iC O.main.body x) (λe=>?_) λd e=>?_
   ·rw[e] at e1;exact pno e1
   ·rw[e] at e1;obtain rfl:=pi e1;obtain⟨v,h1,h2⟩:=I.gnd.glo.const _ _ e;exact lA I hg h1 (hq _ _ (.fz d) (K.rf l s) h2.rep e2)
  ·exact pno e1
theorem z6{c:Const}{k:Nat}:aH n hd l sc σ (.Constant c k pos) (ofP (rL c)):=by
 intro A env s av hA I β k fin Q E hf hq he;have key:Yd (λQ E=>wpAny (model O w) A (eval (.Constant c ‹_› pos) env) Q E s) (λv s' u=>Kp s s'/\bD s s'.heap av v u) (rL c):=by
  cases c with
  |none=>exact λQ E hq=>wpAny_Constant_none (hq _ _ ⟨Kp.rfl' s,.none⟩)
  |bool b=>exact λQ E hq=>wpAny_Constant_bool (hq _ _ ⟨Kp.rfl' s,.bool b⟩)
  |int i=>exact λQ E hq=>wpAny_Constant_int (hq _ _ ⟨Kp.tok' s _,.int i _⟩)
  |str x =>
   show Yd _ _ (mkS x);exact Yd.ite λhx=>λQ E hq=>wpAny_Constant_str (hq _ _ ⟨Kp.tok' s _,.str x _ hx⟩)
  |_=>exact trivial
 exact Yd.fin tk1 key hf λv s' u r m e=>hq.step (K.rf l s) r m e
end
section
theorem eS(x:Str)(t:Tok):(strKind O w).is x (.str x t)=true:=by
 show Value.isStrOf x (.str x t)=true;simp[Value.isStrOf]
theorem Rep.str_inv(r:Rep h av v (.str x)):∃ t,v=.str x t/\x.length<=sizeLine:=by
 cases r with
 |str _ t hx=>exact⟨t,rfl,hx⟩
theorem Rep.int_inv{i:Int}(r:Rep h av v (.int i)):∃ t,v=.int i t:=by
 cases r with
 |int _ t=>exact⟨t,rfl⟩
theorem Rep.bool_inv{b:Bool}(r:Rep h av v (.bool b)):v=.bool b:=by cases r;rfl
inductive ListI(h:Heap)(av:Addr->Prop)(v:Value)(ds:List PyData):Prop where
 |mk (a:Addr) (vs:List Value) (e:v=.ref a) (n:¬ av a) (p:h.PlainList a (List.toArray vs)) (l:vs.length=ds.length) (z:vs.length<=sizeLine) (r:∀ (i:Nat) (v:Value) (d:PyData),vs[i]?=some v->ds[i]?=some d->Rep h av v d):ListI h av v ds
inductive TupI(h:Heap)(av:Addr->Prop)(v:Value)(ds:List PyData):Prop where
 |mk (a:Addr) (vs:List Value) (e:v=.ref a) (n:¬ av a) (p:PlT h a (List.toArray vs)) (l:vs.length=ds.length) (z:vs.length<=sizeLine) (r:∀ (i:Nat) (v:Value) (d:PyData),vs[i]?=some v->ds[i]?=some d->Rep h av v d):TupI h av v ds
inductive DictI(h:Heap)(av:Addr->Prop)(v:Value)(ds:List (PyData×PyData)):Prop where
 |mk (a:Addr) (kvs:List (Str×Value)) (e:v=.ref a) (n:¬ av a) (p:h.DictOf (strKind O w) a kvs) (z:kvs.length<=sizeLine/\∀ kv∈kvs,kv.1.length<=sizeLine) (m:(a==sysModules)=false)
  (l:ds.map (·.1)=kvs.map (λkv=>PyData.str kv.1)) (r:∀ (i:Nat) (kv:Str×Value) (d:PyData×PyData),kvs[i]?=some kv->ds[i]?=some d->Rep h av kv.2 d.2):DictI h av v ds
theorem Rep.list_inv(r:Rep h av v (.list ds)):ListI h av v ds:=by
 cases r with
 |list h1 h2 h3 h4 h5=>exact⟨_,_,rfl,h1,h2,h3,h4,h5⟩
theorem Rep.tuple_inv(r:Rep h av v (.tuple ds)):TupI h av v ds:=by
 cases r with
 |tuple h1 h2 h3 h4 h5=>exact⟨_,_,rfl,h1,h2,h3,h4,h5⟩
theorem Rep.dict_inv{ds:List (PyData×PyData)}(r:Rep h av v (.dict ds)):DictI h av v ds:=by
 cases r with
 |dict h1 h2 h3 h4 h5 h6=>exact⟨_,_,rfl,h1,h2,h3,h4,h5,h6⟩
theorem oH:∀ {ds:List (PyData×PyData)} {kvs:List (Str×Value)} (x:Str),ds.map (·.1)=kvs.map (λkv=>PyData.str kv.1) ->
  (valueAt kvs x=none/\cH ds x=none)\/∃ (i:Nat) (v:Value) (d:PyData),valueAt kvs x=some v/\cH ds x=some d/\kvs[i]?=some (x,v)/\ds[i]?=some (.str x,d)
 := by
 intro ds
 induction ds with
 |nil =>
  intro kvs x h;cases kvs with
  |nil=>exact .inl ⟨rfl,rfl⟩
  |cons=>exact nomatch h
 |cons p ds ih =>
  obtain⟨k,d⟩:=p;intro kvs x h;cases kvs with
  |nil=>exact nomatch h
  |cons q kvs =>
   obtain⟨y,v⟩:=q;obtain⟨rfl,h2⟩:=List.cons.inj h
   by_cases hx:x=y
   ·subst hx;exact .inr ⟨0,v,d,by unfold valueAt;simp only[List.find?_cons,decide_eq_true rfl];rfl,if_pos rfl,rfl,rfl⟩
   ·have hv:valueAt ((y,v)::kvs) x=valueAt kvs x:=by unfold valueAt;simp only[List.find?_cons,decide_eq_false (λe=>hx e.symm:¬ (y,v).1=x)]
    rcases ih (kvs:=kvs) x h2 with ⟨a,b⟩ | ⟨i,v',d',a,b,c,e⟩
    ·exact .inl ⟨hv.trans a,(if_neg hx).trans b⟩
    ·exact .inr ⟨i+1,v',d',hv.trans a,(if_neg hx).trans b,c,e⟩
theorem fX:∀ {vs:List Value} {ds:List PyData} {ss:List Str},vs.length=ds.length->(∀ (i:Nat) (v:Value) (d:PyData),vs[i]?=some v->ds[i]?=some d->Rep h av v d) ->
  strs? ds=some ss->∃ ts:List Tok,ts.length=ss.length/\vs=List.zipWith (λx t=>Value.str x t) ss ts/\∀ x∈ss,x.length<=sizeLine
 := by
 intro vs
 induction vs with
 |nil =>
  intro ds ss hl hr hs;cases ds with
  |nil=>obtain rfl:=si hs;exact⟨[],rfl,rfl,λx hx=>aZ hx⟩
  |cons=>exact nomatch hl
 |cons v vs ih =>
  intro ds ss hl hr hs;cases ds with
  |nil=>exact nomatch hl
  |cons d ds =>
   have h0:=hr 0 v d rfl rfl;cases d with
   |str x =>
    refine hde λ_ θ=>?_;obtain⟨t,rfl,hx⟩:=h0.str_inv;obtain⟨ss',hs',rfl⟩:=bj.mp (show(strs? ds).map (x::·)=some ss from hs);obtain⟨ts,h1,h2,h3⟩:=ih (ds:=ds) (Nat.succ.inj hl) (λi v d e1 e2=>hr (i+1) v d e1 e2) hs';apply θ;exact⟨t::ts,congrArg Nat.succ h1,congrArg (Value.str x t::·) h2,de.mpr ⟨hx,h3⟩⟩
   |_=>exact ns hs
noncomputable def eT(x:Str):Value->Bool
 | .str y _=>y==x
 |_=>false
theorem z7(x:Str):∀ (ss:List Str) (ts:List Tok),ts.length=ss.length->(List.zipWith (λx t=>Value.str x t) ss ts).any (eT x)=ss.contains x
 | [],[],_=>rfl
 | [],_::_,h=>by simp at h
 |_::_,[],h=>by simp at h
 |s::ss,t::ts,h=>by
  have ih:=z7 x ss ts (by simpa using h);simp only[List.zipWith_cons_cons,List.any_cons,ih,List.contains_cons,eT];simp only[Bool.beq_comm]
theorem sH(x:Str)(t:Tok):∀ (ss:List Str) (ts:List Tok) (y:Value),y∈List.zipWith (λx t=>Value.str x t) ss ts->SeqAt.EqAt A s y (.str x t) (eT x y)
 | [],_,y,h=>by simp at h
 |_::_,[],y,h=>by simp at h
 |s'::ss,t'::ts,y,h=>by
  rcases List.mem_cons.mp h with h | h
  ·subst h;exact SeqAt.EqAt.str_str _ _ _ _
  ·exact sH x t ss ts y h
def CS(A:Around)(s:Shared)(op:CmpOp)(va vb:Value)(p:P Bool):Prop :=
 Yd (λQ E=>wpAny (model O w) A (compareOp op va vb) Q E s) (λv s' r=>Kp s s'/\v=.bool r) p
theorem CS.ok{b:Bool}(s':Shared)(k:Kp s s')(h:∀ (Q:Value->Shared->Prop) E,Q (.bool b) s'->wpAny (model O w) A (compareOp op va vb) Q E s):CS A s op va vb (.ok b) :=
 λQ E hq=>h Q E (hq _ _ ⟨k,rfl⟩)
theorem oJ{l:List PyData}{t:Tok}{g:P Bool->P Bool}(h3:vs.length=l.length)(h5:∀ (i:Nat) (v:Value) (d:PyData),vs[i]?=some v->l[i]?=some d->Rep s.heap av v d)
  (hg:g .no=.no) (h:∀ b,(∀ y∈vs.toArray,SeqAt.EqAt A.in1 s y (.str x t) (eT x y))->vs.toArray.any (eT x)=b->CS A s op (.str x t) vb (g (.ok b))):CS A s op (.str x t) vb (g (mX x l)):=by
 unfold mX;cases hs:strs? l with
 |none =>
  have:g ((ofO (none:Option (List Str))).bind λss=>.ok (ss.contains x))=.no:=hg;simp only[this];exact trivial
 |some ss =>
  obtain⟨ts,e1,e2,e3⟩:=fX h3 h5 hs;subst e2;exact h _ (λy hy=>sH x t ss ts y (by simpa using hy)) (by simpa using z7 x ss ts e1)
theorem Rr(A:Around):A.in1.units=A.units+1:=rfl
theorem Rs(hu:A.units < cLine)(h0:Rep s.heap av v d)(h1:eO d=true):SeqAt.EqAt A s v .none (v==Value.none)/\(v==Value.none)=bF d:=by
 cases d with
 |none=>cases h0;exact⟨SeqAt.EqAt.same _,rfl⟩
 |tuple l=>obtain⟨a,vs,rfl,_,p,_⟩:=h0.tuple_inv;exact⟨SeqAt.EqAt.tuple_none p.isTuple hu,rfl⟩
 |_=>exact bft h1
theorem Rt(hu:A.units < cLine):∀ {vs:List Value} {ds:List PyData},vs.length=ds.length->(∀ (i:Nat) (v:Value) (d:PyData),vs[i]?=some v->ds[i]?=some d->Rep s.heap av v d)->ds.all eO=true ->
  (∀ y∈vs,SeqAt.EqAt A s y .none (y==Value.none))/\vs.any (λy=>y==Value.none)=ds.any bF:=by
 intro vs
 induction vs with
 |nil =>
  intro ds hl _ _;cases ds with
  |nil=>exact⟨λy h=>aZ h,rfl⟩
  |cons=>exact nomatch hl
 |cons v vs ih =>
  intro ds hl hr ha;cases ds with
  |nil=>exact nomatch hl
  |cons d ds =>
   obtain⟨h1,h2⟩:=ax.mp (show(eO d&&ds.all eO)=true from ha);obtain⟨i1,i2⟩:=ih (ds:=ds) (Nat.succ.inj hl) (λi v d e1 e2=>hr (i+1) v d e1 e2) h2;have h0:=hr 0 v d rfl rfl;have key:=Rs hu h0 h1;refine⟨λy hy=>?_,?_⟩
   ·rcases List.mem_cons.mp hy with rfl | hy
    ·exact key.1
    ·exact i1 y hy
   ·show((v==Value.none)||vs.any _)=(bF d||ds.any bF);rw[key.2,i2]
theorem z8{a b:PyData}(hu:A.units+70 < cLine)(ra:Rep s.heap av va a)(rb:Rep s.heap av vb b):
  CS A s .In va vb (contains a b)/\CS A s .NotIn va vb (cI (contains a b)):=by
 cases a with
 |str x =>
  obtain⟨t,rfl,hx⟩:=ra.str_inv;cases b with
  |str y =>
   obtain⟨u,rfl,hy⟩:=rb.str_inv;exact⟨CS.ok s (Kp.rfl' s) λQ E h=>SB.contains h,CS.ok s (Kp.rfl' s) λQ E h=>SB.notContains h⟩
  |dict l =>
   obtain⟨a,kvs,rfl,h1,h2,h3,h4,h5,h6⟩:=rb.dict_inv;have hsome:(valueAt kvs x).isSome=(cH l x).isSome:=by
    rcases oH x h5 with ⟨e1,e2⟩ | ⟨i,v,d,e1,e2,_⟩<;>rw[e1,e2]<;>rfl
   exact⟨CS.ok _ (Kp.tok' s _) λQ E h=>wpAny_in_of (eS x t) h4 h2.mapOf (by rw[hsome];exact h),CS.ok _ (Kp.tok' s _) λQ E h=>wpAny_notIn_of (eS x t) h4 h2.mapOf (by rw[hsome];exact h)⟩
  |list l =>
   obtain⟨a,vs,rfl,h1,h2,h3,h4,h5⟩:=rb.list_inv;exact⟨oJ (g:=id) h3 h5 rfl λb he hb=>CS.ok s (Kp.rfl' s) λQ E h=>SeqAt.in_listAt (eT x) h2.isList he (by rw[hb];exact h),
    oJ (g:=cI) h3 h5 rfl λb he hb=>CS.ok s (Kp.rfl' s) λQ E h=>SeqAt.notIn_listAt (eT x) h2.isList he (by rw[hb];exact h)⟩
  |tuple l =>
   obtain⟨a,vs,rfl,h1,h2,h3,h4,h5⟩:=rb.tuple_inv;exact⟨oJ (g:=id) h3 h5 rfl λb he hb=>CS.ok s (Kp.rfl' s) λQ E h=>SeqAt.in_tupleAt (eT x) h2.isTuple he (by rw[hb];exact h),
    oJ (g:=cI) h3 h5 rfl λb he hb=>CS.ok s (Kp.rfl' s) λQ E h=>SeqAt.notIn_tupleAt (eT x) h2.isTuple he (by rw[hb];exact h)⟩
  |_=>exact⟨trivial,trivial⟩
 |none =>
  cases ra;cases b with
  |list l =>
   obtain⟨a,vs,rfl,h1,h2,h3,h4,h5⟩:=rb.list_inv;show CS A s .In .none (.ref a) (if l.all eO=true then .ok (l.any bF) else .no)/\CS A s .NotIn .none (.ref a) (cI (if l.all eO=true then .ok (l.any bF) else .no))
   by_cases hc:l.all eO=true
   ·rw[if_pos hc];obtain⟨q1,q2⟩:=Rt (A:=A.in1) (s:=s) (by rw[Rr];exact Qi hu) h3 h5 hc;have q3:∀ y∈vs.toArray,SeqAt.EqAt A.in1 s y .none (y==Value.none):=λy hy=>q1 y (by simpa using hy);have q4:vs.toArray.any (λy=>y==Value.none)=l.any bF:=by simpa using q2
    exact⟨CS.ok s (Kp.rfl' s) λQ E h=>SeqAt.in_listAt (λy=>y==Value.none) h2.isList q3 (by rw[q4];exact h),CS.ok s (Kp.rfl' s) λQ E h=>SeqAt.notIn_listAt (λy=>y==Value.none) h2.isList q3 (by rw[q4];exact h)⟩
   ·rw[if_neg hc];exact⟨trivial,trivial⟩
  |_=>exact⟨trivial,trivial⟩
 |_=>exact⟨trivial,trivial⟩
theorem z9{a b:PyData}(ra:Rep s.heap av va a)(rb:Rep s.heap av vb b):
  CS A s .Is va vb (mY a b)/\CS A s .IsNot va vb (cI (mY a b)):=by
 cases b with
 |none =>
  cases rb;have hv:(va==Value.none)=bF a:=by cases ra<;>rfl
  exact⟨CS.ok s (Kp.rfl' s) λQ E h=>is_none (by rw[hv];exact h),CS.ok s (Kp.rfl' s) λQ E h=>isNot_none (by rw[hv];exact h)⟩
 |_=>exact⟨trivial,trivial⟩
theorem Ru{a b:List Str}(h:a.length=b.length):(List.range a.length).all (λj=>a[j]?==b[j]?)=(a==b):=by
 rw[eq,bb,beq_iff_eq];constructor
 ·intro hh;refine List.ext_getElem? λi=>?_
  by_cases hi:i < a.length
  ·exact eq_of_beq (hh i (List.mem_range.mpr hi))
  ·rw[List.getElem?_eq_none (Nat.not_lt.mp hi),List.getElem?_eq_none (h▸Nat.not_lt.mp hi)]
 ·intro hh i _;rw[hh];exact beq_self_eq_true _
theorem Aa{vs':List Value}{x y:List PyData}{p:Bool}(hl:x.length=y.length)(h3:vs.length=x.length)(h5:∀ (i:Nat) (v:Value) (d:PyData),vs[i]?=some v->x[i]?=some d->Rep h av v d)(k3:vs'.length=y.length)
  (k5:∀ (i:Nat) (v:Value) (d:PyData),vs'[i]?=some v->y[i]?=some d->Rep h av v d) (he:fC x y=.ok p):∃ e:Nat->Bool,(List.range vs.length).all e=p/\∀ j (h1:j < vs.toArray.size) (h2:j < vs'.toArray.size),SeqAt.EqAt A s vs.toArray[j] vs'.toArray[j] (e j):=by
 unfold fC at he;refine ocs (strs? x) (λhx=>?_) λa hx=>?_
 ·simp only[hx] at he;exact pno he
 ·refine ocs (strs? y) (λhy=>?_) λb hy=>?_
  ·simp only[hx,hy] at he;exact pno he
  ·simp only[hx,hy] at he;obtain rfl:=pi he;obtain⟨ta,q1,rfl,_⟩:=fX h3 h5 hx;obtain⟨tb,q2,rfl,_⟩:=fX k3 k5 hy;have la:(List.zipWith (λx t=>Value.str x t) a ta).length=a.length:=by simp[q1]
   have lb:(List.zipWith (λx t=>Value.str x t) b tb).length=b.length:=by simp[q2]
   refine⟨λj=>a[j]?==b[j]?,?_,λj h1 h2=>?_⟩
   ·simp only[la];exact Ru (by simp only[<- la,<- lb,h3,k3,hl])
   ·have ja:j < a.length:=by simpa[q1] using h1
    have jb:j < b.length:=by simpa[q2] using h2
    have e1:=bg ja;have e2:=bg jb;simp only[e1,e2,List.getElem_toArray,List.getElem_zipWith];exact SeqAt.EqAt.str_str _ _ _ _
theorem Ab{a b:PyData}(hu:A.units+70 < cLine)(ra:Rep s.heap av va a)(rb:Rep s.heap av vb b):
  CS A s .Eq va vb (eqO a b)/\CS A s .NotEq va vb (cI (eqO a b)):=by
 have hu0:A.units < cLine:=ax2 hu;cases a with
 |int x =>
  obtain⟨t,rfl⟩:=ra.int_inv;cases b with
  |int y =>
   obtain⟨u,rfl⟩:=rb.int_inv;exact⟨CS.ok s (Kp.rfl' s) λQ E h=>SeqAt.RcAt.int_int x t y u O w E Q h,CS.ok s (Kp.rfl' s) λQ E h=>SeqAt.RcNeAt.int_int x t y u O w E Q h⟩
  |_=>exact⟨trivial,trivial⟩
 |str x =>
  obtain⟨t,rfl,_⟩:=ra.str_inv;cases b with
  |str y =>
   obtain⟨u,rfl,_⟩:=rb.str_inv;exact⟨CS.ok s (Kp.rfl' s) λQ E h=>SeqAt.RcAt.str_str x t y u O w E Q h,CS.ok s (Kp.rfl' s) λQ E h=>SeqAt.RcNeAt.str_str x t y u O w E Q h⟩
  |_=>exact⟨trivial,trivial⟩
 |bool x =>
  obtain rfl:=ra.bool_inv;cases b with
  |bool y =>
   obtain rfl:=rb.bool_inv;exact⟨CS.ok s (Kp.rfl' s) λQ E h=>SeqAt.RcAt.bool_bool x y O w E Q h,CS.ok s (Kp.rfl' s) λQ E h=>SeqAt.RcNeAt.bool_bool x y O w E Q h⟩
  |_=>exact⟨trivial,trivial⟩
 |list x =>
  obtain⟨a,vs,rfl,h1,h2,h3,h4,h5⟩:=ra.list_inv;cases b with
  |list y =>
   obtain⟨a',vs',rfl,k1,k2,k3,k4,k5⟩:=rb.list_inv
   by_cases hl:x.length=y.length
   ·have e0:eqO (.list x) (.list y)=fC x y:=if_pos hl;rw[e0];refine pcs (fC x y) (λhe=>?_) λp he=>?_
    ·try rewrite[he]
     exact⟨trivial,trivial⟩
    ·try rewrite[he]
     obtain⟨e,q1,q2⟩:=Aa (A:=A.in1) (s:=s) hl h3 h5 k3 k5 he;have hsz:vs.toArray.size=vs'.toArray.size:=by simp[h3,k3,hl]
     subst q1;exact⟨CS.ok s (Kp.rfl' s) λQ E h=>SeqAt.RcAt.lists h2.isList k2.isList hsz hu0 q2 O w E Q (by simpa using h),
      CS.ok s (Kp.rfl' s) λQ E h=>SeqAt.RcNeAt.lists h2.isList k2.isList hsz hu0 q2 O w E Q (by simpa using h)⟩
   ·have e0:eqO (.list x) (.list y)=.ok false:=if_neg hl;rw[e0];have hsz:(vs.toArray.size != vs'.toArray.size)=true:=by simp[h3,k3,hl]
    exact⟨CS.ok s (Kp.rfl' s) λQ E h=>SeqAt.RcAt.lists_lengths h2.isList k2.isList hsz hu0 O w E Q h,
     CS.ok s (Kp.rfl' s) λQ E h=>SeqAt.RcNeAt.lists_lengths h2.isList k2.isList hsz hu0 O w E Q h⟩
  |str y =>
   obtain⟨u,rfl,_⟩:=rb.str_inv;exact⟨CS.ok s (Kp.rfl' s) λQ E h=>SeqAt.RcAt.list_str y u h2.isList hu0 O w E Q h,CS.ok s (Kp.rfl' s) λQ E h=>SeqAt.RcNeAt.list_str y u h2.isList hu0 O w E Q h⟩
  |_=>exact⟨trivial,trivial⟩
 |tuple x =>
  obtain⟨a,vs,rfl,h1,h2,h3,h4,h5⟩:=ra.tuple_inv;cases b with
  |tuple y =>
   obtain⟨a',vs',rfl,k1,k2,k3,k4,k5⟩:=rb.tuple_inv;cases y with
   |nil =>
    have e0:eqO (.tuple x) (.tuple [])=.ok x.isEmpty:=rfl;rw[e0];obtain rfl:vs'=[]:=co.mp k3;have q3:∀ j (h1:j < vs.toArray.size) (h2:j < (#[]:Array Value).size),SeqAt.EqAt A.in1 s vs.toArray[j] (#[]:Array Value)[j] true:=λj _ h2=>absurd h2 (Nat.not_lt_zero _);have hb:((List.range (min vs.toArray.size (#[]:Array Value).size)).all (λ_=>true)&&vs.toArray.size==(#[]:Array Value).size)=x.isEmpty:=by
     cases x with
     |nil=>obtain rfl:vs=[]:=co.mp h3;rfl
     |cons d x =>
      cases vs with
      |nil=>cases h3
      |cons v vs=>simp
    exact⟨CS.ok s (Kp.rfl' s) λQ E h=>SeqAt.RcAt.tuples (e:=λ_=>true) h2.isTuple k2.isTuple hu0 q3 O w E Q (hb▸h),CS.ok s (Kp.rfl' s) λQ E h=>SeqAt.RcNeAt.tuples (e:=λ_=>true) h2.isTuple k2.isTuple hu0 q3 O w E Q (hb▸h)⟩
   |cons y0 y =>
   by_cases hl:x.length=(y0::y).length
   ·have e0:eqO (.tuple x) (.tuple (y0::y))=fC x (y0::y):=by
     show(if x.length=(y0::y).length then fC x (y0::y) else .no)=_;rw[if_pos hl]
    rw[e0];refine pcs (fC x (y0::y)) (λhe=>?_) λp he=>?_
    ·rw[he];exact⟨trivial,trivial⟩
    ·rw[he];obtain⟨e,q1,q3⟩:=Aa (A:=A.in1) (s:=s) hl h3 h5 k3 k5 he;have hsz:vs'.length=x.length:=by rw[k3,hl]
     subst q1;exact⟨CS.ok s (Kp.rfl' s) λQ E h=>SeqAt.RcAt.tuples h2.isTuple k2.isTuple hu0 q3 O w E Q (by simpa[hsz,h3] using h),
      CS.ok s (Kp.rfl' s) λQ E h=>SeqAt.RcNeAt.tuples h2.isTuple k2.isTuple hu0 q3 O w E Q (by simpa[hsz,h3] using h)⟩
   ·have e0:eqO (.tuple x) (.tuple (y0::y))=.no:=by
     show(if x.length=(y0::y).length then fC x (y0::y) else .no)=_;rw[if_neg hl]
    rw[e0];exact⟨trivial,trivial⟩
  |_=>exact⟨trivial,trivial⟩
 |_=>exact⟨trivial,trivial⟩
theorem oK{a b:PyData}{f:Int->Int->Bool}(ra:Rep s.heap av va a)(rb:Rep s.heap av vb b)
  (h:∀ x t y u (Q:Value->Shared->Prop) E,Q (.bool (f x y)) s->wpAny (model O w) A (compareOp op (.int x t) (.int y u)) Q E s):CS A s op va vb (kE f a b):=by
 cases a with
 |int x =>
  obtain⟨t,rfl⟩:=ra.int_inv;cases b with
  |int y =>
   obtain⟨u,rfl⟩:=rb.int_inv;exact CS.ok s (Kp.rfl' s) λQ E hq=>h x t y u Q E hq
  |_=>exact trivial
 |_=>exact trivial
theorem Rv{a b:PyData}(hu:A.units+70 < cLine)(ra:Rep s.heap av va a)(rb:Rep s.heap av vb b):CS A s op va vb (cmp op a b):=by
 cases op with
 |Eq=>exact(Ab hu ra rb).1
 |NotEq=>exact(Ab hu ra rb).2
 |In=>exact(z8 hu ra rb).1
 |NotIn=>exact(z8 hu ra rb).2
 |Is=>exact(z9 ra rb).1
 |IsNot=>exact(z9 ra rb).2
 |Lt=>exact oK ra rb λx t y u Q E h=>PyProof.Rows.lt_int h
 |LtE=>exact oK ra rb λx t y u Q E h=>P.le_int h
 |Gt=>exact oK ra rb λx t y u Q E h=>PyProof.Rows.gt_int h
 |GtE=>exact oK ra rb λx t y u Q E h=>P.ge_int h
end
section
theorem bP(h:Heap):h.get? h.objs.size=none:=by
 refine ocs (h.get? h.objs.size) (λe=>?_) λo e=>?_
 ·try rewrite[e]
  rfl
 ·exact absurd (bx e) (iu _)
theorem Rep.apart(hn:h.get? a=Option.none)(r:Rep h av v d):Rep h (λb=>av b\/b=a) v d :=
 r.mono (λ_ _ _ e=>e) λb o e x=>x.elim id λx=>by subst x;rw[hn] at e;exact ns e
theorem cE(h:Heap)(o:Obj)(ho:o.isFreed=false):(h.push o).get? h.objs.size=some o:=ck h ho
theorem sI{xs ys:List Value}{as bs:List PyData}(hx:xs.length=as.length)(_hy:ys.length=bs.length)
  (rx:∀ (i:Nat) (v:Value) (d:PyData),xs[i]?=some v->as[i]?=some d->Rep h av v d) (ry:∀ (i:Nat) (v:Value) (d:PyData),ys[i]?=some v->bs[i]?=some d->Rep h av v d) :
  ∀ (i:Nat) (v:Value) (d:PyData),(xs++ys)[i]?=some v->(as++bs)[i]?=some d->Rep h av v d:=by
 intro i v d e1 e2
 by_cases hi:i < xs.length
 ·rw[er hi] at e1;rw[er (hx▸hi)] at e2;exact rx i v d e1 e2
 ·rw[fq (ax4 hi)] at e1;rw[fq (ax5 hx hi),<- hx] at e2;exact ry _ v d e1 e2
theorem oM{ke:Shared}(k:Kp s ke)(hl:vs.length=ds.length)(hz:vs.length<=sizeLine)
  (hr:∀ (i:Nat) (v:Value) (d:PyData),vs[i]?=some v->ds[i]?=some d->Rep ke.heap av v d) :
  Kp s { ke with heap:=ke.heap.push { cls:=.type "list", data:=.seq vs.toArray } } /\
   bD s (ke.heap.push { cls:=.type "list", data:=.seq vs.toArray }) av (.ref ke.heap.objs.size) (.own (.list ds)):=by
 refine⟨k.tr (Kp.push' _ _),Own.backp k ⟨_,rfl,bP _,vs,⟨0,cE _ _ rfl⟩,hl,hz,λi v d e1 e2=>?_⟩⟩;exact(((hr i v d e1 e2).apart (bP _)).keeps λb o e=>ai _ e)
theorem lB{ke:Shared}(k:Kp s ke)(ha:∀ b,av b->∃ o,ke.heap.get? b=some o)(hl:vs.length=ds.length)(hz:vs.length<=sizeLine)
  (hr:∀ (i:Nat) (v:Value) (d:PyData),vs[i]?=some v->ds[i]?=some d->Rep ke.heap av v d) :
  Kp s { ke with heap:=ke.heap.push { cls:=.type "tuple", data:=.seq vs.toArray } } /\
   bD s (ke.heap.push { cls:=.type "tuple", data:=.seq vs.toArray }) av (.ref ke.heap.objs.size) (.fz (.tuple ds)):=by
 refine⟨k.tr (Kp.push' _ _),Rep.tuple (λx=>?_) ⟨0,cE _ _ rfl⟩ hl hz λi v d e1 e2=>(hr i v d e1 e2).keeps λb o e=>ai _ e⟩;obtain⟨o,e⟩:=ha _ x;rw[bP] at e;exact ns e
theorem Rw{x y:Int}(hy:y.natAbs < 2 ^ 63):Builtin.divisionGoesByPylong x y=false:=by
 unfold Builtin.divisionGoesByPylong;have:(if (y==0)=true then 0 else y.natAbs.log2 / 30+1)<=300:=by
  split
  ·exact ax6
  ·rename_i h0;have hn:y.natAbs≠0:=by simpa using h0
   have:y.natAbs.log2 < 63:=(Nat.log2_lt hn).mpr hy;exact ax7 this
 simp only[Bool.and_eq_false_iff,decide_eq_false_iff_not];left;exact ax8 this
theorem Ac{x:Int}(h:x.natAbs < 2 ^ 63):Builtin.Int.intBits x<=64:=by
 have h2:(x.natAbs:Int) < 2 ^ 64:=fe (ci.mpr h) (by decide);exact intBits_le_64 (Int.neg_lt_of_neg_lt (fx (Int.natAbs_neg x▸Int.le_natAbs (a:=-x)) h2)) (fx Int.le_natAbs h2)
theorem Rx{n:Int}(hn:n<=1024)(hx:x.length<=1024):(kD x n).length<=sizeLine:=by
 unfold kD
 split
 ·exact am _
 ·split
  ·rw[sizeLine_eq];exact ax9 hx
  ·have hf:∀ (k:Nat) (acc:Array Nat),((List.replicate k x.cps).foldl (·++·) acc).size=acc.size+k*x.cps.size:=by
    intro k
    induction k with
    |zero=>intro acc;simp
    |succ k ih=>intro acc;rw[List.replicate_succ,List.foldl_cons,ih,Array.size_append,Nat.succ_mul];exact Gz
   show((List.replicate n.toNat x.cps).foldl (·++·) #[]).size<=sizeLine;rw[hf];have h1:n.toNat<=1024:=G0 hn;have h2:x.cps.size<=1024:=hx;have h3:n.toNat*x.cps.size<=1024*1024:=Nat.mul_le_mul h1 h2;rw[sizeLine_eq];simp;exact G1 h3
theorem sJ{op:Operator}(h:fB op=true):op=.Add:=by
 cases op<;>first | rfl | cases h
theorem Ry{op:Operator}(h:yX op=true):op=.Mult:=by
 cases op<;>first | rfl | cases h
def OS(A:Around)(s:Shared)(av:Addr->Prop)(op:Operator)(va vb:Value)(p:P V):Prop :=
 Yd (λQ E=>wpAny (model O w) A (binaryOp op va vb) Q E s) (λv s' u=>Kp s s'/\bD s s'.heap av v u) p
theorem Rz{op:Operator}(x y:Int)(t u:Tok):OS A s av op (.int x t) (.int y u) (yW op x y):=by
 cases op with
 |Add=>exact λQ E hq=>PyProof.Rows.add_int (hq _ _ ⟨Kp.tok' s _,.int _ _⟩)
 |Sub=>exact λQ E hq=>PyProof.Rows.sub_int (hq _ _ ⟨Kp.tok' s _,.int _ _⟩)
 |Mult=>exact Yd.ite λh Q E hq=>P.mul_int (hq _ _ ⟨Kp.tok' s _,.int _ _⟩) (h.elim (λh=>.of_left (Ac h)) λh=>.of_right (Ac h))
 |FloorDiv=>exact Yd.ite λh Q E hq=>PyProof.Rows.floordiv_int h.1 (hq _ _ ⟨Kp.tok' s _,.int _ _⟩) (.inl (Rw h.2))
 |Mod=>exact Yd.ite λh Q E hq=>PyProof.Rows.mod_int' h (hq _ _ ⟨Kp.tok' s _,.int _ _⟩)
 |Pow=>exact Yd.ite λh Q E hq=>PyProof.Rows.pow_int_small h.1 (G2 h) (by omega) (hq _ _ ⟨Kp.tok' s _,.int _ _⟩)
 |_=>exact trivial
theorem R0{n:Int}(h1:1<=n)(h2:n<=1024)(hx:x.length<=1024):(x.length:Int)<=(2 ^ 63 - 1) / n :=
 Int.le_ediv_of_mul_le (G3 h1) (bf (Int.mul_le_mul (cg.mpr hx) h2 (G4 h1) (by decide)) (by decide))
theorem R1(x:Str)(n:Int)(t u:Tok)(h:-100<=n/\n<=1024/\x.length<=1024):OS A s av .Mult (.str x t) (.int n u) (.ok (.fz (.str (kD x n)))):=by
 intro Q E hq;have hlen:=Rx h.2.1 h.2.2;refine P.mul_str (by simp only[Bool.or_eq_false_iff,decide_eq_false_iff_not];lia) (λh1 _=>?_) (λh1 _=>?_) ?_
 ·have:=R0 (G5 h1) h.2.1 h.2.2;exact G6 this
 ·exact decide_eq_false (Nat.not_lt.mpr (U (Nat.mul_le_mul h.2.2 (G7 h:n.toNat<=1024)) (by decide)))
 ·unfold kD at hlen hq
  split
  ·rename_i hn;rw[if_pos hn] at hq hlen;exact⟨hlen,hq _ _ ⟨Kp.tok' s _,.str _ _ hlen⟩⟩
  ·rename_i hn;rw[if_neg hn] at hq hlen
   split
   ·rename_i h1;rw[if_pos h1] at hq hlen;exact hq _ _ ⟨Kp.rfl' s,.str _ _ hlen⟩
   ·rename_i h1;rw[if_neg h1] at hq hlen;exact⟨hlen,hq _ _ ⟨Kp.tok' s _,.str _ _ hlen⟩⟩
theorem R2{l m:List PyData}(ra:Rep s.heap av va (.list l))(rb:Rep s.heap av vb (.list m))(h:l.length+m.length<=aF):OS A s av .Add va vb (.ok (.own (.list (l++m)))):=by
 obtain⟨a,vs,rfl,h1,⟨n,e⟩,h3,h4,h5⟩:=ra.list_inv;obtain⟨a',vs',rfl,k1,⟨n',e'⟩,k3,k4,k5⟩:=rb.list_inv;intro Q E hq;have hz:(vs++vs').length<=sizeLine:=by rw[List.length_append,h3,k3];exact h
 have:=oM (vs:=vs++vs') (ds:=l++m) (Kp.rfl' s) (by simp[h3,k3]) hz (sI h3 k3 h5 k5);refine P.add_list e e' ?_ (by simpa using hz);rw[List.append_toArray];exact hq _ _ this
theorem R3{l m:List PyData}(hav:∀ b,av b->∃ o,s.heap.get? b=some o)(ra:Rep s.heap av va (.tuple l))(rb:Rep s.heap av vb (.tuple m))(h:l.length+m.length<=aF):OS A s av .Add va vb (.ok (.fz (.tuple (l++m)))):=by
 obtain⟨a,vs,rfl,h1,⟨n,e⟩,h3,h4,h5⟩:=id ra.tuple_inv;obtain⟨a',vs',rfl,k1,⟨n',e'⟩,k3,k4,k5⟩:=id rb.tuple_inv;intro Q E hq
 by_cases hv:vs=[]
 ·subst hv;obtain rfl:=co.mp h3.symm;exact concat_meets ⟨_,e,rfl⟩ ⟨_,e',rfl⟩ noFill_tuple_add seq_tuple_add PySem.F.slot_tuple_add PySem.F.entry_tuple_add (PySem.F.args_tuple_add_2 _ _) (PyProof.Rows.tuple_addW0 a a' [].toArray vs'.toArray n n' none none #[] #[] rfl) ⟨e,e',hq _ _ ⟨Kp.rfl' s,rb⟩⟩
 ·by_cases hw:vs'=[]
  ·subst hw;obtain rfl:=co.mp k3.symm;rw[bz] at hq;exact concat_meets ⟨_,e,rfl⟩ ⟨_,e',rfl⟩ noFill_tuple_add seq_tuple_add PySem.F.slot_tuple_add PySem.F.entry_tuple_add (PySem.F.args_tuple_add_2 _ _) (PyProof.Rows.tuple_addW1 a a' vs.toArray [].toArray n n' none none #[] #[] (by simpa using hv) rfl) ⟨e,e',hq _ _ ⟨Kp.rfl' s,ra⟩⟩
  ·have hz:(vs++vs').length<=sizeLine:=by rw[List.length_append,h3,k3];exact h
   have:=lB (vs:=vs++vs') (ds:=l++m) (Kp.rfl' s) hav (by simp[h3,k3]) hz (sI h3 k3 h5 k5);refine P.add_tuple e e' (by simpa using hv) (by simpa using hw) ?_ (by simpa using hz);rw[List.append_toArray];exact hq _ _ this
theorem R4{op:Operator}{a b:PyData}(hav:∀ b,av b->∃ o,s.heap.get? b=some o)(ra:Rep s.heap av va a)(rb:Rep s.heap av vb b):OS A s av op va vb (aD op a b):=by
 cases a with
 |int x =>
  obtain⟨t,rfl⟩:=ra.int_inv;cases b with
  |int y =>
   obtain⟨u,rfl⟩:=rb.int_inv;exact Rz x y t u
  |_=>exact trivial
 |str x =>
  obtain⟨t,rfl,hx⟩:=ra.str_inv;cases b with
  |str y =>
   obtain⟨u,rfl,hy⟩:=rb.str_inv;exact Yd.ite λh Q E hq=>by
    cases sJ h.1;exact SB.add (λt' k=>hq _ _ ⟨Kp.tok' s _,.str _ _ (by rw[strLen_append];exact h.2)⟩) h.2
  |int y =>
   obtain⟨u,rfl⟩:=rb.int_inv;exact Yd.ite λh=>by
    cases Ry h.1;exact R1 x y t u h.2
  |_=>exact trivial
 |list l =>
  cases b with
  |list m=>exact Yd.ite λh=>by cases sJ h.1;exact R2 ra rb h.2
  |_=>exact trivial
 |tuple l =>
  cases b with
  |tuple m=>exact Yd.ite λh=>by cases sJ h.1;exact R3 hav ra rb h.2
  |_=>exact trivial
 |_=>exact trivial
end
section
theorem jH{u:V}{b:Bool}(h:c9 u=.ok b):u=.fz (.bool b):=by
 cases u with
 |fz d=>cases d<;>first | (cases h;rfl) | cases h
 |_=>exact pno h
theorem bD.cl{u:V}(hlt:∀ b,av b->∃ o,s.heap.get? b=some o)(r:bD s h av v u):bS l h av v u.cl:=by
 cases u with
 |fz d=>exact r
 |own d=>exact Own.rep hlt r
 |ex x=>exact r.elim
 |pil l=>exact r.elim
theorem R5{a b:Expr}{op:Operator}{pl pr:R V}(hl:aH n hd l sc σ a pl)(hr:aH n hd l sc σ b pr):
  aH n hd l sc σ (.BinOp a op b pos) (rb pl λa=>rb pr λb=>ofP (aD op (dOf a) (dOf b))):=by
 intro A env s av hA I β k fin Q E hf hq he;refine wpAny_BinOp (hl A env s av hA I hf.b (λva ke a k1 ra h1=>?_) he);have I1:=I.k k1;refine hr A env ke av hA I1 (Fin.b ⟨h1,hf.2⟩) (λvb km b k2 rb h2=>?_) (he.back k1);exact Yd.fin tk1 (R4 (I1.k k2).gnd.avlt ((ra.rep I.gnd.avlt).k I.gnd.fav k2) (rb.rep I1.gnd.avlt)) ⟨h2,hf.2⟩ λv s' u r m e=>hq.step (k1.tr k2) r m e
theorem sK{x:Expr}{op:UnaryOp}{p:R V}(hx:aH n hd l sc σ x p):aH n hd l sc σ (.UnaryOp op x pos) (rb p λv=>ofP (fF op v)):=by
 intro A env s av hA I β k fin Q E hf hq he;refine wpAny_UnaryOp (hx A env s av hA I hf.b (λva ke a k1 ra h1=>?_) he);obtain⟨u,e1,e2⟩:=Fin.p ⟨h1,hf.2⟩;cases op with
 |Not =>
  refine pcs (c9 a) (λht=>?_) λb ht=>?_
  ·simp only[fF,ht] at e1;exact pno e1
  ·simp only[fF,ht] at e1;obtain rfl:=pi e1;cases jH ht;cases (show Rep ke.heap av va (.bool b) from ra).bool_inv;exact not_value (dw (hq _ _ (.fz (.bool _)) k1 (.bool _) e2))
 |USub =>
  have r:=ra.rep I.gnd.avlt;have e1:zK (dOf a)=.ok u:=e1;generalize dOf a=d at r e1;cases d with
  |int i =>
   obtain rfl:=pi e1;obtain⟨t,rfl⟩:=r.int_inv;exact dA (P.neg_int λm=>hq _ _ (.fz (.int _)) (k1.trp (Kp.tok' _ _) m) (.int _ _) e2)
  |_=>exact pno e1
 |_=>exact pno e1
def bY(n:Nat)(hd:Bool)(l:List Env)(sc:Scope)(σ:aA)(e:Expr)(r:R V):Prop :=
 ∀ (A:Around) (env:Env) (s:Shared) (av:Addr->Prop),Room n hd l A->Inv0 l env sc σ av s ->
  ∀ {β:Type} {k:Bool->R β} {fin:R β} {Q:Bool->Shared->Prop} {E:Value->Shared->Prop},Fin (tst r) k fin->(∀ b s',K l s s'->k b=fin->Q b s')->EH l s av fin E->wpAny (model O w) A (isTrue e env (eval e env)) Q E s
theorem R6{b o:Expr}(ht:bY n hd l sc σ t pt)(hb:aH n hd l sc σ b pb)(ho:aH n hd l sc σ o po):
  aH n hd l sc σ (.IfExp t b o pos) (rb (tst pt) λc=>if c then pb else po):=by
 intro A env s av hA I β k fin Q E hf hq he;refine wpAny_IfExp (ht A env s av hA I hf.b (λc ke k1 h1=>?_) he);cases c with
 |true=>exact hb A env ke av hA (I.k k1) ⟨h1,hf.2⟩ (hq.back k1) (he.back k1)
 |false=>exact ho A env ke av hA (I.k k1) ⟨h1,hf.2⟩ (hq.back k1) (he.back k1)
theorem Ad(h:aH n hd l sc σ e r)(he:∀ env whole,isTrue e env whole=(do let v <- whole;standAt e.pos;holding [v] (truthy v))):bY n hd l sc σ e r:=by
 intro A env s av hA I β k fin Q E hf hq hE;refine wpAny_isTrue_value (h A env s av hA I hf.b (λv ke a k1 ra h1=>?_) hE) (he env _);obtain⟨b,e1,e2⟩:=Fin.p ⟨h1,hf.2⟩;cases jH e1;cases (show Rep ke.heap av v (.bool b) from ra).bool_inv;exact dw (hq _ _ k1 e2)
theorem R7{x:Expr}{p:R V}(hx:bY n hd l sc σ x p):bY n hd l sc σ (.UnaryOp .Not x pos) (rb p λv=>ofP (fF .Not v)):=by
 intro A env s av hA I β k fin Q E hf hq hE;refine wpAny_isTrue_Not (hx A env s av hA I (k:=λb=>k !b) ⟨?_,hf.2⟩ (λb ke k1 h1=>hq _ _ k1 h1) hE);simp only[<- hf.1];cases p with
 |ok v =>
  show rb (ofP (c9 v)) _=rb (tst (ofP (fF .Not v))) k;unfold fF;cases c9 v<;>rfl
 |_=>rfl
theorem R8{b o:Expr}(ht:bY n hd l sc σ t pt)(hb:bY n hd l sc σ b pb)(ho:bY n hd l sc σ o po):
  bY n hd l sc σ (.IfExp t b o pos) (rb (tst pt) λc=>if c then pb else po):=by
 intro A env s av hA I β k fin Q E hf hq hE;refine aa (ht A env s av hA I hf.b.b (λc ke k1 h1=>?_) hE);cases c with
 |true=>exact hb A env ke av hA (I.k k1) (Fin.unb ⟨h1,hf.2⟩) (λb s' k2 e=>hq b s' (k1.tr k2) e) (hE.back k1)
 |false=>exact ho A env ke av hA (I.k k1) (Fin.unb ⟨h1,hf.2⟩) (λb s' k2 e=>hq b s' (k1.tr k2) e) (hE.back k1)
theorem R9(hA:Room n hd l A):∀ {vs:List Expr} {s:Shared},(∀ e∈vs,aH n hd l sc σ e (rec e))->Inv0 l env sc σ av s ->
  ∀ {β:Type} {k:V->R β} {fin:R β} {Q:Value->Shared->Prop} {E:Value->Shared->Prop},Fin (kJ rec vs) k fin->QH l s av k fin Q->EH l s av fin E->wpAny (model O w) A (boolOp pos .And (evalEach vs env)) Q E s:=by
 intro v0
 induction v0 with
 |nil =>
  intro _ _ _ _ _ _ _ _ hf _ _;exact hf.no.elim
 |cons e r0 ih =>
  cases r0 with
  |nil =>
   intro s h I _ _ _ _ _ hf hq he;exact h e ac A env s av hA I hf hq he
  |cons e' r =>
   intro s h I _ _ _ _ _ hf hq he;refine aa (h e ac A env s av hA I (Fin.b hf) (λv ke a k1 ra h1=>aa (cq (aa (bl ?_)))) he);obtain⟨b,e1,e2⟩:=Fin.p (Fin.b ⟨h1,hf.2⟩);cases jH e1;cases (show Rep ke.heap av v (.bool b) from ra).bool_inv;cases b with
   |true=>exact dw (ih (λx hx=>h x (af _ hx)) (I.k k1) ⟨e2,hf.2⟩ (hq.back k1) (he.back k1))
   |false=>exact dw (ag (hq _ _ (.fz (.bool _)) k1 (.bool _) e2))
theorem Sa(hA:Room n hd l A):∀ {vs:List Expr} {s:Shared},(∀ e∈vs,aH n hd l sc σ e (rec e))->Inv0 l env sc σ av s ->
  ∀ {β:Type} {k:V->R β} {fin:R β} {Q:Value->Shared->Prop} {E:Value->Shared->Prop},Fin (kK rec vs) k fin->QH l s av k fin Q->EH l s av fin E->wpAny (model O w) A (boolOp pos .Or (evalEach vs env)) Q E s:=by
 intro v0
 induction v0 with
 |nil =>
  intro _ _ _ _ _ _ _ _ hf _ _;exact hf.no.elim
 |cons e r0 ih =>
  cases r0 with
  |nil =>
   intro s h I _ _ _ _ _ hf hq he;exact h e ac A env s av hA I hf hq he
  |cons e' r =>
   intro s h I _ _ _ _ _ hf hq he;refine aa (h e ac A env s av hA I (Fin.b hf) (λv ke a k1 ra h1=>aa (cq (aa (bl ?_)))) he);obtain⟨b,e1,e2⟩:=Fin.p (Fin.b ⟨h1,hf.2⟩);cases jH e1;cases (show Rep ke.heap av v (.bool b) from ra).bool_inv;cases b with
   |false=>exact dw (ih (λx hx=>h x (af _ hx)) (I.k k1) ⟨e2,hf.2⟩ (hq.back k1) (he.back k1))
   |true=>exact dw (ag (hq _ _ (.fz (.bool _)) k1 (.bool _) e2))
theorem Sb(hA:Room n hd l A):∀ {vs:List Expr} {s:Shared},(∀ e∈vs,bY n hd l sc σ e (rec e))->Inv0 l env sc σ av s ->
  ∀ {β:Type} {k:Bool->R β} {fin:R β} {Q:Bool->Shared->Prop} {E:Value->Shared->Prop},Fin (tst (kJ rec vs)) k fin->(∀ b s',K l s s'->k b=fin->Q b s')->EH l s av fin E->wpAny (model O w) A (allTrue .And vs env) Q E s:=by
 intro v0
 induction v0 with
 |nil =>
  intro _ _ _ _ _ _ _ _ hf _ _;exact hf.no.elim
 |cons e r0 ih =>
  cases r0 with
  |nil =>
   intro s h I _ _ _ _ _ hf hq he;exact wpAny_allTrue_And_cons (h e ac A env s av hA I hf (λb ke k1 h1=>by
    cases b with
    |true=>exact wpAny_allTrue_And_nil (hq _ _ k1 h1)
    |false=>exact hq _ _ k1 h1) he)
  |cons e' r =>
   intro s h I _ k _ _ _ hf hq he;exact wpAny_allTrue_And_cons (h e ac A env s av hA I (k:=λb=>if b then rb (tst (kJ rec (e'::r))) k else k false) ⟨by
    simp only[<- hf.1];show rb (tst (rec e)) _=rb (rb (rb (rec e) _) _) k;cases rec e with
    |ok v =>
     show rb (ofP (c9 v)) _=rb (rb (rb (ofP (c9 v)) _) _) k;cases ht:c9 v with
     |ok b=>cases jH ht;cases b<;>rfl
     |_=>rfl
    |_=>rfl,hf.2⟩ (λb ke k1 h1=>by
    cases b with
    |true=>exact ih (λx hx=>h x (af _ hx)) (I.k k1) ⟨h1,hf.2⟩ (λb s' k2 e=>hq b s' (k1.tr k2) e) (he.back k1)
    |false=>exact hq _ _ k1 h1) he)
theorem Sc(hA:Room n hd l A):∀ {vs:List Expr} {s:Shared},(∀ e∈vs,bY n hd l sc σ e (rec e))->Inv0 l env sc σ av s ->
  ∀ {β:Type} {k:Bool->R β} {fin:R β} {Q:Bool->Shared->Prop} {E:Value->Shared->Prop},Fin (tst (kK rec vs)) k fin->(∀ b s',K l s s'->k b=fin->Q b s')->EH l s av fin E->wpAny (model O w) A (allTrue .Or vs env) Q E s:=by
 intro v0
 induction v0 with
 |nil =>
  intro _ _ _ _ _ _ _ _ hf _ _;exact hf.no.elim
 |cons e r0 ih =>
  cases r0 with
  |nil =>
   intro s h I _ _ _ _ _ hf hq he;exact wpAny_allTrue_Or_cons (h e ac A env s av hA I hf (λb ke k1 h1=>by
    cases b with
    |true=>exact hq _ _ k1 h1
    |false=>exact wpAny_allTrue_Or_nil (hq _ _ k1 h1)) he)
  |cons e' r =>
   intro s h I _ k _ _ _ hf hq he;exact wpAny_allTrue_Or_cons (h e ac A env s av hA I (k:=λb=>if b then k true else rb (tst (kK rec (e'::r))) k) ⟨by
    simp only[<- hf.1];show rb (tst (rec e)) _=rb (rb (rb (rec e) _) _) k;cases rec e with
    |ok v =>
     show rb (ofP (c9 v)) _=rb (rb (rb (ofP (c9 v)) _) _) k;cases ht:c9 v with
     |ok b=>cases jH ht;cases b<;>rfl
     |_=>rfl
    |_=>rfl,hf.2⟩ (λb ke k1 h1=>by
    cases b with
    |false=>exact ih (λx hx=>h x (af _ hx)) (I.k k1) ⟨h1,hf.2⟩ (λb s' k2 e=>hq b s' (k1.tr k2) e) (he.back k1)
    |true=>exact hq _ _ k1 h1) he)
end
section
theorem Ae{m:Sem Value}(h:wpAny M A m Q E s):wpAny M A (operate vs m) Q E s :=
 λΓ p hΓ=>by rw[Sem.wp_operate];exact h Γ p hΓ
theorem Af{ks:List Value}{Q:Unit->Shared->Prop}(h:Q () s):wpAny M A (release vs ks) Q E s :=
 λΓ p hΓ=>by rw[Sem.wp_release];exact h
theorem oN{ke:Shared}{a b:PyData}{k:Bool->R β}{fin:R β}(hA:Room n hd l A)(ra:Rep ke.heap av va a)(rb:Rep ke.heap av vb b)
  (hf:Fin (ofP (cmp op a b)) k fin) (hq:∀ b s',Kp ke s'->ke.toks<=s'.toks->k b=fin->Q (.bool b) s'):wpAny (model O w) A (compareOp op va vb) Q E ke :=
 Yd.fin tk1 (Rv hA.units80 ra rb) hf λv s' b r m e=>by rw[r.2];exact hq b s' r.1 m e
theorem sL(hbad:∀ e,bad e=true->rec e=.no){a:PyData}
  (h:aH n hd l sc σ e (rec e)) (hA:Room n hd l A) (I:Inv0 l env sc σ av s) (ra:Rep s.heap av va a) {β:Type} {k:Bool->R β} {fin:R β} {E:Value->Shared->Prop} (hf:Fin (rF rec a op e) k fin) (he:EH l s av fin E) :
  (∀ {Q:Value->Shared->Prop},(∀ b s',K l s s'->k b=fin->Q (.bool b) s')->wpAny (model O w) A (compareChain pos va [op] [markedBehindIn op e (eval e env)]) Q E s) /\
  (∀ {Q:Bool->Shared->Prop},(∀ b s',K l s s'->k b=fin->Q b s')->wpAny (model O w) A (testChain pos va [op] [markedBehindIn op e (eval e env)]) Q E s):=by
 rw[Rl (fK (hbad e) (Fin.b hf).ne)];constructor<;>intro Q hq
 ·refine aa (bl (h A env s av hA I (Fin.b hf) (λvb ke u k1 rb h1=>aa (cq (Ae ?_))) he));exact oN hA (ra.k I.gnd.fav k1) (rb.rep I.gnd.avlt) ⟨h1,hf.2⟩ λb s' kk m e=>hq b s' (k1.trp kk m) e
 ·refine aa (bl (h A env s av hA I (Fin.b hf) (λvb ke u k1 rb h1=>aa (cq (aa (Ae ?_)))) he));exact oN hA (ra.k I.gnd.fav k1) (rb.rep I.gnd.avlt) ⟨h1,hf.2⟩ λb s' kk m e=>bl (dw (hq b s' (k1.trp kk m) e))
theorem Ag(hbad:∀ e,bad e=true->rec e=.no){a:PyData}
  (h:∀ e∈es,aH n hd l sc σ e (rec e)) (hA:Room n hd l A) (I:Inv0 l env sc σ av s) (ra:Rep s.heap av va a) {β:Type} {k:Bool->R β} {fin:R β} {E:Value->Shared->Prop} (hf:Fin (nA rec a ops es) k fin) (he:EH l s av fin E) :
  (∀ {Q:Value->Shared->Prop},(∀ b s',K l s s'->k b=fin->Q (.bool b) s')->wpAny (model O w) A (compareChain pos va ops (markedEach ops es (evalEach es env))) Q E s) /\
  (∀ {Q:Bool->Shared->Prop},(∀ b s',K l s s'->k b=fin->Q b s')->wpAny (model O w) A (testChain pos va ops (markedEach ops es (evalEach es env))) Q E s):=by
 cases ops with
 |nil=>exact hf.no.elim
 |cons op ops =>
  cases es with
  |nil=>exact hf.no.elim
  |cons e es =>
   have h1:=h e ac;cases ops with
   |nil =>
    cases es with
    |nil=>exact sL hbad h1 hA I ra hf he
    |cons=>exact hf.no.elim
   |cons op' ops =>
    cases es with
    |nil=>exact hf.no.elim
    |cons e' es =>
     have h2:=h e' (af _ ac);cases ops with
     |cons=>exact hf.no.elim
     |nil =>
      cases es with
      |cons=>exact hf.no.elim
      |nil =>
       constructor<;>intro Q hq
       ·refine aa (bl (h1 A env s av hA I (Fin.b hf) (λvb ke u k1 rb g1=>aa (cq (aa (bl ?_)))) he));have r1:=rb.rep I.gnd.avlt;refine oN hA (ra.k I.gnd.fav k1) r1 (Fin.b ⟨g1,hf.2⟩) λt km kk m g2=>aa (Af (aa (bl (dw ?_))));have k2:=k1.trp kk m;cases t with
        |false=>exact ag (hq _ _ k2 g2)
        |true=>exact(sL hbad h2 hA (I.k k2) (r1.keeps kk.heap) ⟨g2,hf.2⟩ (he.back k2)).1 λb s' k3 g3=>hq _ _ (k2.tr k3) g3
       ·refine aa (bl (h1 A env s av hA I (Fin.b hf) (λvb ke u k1 rb g1=>aa (cq (aa (bl ?_)))) he));have r1:=rb.rep I.gnd.avlt;refine oN hA (ra.k I.gnd.fav k1) r1 (Fin.b ⟨g1,hf.2⟩) λt km kk m g2=>aa (Af (aa (bl (dw ?_))));have k2:=k1.trp kk m;cases t with
        |false=>exact ag (hq _ _ k2 g2)
        |true=>exact(sL hbad h2 hA (I.k k2) (r1.keeps kk.heap) ⟨g2,hf.2⟩ (he.back k2)).2 λb s' k3 g3=>hq _ _ (k2.tr k3) g3
theorem Sd(hbad:∀ e,bad e=true->rec e=.no)(hl:aH n hd l sc σ e (rec e))
  (h:∀ e∈es,aH n hd l sc σ e (rec e)):aH n hd l sc σ (.Compare e ops es pos) (rb (rec e) λa=>aV (nA rec (dOf a) ops es)):=by
 intro A env s av hA I β k fin Q E hf hq he;refine aa (hl A env s av hA I hf.b (λva ke a k1 ra h1=>?_) he);exact(Ag hbad h hA (I.k k1) (ra.rep I.gnd.avlt) (Fin.b ⟨h1,hf.2⟩) (he.back k1)).1 λb s' k2 e=>hq _ _ (.fz (.bool b)) (k1.tr k2) (.bool b) e
theorem Se(hbad:∀ e,bad e=true->rec e=.no)(hl:aH n hd l sc σ e (rec e))
  (h:∀ e∈es,aH n hd l sc σ e (rec e)):bY n hd l sc σ (.Compare e ops es pos) (rb (rec e) λa=>aV (nA rec (dOf a) ops es)):=by
 intro A env s av hA I β k fin Q E hf hq he;refine aa (hl A env s av hA I (Fin.b (Fin.b hf)) (λva ke a k1 ra h1=>?_) he);exact(Ag hbad h hA (I.k k1) (ra.rep I.gnd.avlt) (Fin.b ⟨h1,hf.2⟩) (he.back k1)).2 λb s' k2 e=>hq _ _ (k1.tr k2) e
def sM(n:Nat)(hd:Bool)(l:List Env)(sc:Scope)(σ:aA)(av:Addr->Prop)(C:Shared->Value->V->Prop)(e:Expr)(r:R V):Prop :=
 ∀ (A:Around) (env:Env) (s:Shared),Room n hd l A->Inv0 l env sc σ av s ->
  ∀ {β:Type} {k:V->R β} {fin:R β} {Q:Value->Shared->Prop} {E:Value->Shared->Prop},Fin r k fin->(∀ v s' u,K l s s'->C s' v u.cl->k u=fin->Q v s')->EH l s av fin E->wpAny (model O w) A (eval e env) Q E s
def fY(C:Shared->Value->V->Prop)(s:Shared):List Value->List V->Prop
 | [],[]=>True
 |v::vs,u::us=>C s v u/\fY C s vs us
 |_,_=>False
theorem fY.len{C:Shared->Value->V->Prop}:∀ {vs:List Value} {us:List V},fY C s vs us->vs.length=us.length
 | [],[],_=>rfl
 |_::_,_::_,h=>congrArg Nat.succ h.2.len
 | [],_::_,h=>h.elim
 |_::_,[],h=>h.elim
theorem fY.at{C:Shared->Value->V->Prop}:∀ {vs:List Value} {us:List V},fY C s vs us->∀ (i:Nat) (v:Value) (u:V),vs[i]?=some v->us[i]?=some u->C s v u
 |_::_,_::_,h,0,_,_,e1,e2=>by obtain rfl:=si e1;obtain rfl:=si e2;exact h.1
 |_::_,_::_,h,i+1,_,_,e1,e2=>h.2.at i _ _ e1 e2
 | [],[],_,i,_,_,e1,_=>by exact ns e1
 | [],_::_,h,_,_,_,_,_=>h.elim
 |_::_,[],h,_,_,_,_,_=>h.elim
theorem Ah(hbad:∀ e,bad e=true->rec e=.no){C:Shared->Value->V->Prop}(hC:∀ s s' v u,K l s s'->C s v u->C s' v u)(hA:Room n hd l A):∀ {es:List Expr} {s:Shared},(∀ e∈es,sM n hd l sc σ av C e (rec e))->Inv0 l env sc σ av s ->
  ∀ {β:Type} {k:List V->R β} {fin:R β} {Q:List Value->Shared->Prop} {E:Value->Shared->Prop},Fin (evs rec es) k fin->(∀ vs s' us,K l s s'->fY C s' vs us->k us=fin->Q vs s')->EH l s av fin E ->
   wpAny (model O w) A (spliced (backTo pos (starEach es env))) Q E s:=by
 intro v0
 induction v0 with
 |nil =>
  intro s _ _ _ _ _ _ _ hf hq _;exact dh (hq _ _ [] (K.rf l s) trivial hf.ok)
 |cons e es ih =>
  intro s h I _ _ _ _ _ hf hq he;have hst:starEach (e::es) env=_:=fJ (fK (hbad e) (Fin.b hf).ne);refine dz (h e ac A env s hA I (Fin.b hf) (λv ke u k1 r h1=>?_) he) hst;refine ih (λx hx=>h x (af _ hx)) (I.k k1) (Fin.b ⟨h1,hf.2⟩) (λvs km us k2 rs h2=>?_) (he.back k1);exact hq _ _ (u.cl::us) (k1.tr k2) ⟨hC _ _ _ _ k2 r,rs⟩ h2
theorem Sf(u:V):dOf u.cl=dOf u:=by cases u<;>rfl
abbrev CD(av:Addr->Prop)(s:Shared)(v:Value)(u:V):Prop:=Rep s.heap av v (dOf u)
theorem aH.item(h:aH n hd l sc σ e r):sM n hd l sc σ av (CD av) e r :=
 λA env s hA I _ _ _ _ _ hf hq he=>h A env s av hA I hf (λv s' u k r e=>hq v s' u k (show Rep _ _ _ _ from (Sf u).symm▸r.rep I.gnd.avlt) e) he
theorem Ai(r:fY (CD av) s vs us):vs.length=(bV us).length/\∀ (i:Nat) (v:Value) (d:PyData),vs[i]?=some v->(bV us)[i]?=some d->Rep s.heap av v d:=by
 refine⟨by rw[bV,List.length_map];exact r.len,λi v d e1 e2=>?_⟩;rw[bV,List.getElem?_map,bj] at e2;obtain⟨u,e,rfl⟩:=e2;exact r.at i v u e1 e
theorem iD(hbad:∀ e,bad e=true->rec e=.no)(hA:Room n hd l A)(h:∀ e∈es,aH n hd l sc σ e (rec e))(I:Inv0 l env sc σ av s)
  {β:Type} {k:List V->R β} {fin:R β} {Q:List Value->Shared->Prop} {E:Value->Shared->Prop} (hf:Fin (evs rec es) k fin)
  (hq:∀ vs s' us,K l s s'->vs.length=(bV us).length->(∀ (i:Nat) (v:Value) (d:PyData),vs[i]?=some v->(bV us)[i]?=some d->Rep s'.heap av v d)->k us=fin->Q vs s') (he:EH l s av fin E) :
   wpAny (model O w) A (spliced (backTo pos (starEach es env))) Q E s :=
 Ah (C:=CD av) hbad (λ_ _ _ _ k r=>Rep.k I.gnd.fav k r) hA (λe m=>(h e m).item) I hf (λvs s' us k r e=>hq vs s' us k (Ai r).1 (Ai r).2 e) he
theorem Sg(hbad:∀ e,bad e=true->rec e=.no)(h:∀ e∈es,aH n hd l sc σ e (rec e)):
  aH n hd l sc σ (.List es pos) (rb (evs rec es) λl=>if l.length<=aF then .ok (.own (.list (bV l))) else .no):=by
 intro A env s av hA I β k fin Q E hf hq he;refine wpAny_List (iD hbad hA h I hf.b (λvs ke us k1 h1 h2 e1=>?_) he);obtain⟨hz,e2⟩:=Fin.ite ⟨e1,hf.2⟩;have hz:vs.length<=sizeLine:=by rw[h1,bV,List.length_map];exact hz
 exact⟨hz,hq.step k1 (oM (Kp.rfl' _) h1 hz h2) (ae _) e2.ok⟩
theorem Sh(hbad:∀ e,bad e=true->rec e=.no){t:Nat}(h:∀ e∈es,aH n hd l sc σ e (rec e)):
  aH n hd l sc σ (.Tuple es t pos) (rb (evs rec es) λl=>if l.length<=aF then .ok (.fz (.tuple (bV l))) else .no):=by
 intro A env s av hA I β k fin Q E hf hq he;refine wpAny_Tuple (iD hbad hA h I hf.b (λvs ke us k1 h1 h2 e1=>?_) he);obtain⟨hz,e2⟩:=Fin.ite ⟨e1,hf.2⟩;have hz:vs.length<=sizeLine:=by rw[h1,bV,List.length_map];exact hz
 exact⟨hz,hq.step k1 (lB (Kp.rfl' _) (I.gnd.k k1).avlt h1 hz h2) (ae _) e2.ok⟩
end
section
def cM(h:Heap)(av:Addr->Prop)(v:Value)(d:PyData):Prop:=Rep h av v d\/∃ a,v=.ref a/\bL h av a d
theorem cM.keeps(hk:∀ b o,h.get? b=some o->h'.get? b=some o)(r:cM h av v d):cM h' av v d :=
 r.imp (·.keeps hk) λhh=>by obtain⟨a,e,r⟩:=hh;exact⟨a,e,r.mono (λb o _ e=>hk b o e) (λ_ _ _ x=>x) λo e=>hk _ o e⟩
theorem Rep.ref_not(r:Rep h av v d)(e:v=.ref a):¬ av a:=by
 cases r with
 |list h1=>cases e;exact h1
 |tuple h1=>cases e;exact h1
 |dict h1=>cases e;exact h1
 |_=>cases e
theorem cM.k(fav:∀ b,frs l b->av b)(k:K l s s')(r:cM s.heap av v d/\(∀ a,v=.ref a->¬ frs l a)):cM s'.heap av v d/\(∀ a,v=.ref a->¬ frs l a) :=
 ⟨r.1.imp (·.k fav k) λhh=>by obtain⟨a,e,b⟩:=hh;exact⟨a,e,b.k fav k (r.2 a e)⟩,r.2⟩
inductive TopL(h:Heap)(av:Addr->Prop)(v:Value)(ds:List PyData):Prop where
 |mk (a:Addr) (vs:List Value) (e:v=.ref a) (p:h.PlainList a (List.toArray vs)) (l:vs.length=ds.length) (z:vs.length<=sizeLine) (r:∀ (i:Nat) (v:Value) (d:PyData),vs[i]?=some v->ds[i]?=some d->Rep h av v d):TopL h av v ds
inductive TopT(h:Heap)(av:Addr->Prop)(v:Value)(ds:List PyData):Prop where
 |mk (a:Addr) (vs:List Value) (e:v=.ref a) (p:PlT h a (List.toArray vs)) (l:vs.length=ds.length) (z:vs.length<=sizeLine) (r:∀ (i:Nat) (v:Value) (d:PyData),vs[i]?=some v->ds[i]?=some d->Rep h av v d):TopT h av v ds
theorem cM.list(r:cM h av v (.list ds)):TopL h av v ds:=by
 rcases r with r | ⟨a,e,vs,r1,r2,r3,r4⟩
 ·cases r with
  |list h1 h2 h3 h4 h5=>exact⟨_,_,rfl,h2,h3,h4,h5⟩
 ·exact⟨a,vs,e,r1,r2,r3,r4⟩
theorem cM.tuple(r:cM h av v (.tuple ds)):TopT h av v ds:=by
 rcases r with r | ⟨a,e,r⟩
 ·cases r with
  |tuple h1 h2 h3 h4 h5=>exact⟨_,_,rfl,h2,h3,h4,h5⟩
 ·exact r.elim
inductive TopD(h:Heap)(av:Addr->Prop)(v:Value)(ds:List (PyData×PyData)):Prop where
 |mk (a:Addr) (kvs:List (Str×Value)) (e:v=.ref a) (p:h.DictOf (strKind O w) a kvs) (z:kvs.length<=sizeLine/\∀ kv∈kvs,kv.1.length<=sizeLine) (m:(a==sysModules)=false)
  (l:ds.map (·.1)=kvs.map (λkv=>PyData.str kv.1)) (r:∀ (i:Nat) (kv:Str×Value) (d:PyData×PyData),kvs[i]?=some kv->ds[i]?=some d->Rep h av kv.2 d.2):TopD h av v ds
theorem cM.dict{ds:List (PyData×PyData)}(r:cM h av v (.dict ds)):TopD h av v ds:=by
 rcases r with r | ⟨a,e,kvs,r1,r2,r3,r4,r5⟩
 ·obtain⟨a,kvs,e,_,r1,r2,r3,r4,r5⟩:=r.dict_inv;exact⟨a,kvs,e,r1,r2,r3,r4,r5⟩
 ·exact⟨a,kvs,e,r1,r2,r3,r4,r5⟩
theorem cM.str(r:cM h av v (.str x)):∃ t,v=.str x t/\x.length<=sizeLine:=by
 rcases r with r | ⟨a,e,r⟩
 ·exact r.str_inv
 ·exact r.elim
theorem Yd.frz{W:WP γ}{R:γ->Shared->V->Prop}{o:Option PyData}(k:∀ d,o=some d->Yd W R (.ok (.fz d))):Yd W R (frz o):=by
 cases o with
 |none=>exact trivial
 |some d=>exact k d rfl
def Aj(s:Shared)(v:Value):Prop:=∃ T id,s.TypeIs v T/\typeLookup (.type T) "__getitem__" = pure (some (.builtin id))
def GS(A:Around)(s:Shared)(av:Addr->Prop)(va vi:Value)(p:P V):Prop :=
 Yd (λQ E=>Aj s va/\wpAny (model O w) A (PySem.getItem va vi) Q E s) (λv s' u=>Kp s s'/\bD s s'.heap av v u) p
theorem tkI{t:Sem Value}:Tk s λQ E=>c/\wpAny M A t Q E s:=λQ E h=>⟨h.1,tk1 Q E h.2⟩
theorem Ak{xs:List α}{ys:List β}(hl:xs.length=ys.length){y:β}(e:ys[i]?=some y):∃ x,xs[i]?=some x :=
 ⟨_,bg (hl▸(cr.mp e).1)⟩
theorem sN{k:Int}(h:0<=k/\k < n)(hn:n<=sizeLine):-2 ^ 63<=k/\k < 2 ^ 63:=by
 have hs:(n:Int)<=16777216:=cg.mpr (U hn (aq sizeLine_eq));exact⟨bf (by decide) h.1,cn h.2 (bf hs (by decide))⟩
theorem Si{a i:PyData}(ra:cM s.heap av va a)(ri:Rep s.heap av vi i):GS A s av va vi (getItem a i):=by
 cases i with
 |int k =>
  obtain⟨t,rfl⟩:=ri.int_inv;cases a with
  |list l =>
   obtain⟨ad,vs,rfl,h2,h3,h4,h5⟩:=ra.list;refine Yd.ite2 (λ_=>Yd.ite λc=>Yd.frz λd e=>?_) λ_=>Yd.ite λc=>Yd.frz λd e=>?_<;>obtain⟨v,e1⟩:=Ak h3 e
   ·exact λQ E hq=>⟨⟨"list", _,h2.isList.typeIs,list_getitem_lookup⟩,wpAny_getItem_list h2.isList c.1 (sN (h3▸c) h4).2 (by simpa using e1) (hq _ _ ⟨Kp.rfl' s,h5 _ _ _ e1 e⟩)⟩
   ·rw[<- h3] at c e1;exact λQ E hq=>⟨⟨"list", _,h2.isList.typeIs,list_getitem_lookup⟩,wpAny_getItem_list_neg h2.isList c.1 c.2 (by have:=sizeLine_eq;lia) (by simpa using e1) (hq _ _ ⟨Kp.rfl' s,h5 _ _ _ e1 (h3▸e)⟩)⟩
  |tuple l =>
   obtain⟨ad,vs,rfl,h2,h3,h4,h5⟩:=ra.tuple;refine Yd.ite λc=>Yd.frz λd e=>?_;obtain⟨v,e1⟩:=Ak h3 e;have hf:=sN (h3▸c) h4;exact λQ E hq=>⟨⟨"tuple", _,h2.isTuple.typeIs,PyProof.Rows.slot_tuple_getitem.lookup⟩,by obtain⟨n,h2⟩:=h2;exact P.getItem_tuple h2 hf.1 hf.2 (k:=k.toNat) (seqIndex_of c.1 (h3▸c).2) (by simpa using e1) (hq _ _ ⟨Kp.rfl' s,h5 _ _ _ e1 e⟩)⟩
  |str x =>
   obtain⟨t',rfl,hx⟩:=ra.str;refine Yd.ite λc=>Yd.frz λd e=>?_;obtain⟨ch,e1,rfl⟩:=bj.mp e;have hf:=sN c hx;exact λQ E hq=>⟨⟨"str", _,rfl,PyProof.Rows.slot_str_getitem.lookup⟩,PyProof.Rows.getItem_str (Bool.or_eq_false_iff.mpr ⟨decide_eq_false (fw.mpr hf.1),decide_eq_false (Int.not_le.mpr hf.2)⟩) (c:=ch)
    (by rw[show seqIndex? k x.length=some k.toNat from seqIndex_of c.1 c.2];exact e1) (hq _ _ ⟨Kp.tok' s _,.str _ _ (by rw[sizeLine_eq];exact eu rfl)⟩)⟩
  |_=>exact trivial
 |str x =>
  obtain⟨t,rfl,hx⟩:=ri.str_inv;cases a with
  |dict l =>
   obtain⟨ad,kvs,rfl,h2,h3,h4,h5,h6⟩:=ra.dict;refine Yd.frz λd e=>?_;rcases oH x h5 with ⟨e1,e2⟩ | ⟨i,v,d',e1,e2,e3,e4⟩
   ·rw[e2] at e;exact ns e
   ·rw[e2] at e;obtain rfl:=si e;exact λQ E hq=>⟨⟨"dict", _,h2.typeIs,F.slot_dict_getitem.lookup⟩,wpAny_getItem_of (eS x t) h2.mapOf e1 (hq _ _ ⟨Kp.tok' s _,h6 i _ _ e3 e4⟩)⟩
  |_=>exact trivial
 |_=>exact trivial
theorem sO{value slice:Expr}(hs:∃ f:Value->Value->List Value,∀ o i,subscripted slice false o i=operate (f o i) (PySem.getItem o i))
  (h:wpAny (model O w) A (eval value env) (λo ke=>wpAny (model O w) A (eval slice env) (λi km=>Aj km o/\wpAny (model O w) A (PySem.getItem o i) Q E km) E ke) E s) :
  wpAny (model O w) A (eval (.Subscript value slice pos) env) Q E s:=by
 rw[eval_Subscript];refine aa (az h (λo ke ku=>aa (bl (az ku (λi km lc=>aa (cq ?_)) λ_ _ x=>x))) λ_ _ x=>x);refine hde λ_ θ=>?_;obtain⟨⟨T,id,hT,hl⟩,hg⟩:=lc;apply θ;refine aa ?_;rw[getitemInPython_of_ne hT.not_modules];refine aa (wpAny_specialOf hT hl ?_);have fin:wpAny (model O w) A (subscripted slice false o i) (λr kq=>wpAny (model O w) A (letTemporaryGo value o r >>= λ_=>pure r) Q E kq) E km:=by
  obtain⟨f,hs⟩:=hs;rw[hs];exact wpAny_operating (az hg (λr kq ld=>aa (wpAny_letTemporaryGo (ag ld))) λ_ _ x=>x)
 first
  |exact ag (aa fin)
  |exact aa (ag (aa fin))
  |exact aa fin
theorem Al{o:Option (Option V)}{f:V->Option α}{d:α}(h:(match o with | some o=>(match o with | some v=>f v | none=>none) | none=>none)=some d):∃ v,o=some (some v)/\f v=some d:=by
 cases o with
 |none=>exact ns h
 |some o =>
  cases o with
  |none=>exact ns h
  |some v=>exact⟨v,rfl,h⟩
theorem Am[Decidable c]{a b:α}(h:(if c then some a else none)=some b):c/\a=b:=by
 by_cases hc:c
 ·rw[if_pos hc] at h;obtain rfl:=si h;exact⟨hc,rfl⟩
 ·rw[if_neg hc] at h;exact ns h
theorem An(h:kP sc σ x=some d):isL sc x=true/\aA.get σ x=some (some (.own d)):=by
 obtain⟨v,e,h⟩:=Al (f:=λv=>match v with | .own d=>if isL sc x then some d else none | _=>none) h;cases v with
 |own d'=>obtain⟨hl,rfl⟩:=Am h;exact⟨hl,e⟩
 |_=>exact ns h
theorem Sj{d:X}(h:zC sc σ x=some d):isL sc x=true/\aA.get σ x=some (some (.ex d)):=by
 obtain⟨v,e,h⟩:=Al (f:=λv=>match v with | .ex d=>if isL sc x then some d else none | _=>none) h;cases v with
 |ex d'=>obtain⟨hl,rfl⟩:=Am h;exact⟨hl,e⟩
 |_=>exact ns h
theorem Sk(h:nH sc σ e=some d):∃ x p,e=.Name x p/\isL sc x=true/\aA.get σ x=some (some (.own d)):=by
 unfold nH at h;refine ocs (bC e) (λhn=>?_) λx hn=>?_
 ·rw[hn] at h;exact ns h
 ·rw[hn] at h;obtain⟨p,rfl⟩:=dJ hn;exact⟨x,p,rfl,An h⟩
theorem Ao{d:X}(h:gK sc σ e=some d):∃ x p,e=.Name x p/\isL sc x=true/\aA.get σ x=some (some (.ex d)):=by
 unfold gK at h;refine ocs (bC e) (λhn=>?_) λx hn=>?_
 ·rw[hn] at h;exact ns h
 ·rw[hn] at h;obtain⟨p,rfl⟩:=dJ hn;exact⟨x,p,rfl,Sj h⟩
theorem Ap{o:Expr}(h:aH n hd l sc σ o (rec o))(hA:Room n hd l A)(I:Inv0 l env sc σ av s)
  {β:Type} {k:PyData->R β} {fin:R β} {Q:Value->Shared->Prop} {E:Value->Shared->Prop} (hf:Fin (nK rec sc σ o) k fin) (hq:∀ v s' d,K l s s'->cM s'.heap av v d/\(∀ a,v=.ref a->¬ frs l a)->k d=fin->Q v s') (he:EH l s av fin E):wpAny (model O w) A (eval o env) Q E s:=by
 unfold nK at hf;refine ocs (nH sc σ o) (λe=>?_) λd e=>?_
 ·rw[e] at hf;exact h A env s av hA I hf.b (λv ke u k1 r h1=>hq _ _ _ k1 ⟨.inl (r.rep I.gnd.avlt),λa ha f=>(r.rep I.gnd.avlt).ref_not ha (I.gnd.fav _ f)⟩ h1) he
 ·rw[e] at hf;refine hde λ_ θ=>?_;obtain⟨x,pos,rfl,hl,e⟩:=Sk e;obtain⟨u,h1,a,rfl,n1,h2⟩:=I.get _ _ hl e;apply θ;exact eR I hl h1 (hq _ _ _ (K.rf l s) ⟨.inr ⟨a,rfl,h2⟩,λa' ha=>by cases ha;exact n1⟩ hf.ok)
theorem Sl(l:List α)(lo hi:Option Int):(slice l lo hi).length<=l.length:=by
 unfold slice;rw[List.length_take,List.length_drop];exact G8
theorem Sm{l:List α}{m:List β}(hl:l.length=m.length){lo hi:Option Int}{x:α}{y:β}(e1:(slice l lo hi)[i]?=some x)(e2:(slice m lo hi)[i]?=some y):
  ∃ j:Nat,l[j]?=some x/\m[j]?=some y:=by
 unfold slice at e1 e2;rw[<- hl] at e2;rw[List.getElem?_take] at e1 e2
 split at e1
 ·rename_i h;rw[if_pos h] at e2;rw[jm] at e1 e2;exact⟨_,e1,e2⟩
 ·exact ns e1
theorem Sn{l:List α}{m:List β}(hl:l.length=m.length)(lo hi:Option Int):(slice l lo hi).length=(slice m lo hi).length:=by
 unfold slice;rw[List.length_take,List.length_take,List.length_drop,List.length_drop,hl]
def sP(v:Value)(k:Option Int):Prop:=IsPart v k/\∃ p,v=partValue p/\p.map (·.1)=k
theorem Aq{e:Option Expr}(h:∀ x,e=some x->aH n hd l sc σ x (rec x))(hA:Room n hd l A)(I:Inv0 l env sc σ av s)
  {β:Type} {k:Option Int->R β} {fin:R β} {Q:Value->Shared->Prop} {E:Value->Shared->Prop} (hf:Fin (rM rec e) k fin) (hq:∀ v s' d,K l s s'->sP v d->k d=fin->Q v s') (he:EH l s av fin E):wpAny (model O w) A (evalPart e env) Q E s:=by
 cases e with
 |none=>exact wpAny_evalPart_none (hq _ _ none (K.rf l s) ⟨.none,none,rfl,rfl⟩ hf.ok)
 |some x =>
  refine wpAny_evalPart_some (h x rfl A env s av hA I (Fin.b hf) (λv ke u k1 r h1=>?_) he);obtain⟨i,e1,e2⟩:=Fin.p ⟨h1,hf.2⟩;cases u with
  |fz d =>
   cases d with
   |int i =>
    obtain rfl:=pi e1;obtain⟨t,rfl⟩:=(show Rep ke.heap av v (.int i) from r).int_inv;exact hq _ _ _ k1 ⟨.int i t,some (i,t),rfl,rfl⟩ e2
   |_=>exact pno e1
  |_=>exact pno e1
noncomputable def lC(s:Shared)(vl vu:Value):Shared:={ s with heap:=s.heap.push { cls:=.type "slice", data:=.fields #[vl,vu,.none] } }
theorem So(x:Str)(lo hi:Option Int):Txt.slice x lo hi=⟨(slice x.cps.toList lo hi).toArray⟩:=by
 have key:(Builtin.Str.strSliceIndices lo hi 1 x.length).filterMap (x.cps[·]?)=slice x.cps.toList lo hi:=by
  have e:Builtin.Str.strSliceIndices lo hi 1 x.length=sliceRange (sliceBounds lo hi none x.length).1 (sliceBounds lo hi none x.length).2.1 (sliceBounds lo hi none x.length).2.2:=by
   cases lo<;>cases hi<;>rfl
  rw[e,sliceBounds_plain];simp only[sliceRange_one,pick_run];unfold slice;rw[Array.length_toList];rfl
 unfold Txt.slice
 split
 ·rename_i h;rw[<- key];have hlen:(Builtin.Str.strSliceIndices lo hi 1 x.length).length=x.length:=by simpa using h
  have e:Builtin.Str.strSliceIndices lo hi 1 x.length=sliceRange (sliceBounds lo hi none x.length).1 (sliceBounds lo hi none x.length).2.1 (sliceBounds lo hi none x.length).2.2:=by
   cases lo<;>cases hi<;>rfl
  rw[key];rw[e,sliceBounds_plain] at hlen;simp only[sliceRange_one,List.length_map,List.length_range] at hlen;have hx:x.cps.toList.length=x.length:=by simp[Str.length]
  have hc:∀ i,clipAt x.length i<=x.length:=λi=>by have:=clipAt_cast x.length i;exact P9 this
  have hlo:lo.elim 0 (clipAt x.length)=0\/x.length=0:=by
   by_cases h0:x.length=0
   ·exact .inr h0
   ·left;have:hi.elim x.length (clipAt x.length)<=x.length:=by cases hi with | none=>exact ae _ | some j=>exact hc j
    exact Qa hlen h0 this
  have:slice x.cps.toList lo hi=x.cps.toList:=by
   unfold slice;rw[hx,hlen];rcases hlo with h | h
   ·rw[h,List.drop_zero,<- hx,jo]
   ·have:x.cps.toList=[]:=co.mp (hx.trans h);rw[this];simp
  rw[this]
 ·rw[key]
theorem Sp{vl vu:Value}{a:PyData}{kl kh:Option Int}(hav:∀ b,av b->∃ o,s.heap.get? b=some o)(rt:cM (lC s vl vu).heap av va a)(rl:sP vl kl)(rh:sP vu kh):
  GS A (lC s vl vu) av va (.ref s.heap.objs.size) (iY a kl kh):=by
 cases a with
 |list l =>
  obtain⟨ad,vs,rfl,p2,p3,p4,p5⟩:=rt.list;refine λQ E hq=>⟨⟨"list", _,p2.isList.typeIs,list_getitem_lookup⟩,wpAny_getItem_list_slice p2.isList (Heap.IsSliceOf.new ..) rl.1 rh.1 .none (by simp) ?_ (by simpa using p4)⟩
  have e:slicePick vs.toArray kl kh none=(slice vs kl kh).toArray:=by rw[slicePick_plain];simp[slice]
  rw[e];exact hq _ _ (oM (Kp.rfl' _) (Sn p3 kl kh) (U (Sl _ _ _) p4) λi v d e1 e2=>by obtain⟨j,e3,e4⟩:=Sm p3 e1 e2;exact p5 j v d e3 e4)
 |str x =>
  obtain⟨t,rfl,hx⟩:=rt.str;obtain⟨_,pl,rfl,rfl⟩:=rl;obtain⟨_,pu,rfl,rfl⟩:=rh;have hlen:(Txt.slice x (pl.map (·.1)) (pu.map (·.1))).length<=sizeLine:=U (Txt.slice_le x _ _) hx;show GS A _ av _ _ (.ok (.fz (.str ⟨_⟩)));rw[<- So x (pl.map (·.1)) (pu.map (·.1))];exact λQ E hq=>⟨⟨"str", _,rfl,PyProof.Rows.slot_str_getitem.lookup⟩,wpAny_getItem_str_slice (l:=pl) (u:=pu) (st:=none) ⟨_,ck _ rfl,rfl,rfl⟩ rfl (post_val_or_str ⟨hlen,λt' k=>hq _ _ ⟨Kp.tok' _ _,.str _ _ hlen⟩⟩)⟩
 |tuple l =>
  cases kl with
  |none=>exact trivial
  |some a =>
   cases kh with
   |some b=>exact trivial
   |none =>
    refine Yd.ite λhc=>?_;obtain⟨ad,vs,rfl,p2,p3,p4,p5⟩:=rt.tuple;obtain⟨_,pl,rfl,mpl⟩:=rl;obtain⟨_,pu,rfl,mpu⟩:=rh;obtain⟨⟨i,t⟩,rfl,rfl⟩:=bj.mp mpl;obtain rfl:=Option.map_eq_none_iff.mp mpu;have hcast:((i.toNat:Nat):Int)=i:=gj (bf (by decide) hc.1);have hl:i.toNat<=vs.length:=by have:=hc.2;rw[p3];exact Qb hc
    refine λQ E hq=>⟨⟨"tuple", _,p2.isTuple.typeIs,PyProof.Rows.slot_tuple_getitem.lookup⟩,PyProof.Rows.getItem_tuple_from (a:=i.toNat) (u:=t) (items:=vs.toArray) (by obtain⟨n2,e2⟩:=p2;exact⟨_,e2,rfl,n2,rfl⟩) (by rw[hcast];exact Heap.IsSliceOf.new ..) (by have:=hc.1;exact Qc hc) (by simpa using hl) ?_ (by simpa using p4)⟩
    exact hq _ _ (lB (ke:=lC s (.int i t) .none) (vs:=vs.drop i.toNat) (ds:=l.drop i.toNat) (Kp.rfl' _) (λb hb=>by obtain⟨o,e⟩:=hav b hb;exact⟨o,ai _ e⟩) (by simp[p3]) (U (by simp) p4) λj v d e1 e3=>by
     rw[jm] at e1 e3;exact p5 _ v d e1 e3)
 |_=>exact trivial
theorem Sq{o i:Expr}(ho:aH n hd l sc σ o (rec o))(hidx:aH n hd l sc σ i (rec i))
  (hs:∀ c,kQ i=some c->(∀ x,c.1=some x->aH n hd l sc σ x (rec x))/\(∀ x,c.2.1=some x->aH n hd l sc σ x (rec x))) :
  aH n hd l sc σ (.Subscript o i pos) (rN rec sc σ o i):=by
 intro A env s av hA I β k fin Q E hf hq he;unfold rN at hf;cases hv:kQ i with
 |some c =>
  rw[hv] at hf;obtain⟨g1,g2⟩:=hs c hv;obtain⟨p,rfl⟩:=Rk hv;obtain⟨lo,hi,st⟩:=c;cases st with
  |some x=>exact hf.no.elim
  |none =>
   refine sO ⟨_,λ_ _=>rfl⟩ (Ap ho hA I (Fin.b hf) (λva ke a k1 ra h1=>?_) he);have I1:=I.k k1;refine wpAny_Slice (Aq g1 hA I1 (Fin.b ⟨h1,hf.2⟩) (λvl km kl k2 rl h2=>Aq g2 hA (I1.k k2) (Fin.b ⟨h2,hf.2⟩) (λvu kq kh k3 rh h3=>wpAny_evalPart_none ?_) (he.back (k1.tr k2))) (he.back k1));have kk:=(k1.tr k2).tr k3;have hp:Kp kq (lC kq vl vu):=Kp.push' kq _;exact Yd.fin (s:=lC kq vl vu) tkI (Sp (A:=A) (I.gnd.k kk).avlt ((cM.k I.gnd.fav k3 (cM.k I.gnd.fav k2 ra)).1.keeps hp.heap) rl rh) ⟨h3,hf.2⟩ λv s' u r m e=>hq.step (kk.trp hp (ae _)) r m e
 |none =>
  rw[hv] at hf;refine bcs (bad i) (λhb=>?_) λhb=>?_
  ·rw[hb] at hf;refine sO ⟨_,λ_ _=>Rm hb⟩ (Ap ho hA I (Fin.b hf) (λva ke a k1 ra h1=>?_) he);have I1:=I.k k1;exact hidx A env ke av hA I1 (Fin.b ⟨h1,hf.2⟩) (λvi km u k2 r h2=>Yd.fin tkI (Si (A:=A) (cM.k I.gnd.fav k2 ra).1 (r.rep I1.gnd.avlt)) ⟨h2,hf.2⟩ λv s' u r m e=>hq.step (k1.tr k2) r m e) (he.back k1)
  ·rw[hb] at hf;exact hf.no.elim
end
section
def iE(A:Around)(s:Shared)(v:Value)(T:String)(b:Bool):Prop :=
 ∀ (Q:Value->Shared->Prop) (E:Value->Shared->Prop),(∀ tk,Q (.bool b) { s with toks:=tk })->wpAny (model O w) A (call (.builtin "isinstance") [v,.type T]) Q E s
theorem Sr(r:Rep s.heap av v d):
  iE A s v "dict" (dZ d)/\iE A s v "int" (iZ d)/\iE A s v "bool" (i5 d)/\iE A s v "str" (eP d)/\iE A s v "list" (kG d)/\iE A s v "tuple" (cC d):=by
 cases r with
 |none=>exact⟨λQ E hq=>IsiPair.NoneType_dict (hq _),λQ E hq=>IsiPair.NoneType_int (hq _),λQ E hq=>IsiPair.NoneType_bool (hq _),λQ E hq=>IsiPair.NoneType_str (hq _),λQ E hq=>IsiPair.NoneType_list (hq _),λQ E hq=>IsiPair.NoneType_tuple (hq _)⟩
 |bool _=>exact⟨λQ E hq=>IsiPair.bool_dict (hq _),λQ E hq=>IsiPair.bool_int (hq _),λQ E hq=>IsiPair.bool_bool (hq _),λQ E hq=>IsiPair.bool_str (hq _),λQ E hq=>IsiPair.bool_list (hq _),λQ E hq=>IsiPair.bool_tuple (hq _)⟩
 |int _ _=>exact⟨λQ E hq=>IsiPair.int_dict (hq _),λQ E hq=>IsiPair.int_int (hq _),λQ E hq=>IsiPair.int_bool (hq _),λQ E hq=>IsiPair.int_str (hq _),λQ E hq=>IsiPair.int_list (hq _),λQ E hq=>IsiPair.int_tuple (hq _)⟩
 |str _ _ _=>exact⟨λQ E hq=>IsiPair.str_dict (hq _),λQ E hq=>IsiPair.str_int (hq _),λQ E hq=>IsiPair.str_bool (hq _),λQ E hq=>IsiPair.str_str (hq _),λQ E hq=>IsiPair.str_list (hq _),λQ E hq=>IsiPair.str_tuple (hq _)⟩
 |list _ h2=>obtain⟨n,e⟩:=h2;exact⟨λQ E hq=>IsiPair.list_dict e rfl (hq _),λQ E hq=>IsiPair.list_int e rfl (hq _),λQ E hq=>IsiPair.list_bool e rfl (hq _),λQ E hq=>IsiPair.list_str e rfl (hq _),λQ E hq=>IsiPair.list_list e rfl (hq _),λQ E hq=>IsiPair.list_tuple e rfl (hq _)⟩
 |tuple _ h2=>obtain⟨n,e⟩:=h2;exact⟨λQ E hq=>IsiPair.tuple_dict e rfl (hq _),λQ E hq=>IsiPair.tuple_int e rfl (hq _),λQ E hq=>IsiPair.tuple_bool e rfl (hq _),λQ E hq=>IsiPair.tuple_str e rfl (hq _),λQ E hq=>IsiPair.tuple_list e rfl (hq _),λQ E hq=>IsiPair.tuple_tuple e rfl (hq _)⟩
 |dict _ h2=>obtain⟨o,es,ep,e,c,_⟩:=h2;exact⟨λQ E hq=>IsiPair.dict_dict e c.1 (hq _),λQ E hq=>IsiPair.dict_int e c.1 (hq _),λQ E hq=>IsiPair.dict_bool e c.1 (hq _),λQ E hq=>IsiPair.dict_str e c.1 (hq _),λQ E hq=>IsiPair.dict_list e c.1 (hq _),λQ E hq=>IsiPair.dict_tuple e c.1 (hq _)⟩
theorem Kp.mk'{tk:Nat}(k:∀ b o,s.heap.get? b=some o->h'.get? b=some o):Kp s { s with heap:=h',toks:=tk }:=⟨h',tk,rfl,k⟩
theorem Kp.mkh(k:∀ b o,s.heap.get? b=some o->h'.get? b=some o):Kp s { s with heap:=h' }:=⟨h',s.toks,rfl,k⟩
theorem oO{ke:Shared}(k0:Kp s ke)(k:Kp ke s')(hn:ke.heap.get? a=none)(hp:s'.heap.PlainList a vs.toArray)(hl:vs.length=ds.length)(hz:vs.length<=sizeLine)
  (h:∀ (i:Nat) (v:Value) (d:PyData),vs[i]?=some v->ds[i]?=some d->Rep ke.heap av v d):Kp s s'/\bD s s'.heap av (.ref a) (.own (.list ds)):=by
 refine⟨k0.tr k,Own.backp k0 ⟨a,rfl,hn,vs,hp,hl,hz,λi v d e1 e2=>((h i v d e1 e2).apart hn).keeps k.heap⟩⟩
theorem Ar{ke:Shared}{ds:List (PyData×PyData)}(k0:Kp s ke)(k:Kp ke s')(hn:ke.heap.get? a=none)(hm:(a==sysModules)=false)(hp:s'.heap.DictOf (strKind O w) a kvs)
  (hz:kvs.length<=sizeLine/\∀ kv∈kvs,kv.1.length<=sizeLine) (hl:ds.map (·.1)=kvs.map (λkv=>PyData.str kv.1))
  (h:∀ (i:Nat) (kv:Str×Value) (d:PyData×PyData),kvs[i]?=some kv->ds[i]?=some d->Rep ke.heap av kv.2 d.2):Kp s s'/\bD s s'.heap av (.ref a) (.own (.dict ds)):=by
 refine⟨k0.tr k,Own.backp k0 ⟨a,rfl,hn,kvs,hp,hz,hm,hl,λi v d e1 e2=>((h i v d e1 e2).apart hn).keeps k.heap⟩⟩
theorem oP(G:Gnd l av s):(s.heap.objs.size==sysModules)=false:=by
 have:sysModules < s.heap.objs.size:=PyProof.Rows.modules_low (G.glo.nolimit.keeps G.stay);exact beq_eq_false_iff_ne.mpr (bp this)
def leS(x y:Str):Prop:=¬ (y.cps.toList < x.cps.toList)
theorem As{z:Str}(h:leS x y)(h':leS y z):leS x z:=by
 have a:x.cps.toList<=y.cps.toList:=gu.mp h;have b:y.cps.toList<=z.cps.toList:=gu.mp h';exact gu.mpr (List.le_trans a b)
theorem Ss(h:leS x y)(h':leS y x):x=y:=by
 have a:x.cps.toList<=y.cps.toList:=gu.mp h;have b:y.cps.toList<=x.cps.toList:=gu.mp h';have:=List.le_antisymm a b;cases x;cases y;simp_all [Array.toList_inj]
theorem sQ(a:Str):∀ l,(fD a l).Perm (a::l)
 | []=>.refl _
 |b::r=>by
  show(if b.cps.toList < a.cps.toList then b::fD a r else a::b::r).Perm _
  split
  ·exact((sQ a r).cons b).trans (.swap a b r)
  ·exact .refl _
theorem sR:∀ l,(cQ l).Perm l
 | []=>.refl _
 |a::r=>(sQ a _).trans ((sR r).cons a)
theorem At(a:Str):∀ {l},l.Pairwise leS->(fD a l).Pairwise leS
 | [],_=>List.pairwise_singleton _ _
 |b::r,h=>by
  rw[gv] at h;show(if b.cps.toList < a.cps.toList then b::fD a r else a::b::r).Pairwise leS
  split
  ·rename_i hlt;rw[gv];refine⟨λx hx=>?_,At a h.2⟩;rcases List.mem_cons.mp ((sQ a r).mem_iff.mp hx) with rfl | hx
   ·exact gu.mpr (List.le_of_lt hlt)
   ·exact h.1 x hx
  ·rename_i hlt;rw[gv];refine⟨λx hx=>?_,by rw[gv];exact h⟩;rcases List.mem_cons.mp hx with rfl | hx
   ·exact hlt
   ·exact As hlt (h.1 x hx)
theorem Au:∀ l,(cQ l).Pairwise leS
 | []=>.nil
 |a::r=>At a (Au r)
theorem Av:∀ (p:Str) (l:List Str),PyProof.Rows.risingS p l=true->(p::l).Pairwise leS
 |p,[],_=>List.pairwise_singleton _ _
 |p,x::r,h=>by
  unfold PyProof.Rows.risingS at h;simp only[Bool.and_eq_true,Bool.not_eq_true'] at h;have hr:=Av x r h.2;have hpx:leS p x:=by
   have:=PyProof.Rows.lt_meets x p;rw[h.1,decide_eq_false_iff_not] at this;exact this
  rw[gv];refine⟨λy hy=>?_,hr⟩;rcases List.mem_cons.mp hy with rfl | hy
  ·exact hpx
  ·exact As hpx ((gv.mp hr).1 y hy)
theorem Su{l:List Str}(h:PyProof.Rows.sortedS l=true):l.Pairwise leS:=by
 cases l with
 |nil=>exact .nil
 |cons x r=>exact Av x r h
theorem Sw{l l':List Str}(h:PyProof.Rows.sortedS l'=true)(p:l'.Perm l):l'=cQ l :=
 List.Perm.eq_of_pairwise (le:=leS) (λ_ _ _ _ a b=>Ss a b) (Su h) (Au l) (p.trans (sR l).symm)
theorem Aw:∀ {ss:List Str} {ts:List Tok},ts.length=ss.length->PyProof.Rows.StrsAre (List.zipWith (λx t=>Value.str x t) ss ts) ss
 | [],[],_=>.nil
 | [],_::_,h=>by simp at h
 |_::_,[],h=>by simp at h
 |s::ss,t::ts,h=>.cons s t (Aw (by simpa using h))
theorem Sx:∀ {vs:List Value} {ss:List Str},PyProof.Rows.StrsAre vs ss->(∀ x∈ss,x.length<=sizeLine) ->
  vs.length=(ss.map PyData.str).length/\∀ (i:Nat) (v:Value) (d:PyData),vs[i]?=some v->(ss.map PyData.str)[i]?=some d->Rep h av v d
 := by
 intro vs ss r
 induction r with
 |nil=>exact λ_=>⟨rfl,λi v d e=>nomatch e⟩
 |cons y t r ih =>
  intro hx;obtain⟨h1,h2⟩:=ih λx hx'=>hx x (af _ hx');refine⟨congrArg Nat.succ h1,λi v d e1 e2=>?_⟩;cases i with
  |zero=>obtain rfl:=si e1;obtain rfl:=si e2;exact .str y t (hx y ac)
  |succ i=>exact h2 i v d e1 e2
theorem jI(h:n<=sizeLine):((n:Nat):Int) < 2 ^ 63:=by
 exact fx (cg.mpr (U h (aq sizeLine_eq)):(n:Int)<=16777216) (by decide)
abbrev YV(A:Around)(s:Shared)(av:Addr->Prop)(t:Sem Value)(p:P V):Prop :=
 Yd (λQ E=>wpAny (model O w) A t Q E s) (λv s' u=>Kp s s'/\bD s s'.heap av v u) p
theorem Sy(r:Rep s.heap av v d):YV A s av (call (.builtin "len") [v]) (aW d):=by
 cases d with
 |list l =>
  obtain⟨a,vs,rfl,h1,h2,h3,h4,h5⟩:=r.list_inv;show YV A s av _ (fz (.int l.length));rw[<- h3];exact λQ E hq=>Calls.call_len_list h2.isList (by simpa using jI h4) (hq _ _ ⟨Kp.tok' s _,.int _ _⟩)
 |tuple l =>
  obtain⟨a,vs,rfl,h1,⟨n,e⟩,h3,h4,h5⟩:=r.tuple_inv;show YV A s av _ (fz (.int l.length));rw[<- h3];exact λQ E hq=>P.len_tuple e (by simpa using jI h4) (hq _ _ ⟨Kp.tok' s _,.int _ _⟩)
 |str x =>
  obtain⟨t,rfl,hx⟩:=r.str_inv;exact λQ E hq=>P.len_str (Int.not_le.mpr (jI hx)) (hq _ _ ⟨Kp.tok' s _,Rep.int _ _⟩)
 |dict m =>
  obtain⟨a,kvs,rfl,h1,h2,h3,h4,h5,h6⟩:=r.dict_inv;have hl:m.length=kvs.length:=by simpa using congrArg List.length h5
  show YV A s av _ (fz (.int m.length));rw[hl];exact λQ E hq=>call_len_dict h4 h2 (jI h3.1) (hq _ _ ⟨Kp.tok' s _,.int _ _⟩)
 |_=>exact trivial
theorem Ax:∀ {vs:List Value} {ds:List PyData} {bs:List Bool},vs.length=ds.length->(∀ (i:Nat) (v:Value) (d:PyData),vs[i]?=some v->ds[i]?=some d->Rep h av v d) ->
  bools? ds=some bs->vs=bs.map Value.bool
 := by
 intro vs
 induction vs with
 |nil =>
  intro ds bs hl h e;cases ds with
  |nil=>obtain rfl:=si e;rfl
  |cons=>exact nomatch hl
 |cons v vs ih =>
  intro ds bs hl h e;cases ds with
  |nil=>exact nomatch hl
  |cons d ds =>
   cases d with
   |bool b =>
    obtain⟨bs',hb,rfl⟩:=bj.mp (show(bools? ds).map (b::·)=some bs from e);rw[ih (ds:=ds) (Nat.succ.inj hl) (λi v d e1 e2=>h (i+1) v d e1 e2) hb,(h 0 v _ rfl rfl).bool_inv];rfl
   |_=>exact ns e
theorem Sz(bs:List Bool):(List.range bs.length).all (λi=>(bs[i]?).getD true)=bs.all id:=by
 rw[eq,bb,bb];constructor
 ·intro h b hb;obtain⟨i,hi,rfl⟩:=List.mem_iff_getElem.mp hb;have:=h i (List.mem_range.mpr hi);simpa[bg hi] using this
 ·intro h i hi;have hi':=List.mem_range.mp hi;rw[bg hi'];exact h _ (ge hi')
theorem S0(hh:A.handled=none)(r:Rep s.heap av v d):YV A s av (call (.builtin "all") [v]) (b7 d):=by
 cases r with
 | @list a vs ds h1 h2 h3 h4 h5 =>
  show YV A s av _ (((ofO (bools? ds)).bind λbs=>.ok (bs.all id)).bind λb=>.ok (.fz (.bool b)));refine ocs (bools? ds) (λhb=>?_) λbs hb=>?_
  ·try rewrite[hb]
   exact trivial
  ·try rewrite[hb]
   have hv:=Ax h3 h5 hb;subst hv;intro Q E hq;have hli:s.heap.IsList a (bs.map Value.bool).toArray:=h2.isList;have hne:a≠s.heap.objs.size:=λe=>by
    obtain⟨o,ho,_⟩:=hli;rw[e,bP] at ho;exact ns ho
   refine call_all_walk (jp hli ⟨s.heap.objs.size,_,_,_,_,_,λi=>(bs[i]?).getD true,rfl,Walks.list (by exact hh) s.heap.objs.size a hne (bs.map Value.bool).toArray,
    ⟨⟨_,cE _ _ rfl,rfl,rfl⟩,by obtain⟨o,e,r⟩:=hli;exact⟨o,ai _ e,r⟩⟩,λi v s Q E hP hQ=>?_,λh' tk hk=>?_⟩)
   ·have hP:(bs.map Value.bool).toArray[i]?=some v:=hP;rw[List.getElem?_toArray,List.getElem?_map] at hP;refine ocs (bs[i]?) (λhbi=>?_) λb hbi=>?_
    ·rw[hbi] at hP;exact ns hP
    ·rw[hbi] at hP;obtain rfl:=si hP;exact dw (by simpa[hbi] using hQ)
   ·have e:(List.range ((bs.map Value.bool).toArray.size)).all (λi=>(bs[i]?).getD true)=bs.all id:=by simpa using Sz bs
    rw[e];refine hq _ _ ⟨⟨h',tk,rfl,λb o e=>hk b o (λhb=>?_) (ai _ e)⟩,.bool _⟩;rw[List.mem_singleton.mp hb,bP] at e;exact ns e
 |_=>exact trivial
theorem Ay{out:Array Value}{ss':List Str}(k:Kp s s')(hn:s.heap.get? a=none)(he:∃ e,s'.heap.get? a=some (PyProof.Rows.seqObj "list" out e))(hS:PyProof.Rows.StrsAre out.toList ss')(hp:ss'.Perm ss)(hso:PyProof.Rows.sortedS ss'=true)
  (h3:∀ x∈ss,x.length<=sizeLine) (hlt:ss.length < 64):Kp s s'/\bD s s'.heap av (.ref a) (.own (.list ((cQ ss).map .str))):=by
 obtain rfl:=Sw hso hp;obtain⟨q1,q2⟩:=Sx (h:=s.heap) (av:=av) hS λx hx=>h3 x (hp.mem_iff.mp hx);obtain⟨e,he⟩:=he;refine oO (vs:=out.toList) (Kp.rfl' s) k hn ⟨e,by simpa using he⟩ q1 ?_ q2;simp only[q1,List.length_map,(sR ss).length_eq];exact U (bh hlt) (by decide)
theorem S1{acc:List Value}(hl:acc.length=kvs.length)(h:∀ (i:Nat) (v:Value),acc[i]?=some v->∃ k x,kvs[i]?=some (k,x)/\(strKind O w).is k v=true):PyProof.Rows.StrsAre acc (kvs.map (·.1)):=by
 induction kvs generalizing acc with
 |nil=>cases acc with
  |nil=>exact .nil
  |cons=>cases hl
 |cons kv r ih =>
  cases acc with
  |nil=>cases hl
  |cons v acc =>
   obtain⟨k,x,e,hk⟩:=h 0 v rfl;obtain rfl:=si e;obtain⟨t,rfl⟩:=Value.isStrOf_shape hk;exact .cons k t (ih (Nat.succ.inj hl) λi v e=>h (i+1) v e)
theorem S2(kvs:List (Str×Value)):strs? (kvs.map λkv=>PyData.str kv.1)=some (kvs.map (·.1)):=by
 induction kvs with
 |nil=>rfl
 |cons kv r ih =>
  show(strs? (r.map _)).map _=_;simp only[ih];rfl
theorem S3(hh:A.handled=none)(r:Rep s.heap av v d):YV A s av (call (.builtin "sorted") [v]) (kH d):=by
 cases d with
 |list l =>
  obtain⟨a,vs,rfl,h1,h2,h3,h4,h5⟩:=r.list_inv;refine Yd.optBind λss hs=>Yd.ite λhlt=>?_;obtain⟨ts,e1,rfl,e3⟩:=fX h3 h5 hs;intro Q E hq;refine PyProof.Rows.sorted_strs h2.isList (Aw e1) (by simpa[e1] using hlt) λout ss' hS hp hso=>?_;exact hq _ _ (Ay (Kp.mkh λb o e=>PyProof.Rows.sortedAll_old e) (ft (al _ _)) (PyProof.Rows.sortedAll_at s.heap _ out) hS hp hso e3 hlt)
 |dict l =>
  obtain⟨a,kvs,rfl,h1,⟨o,es,ep,hd⟩,h3,h4,h5,h6⟩:=r.dict_inv;show YV A s av _ (m8 (l.map (·.1)));unfold m8;rw[h5,S2];refine Yd.ite λhlt=>?_;intro Q E hq;refine Calls.call_function_entry PyProof.Rows.kind_sorted PyProof.Rows.plain_sorted PyProof.Rows.entry_sorted (PyProof.Rows.args_sorted1 _) ?_;unfold Builtin.«sorted»;refine aa (m:=checkCount "sorted" 1 1 _) (ag ?_);refine aa (W.kdu_collect (A:=A.in1) (W.kdl_dict (knd:=strKind O w) (kvs:=kvs) (ep:=ep) h4) hh ⟨o,es,hd⟩ h3.1 λh' tk acc hk hacc=>?_);have hl:acc.toList.length=kvs.length:=by rw[Array.length_toList];exact hacc.1
  refine aa (wpAny_newList ?_ (by rw[hl];exact h3.1));have hS:=S1 hl λi v e=>hacc.2 i v (by rw[<- Array.getElem?_toList];exact e);have hoL:(h'.push { cls:=.type "list", data:=.seq acc.toList.toArray }).get? h'.objs.size=some (PyProof.Rows.seqObj "list" acc.toList.toArray 0):=ck _ rfl;have h64:acc.toList.length < 64:=by rw[hl];simpa using hlt
  refine aa (bl (gz PyProof.Rows.slot_list_sort ⟨_,hoL,rfl⟩ PyProof.Rows.entry_list_sort (PyProof.Rows.list_sort_treeK PyProof.Rows.strKind_oneLt hoL hS.keysOf (λmh mi rest e=>PyProof.Rows.keyKind_strs (by rw[<- e];exact hS)) h64 λst' hp hs=>⟨_,rfl,?_⟩) (PyProof.Rows.args_list_sort _)));obtain⟨ss',g1,g2,g3⟩:=PyProof.Rows.sorted_out_str hS hp hs;have hold:∀ b o,s.heap.get? b=some o->(PyProof.Rows.sortedHeap (h'.push { cls:=.type "list", data:=.seq acc.toList.toArray }) h'.objs.size acc.toList ((PyProof.Rows.arrOf st').map (·.2))).get? b=some o:=λb o e=>by
   have e1:=hk b o e;have hlt:=bx e1;rw[PyProof.Rows.sortedHeap_old (cu hlt) (by rw[PyProof.Rows.size_push'];exact fm hlt)];exact ai _ e1
  have hn:s.heap.get? h'.objs.size=none:=by
   refine ocs (s.heap.get? h'.objs.size) (λhb=>?_) λo hb=>?_
   ·try rewrite[hb]
    rfl
   ·exact absurd (bx (hk _ _ hb)) (iu _)
  have hz:∀ x∈kvs.map (·.1),x.length<=sizeLine:=λx hx=>by
   obtain⟨kv,hkv,rfl⟩:=bq.mp hx;exact h3.2 kv hkv
  have kk:=Kp.mk' (tk:=tk) hold;have at':=PyProof.Rows.sortedHeap_at (out:=(PyProof.Rows.arrOf st').map (·.2)) hoL;generalize PyProof.Rows.sortedHeap (h'.push { cls:=.type "list", data:=.seq acc.toList.toArray }) h'.objs.size acc.toList ((PyProof.Rows.arrOf st').map (·.2))=H at kk at';exact ag ⟨_,rfl,hq _ _ (Ay kk hn at' g1 g2 g3 hz hlt)⟩
 |_=>exact trivial
theorem S4(hh:A.handled=none)(r:Rep s.heap av v d):YV A s av (call (.type "list") [v]) (fT d):=by
 cases d with
 |dict l =>
  obtain⟨a,kvs,rfl,h1,⟨o,es,ep,hd⟩,h3,h4,h5,h6⟩:=r.dict_inv;intro Q E hq;refine W.kdl_call (W.kdl_dict (knd:=strKind O w) (kvs:=kvs) (ep:=ep) h4) hh ⟨o,es,hd⟩ h3.1 λh' tk acc c' hk he hit=>?_;have hsz:acc.toList.length=kvs.length:=by simpa using hit.1
  refine hq _ _ (oO (vs:=acc.toList) (Kp.rfl' s) (Kp.mk' hk) (bP _) ⟨c',by simpa using he⟩ (by simp only[hsz,h5,List.length_map]) (hsz▸h3.1) λi v d e1 e2=>?_);obtain⟨k,x,e3,e4⟩:=hit.2 i v (by simpa using e1);obtain⟨t,rfl⟩:=Value.isStrOf_shape e4;simp only[h5,List.getElem?_map,e3] at e2;obtain rfl:=si e2;exact .str k t (h3.2 _ (cj e3))
 |list l =>
  obtain⟨a,vs,rfl,h1,⟨n,h2⟩,h3,h4,h5⟩:=r.list_inv;intro Q E hq;exact call_list_seq a (.inl rfl) h2 rfl rfl (λh' c' hk he=>hq _ _ (oO (Kp.rfl' s) (Kp.mkh hk) (bP _) ⟨c',he⟩ h3 h4 h5)) (by simpa using h4)
 |tuple l =>
  obtain⟨a,vs,rfl,h1,⟨n,h2⟩,h3,h4,h5⟩:=r.tuple_inv;intro Q E hq;exact call_list_seq a (.inr rfl) h2 rfl rfl (λh' c' hk he=>hq _ _ (oO (Kp.rfl' s) (Kp.mkh hk) (bP _) ⟨c',he⟩ h3 h4 h5)) (by simpa using h4)
 |_=>exact trivial
theorem S5(ha:∀ b,av b->∃ o,s.heap.get? b=some o)(r:Rep s.heap av v d):YV A s av (call (.type "tuple") [v]) (bJ d):=by
 cases d with
 |list l =>
  obtain⟨a,vs,rfl,h1,h2,h3,h4,h5⟩:=r.list_inv;intro Q E hq;refine call_tuple_list h2.isList (λh' hk=>?_) (by simpa using h4);exact hq _ _ (lB (ke:={ s with heap:=h' }) (Kp.mkh hk) (λb hb=>by obtain⟨o,e⟩:=ha b hb;exact⟨o,hk _ _ e⟩) h3 h4 λi v d e1 e2=>(h5 i v d e1 e2).keeps hk)
 |_=>exact trivial
theorem S6(hs:Heap.SameBut h.objs.size (h.push o) h'):∀ b o',h.get? b=some o'->h'.get? b=some o':=by
 intro b o' e;have hb:b≠h.objs.size:=λhh=>by rw[hh,bP] at e;exact ns e
 rw[hs.2 b hb];exact ai _ e
theorem S7(r:Rep s.heap av v d):YV A s av (call (.type "int") [v]) (cL d):=by
 cases d with
 |bool b =>
  obtain rfl:=r.bool_inv;exact λQ E hq=>call_int_bool (hq _ _ ⟨Kp.tok' s _,.int _ _⟩)
 |str x =>
  obtain⟨t,rfl,hx⟩:=r.str_inv;exact Yd.ite λhl=>Yd.optBind λi hi Q E hq=>W.KIN.call_text hi hl (hq _ _ ⟨Kp.tok' s _,.int _ _⟩)
 |_=>exact trivial
theorem S8(r:Rep s.heap av v d):YV A s av (call (.type "str") [v]) (hU d):=by
 cases d with
 |str x =>
  obtain⟨t,rfl,hx⟩:=r.str_inv;exact λQ E hq=>P.str_of_str (hq _ _ ⟨Kp.rfl' s,.str x t hx⟩)
 |int i =>
  obtain⟨t,rfl⟩:=r.int_inv;exact Yd.ite λhl Q E hq=>P.str_of_int hl (hq _ _ ⟨Kp.tok' s _,.str _ _ (int_text_fits hl)⟩)
 |_=>exact trivial
theorem S9(r:Rep s.heap av v d):YV A s av (call (.builtin "abs") [v]) (q0 d):=by
 cases d with
 |int i =>
  obtain⟨t,rfl⟩:=r.int_inv;exact λQ E hq=>PyProof.Rows.call_abs_int λu tk=>hq _ _ ⟨Kp.tok' s _,.int _ _⟩
 |_=>exact trivial
end
section
open PySem.StrLaws PySem.Builtin PySem.Builtin.Str
theorem Az(c:Nat):∀ (p:List Nat),c∉p->aQ c p=[p]:=by
 intro v0
 induction v0 with
 |nil =>
  intro _;exact rfl
 |cons x r ih =>
  intro h;have h1:¬ x=c:=λe=>h (e▸ac ..);unfold aQ;rw[if_neg h1,ih λm=>h (af _ m)]
theorem A0(c:Nat)(l:List Nat):∀ (p:List Nat),c∉p->aQ c (p++c::l)=p::aQ c l:=by
 intro v0
 induction v0 with
 |nil =>
  intro _;show aQ c (c::l)=_;rw[aQ,if_pos rfl]
 |cons x r ih =>
  intro h;have h1:¬ x=c:=λe=>h (e▸ac ..);show aQ c (x::(r++c::l))=_;rw[aQ,if_neg h1,ih λm=>h (af _ m)]
theorem sU(z p q:Str)(r:List Str):(Str.join z (p::q::r)).cps.toList=p.cps.toList++z.cps.toList++(Str.join z (q::r)).cps.toList:=by
 show(p++z++Str.join z (q::r)).cps.toList=_;simp only[Str.cps_append,Array.toList_append]
theorem Ta(c:Nat):∀ (ps:List Str),ps≠[]->(∀ p∈ps,c∉p.cps.toList)->aQ c (Str.join ⟨#[c]⟩ ps).cps.toList=ps.map λp=>p.cps.toList:=by
 intro v0
 induction v0 with
 |nil =>
  intro h _;exact absurd rfl h
 |cons p r0 ih =>
  cases r0 with
  |nil =>
   intro _ h;exact Az c _ (h p (List.mem_singleton.mpr rfl))
  |cons q r =>
   intro _ h;rw[sU,cv];show aQ c (p.cps.toList++c::(Str.join ⟨#[c]⟩ (q::r)).cps.toList)=_;rw[A0 c _ _ (h p (ac ..)),ih (λe=>nomatch e) λa ha=>h a (af _ ha)];rfl
theorem A1(c:Nat)(b:List Nat):∀ (p:List Nat),c∉p->bR c b p=p:=by
 intro v0
 induction v0 with
 |nil =>
  intro _;exact rfl
 |cons x r ih =>
  intro h;have h1:¬ x=c:=λe=>h (e▸ac ..);show(if x=c then b else [x])++bR c b r=_;rw[if_neg h1,ih λm=>h (af _ m)];rfl
theorem A2(c:Nat)(b p q:List Nat):bR c b (p++q)=bR c b p++bR c b q:=List.flatMap_append
theorem Tc(c:Nat)(z:Str):∀ (ps:List Str),(∀ p∈ps,c∉p.cps.toList)->bR c z.cps.toList (Str.join ⟨#[c]⟩ ps).cps.toList=(Str.join z ps).cps.toList:=by
 intro v0
 induction v0 with
 |nil =>
  intro _;exact rfl
 |cons p r0 ih =>
  cases r0 with
  |nil =>
   intro h;exact A1 c _ _ (h p (List.mem_singleton.mpr rfl))
  |cons q r =>
   intro h;rw[sU,sU,A2,A2,A1 c _ _ (h p (ac ..)),ih λa ha=>h a (af _ ha)];have:bR c z.cps.toList [c]=z.cps.toList:=by
    show(if c=c then z.cps.toList else [c])++[]=_;rw[if_pos rfl,bz]
   show _++bR c z.cps.toList [c]++_=_;rw[this]
theorem Td(x y:Str):Txt.split x y≠[]:=by
 unfold Txt.split
 split
 ·exact λe=>nomatch e
 ·split
  ·exact λe=>nomatch e
  ·rw[partsBetween_eq];cases occurrences x y 0 x.length (x.length+1)<;>exact λe=>nomatch e
theorem Te(x:Str)(c:Nat):(Txt.split x ⟨#[c]⟩).map (λp=>p.cps.toList)=aQ c x.cps.toList:=by
 rw[<- Ta c _ (Td x _) (split_free x c),join_split]
theorem Tf(x z:Str)(c:Nat):Txt.replace x ⟨#[c]⟩ z=⟨(bR c z.cps.toList x.cps.toList).toArray⟩:=by
 rw[replace_one];have:=Tc c z _ (split_free x c);rw[join_split] at this;rw[this]
theorem Th{p:List Nat}(h:32∉p)(hn:p≠[]):aY p=[p]:=by
 unfold aY;rw[Az 32 p h];cases p with
 |nil=>exact absurd rfl hn
 |cons=>rfl
theorem Ti{p:List Nat}(l:List Nat)(h:32∉p)(hn:p≠[]):aY (p++32::l)=p::aY l:=by
 unfold aY;rw[A0 32 l p h];cases p with
 |nil=>exact absurd rfl hn
 |cons=>rfl
theorem Tj(l:List Nat):aY (32::l)=aY l:=by
 unfold aY;rw[aQ,if_pos rfl];rfl
theorem Tl:∀ c,bW c=true->Unicode.isSpace c=decide (c=32):=by
 have:∀ c,c < 127->bW c=true->Unicode.isSpace c=decide (c=32):=by decide
 exact λc h=>this c (of_decide_eq_true h).2 h
noncomputable def cut(L:List Nat)(i j:Nat):List Nat:=(L.drop i).take (j - i)
theorem Tm(x:Str)(i j:Nat):(strSub x i j).cps.toList=cut x.cps.toList i j:=by
 unfold strSub cut;rw[Array.toList_extract,List.extract_eq_take_drop]
def Tn(L:List Nat)(cur:Nat):Option Nat->List (List Nat)
 |none=>aY (L.drop cur)
 |some b=>aY (cut L b cur++L.drop cur)
theorem oQ{L:List Nat}{b cur:Nat}(h:b<=cur)(hc:cur < L.length):cut L b (cur+1)=cut L b cur++[L[cur]]:=by
 unfold cut;rw[Nat.succ_sub h,List.take_add_one,jm,Nat.add_sub_cancel' h,bg hc];rfl
theorem To(x:Str)(hp:∀ c∈x.cps.toList,bW c=true):∀ (m cur:Nat) (ws:Array (Nat×Nat)) (st:Option Nat),cur+m=x.length->ws.size<=cur->(∀ b,st=some b->b < cur/\32∉cut x.cps.toList b cur) ->
  (swEnd x (forIn (List.range' cur m) ((none,ws,st):SwSt) (swBody x (x.length+1))).run).map (λp=>cut x.cps.toList p.1 p.2)=ws.toList.map (λp=>cut x.cps.toList p.1 p.2)++Tn x.cps.toList cur st:=by
 intro v0
 induction v0 with
 |zero =>
  intro cur ws st hm hs hb;have hl:x.cps.toList.length=cur:=by rw[Nat.add_zero] at hm;exact hm.symm▸(Array.length_toList)
  have hd:x.cps.toList.drop cur=[]:=List.drop_eq_nil_of_le (aq hl);cases st with
  |none =>
   show ws.toList.map _=_++aY (x.cps.toList.drop cur);rw[hd];exact(bz _).symm
  |some b =>
   obtain⟨h1,h2⟩:=hb b rfl;show(ws.push (b,x.length)).toList.map _=_++aY (cut x.cps.toList b cur++x.cps.toList.drop cur);rw[hd,bz,Th h2 (λe=>by have:=congrArg List.length e;unfold cut at this;rw[List.length_take,List.length_drop,hl] at this;simp at this;omega),Array.toList_push,bu];rw[Nat.add_zero] at hm;rw[<- hm];rfl
 |succ m ih =>
  intro cur ws st hm hs hb;have hc:cur < x.cps.toList.length:=by rw[Array.length_toList];have:cur+(m+1)=x.cps.size:=hm;exact Qf this
  have hg:x.cps.getD cur 0=x.cps.toList[cur]:=by
   rw[Array.getD,dif_pos (by simpa using hc)];simp
  have hsp:=Tl _ (hp _ (ge hc));have hd:x.cps.toList.drop cur=x.cps.toList[cur]::x.cps.toList.drop (cur+1):=List.drop_eq_getElem_cons hc;have hsz:¬ ((ws.size==x.length+1)=true):=by rw[beq_iff_eq];exact Qg hm hs
  rw[List.range'_succ,List.forIn_cons];unfold swBody;simp only[hsz,if_false,hg,hsp]
  by_cases hx:x.cps.toList[cur]=32
  ·rw[decide_eq_true hx];cases st with
   |none =>
    refine(ih (cur+1) ws none (by exact kC hm) (by exact qY hs) nofun).trans ?_;show _++aY _=_++aY _;rw[hd,hx,Tj]
   |some b =>
    obtain⟨h1,h2⟩:=hb b rfl;refine(ih (cur+1) (ws.push (b,cur)) none (by exact kC hm) (by rw[Array.size_push];exact Qh hs) nofun).trans ?_;show _++aY _=_++aY _;rw[hd,hx,Ti _ h2 (λe=>by have:=congrArg List.length e;have hc2:=hc;rw[Array.length_toList] at hc2;unfold cut at this;rw[List.length_take,List.length_drop] at this;simp at this;omega),Array.toList_push,bu,cv];rfl
  ·rw[decide_eq_false hx];cases st with
   |none =>
    refine(ih (cur+1) ws (some cur) (by exact kC hm) (by exact qY hs) λb hb=>?_).trans ?_
    ·obtain rfl:=Option.some.inj hb;rw[oQ (ae _) hc];unfold cut;rw[Nat.sub_self,List.take_zero];exact⟨cz _,λh=>hx (List.mem_singleton.mp h).symm⟩
    ·show _++aY _=_++aY _;rw[hd,oQ (ae _) hc];unfold cut;rw[Nat.sub_self,List.take_zero];rfl
   |some b =>
    obtain⟨h1,h2⟩:=hb b rfl;refine(ih (cur+1) ws (some b) (by exact kC hm) (by exact qY hs) λb' hb'=>?_).trans ?_
    ·obtain rfl:=Option.some.inj hb';rw[oQ (bh h1) hc];exact⟨fm h1,λh=>(bv.mp h).elim h2 λh=>hx (List.mem_singleton.mp h).symm⟩
    ·show _++aY _=_++aY _;rw[hd,oQ (bh h1) hc,cv];rfl
theorem A3(x:Str)(hp:∀ c∈x.cps.toList,bW c=true):(spaceWords x (x.length+1)).map (λp=>cut x.cps.toList p.1 p.2)=aY x.cps.toList:=by
 have key:=To x hp x.length 0 #[] none (ce _) (ae _) nofun;rw[<- sw_eq] at key;exact key
theorem sV(c:Nat):∀ (L:List Nat),(aQ c L).length<=L.length+1/\∀ p∈aQ c L,p.length<=L.length:=by
 intro v0
 induction v0 with
 |nil =>
  exact⟨ae _,λp hp=>by obtain rfl:=List.mem_singleton.mp hp;exact ae _⟩
 |cons x r ih =>
  obtain⟨h1,h2⟩:=ih;unfold aQ
  by_cases hx:x=c
  ·rw[if_pos hx];refine⟨ah h1,λp hp=>?_⟩;rcases List.mem_cons.mp hp with rfl | hp
   ·exact am _
   ·exact bn (h2 p hp)
  ·rw[if_neg hx];cases hq:aQ c r with
   |nil=>exact⟨ak 1 _,λp hp=>by obtain rfl:=List.mem_singleton.mp hp;exact ak 1 _⟩
   |cons w ws =>
    rw[hq] at h1 h2;refine⟨bn h1,λp hp=>?_⟩;rcases List.mem_cons.mp hp with rfl | hp
    ·exact ah (h2 w ac)
    ·exact bn (h2 p (af _ hp))
theorem Tp(x:Str)(hp:∀ c∈x.cps.toList,bW c=true):(Txt.words x).map (λp=>p.cps.toList)=aY x.cps.toList:=by
 have key:=A3 x hp;unfold Txt.words
 by_cases hw:(spaceWords x (x.length+1)==[(0,x.length)])=true
 ·rw[if_pos hw];rw[eq_of_beq hw] at key;rw[<- key];show[x.cps.toList]=[cut x.cps.toList 0 x.length];unfold cut;rw[List.drop_zero,ic (by simp[Str.length])]
 ·rw[if_neg hw,<- key];unfold wordsOf;rw[List.map_map];exact jq λp _=>Tm x p.1 p.2
end
theorem Tq:typeLookup (.type "list") "keys" = pure none:=by rw[typeLookup_type,builtinLookup_eq_fast];kernel_rfl
theorem Ts:typeLookup (.type "list") "__getattr__" = pure none:=by rw[typeLookup_type,builtinLookup_eq_fast];kernel_rfl
section
variable {g:Array GenState}{d:Drawn}{t:Nat}{os:OsState}{xs:Array Value}
theorem Tt{tk:Tok}{Q:PySem.Fin->Shared->Prop}(hx:h.get? a=some { cls:=.type "list", data:=.seq xs n })(hh:A.handled=none)
  (hq:∀ h' tk' e,Heap.NewAttrErr h h' e (.ref a) (Str.ofString "keys")->E (.ref e) ⟨h',g,d,tk',os⟩) :
  wpAny (model O w) A (Builtin.«object.__getattribute__» ⟨[.ref a,.str "keys" tk],[]⟩) Q E ⟨h,g,d,t,os⟩:=by
 have hT:(⟨h,g,d,t,os⟩:Shared).TypeIs (.ref a) "list" := ⟨_,hx,rfl⟩
 have f4:=Tq
 repeat (any_goals (first | assumption | wp_step))
 exact wpAny_raiseAttrError hh hq (attrMsg_fits (by decide +kernel) (by decide +kernel))
theorem Tu{tk:Tok}{R:Result->Shared->Prop}(hx:h.get? a=some { cls:=.type "list", data:=.seq xs n })(hh:A.handled=none)
  (hq:∀ h' tk' e,Heap.NewAttrErr h h' e (.ref a) (Str.ofString "keys")->R (.error (.ref e)) ⟨h',g,d,tk',os⟩) :
  codeAny (model O w) A (.call (.builtin "list.__getattribute__") ⟨[.ref a,.str "keys" tk],[]⟩) R ⟨h,g,d,t,os⟩ :=
 codeAny_call_builtin F.slot_list_getattribute.plain F.entry_list_ga (F.slot_list_getattribute.check _ _ _ _ _ _ _ _ (show(⟨h,g,d,t,os⟩:Shared).TypeIs (.ref a) "list" from ⟨_,hx,rfl⟩) (F.args_list_getattribute_2 _ _) (Tt hx hh hq))
theorem Tv{Q:Option Value->Shared->Prop}(hx:h.get? a=some { cls:=.type "list", data:=.seq xs n })(hh:A.handled=none)
  (hq:∀ h' tk',(∀ b o,h.get? b=some o->h'.get? b=some o)->Q none ⟨h',g,d,tk',os⟩):wpAny (model O w) A (getAttr? (.ref a) "keys") Q E ⟨h,g,d,t,os⟩:=by
 have hT:(⟨h,g,d,t,os⟩:Shared).TypeIs (.ref a) "list" := ⟨_,hx,rfl⟩
 have f1:=sub_AttributeError;have f2:=F.slot_list_getattribute.lookup;have f3:=F.slot_list_getattribute.bind (.ref a);have f5:=Ts;unfold getAttr? getAttrBy? getAttrBy
 repeat (any_goals (first | assumption | wp_step))
 refine Tu hx hh λh' tk' e hx=>?_;obtain⟨t',u',he⟩:=hx.there
 repeat (any_goals (first | assumption | wp_step))
 exact hq _ _ hx.keeps
end
theorem A4:entryFor table "dict.update.loop" = some Builtin.«dict.update.loop»:=entryFor_of_tree (by kernel_rfl)
theorem oR:plainId "dict.update.loop" = true:=by decide +kernel
section
def iF(h:Heap):List Value->List (Str×Value)->Prop
 | [],[]=>True
 |v::vs,kv::kvs=>(∃ a t,v=.ref a/\PlT h a #[.str kv.1 t,kv.2])/\iF h vs kvs
 |_,_=>False
theorem iF.at:∀ {vs:List Value} {kvs:List (Str×Value)},iF h vs kvs->∀ {i:Nat} {v:Value},vs[i]?=some v->∃ kv a t,kvs[i]?=some kv/\v=.ref a/\PlT h a #[.str kv.1 t,kv.2]
 |_::_,_::_,p,0,_,e=>by obtain rfl:=si e;obtain⟨a,t,h1,h2⟩:=p.1;exact⟨_,a,t,rfl,h1,h2⟩
 |_::_,_::_,p,i+1,_,e=>p.2.at (i:=i) e
 | [],[],_,i,_,e=>by exact ns e
 | [],_::_,p,_,_,_=>p.elim
 |_::_,[],p,_,_,_=>p.elim
theorem iF.len:∀ {vs:List Value} {kvs:List (Str×Value)},iF h vs kvs->vs.length=kvs.length
 | [],[],_=>rfl
 |_::_,_::_,p=>congrArg Nat.succ p.2.len
 | [],_::_,p=>p.elim
 |_::_,[],p=>p.elim
theorem Tw{R:Result->Shared->Prop}(hh:A.handled=none){l:Addr}(hlI:l≠I)(hDI:D≠I)(hDl:D≠l)(hn:kvs.length<=sizeLine){lj:Heap}(hp:iF lj vs kvs)(hD0:lj.get? D=none)(hI0:lj.get? I=none):
  ∀ (k i:Nat) (s:Shared),kvs.length - i=k->i<=kvs.length->s.heap.IsListIter I l i/\s.heap.IsList l vs.toArray->(∀ b o,lj.get? b=some o->s.heap.get? b=some o)->s.heap.DictOf (strKind O w) D (merged [] (kvs.take i)) ->
   (∀ h' tk,(∀ b o,lj.get? b=some o->h'.get? b=some o)->h'.DictOf (strKind O w) D (merged [] kvs)->R (.ok (.ret .none)) { s with heap:=h',toks:=tk }) ->
   codeAny (model O w) A (.builtin "dict.update.loop" ⟨[.ref D,.ref I,rawInt i,.none],[]⟩) R s:=by
 have W:=@Walks.list O w A.in1 hh I l hlI vs.toArray;have hlen:=hp.len;have new:∀ b o,lj.get? b=some o->b≠D/\b≠I:=λb o e=>⟨λx=>by (rw[x,hD0] at e;exact ns e),λx=>by (rw[x,hI0] at e;exact ns e)⟩
 intro k
 induction k with
 |zero =>
  intro i s hk hi hst hkeep hd hR;have hin:i=kvs.length:=by exact xG hk hi
  subst hin;refine codeAny_builtin A4 ?_;rw[Around.under_plainId oR _];show wpAny _ A.in1 (pyNext (.ref I) >>= _) _ _ s;refine aa (W.done s _ _ (by rw[cw,hlen];exact hst) λh' tk hk'=>?_);rw[jo] at hd;refine aa (ag (ag (hR h' tk (λb o e=>hk' b o (λhb=>(new b o e).2 (List.mem_singleton.mp hb)) (hkeep b o e)) ?_)));obtain⟨o,es,ep,e,r⟩:=hd;exact⟨o,es,ep,hk' _ _ (λhb=>hDI (List.mem_singleton.mp hb)) e,r⟩
 |succ k ih =>
  intro i s hk hi hst hkeep hd hR;have hlt:i < kvs.length:=by exact xH hk
  refine codeAny_builtin A4 ?_;rw[Around.under_plainId oR _];show wpAny _ A.in1 (pyNext (.ref I) >>= _) _ _ s;refine aa (W.item i s _ _ (by rw[cw,hlen];exact hlt) hst λv h' tk hP hst' hm=>?_);obtain⟨kv,a,t,e1,rfl,n,e2⟩:=hp.at (by simpa using hP);have hm':∀ b o,lj.get? b=some o->h'.get? b=some o:=λb o e=>hm b o (λhb=>(new b o e).2 (List.mem_singleton.mp hb)) (hkeep b o e);have hd':h'.DictOf (strKind O w) D (merged [] (kvs.take i)):=by
   obtain⟨o,es,ep,e,r⟩:=hd;exact⟨o,es,ep,hm _ _ (λhb=>hDI (List.mem_singleton.mp hb)) e,r⟩
  have ha:=hm' _ _ e2;refine aa (bl (aa (wpAny_tryCatch ?_)));unfold Builtin.Dict.pairItems;refine aa (wpAny_typeOf (T := "tuple") ⟨_,ha,rfl⟩ ?_);rw[if_pos (by decide)];refine aa (ew ha rfl (ag ?_));show wpAny _ _ (holding [Value.str kv.1 t,kv.2] (dictSet D (.str kv.1 t) kv.2)) _ _ _;have hz:(merged ([]:List (Str×Value)) (kvs.take i)).length<=sizeLine:=U (merged_length_le _ _) (by simp;exact G9 hn);refine bl (wpAny_dictSet_pairs (knd:=strKind O w) (eS kv.1 t) hd' (λh'' hd'' hs=>?_) hz);rw[<- merged_take_succ [] kvs i kv e1] at hd'';have ks:∀ b o,b≠D->h'.get? b=some o->h''.get? b=some o:=λb o hb e=>by rw[hs.2 b hb];exact e
  refine ag ⟨plainId_quiet oR _,?_⟩;refine ih (i+1) _ (by exact xI hk) hlt ?_ (λb o e=>ks b o (new b o e).1 (hm' b o e)) hd'' hR;exact W.frame _ h' _ hst' λb hb o e=>ks b o (λx=>by
   subst x;rcases List.mem_cons.mp hb with hb | hb
   ·exact hDI hb
   ·exact hDl (List.mem_singleton.mp hb)) e
end
section
def KV(h:Heap)(av:Addr->Prop):List (Str×Value)->List (PyData×PyData)->Prop
 | [],[]=>True
 |kv::r,d::t=>d.1=.str kv.1/\Rep h av kv.2 d.2/\KV h av r t
 |_,_=>False
theorem KV.out:∀ {kvs:List (Str×Value)} {ds:List (PyData×PyData)},KV h av kvs ds ->
  ds.map (·.1)=kvs.map (λkv=>PyData.str kv.1)/\∀ (i:Nat) (kv:Str×Value) (d:PyData×PyData),kvs[i]?=some kv->ds[i]?=some d->Rep h av kv.2 d.2
 | [],[],_=>⟨rfl,λi kv d e=>by simp at e⟩
 |kv::r,d::t,x=>by
  obtain⟨x1,x2,x3⟩:=x;obtain⟨y1,y2⟩:=KV.out x3;refine⟨by simp[x1,y1],λi kv' d' e1 e2=>?_⟩;cases i with
  |zero=>simp at e1 e2;subst e1;subst e2;exact x2
  |succ i=>exact y2 i kv' d' (by simpa using e1) (by simpa using e2)
 | [],_::_,x=>x.elim
 |_::_,[],x=>x.elim
theorem KV.of:∀ {kvs:List (Str×Value)} {ds:List (PyData×PyData)},ds.map (·.1)=kvs.map (λkv=>PyData.str kv.1) ->
  (∀ (i:Nat) (kv:Str×Value) (d:PyData×PyData),kvs[i]?=some kv->ds[i]?=some d->Rep h av kv.2 d.2)->KV h av kvs ds
 | [],[],_,_=>trivial
 |kv::r,d::t,e,x=>by
  simp at e;exact⟨e.1,x 0 kv d rfl rfl,KV.of (by simpa using e.2) λi kv d e1 e2=>x (i+1) kv d (by simpa using e1) (by simpa using e2)⟩
 | [],_::_,e,_=>by simp at e
 |_::_,[],e,_=>by simp at e
theorem KV.mono(hk:∀ b o,¬ av b->h.get? b=some o->h'.get? b=some o)(ha:∀ b o,h.get? b=some o->av' b->av b):∀ {kvs:List (Str×Value)} {ds:List (PyData×PyData)},
  KV h av kvs ds->KV h' av' kvs ds
 | [],[],_=>trivial
 |_::_,_::_,x=>⟨x.1,x.2.1.mono hk ha,x.2.2.mono hk ha⟩
 | [],_::_,x=>x.elim
 |_::_,[],x=>x.elim
theorem Tx{v0:Value}{r:List (Str×Value)}{k:Str}(hn:(((y,v0)::r).map (·.1)).Nodup):stored ((y,v0)::r) k v=if k=y then (y,v)::r else (y,v0)::stored r k v:=by
 unfold stored
 by_cases h:k=y
 ·subst h;simp only[List.any_cons,decide_true,Bool.true_or,if_true,List.map_cons];congr 1;have hn':k∉r.map (·.1):=(bo.mp (show(k::r.map (·.1)).Nodup from hn)).1;have:∀ kv∈r,(if kv.1=k then (kv.1,v) else kv)=kv:=λkv hkv=>by
   rw[if_neg];intro e;exact hn' (e▸ie hkv)
  exact(jq this).trans (List.map_id' r)
 ·rw[if_neg h];have hne:¬ y=k:=λe=>h e.symm;simp only[List.any_cons,hne,decide_false,Bool.false_or,List.map_cons,if_false,List.cons_append]
  split<;>rfl
theorem Ty{k:Str}(hn:(kvs.map (·.1)).Nodup):((stored kvs k v).map (·.1)).Nodup:=by
 unfold stored
 split
 ·have:(kvs.map (λkv=>if kv.1=k then (kv.1,v) else kv)).map (·.1)=kvs.map (·.1):=by
   rw[List.map_map];refine jq λkv _=>?_;show(if kv.1=k then (kv.1,v) else kv).1=kv.1
   split<;>rfl
  rw[this];exact hn
 ·rename_i h;rw[bu,jr];refine⟨hn,by simp,λa ha b hb hab=>?_⟩;simp at hb;subst hb;subst hab;obtain⟨kv,hkv,rfl⟩:=bq.mp ha;exact h (List.any_eq_true.mpr ⟨kv,hkv,by simp⟩)
theorem A5{k:Str}(hx:∀ kv∈kvs,kv.1.length<=sizeLine)(hk:k.length<=sizeLine):∀ kv∈stored kvs k v,kv.1.length<=sizeLine:=by
 intro kv h;unfold stored at h
 split at h
 ·obtain⟨kv',h',rfl⟩:=bq.mp h
  split
  ·exact hx kv' h'
  ·exact hx kv' h'
 ·rcases bv.mp h with h | h
  ·exact hx kv h
  ·simp at h;subst h;exact hk
theorem KV.set{k:Str}(hv:Rep h av v d):∀ {kvs:List (Str×Value)} {ds:List (PyData×PyData)},(kvs.map (·.1)).Nodup->KV h av kvs ds->KV h av (stored kvs k v) (eG ds k d)
 | [],[],_,_=>⟨rfl,hv,trivial⟩
 | (y,v0)::r,(dk,d0)::t,hn,x=>by
  obtain⟨x1,x2,x3⟩:=x;have x1:dk=.str y:=x1;subst x1;rw[Tx hn];show KV h av _ (if k=y then (.str y,d)::t else (.str y,d0)::eG t k d)
  split
  ·exact⟨rfl,hv,x3⟩
  ·exact⟨rfl,x2,KV.set hv (bo.mp (show(y::r.map (·.1)).Nodup from hn)).2 x3⟩
 | [],_::_,_,x=>x.elim
 |_::_,[],_,x=>x.elim
def PS(h:Heap)(av:Addr->Prop):List (Str×Value)->List (Str×PyData)->Prop
 | [],[]=>True
 |kv::r,p::t=>kv.1=p.1/\kv.1.length<=sizeLine/\Rep h av kv.2 p.2/\PS h av r t
 |_,_=>False
theorem KV.sets:∀ {kvs:List (Str×Value)} {ps:List (Str×PyData)} {acc:List (Str×Value)} {dacc:List (PyData×PyData)},PS h av kvs ps->(acc.map (·.1)).Nodup->KV h av acc dacc->(∀ kv∈acc,kv.1.length<=sizeLine) ->
  KV h av (merged acc kvs) (eH ps dacc)/\∀ kv∈merged acc kvs,kv.1.length<=sizeLine
 | [],[],_,_,_,_,x,hz=>⟨x,hz⟩
 | (k,v)::r,(k',d)::t,acc,dacc,y,hn,x,hz=>by
  obtain⟨y1,y2,y3,y4⟩:=y;obtain rfl:k=k':=y1;exact(KV.sets (kvs:=r) (ps:=t) y4 (Ty hn) (KV.set y3 hn x) (A5 hz y2):KV h av (merged (stored acc k v) r) (eH t (eG dacc k d))/\_)
 | [],_::_,_,_,x,_,_,_=>x.elim
 |_::_,[],_,_,x,_,_,_=>x.elim
theorem PS.length:∀ {kvs:List (Str×Value)} {ps:List (Str×PyData)},PS h av kvs ps->kvs.length=ps.length
 | [],[],_=>rfl
 |_::r,_::t,x=>congrArg (·+1) (PS.length (kvs:=r) (ps:=t) x.2.2.2)
 | [],_::_,x=>x.elim
 |_::_,[],x=>x.elim
theorem A6{ke:Shared}{ps:List (Str×PyData)}(k0:Kp s ke)(k:Kp ke s')(hn:ke.heap.get? a=none)(hm:(a==sysModules)=false)(hp:s'.heap.DictOf (strKind O w) a (merged [] kvs))
  (hl:ps.length<=sizeLine) (x:PS ke.heap av kvs ps):Kp s s'/\bD s s'.heap av (.ref a) (.own (.dict (eH ps []))):=by
 obtain⟨y1,y2⟩:=KV.sets x (acc:=[]) ec (show KV ke.heap av [] [] from trivial) (λx hx=>aZ hx);obtain⟨z1,z2⟩:=y1.out;exact Ar k0 k hn hm hp ⟨U (merged_length_le [] kvs) (by rw[x.length];simpa using hl),y2⟩ z1 z2
end
section
theorem A7(r:List Str)(x:Str):(bO (x::r)).length=if r.contains x then (bO r).length else (bO r).length+1:=by
 show(if r.contains x then bO r else x::bO r).length=_
 split<;>rfl
theorem sW:∀ l:List Str,(bO l).length<=l.length
 | []=>ae _
 |a::r=>by
  rw[A7];have:=sW r
  split
  ·exact bn this
  ·exact ah this
noncomputable def met(ss:List Str)(i:Nat):List Str:=(ss.take i).reverse
theorem A8(h:ss[i]?=some x):met ss (i+1)=x::met ss i:=by
 unfold met;rw[List.take_add_one,h];simp
theorem A9(ss:List Str)(i:Nat):(met ss i).length<=ss.length:=by
 unfold met;simp;exact Ha
theorem Tz{R:Result->Shared->Prop}{wr:List Addr}{P:Nat->Value->Prop}(W:Walks O w A.in1 I fp wr ss.length P St)(S:Addr)(hSf:S∉fp)
  (hval:∀ i v,P i v->∃ x t,ss[i]?=some x/\v=.str x t) (hb:ss.length+1 < scanBound) :
  ∀ (k i:Nat) (s:Shared),ss.length - i=k->i<=ss.length->St i s.heap->s.heap.SetOf (strKind O w) S (λk'=>(met ss i).contains k') (bO (met ss i)).length ->
   (∀ h' tk,(∀ b o,b∉S::wr->s.heap.get? b=some o->h'.get? b=some o)->h'.SetOf (strKind O w) S (λk'=>(met ss ss.length).contains k') (bO (met ss ss.length)).length->R (.ok (.ret .none)) { s with heap:=h',toks:=tk }) ->
   codeAny (model O w) A (.builtin "set.update.loop" ⟨[.ref S,.ref I],[]⟩) R s:=by
 have hSw:S∉wr:=λh=>hSf (W.sub _ h);intro k
 induction k with
 |zero =>
  intro i s hk hi hst hS hR;have hin:i=ss.length:=by exact xG hk hi
  subst hin;refine codeAny_builtin PyProof.Rows.F.entry_set_update_loop ?_;rw[Around.under_plainId PyProof.Rows.F.plain_set_update_loop _];show wpAny _ A.in1 (pyNext (.ref I) >>= _) _ _ s;refine aa (W.done s _ _ hst λh' tk hm=>?_);refine ag (hR h' tk (λb o hb e=>hm b o (λh=>hb (af _ h)) e) ?_);obtain⟨o,es,ep,t,ho,rest⟩:=hS;exact⟨o,es,ep,t,hm S _ hSw ho,rest⟩
 |succ k ih =>
  intro i s hk hi hst hS hR;have hlt:i < ss.length:=by exact xH hk
  refine codeAny_builtin PyProof.Rows.F.entry_set_update_loop ?_;rw[Around.under_plainId PyProof.Rows.F.plain_set_update_loop _];show wpAny _ A.in1 (pyNext (.ref I) >>= _) _ _ s;refine aa (W.item i s _ _ hlt hst λv h' tk hP hst' hm=>?_);obtain⟨x,t,hx,rfl⟩:=hval i v hP;have hS':h'.SetOf (strKind O w) S (λk'=>(met ss i).contains k') (bO (met ss i)).length:=by
   obtain⟨o,es,ep,tb,ho,rest⟩:=hS;exact⟨o,es,ep,tb,hm S _ hSw ho,rest⟩
  show wpAny _ A.in1 (holding [Value.str x t] (setAdd S (.str x t)) >>= _) _ _ _;refine aa (bl ?_);unfold setAdd;refine bl ?_;refine aa ((strKind O w).pyHash (k:=x) (eS x t) ?_);have hroom:(bO (met ss i)).length+1 < scanBound:=by have:=sW (met ss i);have:=A9 ss i;lia
  refine wpAny_setAddHashed_of (knd:=strKind O w) (s:={ s with heap:=h',toks:=tk+1 }) (eS x t) rfl hS' hroom λh'' hsb hS2=>?_;have hSi:h''.SetOf (strKind O w) S (λk'=>(met ss (i+1)).contains k') (bO (met ss (i+1))).length :=
   PyProof.Rows.SetOf_congr hS2 (λk'=>by rw[A8 hx,List.contains_cons,Bool.or_comm];congr 1) (by rw[A8 hx,A7])
  refine ag ⟨plainId_quiet PyProof.Rows.F.plain_set_update_loop _,ih (i+1) _ (by exact xI hk) hlt (W.frame _ h' _ hst' λb hb o e=>?_) hSi λh3 tk3 hk3 hS3=>hR h3 tk3 (λb o hb e=>hk3 b o hb ?_) hS3⟩
  ·rw[hsb.2 b (λh:b=S=>hSf (by rw[<- h];exact hb))];exact e
  ·rw[hsb.2 b (λh:b=S=>hb (by rw[h];exact ac))];exact hm b o (λh=>hb (af _ h)) e
set_option maxHeartbeats 3200000 in
theorem Ba{l:Addr}{T:String}{items:Array Value}{nl:Nat}{oI:Obj}{St:Addr->Nat->Heap->Prop}(hh:A.handled=none)(hol:s.heap.get? l=some { cls:=.type T,data:=.seq items nl })
  (hsls:isSubtype (.type T) (.type "set")=pure false) (hslf:isSubtype (.type T) (.type "frozenset")=pure false) (hne:(Value.type T==Value.type "dict")=false) (hsz:items.size=ss.length)
  (hit:∀ (A':Around) (s':Shared) (Q:Value->Shared->Prop) (E:Value->Shared->Prop),s'.heap.get? l=some { cls:=.type T,data:=.seq items nl }->Q (.ref s'.heap.objs.size) { s' with heap:=s'.heap.push oI }->wpAny (model O w) A' (pyIter (.ref l)) Q E s')
  (hW:∀ (A':Around) (I:Addr),A'.handled=none->l≠I->Walks O w A' I [I,l] [I] items.size (λi v=>items[i]?=some v) (St I))
  (hst:∀ (h:Heap),h.get? l=some { cls:=.type T,data:=.seq items nl }->St h.objs.size 0 (h.push oI))
  (hval:∀ (i:Nat) (v:Value),items[i]?=some v->∃ x t,ss[i]?=some x/\v=.str x t) (hb:ss.length+1 < scanBound)
  (h:∀ (h':Heap) (tk:Nat),h'.SetOf (strKind O w) s.heap.objs.size (λk'=>(met ss ss.length).contains k') (bO (met ss ss.length)).length ->
   (∀ b o,s.heap.get? b=some o->h'.get? b=some o)->Q (.ref s.heap.objs.size) { s with heap:=h',toks:=tk }) :
  wpAny (model O w) A (call (.type "set") [.ref l]) Q E s:=by
 obtain⟨c,tl,hmro⟩:=F.called_set.mro;have hmade:=F.called_set.made;have hsub:=F.called_set.sub;refine wpAny_call (codeAny_of_tree ?_);show wpAny _ _ (callAny (.type "set") _) _ _ _;refine ag ⟨Code.quiet_builtin _ (by decide +kernel),codeAny_builtin F.entry_type_call ?_⟩;rw[Around.under_plain (weight_type_call_type "set" [.ref l] []) rfl];have h1:=F.called_set.notType;have h2:=F.called_set.canCreate;have hct:=F.typeCall_set_1 (.ref l)
 repeat (any_goals (first | assumption | wp_step))
 refine codeAny_mono (code_set_new_1 (.ref l) (E:=E) (Q₁:=λobj ke=>∃ led:Bool,obj=.ref s.heap.objs.size/\ke={ s with heap:=s.heap.push { cls:=.type "set", dict:=none,data:=.set #[] 0 (.fresh 0 0 led) } }) λled=>⟨led,rfl,rfl⟩) λr ke hr=>?_;cases r with
 |error e=>exact hr
 |ok fl =>
  cases fl with
  |ret obj =>
   obtain⟨led,rfl,rfl⟩:=hr;have hS:(s.heap.push { cls:=.type "set", dict:=none,data:=.set #[] 0 (.fresh 0 0 led) }).get? s.heap.objs.size=some { cls:=.type "set", dict:=none,data:=.set #[] 0 (.fresh 0 0 led) }:=ck _ rfl;have hT:Shared.TypeIs { s with heap:=s.heap.push { cls:=.type "set", dict:=none,data:=.set #[] 0 (.fresh 0 0 led) } } (.ref s.heap.objs.size) "set" := ⟨_,hS,rfl⟩
   have hli:=F.called_set.init.lookup;have hbi:=F.called_set.init.bind (.ref s.heap.objs.size)
   repeat (any_goals (first | assumption | wp_step))
   refine codeAny_mono (codeAny_call_builtin (R:=wants (λr km=>r=.none/\∃ h' tk,km={ s with heap:=h',toks:=tk } /\
     h'.SetOf (strKind O w) s.heap.objs.size (λk'=>(met ss ss.length).contains k') (bO (met ss ss.length)).length /\
     (∀ b o,s.heap.get? b=some o->h'.get? b=some o)) E) F.called_set.init.plain F.entry_set_init (check_set_init_1 hT ?_)) λmc km lx=>?_
   ·have hol':(s.heap.push { cls:=.type "set", dict:=none,data:=.set #[] 0 (.fresh 0 0 led) }).get? l=some { cls:=.type T,data:=.seq items nl }:=ai _ hol;unfold Builtin.«set.__init__» noKeywords Builtin.Frozenset.updateFrom;generalize hPI:pyIter=PI
    wp_walk
    subst hPI;refine hit _ _ _ _ hol' ?_;refine aa (wpAny_runValue ?_);have hlS:l < s.heap.objs.size:=bx hol;have hneI:l≠(s.heap.push { cls:=.type "set", dict:=none,data:=.set #[] 0 (.fresh 0 0 led) }).objs.size:=by
     rw[di];exact cu (fm hlS)
    have hSf:s.heap.objs.size∉[(s.heap.push { cls:=.type "set", dict:=none,data:=.set #[] 0 (.fresh 0 0 led) }).objs.size,l]:=by
     rw[di];simp only[List.mem_cons,List.mem_singleton,List.not_mem_nil,or_false,not_or];exact⟨cu (cz _),bp hlS⟩
    refine Tz (hsz▸hW _ _ (by simp[hh]) hneI) s.heap.objs.size hSf hval hb ss.length 0 _ rfl (am _) (hst _ hol') ?hS0 λh' tk' hk hS'=>?hR
    case hS0 =>
     exact PyProof.Rows.SetOf_congr ((PyProof.Rows.setObjOf_fresh (knd:=strKind O w) led).setOf (ai _ hS) (by unfold scanBound;exact Hb)) (λ_=>rfl) rfl
    case hR =>
     show wpAny _ _ _ _ _ _;refine ag ?_;show wpAny _ _ (ret Value.none) _ _ _;refine ag ⟨rfl,h',tk',rfl,hS',λb o e=>?_⟩;have hb:=bx e;refine hk b o ?_ (ai _ (ai _ e));rw[di];intro hm;rcases List.mem_cons.mp hm with hm | hm
     ·exact absurd hb (by rw[hm];exact iu _)
     ·exact absurd hb (by rw[List.mem_singleton.mp hm];exact Nat.not_lt.mpr (au _))
   ·cases mc with
    |error e=>exact lx
    |ok fl2 =>
     cases fl2 with
     |ret r =>
      obtain⟨rfl,h',tk,rfl,hS',hk'⟩:=lx
      repeat (any_goals (first | assumption | wp_step))
      exact h _ _ hS' hk'
     |_=>exact lx.elim
  |_=>exact hr.elim
end
section
theorem T0{p:PyData×PyData}(e:two d=some p):d=.tuple [p.1,p.2]:=by
 cases d with
 |tuple ds =>
  rcases ds with _ | ⟨a,_ | ⟨b,_ | ⟨c,r⟩⟩⟩
  ·exact ns e
  ·exact ns e
  ·obtain rfl:=si e;rfl
  ·exact ns e
 |_=>exact ns e
theorem T2{l:List α}(h:l.length=2):∃ x y,l=[x,y]:=by
 rcases l with _ | ⟨a,_ | ⟨b,_ | ⟨c,r⟩⟩⟩
 ·cases h
 ·cases h
 ·exact⟨a,b,rfl⟩
 ·cases h
theorem Rep.two{p:PyData×PyData}(r:Rep h av v d)(e:two d=some p):∃ a x y,v=.ref a/\PlT h a #[x,y]/\Rep h av x p.1/\Rep h av y p.2:=by
 rw[T0 e] at r;obtain⟨a,vs,rfl,h1,h2,h3,h4,h5⟩:=r.tuple_inv;obtain⟨x,y,rfl⟩:=T2 h3;exact⟨a,x,y,rfl,h2,h5 0 _ _ rfl rfl,h5 1 _ _ rfl rfl⟩
theorem T3:∀ {vs:List Value} {ds:List PyData} {ps:List (PyData×PyData)} {qs:List (Str×PyData)},vs.length=ds.length->(∀ (i:Nat) (v:Value) (d:PyData),vs[i]?=some v->ds[i]?=some d->Rep h av v d) ->
  twos? ds=some ps->keys? ps=some qs->∃ kvs,iF h vs kvs/\PS h av kvs qs:=by
 intro vs
 induction vs with
 |nil =>
  intro ds ps qs hl hr e1 e2;cases ds with
  |nil=>obtain rfl:=si e1;obtain rfl:=si e2;exact⟨[],trivial,trivial⟩
  |cons=>exact nomatch hl
 |cons v vs ih =>
  intro ds ps qs hl hr e1 e2;cases ds with
  |nil=>exact nomatch hl
  |cons d ds =>
   replace e1:((two d).bind λp=>(twos? ds).map (p::·))=some ps:=e1;refine ocs (two d) (λhp=>?_) λp hp=>?_
   ·rw[hp] at e1;exact ns e1
   ·rw[hp] at e1;obtain⟨ps',e1',rfl⟩:=bj.mp (show(twos? ds).map (p::·)=some ps from e1);obtain⟨a,x,y,rfl,g1,g2,g3⟩:=(hr 0 v d rfl rfl).two hp;obtain⟨p1,p2⟩:=p;cases p1 with
    |str k =>
     obtain⟨qs',e2',rfl⟩:=bj.mp (show(keys? ps').map ((k,p2)::·)=some qs from e2);obtain⟨t,hx,hk⟩:=(show Rep h av x (.str k) from g2).str_inv;subst hx;obtain⟨kvs,z1,z2⟩:=ih (ds:=ds) (Nat.succ.inj hl) (λi v d e1 e2=>hr (i+1) v d e1 e2) e1' e2';exact⟨(k,y)::kvs,⟨⟨a,t,rfl,g1⟩,z1⟩,rfl,hk,g3,z2⟩
    |_=>exact ns e2
theorem Bb(e1:ts.length=ss.length)(e:(List.zipWith (λx t=>Value.str x t) ss ts)[i]?=some v):∃ x t,ss[i]?=some x/\v=.str x t:=by
 rw[List.getElem?_zipWith] at e;cases hs:ss[i]? with
 |none=>rw[hs] at e;exact ns e
 |some x =>
  cases ht:ts[i]? with
  |none=>rw[hs,ht] at e;exact ns e
  |some t=>rw[hs,ht] at e;obtain rfl:=si e;exact⟨x,t,rfl,rfl⟩
theorem T5(hh:A.handled=none)(G:Gnd l av s)(r:Rep s.heap av v d):YV A s av (call (.type "dict") [v]) (cK d):=by
 cases d with
 |dict m =>
  obtain⟨a,kvs,rfl,h1,h2,h3,h4,h5,h6⟩:=r.dict_inv;intro Q E hq;exact kt_call_dict (knd:=strKind O w) h4 h2 h3.1 λh' hd hs=>hq _ _ (Ar (Kp.rfl' s) (Kp.mkh (S6 hs)) (bP _) (oP G) hd h3 h5 h6)
 |list m =>
  obtain⟨a,vs,rfl,h1,⟨nn,h2⟩,h3,h4,h5⟩:=r.list_inv;refine Yd.optBind λps hps=>Yd.optBind λqs hqs=>Yd.ite λhlt=>?_;obtain⟨kvs,g1,g2⟩:=T3 h3 h5 hps hqs;have hz:kvs.length<=sizeLine:=by rw[g2.length];exact U (bh hlt) (by decide)
  intro Q E hq;refine callType_codes (Q₁:=λobj ke=>obj=.ref s.heap.objs.size/\ke={ s with heap:=s.heap.push { cls:=.type "dict", data:=.dict #[] } }) F.kt_called_dict (F.kt_typeCall_dict_1 _) F.entry_dict_init (kt_code_dict_new _ ⟨rfl,rfl⟩) ?_
  rintro obj ke ⟨rfl,rfl⟩
  have hnew:(s.heap.push { cls:=.type "dict", data:=.dict #[] }).DictOf (strKind O w) s.heap.objs.size []:=Heap.DictOf.new s.heap;have h2':(s.heap.push { cls:=.type "dict", data:=.dict #[] }).get? a=some _:=ai _ h2;refine⟨hnew.typeIs,F.args_dict_init_2 _ _,?_⟩;unfold Builtin.«dict.__init__»;refine aa ?_;unfold Builtin.Dict.selfAndRest;refine aa (wpAny_notOrdered_dict hnew.typeIs ?_);show wpAny _ _ (pure (s.heap.objs.size,[Value.ref a])) _ _ _;refine ag ?_;show wpAny _ _ (Builtin.Dict.updateFrom "dict.__init__" s.heap.objs.size (.ref a) [] .none) _ _ _;unfold Builtin.Dict.updateFrom;refine aa (wpAny_typeOf (T := "list") ⟨_,h2',rfl⟩ ?_);rw[if_pos (by decide)];refine aa (Tv h2' hh λh' tk hk=>?_);rw[if_pos (show(none:Option Value).isNone=true from rfl)];refine aa (wpAny_rule ?_);have hD:=hnew.keep hk;have h2'':=hk _ _ h2';refine aa (jp ⟨_,h2'',rfl,nn,rfl⟩ (ag ⟨plainId_quiet oR _,?_⟩));have lt1:s.heap.objs.size < h'.objs.size:=(by obtain⟨o,_,_,e,_⟩:=hD;exact bx e)
  have lt2:a < s.heap.objs.size:=bx h2;have old:∀ b o,s.heap.get? b=some o->(h'.push { cls:=.type "list_iterator", data:=.fields #[Value.ref a,rawInt 0] }).get? b=some o:=λb o e=>ai _ (hk _ _ (ai _ e));refine Tw (A:=A.in1) (I:=h'.objs.size) (l:=a) (D:=s.heap.objs.size) (vs:=vs) (kvs:=kvs) hh (cu (gk lt2 lt1)) (cu lt1) (bp lt2) hz g1 (bP _) (ft (bh lt1)) kvs.length 0 _ rfl (am _)
   ⟨⟨_,cE _ _ rfl,rfl,rfl⟩,⟨_,ai _ h2'',rfl,nn,rfl⟩⟩ old (hD.push _) λh'' tk' hk'' hd''=>⟨rfl,hq _ _ ?_⟩
  exact A6 (Kp.rfl' s) (Kp.mk' hk'') (bP _) (oP G) hd'' (by rw[<- g2.length];exact hz) g2
 |_=>exact trivial
theorem T6(hh:A.handled=none)(hav:∀ b,av b->∃ o,s.heap.get? b=some o)(r:Rep s.heap av v d):
  Yd (λQ E=>wpAny (model O w) A (call (.builtin "dict.items") [v]) (λx ke=>wpAny (model O w) A (call (.type "list") [x]) Q E ke) E s) (λv s' u=>Kp s s'/\bD s s'.heap av v u) (fW d):=by
 cases d with
 |dict m =>
  obtain⟨a,kvs,rfl,h1,h2,h3,h4,h5,h6⟩:=r.dict_inv;intro Q E hq;refine call_meetsIn F.slot_dict_items h2.typeIs F.entry_dict_items (F.args_dict_items_1 _) (meets_dict_items (strKind O w) a h4) ⟨⟨kvs,h2⟩,?_⟩;obtain⟨o,es,ep,hd⟩:=h2;have hp:∀ b o,s.heap.get? b=some o->(s.heap.push { cls:=.type "dict_items", data:=.fields #[.ref a] }).get? b=some o:=λb o e=>ai _ e;have fr:∀ {x:Addr},s.heap.objs.size < x->s.heap.get? x=none:=λhx=>ft (bh hx);have hlen:m.length=kvs.length:=by simpa using congrArg List.length h5
  refine W.kdx_call (knd:=strKind O w) (kvs:=kvs) (ep:=ep) hh ⟨_,cE _ _ rfl,rfl,rfl⟩ ⟨o,es,hp _ _ hd.1,hd.2⟩ h3.1 λh' tk acc c as hk hl' hlas hG hacc=>?_;have hk':∀ b o,s.heap.get? b=some o->h'.get? b=some o:=λb o e=>hk _ _ (hp _ _ e);have hlt:s.heap.objs.size < (s.heap.push { cls:=.type "dict_items", data:=.fields #[.ref a] }).objs.size:=by rw[di];exact cz _
  have hn:s.heap.get? (s.heap.push { cls:=.type "dict_items", data:=.fields #[.ref a] }).objs.size=none:=fr hlt;refine hq _ _ ⟨Kp.mk' hk',⟨_,rfl,hn,acc.toList,⟨c,by simpa using hl'⟩,by rw[hacc,List.length_map,List.length_map,hlas,hlen],by rw[hacc,List.length_map,hlas];exact h3.1,λi v d e1 e2=>?_⟩⟩;rw[hacc,List.getElem?_map] at e1;obtain⟨ta,e1',rfl⟩:=bj.mp e1;rw[List.getElem?_map] at e2;obtain⟨p,e2',rfl⟩:=bj.mp e2;clear e1 e2;obtain⟨key,k,x,e3,e4,e5⟩:=hG.pairs i ta e1';obtain⟨t,rfl⟩:=Value.isStrOf_shape e4;have hp1:p.1=.str k:=by
   have:=congrArg (λl=>l[i]?) h5;simp only[List.getElem?_map,e2',e3,Option.map_some] at this;exact Option.some.inj this
  have hgt:(s.heap.push { cls:=.type "dict_items", data:=.fields #[.ref a] }).objs.size < ta:=hG.above ta (cj e1');have hta:s.heap.get? ta=none:=fr (gk hlt hgt);have rx:Rep h' (λb=>av b\/b=(s.heap.push { cls:=.type "dict_items", data:=.fields #[.ref a] }).objs.size) x p.2:=((h6 i _ _ e3 e2').apart hn).keeps hk';refine .tuple (λhx=>?_) ⟨0,by simpa using e5⟩ rfl (by rw[sizeLine_eq];exact eu rfl) λj v d f1 f2=>?_
  ·rcases hx with hx | hx
   ·obtain⟨o,e⟩:=hav _ hx;rw[hta] at e;exact ns e
   ·exact absurd hgt (by rw[hx];exact iu _)
  ·match j,f1,f2 with
   |0,f1,f2=>obtain rfl:=si f1;obtain rfl:=si f2;rw[hp1];exact .str k t (h3.2 _ (cj e3))
   |1,f1,f2=>obtain rfl:=si f1;obtain rfl:=si f2;exact rx
 |_=>exact trivial
theorem T7:isSubtype (.type "tuple") (.type "set")=pure false:=by rw[isSubtype_type];kernel_rfl
theorem T8:isSubtype (.type "tuple") (.type "frozenset")=pure false:=by rw[isSubtype_type];kernel_rfl
theorem T9(hh:A.handled=none)(r:Rep s.heap av v d):
  Yd (λQ E=>wpAny (model O w) A (call (.type "set") [v]) (λx ke=>wpAny (model O w) A (call (.builtin "len") [x]) Q E ke) E s) (λv s' u=>Kp s s'/\bD s s'.heap av v u) (dD d):=by
 have key:∀ {ss:List Str} {Q:Value->Shared->Prop} {E:Value->Shared->Prop} (_:ss.length < 64),(∀ v s',Kp s s'/\bD s s'.heap av v (.fz (.int (bO ss.reverse).length))->Q v s')->∀ (h':Heap) (tk:Nat),h'.SetOf (strKind O w) s.heap.objs.size (λk'=>(met ss ss.length).contains k') (bO (met ss ss.length)).length ->
   (∀ b o,s.heap.get? b=some o->h'.get? b=some o)->wpAny (model O w) A (call (.builtin "len") [.ref s.heap.objs.size]) Q E { s with heap:=h',toks:=tk }:=by
  intro ss Q E hlt hq h' tk hS hk;obtain⟨o,es,ep,t,ho,hex,hd,hel,hmem,hb,hf,hn⟩:=hS;have hz:(es.size:Int) < 2 ^ 63:=by
   have:=sW (met ss ss.length);have:=A9 ss ss.length;lia
  refine call_len_set ho hex hd hf hz (hq _ _ ⟨Kp.mk' hk,?_⟩);rw[hn];unfold met;rw[jo];exact .int _ _
 cases d with
 |list m =>
  obtain⟨a,vs,rfl,h1,⟨nn,h2⟩,h3,h4,h5⟩:=r.list_inv;refine Yd.optBind λss hs=>Yd.ite λhlt=>?_;obtain⟨ts,e1,rfl,e3⟩:=fX h3 h5 hs;intro Q E hq;refine Ba (T := "list") (ss:=ss) hh h2 F.sub_list_set F.sub_list_frozenset rfl (by simp[e1]) (λA' s' Q E e hq=>jp ⟨_,e,rfl,_,rfl⟩ hq) (λA' I hA' hne=>Walks.list hA' I a hne _) (λh e=>⟨⟨_,cE _ _ rfl,rfl,rfl⟩,⟨_,ai _ e,rfl,_,rfl⟩⟩) (λi v e=>?_) (by unfold scanBound;exact xJ hlt) (key hlt hq);exact Bb e1 (by simpa using e)
 |tuple m =>
  obtain⟨a,vs,rfl,h1,⟨nn,h2⟩,h3,h4,h5⟩:=r.tuple_inv;refine Yd.optBind λss hs=>Yd.ite λhlt=>?_;obtain⟨ts,e1,rfl,e3⟩:=fX h3 h5 hs;intro Q E hq;refine Ba (T := "tuple") (ss:=ss) hh h2 T7 T8 rfl (by simp[e1]) (λA' s' Q E e hq=>ig ⟨_,e,rfl,_,rfl⟩ hq) (λA' I hA' hne=>Walks.tuple hA' I a hne _) (λh e=>⟨⟨_,cE _ _ rfl,rfl,rfl⟩,⟨_,ai _ e,rfl,_,rfl⟩⟩) (λi v e=>?_) (by unfold scanBound;exact xJ hlt) (key hlt hq);exact Bb e1 (by simpa using e)
 |_=>exact trivial
end
section
def CA(l:List Env)(av:Addr->Prop)(s:Shared)(v:Value)(u:V):Prop:=bS l s.heap av v u/\hO u=false
structure KSound(n:Nat)(C:Ctx):Prop where
 const:C.const=iC O.main.body
 init:C.init=λc=>(bQ c O.main.body).map (·.2)
 sub:C.sub=fH O.main.body
 has:∀ f,C.has f=true->∃ a b sc,dR f O.main.body=some (a,b,sc)
 call:∀ f us ad,mg f=some (.ref ad)->C.has f=true->∀ (A:Around) (l:List Env) (s:Shared) (av:Addr->Prop) (vs:List Value),Room n C.hd l A->Gnd l av s->fY (CA l av) s vs us ->
  ∀ {β:Type} {k:V->R β} {fin:R β} {Q:Value->Shared->Prop} {E:Value->Shared->Prop},Fin (C.call f us) k fin->QH l s av k fin Q->EH l s av fin E->wpAny (model O w) A (call (.ref ad) vs) Q E s
theorem oS{f:Value}{Q:Args->Shared->Prop}(hs:es.any bad=false)
  (h:wpAny M A (spliced (backTo pos (starEach es env))) (λvs s'=>Q ⟨vs,[]⟩ s') E s):wpAny M A (evalArgs f true (backTo pos (starEach es env)) []) Q E s:=by
 cases es with
 |nil =>
  have e0:backTo pos (starEach [] env)=[]:=rfl;rw[e0] at h ⊢;unfold evalArgs;refine aa (aa (az h (λvs s' h'=>?_) λ_ _ x=>x));refine ag (bl ?_);exact aa (ag (ag h'))
 |cons e r =>
  rw[fJ (Bool.or_eq_false_iff.mp hs).1] at h ⊢;exact Calls.evalArgs_plain h
theorem oU:∀ {es:List Expr},es.any bad=false->(backTo pos (starEach es env)).any (·.1)=false:=by
 intro v0
 induction v0 with
 |nil =>
  intro _;exact rfl
 |cons e es ih =>
  intro h;obtain⟨h1,h2⟩:=Bool.or_eq_false_iff.mp h;rw[fJ h1];show(false||(backTo pos (starEach es env)).any (·.1))=false;rw[ih h2];rfl
theorem Ua(hbad:∀ e,bad e=true->rec e=.no)(e:Expr)(h:bad e=true):i9 rec sc σ e=.no:=by
 have h0:=h;unfold i9 gK bC;unfold bad at h;generalize hv:vw e=v at h;cases v with
 |name x=>exact bft h
 |_=>exact hbad e h0
theorem Ub(h:aH n hd l sc σ e (rec e)):sM n hd l sc σ av (CA l av) e (i9 rec sc σ e):=by
 intro A env s hA I β k fin Q E hf hq he;unfold i9 at hf;refine ocs (gK sc σ e) (λhx=>?_) λx hx=>?_
 ·rw[hx] at hf;exact h A env s av hA I hf (λv s' u k r e=>hq v s' u k ⟨r.cl I.gnd.avlt,zY⟩ e) he
 ·rw[hx] at hf;refine hde λ_ θ=>?_;obtain⟨y,p,rfl,hl,e⟩:=Ao hx;obtain⟨u,h1,h2⟩:=I.get _ _ hl e;apply θ;exact eR I hl h1 (hq _ _ (.ex x) (K.rf l s) ⟨h2,rfl⟩ hf.ok)
theorem Uc(hK:KSound n C)(hbad:∀ e,bad e=true->rec e=.no){p:Pos}(hg:isG sc f=true)(hns:as.any bad=false)(hh:C.has f=true)
  (h:∀ e∈as,aH n C.hd l sc σ e (rec e)):aH n C.hd l sc σ (.Call (.Name f p) as [] pos) (rb (evs (i9 rec sc σ) as) λvs=>C.call f vs):=by
 intro A env s av hA I β k fin Q E hf hq he;refine hde λ_ θ=>?_;obtain⟨a,b,sc',hd⟩:=hK.has f hh;obtain⟨ad,o,pm,cd,doc,h1,h2,h3,h4⟩:=I.gnd.glo.fn f a b sc' hd;apply θ;refine iw (lA I hg h1 (Calls.callWith_function (o:=o) (fd:=Calls.docDef f a b sc' pm cd doc) (oS hns (Ah (C:=CA l av) (Ua hbad) (λ_ _ _ _ k r=>⟨r.1.k I.gnd.fav k,r.2⟩) hA (λe m=>Ub (h e m)) I hf.b (λvs ke us k1 r e1=>?_) he))));exact⟨⟨(I.gnd.k k1).stay _ _ h2,h3⟩,hK.call f us ad h1 hh A l ke av vs hA (I.gnd.k k1) r ⟨e1,hf.2⟩ (hq.back k1) (he.back k1)⟩
theorem fZ(hf:(∃ id,fv=.builtin id)\/∃ T,fv=.type T){t:Sem Value}
  (h:wpAny M A t (λv ke=>wpAny M A (call fv [v]) Q E ke) E s):wpAny M A (callWith pos fv [] [(false,t)] []) Q E s:=by
 rcases hf with ⟨id,rfl⟩ | ⟨T,rfl⟩
 ·exact PySem.callWith_builtin1 h
 ·exact PySem.callWith_type1 h
theorem Ud(hv:jG f=some fv)(hh:rH f=true->A.handled=none)(G:Gnd l av s)
  (r:Rep s.heap av v d):YV A s av (call fv [v]) (rA f d) :=
 Yd.ite2 (λe=>by subst e;obtain rfl:=si hv;exact Sy r) λ_ =>
 Yd.ite2 (λe=>by subst e;obtain rfl:=si hv;exact S0 (hh rfl) r) λ_ =>
 Yd.ite2 (λe=>by subst e;obtain rfl:=si hv;exact S3 (hh rfl) r) λ_ =>
 Yd.ite2 (λe=>by subst e;obtain rfl:=si hv;exact S4 (hh rfl) r) λ_ =>
 Yd.ite2 (λe=>by subst e;obtain rfl:=si hv;exact S5 G.avlt r) λ_ =>
 Yd.ite2 (λe=>by subst e;obtain rfl:=si hv;exact T5 (hh rfl) G r) λ_ =>
 Yd.ite2 (λe=>by subst e;obtain rfl:=si hv;exact S7 r) λ_ =>
 Yd.ite2 (λe=>by subst e;obtain rfl:=si hv;exact S8 r) λ_ =>
 Yd.ite2 (λe=>by subst e;obtain rfl:=si hv;exact S9 r) λ_=>trivial
theorem Ue(h:i6 f=true):∃ fv,jG f=some fv/\((∃ id,fv=.builtin id)\/∃ T,fv=.type T):=by
 unfold i6 at h;simp only[Bool.or_eq_true,beq_iff_eq] at h;rcases h with (((((((h | h) | h) | h) | h) | h) | h) | h) | h<;>subst h
 all_goals first
  |exact⟨.builtin _,rfl,.inl ⟨_,rfl⟩⟩
  |exact⟨.type _,rfl,.inr ⟨_,rfl⟩⟩
theorem Uf(hbad:∀ e,bad e=true->rec e=.no){a:Expr}{p:Pos}(hg:isG sc f=true)(hb:i6 f=true)(h:aH n hd l sc σ a (rec a)):
  aH n hd l sc σ (.Call (.Name f p) [a] [] pos) (gL rec hd f a):=by
 intro A env s av hA I β k fin Q E hf hq he;obtain⟨fv,hv,hfv⟩:=Ue hb;unfold gL at hf;refine bcs (hd&&rH f) (λhn=>?_) λhn=>?_
 ·rw[hn] at hf;have hf:Fin (rb (rec a) λv=>ofP (rA f (dOf v))) k fin:=hf;refine PySem.Call_name1 (fJ (fK (hbad a) hf.b.ne)) (dK I hg hv (fZ hfv (h A env s av hA I hf.b (λv ke u k1 r h1=>?_) he)));exact Yd.fin tk1 (Ud hv (λhne=>hA.handled (by rw[hne,Bool.and_true] at hn;exact hn)) (I.gnd.k k1) (r.rep I.gnd.avlt)) ⟨h1,hf.2⟩ λv s' u r m e=>hq.step k1 r m e
 ·rw[hn] at hf;exact hf.no.elim
theorem fL{id:String}{first:List Value}(hs:as.any bad=false)
  (h:wpAny M A (spliced (backTo pos (starEach as env))) (λvs ke=>wpAny M A (call (.builtin id) (first++vs)) Q E ke) E s):wpAny M A (callWith pos (.builtin id) first (backTo pos (starEach as env)) []) Q E s :=
 Calls.callWith_builtin (oU hs) (oS hs h)
theorem sX{u:V}(h:iA u=.ok d):u=.fz d:=by
 cases u with
 |fz=>obtain rfl:=pi h;rfl
 |_=>exact pno h
def RL(h:Heap)(av:Addr->Prop)(vs:List Value)(ds:List PyData):Prop :=
 vs.length=ds.length/\∀ (i:Nat) (v:Value) (d:PyData),vs[i]?=some v->ds[i]?=some d->Rep h av v d
theorem RL.cons(r:RL h av vs (d::ds)):∃ v vs',vs=v::vs'/\Rep h av v d/\RL h av vs' ds:=by
 cases vs with
 |nil=>cases r.1
 |cons v vs=>exact⟨v,vs,rfl,r.2 0 v d rfl rfl,Nat.succ.inj r.1,λi v d e1 e2=>r.2 (i+1) v d e1 e2⟩
theorem RL.nil(r:RL h av vs []):vs=[]:=co.mp r.1
theorem Ug(hh:A.handled=none)(r:RL s.heap av vs (bV us)):YV A s av (call (.builtin "min") vs) (nO us):=by
 cases us with
 |nil=>exact trivial
 |cons a us =>
  cases us with
  |nil=>exact trivial
  |cons b us =>
   cases us with
   |cons=>exact trivial
   |nil =>
    obtain⟨v1,vs,rfl,r1,r⟩:=r.cons;obtain⟨v2,vs,rfl,r2,r⟩:=r.cons;obtain rfl:=r.nil;refine Yd.pureBind λx hx=>Yd.pureBind λy hy=>?_;cases sX hx;cases sX hy;cases x with
    |int x =>
     cases y with
     |int y =>
      obtain⟨t,rfl⟩:=(show Rep s.heap av v1 (.int x) from r1).int_inv;obtain⟨u,rfl⟩:=(show Rep s.heap av v2 (.int y) from r2).int_inv;refine λQ E hq=>min_two_ints hh λh' tk hk=>hq _ _ ⟨Kp.mk' hk,?_⟩;show Rep _ av _ (.int (if y < x then y else x))
      split<;>exact .int _ _
     |_=>exact trivial
    |_=>exact trivial
theorem Uh(hbad:∀ e,bad e=true->rec e=.no){p:Pos}(hg:isG sc "min" = true)(hns:as.any bad=false)(hh:hd=false)
  (h:∀ e∈as,aH n hd l sc σ e (rec e)):aH n hd l sc σ (.Call (.Name "min" p) as [] pos) (rb (evs rec as) λvs=>ofP (nO vs)):=by
 intro A env s av hA I β k fin Q E hf hq he;refine iw (dK I hg rfl (fL hns (iD hbad hA h I hf.b (λvs ke us k1 r1 r2 e1=>?_) he)));exact Yd.fin tk1 (Ug (hA.handled hh) ⟨r1,r2⟩) ⟨e1,hf.2⟩ λv s' u r m e=>hq.step k1 r m e
theorem Ui{a:Expr}{t:Str}{p:Pos}(hbad:∀ e,bad e=true->rec e=.no)(hg:isG sc "isinstance" = true)
  (ht:isG sc t=true) (h:aH n hd l sc σ a (rec a)):aH n hd l sc σ (.Call (.Name "isinstance" p) [a,.Name t p'] [] pos) (rb (rec a) λv=>ofP (nP t (dOf v))):=by
 intro A env s av hA I β k fin Q E hf hq he;have hb:=fK (hbad a) hf.b.ne;refine iw (dK I hg rfl (fL (by show(bad a||false)=false;rw[hb];rfl) ?_));refine dz (h A env s av hA I hf.b (λv ke u k1 r h1=>dz ?_ rfl) he) (fJ hb);refine hde λ_ θ=>?_;obtain⟨h1',h2,h3,h4,h5,h6⟩:=Sr (A:=A) (r.rep I.gnd.avlt);apply θ;have fin:∀ {T:String} {b},jG t=some (.type T)->iE A ke v T b->Yd (λQ E=>wpAny (model O w) A (eval (.Name t p') env) (λc km=>wpAny (model O w) A (call (.builtin "isinstance") [v,c]) Q E km) E ke) (λv s' u=>Kp ke s'/\bD ke s'.heap av v u) (fz (.bool b)) :=
  λhT hc Q E hq=>dK (I.k k1) ht hT (hc _ _ λtk=>hq _ _ ⟨Kp.tok' ke tk,.bool _⟩)
 have key:Yd (λQ E=>wpAny (model O w) A (eval (.Name t p') env) (λc km=>wpAny (model O w) A (call (.builtin "isinstance") [v,c]) Q E km) E ke) (λv s' u=>Kp ke s'/\bD ke s'.heap av v u) (nP t (dOf u)) :=
  Yd.ite2 (λe=>fin (e▸rfl) h1') λ_=>Yd.ite2 (λe=>fin (e▸rfl) h2) λ_=>Yd.ite2 (λe=>fin (e▸rfl) h3) λ_=>Yd.ite2 (λe=>fin (e▸rfl) h4) λ_=>Yd.ite2 (λe=>fin (e▸rfl) h5) λ_=>Yd.ite2 (λe=>fin (e▸rfl) h6) λ_=>trivial
 exact az (Yd.fin tk2 key (Q:=Q) ⟨h1,hf.2⟩ λv s' u r m e=>hq.step k1 r m e) (λc km lc=>dh lc) λ_ _ x=>x
theorem Uj{p pos':Pos}(hbad:∀ e,bad e=true->rec e=.no)(hg:isG sc "len" = true)(hh:hd=false)(h:∀ e∈as,aH n hd l sc σ e (rec e)):
  aH n hd l sc σ (.Call (.Name "len" p) [.Call (.Name "set" p') as [] pos'] [] pos) (zD rec sc as):=by
 intro A env s av hA I β k fin Q E hf hq he;cases as with
 |nil=>exact hf.no.elim
 |cons x r =>
  cases r with
  |cons=>exact hf.no.elim
  |nil =>
   obtain⟨hc,hf⟩:=Fin.ite hf;refine PySem.Call_name1 rfl (dK I hg rfl (fZ (.inl ⟨_,rfl⟩) (PySem.Call_name1 (fJ (fK (hbad x) hf.b.ne)) (dK I hc rfl (fZ (.inr ⟨_,rfl⟩) (h x ac A env s av hA I hf.b (λv ke u k1 r h1=>?_) he))))));exact Yd.fin tk2 (T9 (hA.handled hh) (r.rep I.gnd.avlt)) ⟨h1,hf.2⟩ λv s' u r m e=>hq.step k1 r m e
end
section
open PyProof.Rows
section
theorem Bc{o:Value}{l:List PyData}(hm:m = "count" \/ m = "index")(ro:Rep s.heap av o (.list l))(r:RL s.heap av vs ds):
  YV A s av (call (.builtin (if m = "count" then "list.count" else "list.index")) (o::vs)) (y7 m l ds):=by
 cases ds with
 |nil=>exact trivial
 |cons d ds =>
  obtain⟨v,vs,rfl,rd,r⟩:=r.cons;cases ds with
  |cons=>exact trivial
  |nil =>
   obtain rfl:=co.mp r.1;cases d with
   |bool k =>
    obtain rfl:=rd.bool_inv;show YV A s av _ ((ofO (bools? l)).bind λbs=>if m = "count" then fz (.int (bs.countP (·==k))) else (ofO (bs.findIdx? (·==k))).bind λj=>if j < aF then fz (.int j) else .no);refine ocs (bools? l) (λhb=>?_) λbs hb=>?_
    ·rw[hb];exact trivial
    ·rw[hb];obtain⟨a,vs,rfl,h1,⟨n,e⟩,h3,h4,h5⟩:=ro.list_inv;obtain rfl:=Ax h3 h5 hb;have he:∀ y,y∈(bs.map Value.bool).toArray->SeqAt.EqAt A.in1 s y (.bool k) (isBoolOf k y):=λy hy=>by
      obtain⟨b,_,rfl⟩:=bq.mp (List.mem_toArray.mp hy);exact SeqAt.EqAt.bool_bool b k
     have hc:(isBoolOf k∘Value.bool)=(·==k):=rfl;show YV A s av _ (if m = "count" then fz (.int (bs.countP (·==k))) else (ofO (bs.findIdx? (·==k))).bind λj=>if j < aF then fz (.int j) else .no)
     by_cases hcm:m = "count"
     ·rw[if_pos hcm,if_pos hcm];intro Q E hq;refine call_meets PySem.F.slot_list_count ⟨_,e,rfl⟩ PySem.F.entry_list_count (PySem.F.args_list_count_2 _ _) (SeqAt.list_countAt a (bs.map Value.bool).toArray n none #[] (.bool k) (isBoolOf k)) ⟨e,he,?_⟩;rw[show(bs.map Value.bool).toArray.toList=bs.map Value.bool from rfl,List.countP_map,hc];exact hq _ _ ⟨Kp.tok' s _,.int _ _⟩
     ·rw[if_neg hcm,if_neg hcm];refine ocs (bs.findIdx? (·==k)) (λhj=>?_) λj hj=>?_
      ·rw[hj];exact trivial
      ·rw[hj];refine Yd.ite λhz Q E hq=>?_;refine hde λ_ θ=>?_;obtain⟨j1,j2,j3⟩:=List.findIdx?_eq_some_iff_getElem.mp hj;apply θ;refine call_meets PySem.F.slot_list_index ⟨_,e,rfl⟩ PySem.F.entry_list_index (PySem.F.args_list_index_2 _ _) (SeqAt.list_indexAt a (bs.map Value.bool).toArray n none #[] (.bool k) (isBoolOf k) j (by simpa using j1) (fe (ci.mpr hz) (by decide)) ?_ λi hi hlt=>?_) ⟨e,he,?_⟩
       ·simp only[List.getElem_toArray,List.getElem_map];exact j2
       ·simp only[List.getElem_toArray,List.getElem_map];exact Bool.eq_false_iff.mpr (j3 i hlt)
       ·exact hq _ _ ⟨Kp.tok' s _,.int _ _⟩
   |str k =>
    obtain⟨tk,rfl,_⟩:=rd.str_inv;show YV A s av _ ((ofO (strs? l)).bind λss=>if m = "index" then (ofO (ss.findIdx? (·==k))).bind λj=>if j < aF then fz (.int j) else .no else .no);refine ocs (strs? l) (λhb=>?_) λss hb=>?_
    ·rw[hb];exact trivial
    ·rw[hb];refine hde λ_ θ=>?_;obtain⟨a,vs,rfl,h1,⟨n,e⟩,h3,h4,h5⟩:=ro.list_inv;obtain⟨ts,e1,rfl,e3⟩:=fX h3 h5 hb;apply θ;show YV A s av _ (if m = "index" then (ofO (ss.findIdx? (·==k))).bind λj=>if j < aF then fz (.int j) else .no else .no);refine Yd.ite λhi=>?_;rw[if_neg (by rw[hi];decide)];refine ocs (ss.findIdx? (·==k)) (λhj=>?_) λj hj=>?_
     ·rw[hj];exact trivial
     ·rw[hj];refine Yd.ite λhz Q E hq=>?_;obtain⟨j1,j2,j3⟩:=List.findIdx?_eq_some_iff_getElem.mp hj;have hln:(List.zipWith (λx t=>Value.str x t) ss ts).length=ss.length:=by rw[List.length_zipWith,e1,Nat.min_self]
      have at':∀ (i:Nat) (h:i < (List.zipWith (λx t=>Value.str x t) ss ts).toArray.size) (h':i < ss.length),eT k (List.zipWith (λx t=>Value.str x t) ss ts).toArray[i]=(ss[i]==k):=λi h h'=>by
       rw[List.getElem_toArray,List.getElem_zipWith];rfl
      refine call_meets PySem.F.slot_list_index ⟨_,e,rfl⟩ PySem.F.entry_list_index (PySem.F.args_list_index_2 _ _) (SeqAt.list_indexAt a (List.zipWith (λx t=>Value.str x t) ss ts).toArray n none #[] (.str k tk) (eT k) j (by rw[cw,hln];exact j1) (fe (ci.mpr hz) (by decide)) ?_ λi hi hlt=>?_) ⟨e,λy hy=>sH k tk ss ts y (List.mem_toArray.mp hy),?_⟩
      ·rw[at' j _ j1];exact j2
      ·rw[at' i _ (by rw[cw,hln] at hi;exact hi)];exact Bool.eq_false_iff.mpr (j3 i hlt)
      ·exact hq _ _ ⟨Kp.tok' s _,.int _ _⟩
   |_=>exact trivial
end
end
section
theorem Rep.getD{ds:List (PyData×PyData)}{dv:Value}{dd:PyData}(h5:ds.map (·.1)=kvs.map (λkv=>PyData.str kv.1))
  (h6:∀ (i:Nat) (kv:Str×Value) (d:PyData×PyData),kvs[i]?=some kv->ds[i]?=some d->Rep h av kv.2 d.2) (hd:Rep h av dv dd):Rep h av ((valueAt kvs x).getD dv) ((cH ds x).getD dd):=by
 rcases oH x h5 with ⟨e1,e2⟩ | ⟨i,v,d,e1,e2,e3,e4⟩
 ·rw[e1,e2];exact hd
 ·rw[e1,e2];exact h6 i _ _ e3 e4
theorem Uk{o:Value}{l:List (PyData×PyData)}{k:PyData}(ro:Rep s.heap av o (.dict l))(r:RL s.heap av vs (k::ds)):
  YV A s av (call (.builtin "dict.get") (o::vs)) (yY l ds k):=by
 obtain⟨v,vs,rfl,rk,r1⟩:=r.cons;clear r;cases k with
 |str k =>
  obtain⟨t,rfl,hk⟩:=rk.str_inv;obtain⟨a,kvs,rfl,_,h2,h3,h4,h5,h6⟩:=ro.dict_inv;cases ds with
  |nil =>
   obtain rfl:=r1.nil;exact λQ E hq=>call_meetsIn F.slot_dict_get h2.typeIs F.entry_dict_get (F.args_dict_get_2 _ _) (meets_dict_get (strKind O w) a (eS k t) h4) ⟨_,h2.mapOf,hq _ _ ⟨Kp.tok' s _,Rep.getD h5 h6 .none⟩⟩
  |cons d ds =>
   obtain⟨u,vs,rfl,ru,r2⟩:=r1.cons;cases ds with
   |cons=>exact trivial
   |nil =>
    obtain rfl:=r2.nil;exact λQ E hq=>call_meetsIn F.slot_dict_get h2.typeIs F.entry_dict_get (F.args_dict_get_3 _ _ _) (meets_dict_get_default (strKind O w) a (eS k t) h4 u) ⟨_,h2.mapOf,hq _ _ ⟨Kp.tok' s _,Rep.getD h5 h6 ru⟩⟩
 |_=>exact trivial
theorem Bd(e:ts.length=ss.length):strValues (ss.zip ts)=List.zipWith (λx t=>Value.str x t) ss ts/\(ss.zip ts).map (·.1)=ss :=
 ⟨by unfold strValues;rw[List.zip,List.map_zipWith],List.map_fst_zip (aq e.symm)⟩
theorem Ul{tt:Tok}{l:List (Str×Tok)}{texts:List Str}(hl:∃ o n,s.heap.get? D=some o/\o.cls=.type "tuple" /\ o.data=.seq (strValues l).toArray n)(ht:l.map (·.1)=texts)(hok:JoinOk x texts=true)
  (hq:∀ t' k,Q (.str (Txt.join x texts) t') { s with toks:=k }):wpAny (model O w) A (call (.builtin "str.join") [.str x tt,.ref D]) Q E s:=by
 subst ht;unfold JoinOk at hok;rw[Bool.not_eq_true'] at hok;exact call_meets F.slot_str_join (typeIs_str _ _ _) F.entry_str_join (F.args_str_join_2 _ _) (meets_str_join_tuple x tt D l hok) ⟨hl,post_join l ⟨joinFit_length hok,hq⟩⟩
theorem Um{o:Value}{k:PyData}(ro:Rep s.heap av o (.str x))(r:RL s.heap av vs (k::ds)):
  YV A s av (call (.builtin "str.join") (o::vs)) (y5 x ds k):=by
 obtain⟨t,rfl,hx⟩:=ro.str_inv;obtain⟨v,vs,rfl,rk,r1⟩:=r.cons;clear r;cases ds with
 |cons=>exact trivial
 |nil =>
  obtain rfl:=r1.nil;cases k with
  |list l =>
   obtain⟨a,vl,rfl,h1,h2,h3,h4,h5⟩:=rk.list_inv;refine Yd.optBind λss hs=>Yd.ite λhok=>?_;refine hde λ_ θ=>?_;obtain⟨ts,e1,rfl,e3⟩:=fX h3 h5 hs;obtain⟨z1,z2⟩:=Bd e1;apply θ;exact λQ E hq=>SC.join (l:=ss.zip ts) (by rw[z1];exact h2.isList) z2 hok λt' k=>hq _ _ ⟨Kp.tok' s _,.str _ _ (joinOk_length hok)⟩
  |tuple l =>
   obtain⟨a,vl,rfl,h1,⟨nn,h2⟩,h3,h4,h5⟩:=rk.tuple_inv;refine Yd.optBind λss hs=>Yd.ite λhok=>?_;refine hde λ_ θ=>?_;obtain⟨ts,e1,rfl,e3⟩:=fX h3 h5 hs;obtain⟨z1,z2⟩:=Bd e1;apply θ;exact λQ E hq=>Ul (l:=ss.zip ts) (by rw[z1];exact⟨_,nn,h2,rfl,rfl⟩) z2 hok λt' k=>hq _ _ ⟨Kp.tok' s _,.str _ _ (joinOk_length hok)⟩
  |_=>exact trivial
open Builtin Builtin.Str in
theorem Un{A:Around}{t:Tok}{E:Value->Shared->Prop}(hx:x.length+2<=sizeLine)(hp:∀ c∈x.cps.toList,bW c=true)
  (h:∀ l k,l.map (λp=>p.1.cps.toList)=aY x.cps.toList->Q (.ref s.heap.objs.size) { s with toks:=k,heap:=s.heap.push { cls:=.type "list", data:=.seq (strValues l).toArray } }) :
  wpAny (model O w) A (call (.builtin "str.split") [.str x t]) Q E s:=by
 have hl:x.length<=sizeLine:=Nat.le_of_add_right_le hx;have hn:(spaceWords x (x.length+1)).length<=sizeLine:=by
  have e:=congrArg List.length (A3 x hp);rw[List.length_map] at e;rw[e];refine U (jt _ _) (U (sV 32 _).1 ?_);rw[Array.length_toList];exact bi hx
 have hw':=Tp x hp;refine call_meets F.slot_str_split (typeIs_str _ _ _) F.entry_str_split (F.args_str_split_1 _) (meets_str_split_space x t hl hn) ?_;unfold Txt.words at hw';cases hw:spaceWords x (x.length+1)==[(0,x.length)]
 ·simp only[Bool.false_eq_true,if_false];rw[strsFrom_eq];rw[if_neg (ne_true_of_eq_false hw),<- numbered_texts s.toks (wordsOf x),List.map_map] at hw';exact h (numbered s.toks (wordsOf x)) _ hw'
 ·simp only[if_true];rw[if_pos hw] at hw';exact h [(x,t)] s.toks hw'
open Builtin Builtin.Str in
theorem Uo{A:Around}{t u:Tok}{c:Nat}{E:Value->Shared->Prop}(hx:x.length+2<=sizeLine)
  (h:∀ l k,l.map (λp=>p.1.cps.toList)=aQ c x.cps.toList->Q (.ref s.heap.objs.size) { s with toks:=k,heap:=s.heap.push { cls:=.type "list", data:=.seq (strValues l).toArray } }) :
  wpAny (model O w) A (call (.builtin "str.split") [.str x t,.str ⟨#[c]⟩ u]) Q E s:=by
 have hl:x.length<=sizeLine:=Nat.le_of_add_right_le hx;have hw:=Te x c;unfold Txt.split at hw;cases h1:(decide (x.length < (⟨#[c]⟩:Str).length)||decide (strKind x < strKind ⟨#[c]⟩))
 ·rw[if_neg (ne_true_of_eq_false h1)] at hw;cases hf:(occurrences x ⟨#[c]⟩ 0 x.length (x.length+1)).isEmpty
  ·rw[if_neg (ne_true_of_eq_false hf)] at hw;have hn:(partsBetween x (occurrences x ⟨#[c]⟩ 0 x.length (x.length+1)) (⟨#[c]⟩:Str).length).length<=sizeLine:=by
    have e:=congrArg List.length hw;rw[List.length_map] at e;rw[e];refine U (sV c _).1 ?_;rw[Array.length_toList];exact bi hx
   refine call_meets F.slot_str_split (typeIs_str _ _ _) F.entry_str_split (F.args_str_split_2 _ _) (meets_str_split_sep x ⟨#[c]⟩ t u h1 rfl hf hl hn) ?_;show wants Q E _ { s with toks:=_,heap:=s.heap.push { cls:=.type "list", data:=.seq (strsFrom s.toks (partsBetween x (occurrences x ⟨#[c]⟩ 0 x.length (x.length+1)) (⟨#[c]⟩:Str).length)).toArray } };rw[strsFrom_eq];rw[<- numbered_texts s.toks (partsBetween x (occurrences x ⟨#[c]⟩ 0 x.length (x.length+1)) (⟨#[c]⟩:Str).length),List.map_map] at hw;exact h (numbered s.toks _) _ hw
  ·rw[if_pos hf] at hw;exact call_meets F.slot_str_split (typeIs_str _ _ _) F.entry_str_split (F.args_str_split_2 _ _) (meets_str_split_not_found x ⟨#[c]⟩ t u h1 rfl hf) (h [(x,t)] s.toks hw)
 ·rw[if_pos h1] at hw;exact call_meets F.slot_str_split (typeIs_str _ _ _) F.entry_str_split (F.args_str_split_2 _ _) (meets_str_split_cannot_occur x ⟨#[c]⟩ t u h1) (h [(x,t)] s.toks hw)
theorem Be{l:List (Str×Tok)}{ps:List (List Nat)}{k:Nat}(e:l.map (λp=>p.1.cps.toList)=ps)(hn:ps.length<=sizeLine)(hp:∀ p∈ps,p.length<=sizeLine):
  Kp s { s with toks:=k,heap:=s.heap.push { cls:=.type "list", data:=.seq (strValues l).toArray } }/\bD s (s.heap.push { cls:=.type "list", data:=.seq (strValues l).toArray }) av (.ref s.heap.objs.size) (.own (.list (ps.map hV))):=by
 have hln:l.length=ps.length:=by rw[<- e,List.length_map]
 refine oM (ke:={ s with toks:=k }) (Kp.tok' s k) (by unfold strValues;rw[List.length_map,List.length_map,hln]) (by unfold strValues;rw[List.length_map,hln];exact hn) λi v d e1 e2=>?_;unfold strValues at e1;rw[List.getElem?_map] at e1;rw[<- e,List.map_map,List.getElem?_map] at e2;cases hi:l[i]? with
 |none=>rw[hi] at e1;cases e1
 |some p =>
  rw[hi] at e1 e2;obtain rfl:=si e1;obtain rfl:=si e2;refine .str p.1 _ ?_;have:=hp p.1.cps.toList (by rw[<- e];exact ie (cj hi));rw[Array.length_toList] at this;exact this
theorem Bg{c:Nat}(h:i7 d=some c):d=.str ⟨#[c]⟩:=by
 cases d with
 |str y =>
  obtain⟨⟨l⟩⟩:=y;cases l with
  |nil=>exact ns h
  |cons k r =>
   cases r with
   |nil=>obtain rfl:=si h;rfl
   |cons=>exact ns h
 |_=>exact ns h
theorem Up{o:Value}(ro:Rep s.heap av o (.str x))(r:RL s.heap av vs ds):
  YV A s av (call (.builtin "str.split") (o::vs)) (y6 x ds):=by
 obtain⟨t,rfl,hx⟩:=ro.str_inv;refine Yd.ite λhc=>?_;have hz:x.length+2<=sizeLine:=hc.2;have hlen:∀ (c:Nat),(aQ c x.cps.toList).length<=sizeLine/\∀ p∈aQ c x.cps.toList,p.length<=sizeLine:=λc=>by
  obtain⟨h1,h2⟩:=sV c x.cps.toList;rw[Array.length_toList] at h1 h2;exact⟨U h1 (bi hz),λp hp=>U (h2 p hp) hx⟩
 cases ds with
 |nil =>
  obtain rfl:=r.nil;exact λQ E hq=>Un hz (bb.mp hc.1) λl k e=>hq _ _ (Be e (U (jt _ _) (hlen 32).1) λp hp=>(hlen 32).2 p (List.mem_filter.mp hp).1)
 |cons d ds =>
  obtain⟨v,vs,rfl,rk,r1⟩:=r.cons;cases ds with
  |cons=>exact trivial
  |nil =>
   obtain rfl:=r1.nil;refine Yd.optBind λc hcc=>?_;obtain rfl:=Bg hcc;obtain⟨u,rfl,_⟩:=rk.str_inv;exact λQ E hq=>Uo hz λl k e=>hq _ _ (Be e (hlen c).1 (hlen c).2)
theorem Bh(h2:s.heap.DictOf (strKind O w) a kvs):∀ b,Value.ref a=.ref b->∃ ob,s.heap.get? b=some ob/\ob.dict=none:=by
 intro b hb;cases hb;obtain⟨ob,es,ep,e,c,_⟩:=h2;exact⟨ob,e,c.2.1⟩
theorem Uq(hm:mOk m od=true)(hr:m ≠ "replace"){o:Value}(ro:Rep s.heap av o od):∃ T id,PlainAttrs T/\Slot T m id/\typeOf (.builtin id)=pure (.type "method_descriptor") /\
  s.TypeIs o T/\(∀ a,o=.ref a->∃ ob,s.heap.get? a=some ob/\ob.dict=none) /\
  ∀ (A:Around) (s':Shared) (vs:List Value) (ds:List PyData),Rep s'.heap av o od->RL s'.heap av vs ds->YV A s' av (call (.builtin id) (o::vs)) (rD m od ds):=by
 cases od with
 |list l =>
  obtain⟨a,vs,rfl,h1,⟨n,e⟩,_⟩:=ro.list_inv;have hm':m = "count" \/ m = "index" := (Bool.or_eq_true _ _▸hm).imp of_decide_eq_true of_decide_eq_true
  by_cases hc:m = "count"
  ·subst hc;exact⟨"list", "list.count", F.plainAttrs_list,F.slot_list_count,by kernel_rfl,⟨_,e,rfl⟩,λb hb=>by cases hb;exact⟨_,e,rfl⟩,λA s' vs ds ro r=>Bc hm' ro r⟩
  ·obtain rfl:=hm'.resolve_left hc;exact⟨"list", "list.index", F.plainAttrs_list,F.slot_list_index,by kernel_rfl,⟨_,e,rfl⟩,λb hb=>by cases hb;exact⟨_,e,rfl⟩,λA s' vs ds ro r=>Bc hm' ro r⟩
 |dict l =>
  obtain rfl:=of_decide_eq_true hm;obtain⟨a,kvs,rfl,_,h2,_⟩:=ro.dict_inv;refine⟨"dict", "dict.get", F.plainAttrs_dict,F.slot_dict_get,by kernel_rfl,h2.typeIs,Bh h2,λA s' vs ds ro r=>?_⟩;cases ds with
  |nil=>exact trivial
  |cons k ds=>exact Uk ro r
 |str x =>
  refine hde λ_ θ=>?_;obtain⟨t,rfl,_⟩:=ro.str_inv;apply θ
  by_cases hs:m = "split"
  ·subst hs;exact⟨"str", "str.split", F.plainAttrs_str,F.slot_str_split,by kernel_rfl,rfl,λa ha=>by (cases ha),λA s' vs ds ro r=>Up ro r⟩
  have hj:m = "join" := by
   rcases Bool.or_eq_true _ _▸hm with h | h
   ·rcases Bool.or_eq_true _ _▸h with h | h
    ·exact of_decide_eq_true h
    ·exact absurd (of_decide_eq_true h) hs
   ·exact absurd (of_decide_eq_true h) hr
  subst hj;refine⟨"str", "str.join", F.plainAttrs_str,F.slot_str_join,by kernel_rfl,rfl,λa ha=>by (cases ha),λA s' vs ds ro r=>?_⟩;cases ds with
  |nil=>exact trivial
  |cons k ds=>exact Um ro r
 |_=>exact bft hm
theorem Bi{o:Expr}(h:nQ o=true)(name:Str)(env:Env):attributeBase o name env (eval o env)=eval o env:=by
 cases o with
 |Call f as kws q =>
  cases f with
  |Name=>exact bft h
  |_=>rfl
 |_=>rfl
theorem jJ(hs:as.any bad=false)(hl:as.length<=3)(pos:Pos)(env:Env):((backTo pos (starEach as env)).all (λx=>!x.1)&&(backToKw pos (keywordEach [] env)).all (λx=>x.1.isSome)
   && decide (as.length+([]:List Keyword).length+(if ([]:List Keyword).isEmpty then 0 else 1) < 30))=true:=by
 have h1:=oU (env:=env) (pos:=pos) hs;have h2:(backTo pos (starEach as env)).all (λx=>!x.1)=true:=by
  rw[bb];intro x hx;have:=List.any_eq_false.mp h1 x hx;simpa using this
 rw[h2];have:(backToKw pos (keywordEach [] env)).all (λx=>x.1.isSome)=true:=rfl;rw[this];simp;exact Hc hl
theorem P.bindI{p:P α}{f:α->P β}{b:β}(h:p.bind f=.ok b):∃ a,p=.ok a/\f a=.ok b:=by
 cases p with
 |no=>exact pno h
 |ok a=>exact⟨a,rfl,h⟩
theorem sY[Decidable c]{p:P α}{a:α}(h:(if c then p else .no)=.ok a):c/\p=.ok a:=by
 by_cases hc:c
 ·rw[if_pos hc] at h;exact⟨hc,h⟩
 ·rw[if_neg hc] at h;exact pno h
theorem Bj(h:kR e=true):∃ x k p,e=.Constant (.str x) k p:=by
 unfold kR at h;cases hv:vw e with
 |cst c =>
  rw[hv] at h;obtain⟨k,p,rfl⟩:=cA hv;cases c with
  |str x=>exact⟨x,k,p,rfl⟩
  |_=>exact bft h
 |_=>rw[hv] at h;exact bft h
theorem Ur(hlit:∀ x k p,rec (.Constant (.str x) k p)=.no\/rec (.Constant (.str x) k p)=ofP (mkS x))(hl:as.all kR=true)(h2:as.length=2){t:Tok}{k:V->R β}{fin:R β}
  (hp:0 < s.toks) (hf:Fin (rb (evs rec as) λas=>ofP (rC x (bV as))) k fin) (hq:∀ v s' u,Kp s s'/\bD s s'.heap av v u->s.toks<=s'.toks->k u=fin->Q v s') :
  wpAny (model O w) A (spliced (backTo pos (starEach as env))) (λvs km=>wpAny (model O w) A (call (.builtin "str.replace") ([.str x t]++vs)) Q E km) E s:=by
 cases as with
 |nil=>cases h2
 |cons a as =>
 cases as with
 |nil=>cases h2
 |cons b as =>
 cases as with
 |cons=>cases h2
 |nil =>
  refine hde λ_ θ=>?_;obtain⟨l1,l2⟩:=ax.mp hl;obtain⟨y,k1,p1,rfl⟩:=Bj l1;obtain⟨z,k2,p2,rfl⟩:=Bj (ax.mp l2).1;apply θ;replace hf:Fin (rb (rec (.Constant (.str y) k1 p1)) λa=>rb (rb (rec (.Constant (.str z) k2 p2)) λb=>rb (.ok []) λr=>.ok (b.cl::r)) λr=>.ok (a.cl::r)) (λas=>rb (ofP (rC x (bV as))) k) fin:=hf.b;rcases hlit y k1 p1 with e | e
  ·rw[e] at hf;exact hf.no.elim
  rcases hlit z k2 p2 with e' | e'
  ·rw[e,e'] at hf;refine hde λ_ θ=>?_;obtain⟨u,_,h⟩:=Fin.p hf.b;apply θ;exact(hf.2 h.symm).elim
  rw[e,e'] at hf;refine hde λ_ θ=>?_;obtain⟨u,q1,h⟩:=Fin.p hf.b;obtain⟨_,q1⟩:=sY q1;obtain rfl:=pi q1;obtain⟨u',q2,h'⟩:=Fin.p (Fin.b (Fin.b ⟨h,hf.2⟩));obtain⟨_,q2⟩:=sY q2;obtain rfl:=pi q2;obtain⟨v,q3,h3⟩:=Fin.p ⟨h',hf.2⟩;replace q3:(ofO (i7 (.str y))).bind (λc=>if (bR c z.cps.toList x.cps.toList).length<=aF/\x.length<=1048576/\1 < z.length/\z.length<=14 then fz (hV (bR c z.cps.toList x.cps.toList)) else .no)=.ok v:=q3;obtain⟨c,q4,q5⟩:=P.bindI q3;have q4:i7 (.str y)=some c:=by
   cases ho:i7 (.str y) with
   |none=>rw[ho] at q4;exact pno q4
   |some c'=>rw[ho] at q4;rw[pi q4]
  cases Bg q4;obtain⟨⟨c1,c2,c3,c4⟩,q5⟩:=sY q5;apply θ;obtain rfl:=pi q5;refine tk2 _ _ (dz (wpAny_Constant_str (dz (wpAny_Constant_str (dh ?_)) rfl)) rfl);refine SC.replaceW (bp hp) (Nat.succ_ne_zero _) (cu (cz _)) (beq_false_of_ne λe=>?_) c2 c4 λt' tk m=>?_
  ·rw[<- e] at c3;exact absurd c3 (iu 1)
  ·rw[Tf];exact hq _ _ (.fz (hV (bR c z.cps.toList x.cps.toList))) ⟨⟨s.heap,tk,rfl,λ_ _ e=>e⟩,Rep.str _ _ (by show(bR c z.cps.toList x.cps.toList).toArray.size<=_;rw[cw];exact c1)⟩ m h3
theorem Us(hbad:∀ e,bad e=true->rec e=.no)(hlit:∀ x k p,rec (.Constant (.str x) k p)=.no\/rec (.Constant (.str x) k p)=ofP (mkS x)){o:Expr}(ho:aH n hd l sc σ o (rec o))
  (h:∀ e∈as,aH n hd l sc σ e (rec e)):aH n hd l sc σ (.Call (.Attribute o m ap) as [] cp) (kS rec o m ap as cp):=by
 intro A env s av hA I β k fin Q E hf hq he;unfold kS at hf
 by_cases hc:m = "items" \/ nQ o=false\/(ap.endLine==cp.line)=false\/as.any bad=true\/3 < as.length\/(m = "replace" /\ (as.all kR=false\/as.length≠2))
 ·rw[if_pos hc] at hf;exact hf.no.elim
 rw[if_neg hc] at hf;simp only[not_or,Bool.not_eq_true,Bool.not_eq_false,Nat.not_lt,not_and,ne_eq,Decidable.not_not] at hc;refine hde λ_ θ=>?_;obtain⟨_,c2,c3,c4,c5,c6⟩:=hc;apply θ;refine ii (Bi c2 m env) (jJ c4 c5 cp env) c3 (ho A env s av hA I hf.b (λov ke u k1 r h1=>?_) he);refine hde λ_ θ=>?_;obtain⟨hm,hf1⟩:=Fin.ite ⟨h1,hf.2⟩;have ro:=r.rep I.gnd.avlt
 by_cases hr:m = "replace"
 ·apply θ;subst hr;generalize dOf u=od at hm hf1 ro;cases od with
  |str x =>
   obtain⟨c6,c7⟩:=c6 rfl;obtain⟨t,rfl,hx⟩:=ro.str_inv;exact⟨"str", "str.replace", F.plainAttrs_str,F.slot_str_replace,by kernel_rfl,rfl,λa ha=>by (cases ha),fL c4 (Ur hlit c6 c7 (I.k k1).gnd.pos hf1 λv s' u r m e=>hq.step k1 r m e)⟩
  |list=>exact bft hm
  |dict=>exact bft hm
  |_=>exact bft hm
 obtain⟨T,id,t1,t2,t3,q1,q2,t5⟩:=Uq hm hr ro;apply θ;refine⟨T,id,t1,t2,t3,q1,q2,fL c4 (iD hbad hA h (I.k k1) hf1.b (λvs km us k2 r1 r2 e2=>?_) (he.back k1))⟩;exact Yd.fin tk1 (t5 A km vs _ (ro.k I.gnd.fav k2) ⟨r1,r2⟩) ⟨e2,hf.2⟩ λv s' u r m e=>hq.step (k1.tr k2) r m e
theorem Ut{o:Expr}{p:Pos}(hg:isG sc "list" = true)(hh:hd=false)(h:aH n hd l sc σ o (rec o)):
  aH n hd l sc σ (.Call (.Name "list" p) [.Call (.Attribute o "items" ap) as [] cp] [] pos) (zE rec o ap cp as):=by
 intro A env s av hA I β k fin Q E hf hq he;cases as with
 |cons=>exact hf.no.elim
 |nil =>
  obtain⟨hc,hf⟩:=Fin.ite hf;refine PySem.Call_name1 rfl (dK I hg rfl (fZ (.inr ⟨_,rfl⟩) (ii (Bi hc.1 "items" env) (jJ rfl (am _) cp env) hc.2 (h A env s av hA I hf.b (λov ke u k1 r h1=>?_) he))));have ro:=r.rep I.gnd.avlt;generalize dOf u=d at ro h1;cases d with
  |dict l =>
   obtain⟨a,kvs,rfl,_,h2,_⟩:=ro.dict_inv;exact⟨"dict", "dict.items", F.plainAttrs_dict,F.slot_dict_items,by kernel_rfl,h2.typeIs,Bh h2,fL rfl (dh (Yd.fin tk2 (T6 (hA.handled hh) (I.gnd.k k1).avlt ro) ⟨h1,hf.2⟩ λv s' u r m e=>hq.step k1 r m e))⟩
  |_=>exact(Fin.no ⟨h1,hf.2⟩).elim
theorem Uu(hbad:∀ e,bad e=true->rec e=.no){a:Expr}{p:Pos}(hg:isG sc f=true)(hb:i6 f=true)(h:aH n hd l sc σ a (rec a))
  (hsub:∀ g as kws q,a=.Call g as kws q->(∀ x∈as,aH n hd l sc σ x (rec x))/\∀ o m ap,g=.Attribute o m ap->aH n hd l sc σ o (rec o)) :
  aH n hd l sc σ (.Call (.Name f p) [a] [] pos) (rI rec hd sc f a):=by
 have B:=Uf (p:=p) (pos:=pos) hbad hg hb h;unfold rI;cases hv:gI a with
 |some c =>
  obtain⟨g,as,kws,cp⟩:=c;have ea:a=.Call g as kws cp:=oG hv;obtain⟨s1,s2⟩:=hsub g as kws cp ea;show aH n hd l sc σ _ (zH rec hd sc f a as kws cp (vw g));cases hw:vw g with
  |name g' =>
   obtain⟨gp,eg⟩:=cA hw;intro A env s av hA I β k fin Q E hf hq he;replace hf:Fin (if g' = "set" then zF rec hd sc f as kws else gL rec hd f a) k fin:=hf
   by_cases e:g' = "set"
   ·rw[if_pos e] at hf;obtain⟨c,hf1⟩:=Fin.ite hf;clear hf;cases kws with
    |cons=>exact hf1.no.elim
    |nil =>
     obtain⟨rfl,c2⟩:=c;subst e eg ea;exact Uj hbad hg c2 s1 A env s av hA I hf1 hq he
   ·rw[if_neg e] at hf;exact B A env s av hA I hf hq he
  |attr o m ap =>
   have eg:g=_:=cA hw;intro A env s av hA I β k fin Q E hf hq he;replace hf:Fin (if m = "items" then zG rec hd f o ap cp as kws else gL rec hd f a) k fin:=hf
   by_cases e:m = "items"
   ·rw[if_pos e] at hf;obtain⟨c,hf1⟩:=Fin.ite hf;clear hf;cases kws with
    |cons=>exact hf1.no.elim
    |nil =>
     obtain⟨rfl,c2⟩:=c;subst e eg ea;exact Ut hg c2 (s2 o _ ap rfl) A env s av hA I hf1 hq he
   ·rw[if_neg e] at hf;exact B A env s av hA I hf hq he
  |_=>exact B
 |none=>exact B
theorem Uv(hK:KSound n C){a:Expr}{x:X}{t:Str}{p:Pos}(hg:isG sc "isinstance" = true)(ht:isG sc t=true)(hx:gK sc σ a=some x):
  aH n hd l sc σ (.Call (.Name "isinstance" p) [a,.Name t p'] [] pos) (ofP (isX C x.cls t)):=by
 intro A env s av hA I β k fin Q E hf hq he;refine hde λ_ θ=>?_;obtain⟨u,e0,e2⟩:=hf.p;obtain⟨y,py,rfl,hl,hs⟩:=Ao hx;obtain⟨b,h1,e1⟩:=P.bindI e0;apply θ;have h1:fH O.main.body x.cls t=some b:=by rw[<- hK.sub];cases hsb:C.sub x.cls t with
  |none=>rw[hsb] at h1;exact pno h1
  |some b'=>rw[hsb] at h1;obtain rfl:=pi h1;rfl
 unfold fH at h1
 by_cases hc:(((bQ t O.main.body).isSome||t == "ValueError")&&(bQ x.cls O.main.body).isSome)=true
 case neg=>rw[if_neg hc] at h1;exact ns h1
 rw[if_pos hc] at h1;refine hde λ_ θ=>?_;obtain⟨hc1,hc2⟩:=ax.mp hc;obtain⟨pc,hpc⟩:=ij.mp hc2;obtain⟨v,hva,e,rfl,na,ob,vs,Ca,g1,g2,g3,g4⟩:=I.get y (.ex x) hl hs;obtain⟨C',bm,c1,c2,c3⟩:=I.gnd.glo.cls x.cls pc hpc;apply θ;rw[g4] at c1;obtain rfl:=Value.ref.inj (si c1);refine iw (dK I hg rfl (fL rfl ?_));refine dz (eR I hl hva (dz ?_ rfl)) rfl
 by_cases hv:t = "ValueError"
 ·rw[if_pos hv] at e1
  by_cases hb:b=true
  case neg=>rw[if_neg hb] at e1;exact pno e1
  rw[if_pos hb] at e1;obtain rfl:=pi e1;subst hv;refine dK I ht rfl (dh (dA (c2.isv A s e ob _ _ I.gnd.stay g1 g3 λtk m=>?_)));exact hq _ _ (.fz (.bool true)) (K.of ⟨s.heap,tk,rfl,λ_ _ e=>e⟩ m) (.bool _) e2
 ·rw[if_neg hv] at e1;obtain rfl:=pi e1;have hc1:(bQ t O.main.body).isSome=true:=by
   rcases Bool.or_eq_true _ _▸hc1 with h | h
   ·exact h
   ·exact absurd (eq_of_beq h) hv
  refine hde λ_ θ=>?_;obtain⟨pd,hpd⟩:=ij.mp hc1;obtain⟨D,bm',d1,d2,d3⟩:=I.gnd.glo.cls t pd hpd;apply θ;refine lA I ht d1 (dh (dA (c2.isi A s e ob D bm' b _ _ I.gnd.stay g1 g3 (d2.obj.up I.gnd.stay) ((c3 t pd D hpd d1).trans (si h1)) λtk m=>?_)));exact hq _ _ (.fz (.bool b)) (K.of ⟨s.heap,tk,rfl,λ_ _ e=>e⟩ m) (.bool _) e2
theorem Uw(hK:KSound n C)(hbad:∀ e,bad e=true->rec e=.no){p:Pos}(hg:isG sc "isinstance" = true)(h:∀ e∈as,aH n hd l sc σ e (rec e)):
  aH n hd l sc σ (.Call (.Name "isinstance" p) as [] pos) (zJ rec C sc σ as):=by
 intro A env s av hA I β k fin Q E hf hq he;cases as with
 |nil=>exact hf.no.elim
 |cons a r =>
  cases r with
  |nil=>exact hf.no.elim
  |cons b r =>
   replace hf:Fin (zI rec C sc σ a r (bC b)) k fin:=hf;refine ocs (bC b) (λhn=>?_) λt hn=>?_
   ·rw[hn] at hf;exact hf.no.elim
   ·rw[hn] at hf;cases r with
    |cons=>exact hf.no.elim
    |nil =>
     obtain⟨ht,hf1⟩:=Fin.ite hf;obtain⟨q,rfl⟩:=dJ hn;refine ocs (gK sc σ a) (λhx=>?_) λx hx=>?_
     ·rw[hx] at hf1;exact Ui hbad hg ht (h a ac) A env s av hA I hf1 hq he
     ·rw[hx] at hf1;exact Uv hK hg ht hx A env s av hA I hf1 hq he
theorem Ux{m:Nat}(h:nJ sc σ f as=some m):f = "len" /\ ∃ x p v,as=[.Name x p]/\isL sc x=true/\aA.get σ x=some (some v)/\nI v=some m:=by
 unfold nJ at h
 by_cases hf:f = "len"
 case neg=>rw[if_neg hf] at h;exact ns h
 rw[if_pos hf] at h;cases as with
 |nil=>exact ns h
 |cons a r =>
  cases r with
  |cons=>exact ns h
  |nil =>
   obtain⟨x,h1,h2⟩:=ob (o:=bC a) h;obtain⟨p,rfl⟩:=dJ h1;unfold zB at h2;cases hs:aA.get σ x with
   |none=>rw[hs] at h2;exact ns h2
   |some o =>
    rw[hs] at h2;cases o with
    |none=>exact ns h2
    |some v =>
     by_cases hl:isL sc x=true
     ·exact⟨hf,x,p,v,rfl,hl,hs,(if_pos hl).symm.trans h2⟩
     ·exact ns ((if_neg hl).symm.trans h2)
theorem Uy{v:V}{m:Nat}(r:bS l h av u v)(e:nI v=some m):∃ a xs,u=.ref a/\h.PlainList a xs/\xs.size=m/\m<=sizeLine:=by
 cases v with
 |own d =>
  cases d with
  |list ds =>
   obtain⟨a,rfl,_,vs,p,hl,hz,_⟩:=r;obtain rfl:=si e;exact⟨a,_,rfl,p,hl,hl▸hz⟩
  |_=>exact ns e
 |pil ds =>
  obtain⟨a,bs,rfl,_,p,hl,hz,_⟩:=r;obtain rfl:=si e;exact⟨a,_,rfl,p,by rw[cw,List.length_map,hl],hl▸hz⟩
 |_=>exact ns e
theorem Uz(hK:KSound n C)(hbad:∀ e,bad e=true->rec e=.no){p:Pos}
  (h:∀ e∈as,aH n C.hd l sc σ e (rec e))
  (hsub:∀ a∈as,∀ g bs kws q,a=.Call g bs kws q->(∀ x∈bs,aH n C.hd l sc σ x (rec x))/\∀ o m ap,g=.Attribute o m ap->aH n C.hd l sc σ o (rec o)):aH n C.hd l sc σ (.Call (.Name f p) as [] pos) (nR rec C sc σ f as):=by
 intro A env s av hA I β k fin Q E hf0 hq he;obtain⟨hg,hf⟩:=Fin.ite hf0;clear hf0
 by_cases e:f = "isinstance"
 ·rw[if_pos e] at hf;subst e;exact Uw hK hbad hg h A env s av hA I hf hq he
 rw[if_neg e] at hf
 by_cases e:f = "min"
 ·rw[if_pos e] at hf
  by_cases c:as.any bad=true\/C.hd=true
  ·rw[if_pos c] at hf;exact hf.no.elim
  ·rw[if_neg c] at hf;simp only[not_or,Bool.not_eq_true] at c;subst e;exact Uh hbad hg c.1 c.2 h A env s av hA I hf hq he
 rw[if_neg e] at hf
 by_cases hb:i6 f=true
 ·rw[if_pos hb] at hf;refine ocs (nJ sc σ f as) (λhn=>?_) λm hn=>?_
  rotate_left
  ·rw[hn] at hf;obtain⟨rfl,x,p',v,rfl,hl,hs,hv⟩:=Ux hn;obtain⟨u,hva,hr⟩:=I.get x v hl hs;obtain⟨a,xs,rfl,hp,h1,h2⟩:=Uy hr hv;refine PySem.Call_name1 rfl (dK I hg rfl (fZ (.inl ⟨_,rfl⟩) (eR I hl hva (dA (Calls.call_len_list hp.isList (by rw[h1];exact jI h2) λm=>?_)))));exact hq _ _ (.fz (.int _)) (K.of ⟨s.heap,_,rfl,λ_ _ e=>e⟩ m) (h1▸.int _ _) hf.1
  rw[hn] at hf;cases as with
  |nil=>exact hf.no.elim
  |cons a r =>
   cases r with
   |cons=>exact hf.no.elim
   |nil=>exact Uu hbad hg hb (h a ac) (hsub a ac) A env s av hA I hf hq he
 rw[if_neg hb] at hf
 by_cases c:as.any bad=true\/C.has f=false
 ·rw[if_pos c] at hf;exact hf.no.elim
 ·rw[if_neg c] at hf;simp only[not_or,Bool.not_eq_true,Bool.not_eq_false] at c;exact Uc hK hbad hg c.1 c.2 h A env s av hA I hf hq he
end
section
def PR(h:Heap)(av:Addr->Prop):List (Value×Value)->List (PyData×PyData)->Prop
 | [],[]=>True
 |kv::r,d::t=>Rep h av kv.1 d.1/\Rep h av kv.2 d.2/\PR h av r t
 |_,_=>False
noncomputable def oV(env:Env)(pos:Pos):List (Option Expr)->List Expr->List (Sem Value×Sem Value)
 |some k::ks,e::es=>(eval k env,(do let x <- eval e env;standAt pos;pure x))::oV env pos ks es
 |_,_=>[]
theorem Bk(env:Env)(pos:Pos):∀ {ks:List (Option Expr)} {es:List Expr},ks.all Option.isSome=true->ks.length=es.length ->
  (evalEachOpt ks env).zip ((evalEach es env).map λv=>do let x <- v;standAt pos;pure x)=(oV env pos ks es).map (λp=>(some p.1,p.2))/\(oV env pos ks es).length=es.length
 | [],[],_,_=>⟨rfl,rfl⟩
 | [],_::_,_,h=>by cases h
 |_::_,[],_,h=>by cases h
 |none::ks,e::es,h,_=>by exact bft h
 |some k::ks,e::es,h,h'=>by
  obtain⟨i1,i2⟩:=Bk env pos (ks:=ks) (es:=es) h (Nat.succ.inj h');exact⟨congrArg ((some (eval k env),_)::·) i1,congrArg Nat.succ i2⟩
theorem U0(hA:Room n hd l A):∀ {ks:List (Option Expr)} {es:List Expr} {s:Shared},(∀ k,some k∈ks->aH n hd l sc σ k (rec k)) ->
  (∀ e∈es,aH n hd l sc σ e (rec e))->Inv0 l env sc σ av s ->
  ∀ {β:Type} {k:List (PyData×PyData)->R β} {fin:R β} {Q:List (Value×Value)->Shared->Prop} {E:Value->Shared->Prop},Fin (nB rec ks es) k fin->(∀ vs s' ds,K l s s'->PR s'.heap av vs ds->ds.length=es.length->k ds=fin->Q vs s')->EH l s av fin E ->
   wpAny (model O w) A (evalPairs (oV env pos ks es)) Q E s
 := by
 intro ks
 induction ks with
 |nil =>
  intro es s _ _ _ β k fin Q E hf hq _;cases es with
  |nil=>exact evalPairs_nil (hq _ _ [] (K.rf l s) trivial rfl hf.ok)
  |cons=>exact hf.no.elim
 |cons ko ks ih =>
  intro es s hk he I β k fin Q E hf hq hE;cases ko with
  |none =>
   cases es with
   |nil=>exact hf.no.elim
   |cons=>exact hf.no.elim
  |some kx =>
   cases es with
   |nil=>exact hf.no.elim
   |cons e es =>
    refine evalPairs_cons (hk kx ac A env s av hA I (Fin.b hf) (λkv ke u k1 r h1=>?_) hE);have I1:=I.k k1;refine aa (he e ac A env ke av hA I1 (Fin.b ⟨h1,hf.2⟩) (λvv km u2 k2 r2 h2=>aa (cq (ag ?_))) (hE.back k1));refine ih (λx hx=>hk x (af _ hx)) (λx hx=>he x (af _ hx)) (I1.k k2) (Fin.b ⟨h2,hf.2⟩) (λvs kq ds k3 r3 hl h3=>?_) (hE.back (k1.tr k2));exact hq _ _ ((dOf u,dOf u2)::ds) ((k1.tr k2).tr k3) ⟨((r.rep I.gnd.avlt).k I.gnd.fav k2).k I.gnd.fav k3,(r2.rep I1.gnd.avlt).k I.gnd.fav k3,r3⟩ (congrArg Nat.succ hl) h3
theorem bS.mono(hk:∀ b o,h.get? b=some o->h'.get? b=some o)(ha:∀ b o,h.get? b=some o->av' b->av b){u:V}(r:bS l h av v u):bS l h' av' v u:=by
 cases u with
 |fz d=>exact(show Rep h av v d from r).mono (λb o _ e=>hk b o e) ha
 |own d=>obtain⟨a,e,f,r⟩:=r;exact⟨a,e,f,r.mono (λb o _ e=>hk b o e) ha λo e=>hk _ o e⟩
 |ex x=>obtain⟨e,h,r⟩:=r;exact⟨e,h,r.mono (λb o _ e=>hk b o e) ha⟩
 |pil ds=>obtain⟨a,bs,e,na,p,hl,z,nd,nab,nf,r⟩:=r;exact⟨a,bs,e,na,p.at λo e=>hk _ o e,hl,z,nd,nab,nf,λi b d e1 e2=>(r i b d e1 e2).mono (λb o _ e=>hk b o e) ha λo e=>hk _ o e⟩
theorem a9.keeps(v:a9 env h x u)(hk:∀ b o,h.get? b=some o->h'.get? b=some o):a9 env h' x u:=by
 rcases v with ⟨k,m,hn,e⟩ | ⟨k,c,e,hc⟩
 ·exact .inl ⟨k,m,hn.keeps hk,e⟩
 ·exact .inr ⟨k,c,e,hc.keeps hk⟩
theorem Gnd.apart(G:Gnd l av s)(o:Obj)(ho:o.isFreed=false):Gnd l (λb=>av b\/b=s.heap.objs.size) { s with heap:=s.heap.push o } where
 glo:=G.glo
 stay:=λb o e=>ai _ (G.stay b o e)
 ff:=(G.k (K.of (Kp.push' s o) (ae _))).ff
 fav:=λb f=>.inl (G.fav b f)
 avlt:=λb hb=>hb.elim (λhb=>by obtain⟨o,e⟩:=G.avlt b hb;exact⟨o,ai _ e⟩) λhb=>⟨o,hb▸cE _ _ ho⟩
 avS:=.inl G.avS
 pos:=G.pos
theorem Inv0.apart(I:Inv0 l env sc σ av s)(o:Obj)(ho:o.isFreed=false):
  Inv0 l env sc σ (λb=>av b\/b=s.heap.objs.size) { s with heap:=s.heap.push o } :=
 { I with
  gnd:=I.gnd.apart o ho
  get:=λx v hl e=>let ⟨u,h1,h2⟩:=I.get x v hl e
   ⟨u,h1.keeps λb o e=>ai _ e,h2.mono (λb o e=>ai _ e) λb o e hb=>hb.elim id λhb=>by (rw[hb,bP] at e;exact ns e)⟩ }
theorem ExAt.less(ha:∀ b,av' b->av b){e:Addr}{x:X}(r:ExAt h av e x):ExAt h av' e x:=r.mono (λ_ _ _ e=>e) λb _ _ x=>ha b x
theorem EH.apart{fin:R β}(h:EH l s av fin E)(o:Obj):EH l { s with heap:=s.heap.push o } (λb=>av b\/b=s.heap.objs.size) fin E :=
 λx v s'' e f=>h x v s'' e (by obtain⟨k',e,h1,h2,h3,fl,h4⟩:=f;exact Fly.back (K.of (Kp.push' s o) (ae _)) ⟨k',e,h1,h2,h3.less λ_ x=>.inl x,fl,h4⟩)
theorem U1:∀ {vs:List (Value×Value)} {ds:List (PyData×PyData)} {ps:List (Str×PyData)},PR h av vs ds->keys? ds=some ps->(∃ kvs,Carries (strKind O w) vs kvs/\PS h av kvs ps)/\ps.length=ds.length
 := by
 intro vs
 induction vs with
 |nil =>
  intro ds ps x e;cases ds with
  |nil=>obtain rfl:=si e;exact⟨⟨[],trivial,trivial⟩,rfl⟩
  |cons=>exact x.elim
 |cons p vs ih =>
  obtain⟨key,v⟩:=p;intro ds ps x e;cases ds with
  |nil=>exact x.elim
  |cons q ds =>
   obtain⟨dk,d⟩:=q;obtain⟨x1,x2,x3⟩:=x;cases dk with
   |str k =>
    obtain⟨t,e1,hk⟩:=x1.str_inv;obtain rfl:key=.str k t:=e1;obtain⟨ps',e',rfl⟩:=bj.mp (show(keys? ds).map ((k,d)::·)=some ps from e);obtain⟨⟨kvs,y1,y2⟩,y3⟩:=ih x3 e';exact⟨⟨(k,v)::kvs,⟨eS k t,rfl,y1⟩,rfl,hk,x2,y2⟩,congrArg Nat.succ y3⟩
   |_=>exact ns e
theorem K.but{ke:Shared}(k:K l { s with heap:=s.heap.push o } ke)(hs:Heap.SameBut s.heap.objs.size ke.heap h'):K l s { ke with heap:=h',toks:=ke.toks+j }:=by
 obtain⟨hh,tt,rfl,kk,uu,m⟩:=k;have ne:∀ b o',s.heap.get? b=some o'->b≠s.heap.objs.size:=λb o' e x=>by rw[x,bP] at e;exact ns e
 refine⟨h',_,rfl,λb o' f e=>?_,λb o' e=>?_,U m (al _ _)⟩
 ·rw[hs.2 b (ne b o' e)];exact kk b o' f (ai _ e)
 ·rw[hs.2 b (ne b o' e)];exact uu b o' (ai _ e)
theorem U2(hs:Heap.SameBut D h h'):∀ b o,¬ (av b\/b=D)->h.get? b=some o->h'.get? b=some o:=λb o hb e=>by
 rw[hs.2 b (λx=>hb (.inr x))];exact e
theorem U3{ks:List (Option Expr)}(hk:∀ k,some k∈ks->aH n hd l sc σ k (rec k))(he:∀ e∈es,aH n hd l sc σ e (rec e)):
  aH n hd l sc σ (.Dict ks es pos) (if ks.all Option.isSome=true/\ks.length=es.length/\es.length<=15 then rb (nB rec ks es) λl=>ofP (kL l) else .no):=by
 intro A env s av hA I β k fin Q E hf hq hE;obtain⟨⟨c1,c2,c3⟩,hf⟩:=Fin.ite hf;obtain⟨g1,g2⟩:=Bk env pos c1 c2;cases es with
 |nil =>
  obtain rfl:ks=[]:=co.mp c2;exact wpAny_Dict_empty (hq.step (u:=.own (.dict [])) (K.rf l s) (A6 (kvs:=[]) (ps:=[]) (Kp.rfl' s) (Kp.push' s _) (bP _) (oP I.gnd) (Heap.DictOf.new s.heap) (am _) trivial) (ae _) hf.1)
 |cons e es =>
  refine wpAny_Dict_pairs (knd:=strKind O w) g1 (λh=>by rw[h] at g2;cases g2) (g2.symm▸c3) (U0 hA hk he (I.apart _ rfl) hf.b (λvs ke ds k1 r hl h1=>?_) (hE.apart _));obtain⟨v,e1,e2⟩:=Fin.p ⟨h1,hf.2⟩;unfold kL at e1;refine ocs (keys? ds) (λhds=>?_) λps hds=>?_
  ·rw[hds] at e1;exact pno e1
  ·rw[hds] at e1;obtain rfl:=pi e1;obtain⟨⟨kvs,q1,q2⟩,q3⟩:=U1 r hds;have hd0:ke.heap.DictOf (strKind O w) s.heap.objs.size []:=by
    obtain⟨o,es,ep,e,r⟩:=Heap.DictOf.new (knd:=strKind O w) s.heap;exact⟨o,es,ep,k1.at (λf=>by obtain⟨o,e⟩:=I.gnd.avlt _ (I.gnd.fav _ f);rw[bP] at e;exact ns e) e,r⟩
   refine⟨kvs,q1,hd0,λh' hd hs=>hq _ _ (.own (.dict (eH ps []))) (K.but k1 hs) ?_ e2⟩;obtain⟨y1,y2⟩:=KV.sets q2 (acc:=[]) ec (show KV ke.heap _ [] [] from trivial) nofun;have hkv:=(y1.mono (h':=h') (av':=λb=>av b\/b=s.heap.objs.size) (U2 hs) λ_ _ _ x=>x).out;refine⟨s.heap.objs.size,rfl,bP _,merged [] kvs,hd,⟨U (merged_length_le [] kvs) ?_,y2⟩,oP I.gnd,hkv.1,hkv.2⟩;rw[q2.length,q3,hl];exact U (by simpa using c3) (by decide:15<=sizeLine)
end
section
structure Src(A:Around)(h0:Heap)(av0:Addr->Prop)(target:Expr)(it:Value)(wr:Addr->Prop)(St:Nat->Heap->Prop)(ds:List PyData):Prop where
 live:∀ i h,St i h->∀ b,wr b->∃ o,h.get? b=some o
 frame:∀ i h h',St i h->(∀ b o,wr b->h.get? b=some o->h'.get? b=some o)->(∀ b o,h0.get? b=some o->¬ av0 b->h'.get? b=some o)->St i h'
 item:∀ i d (s:Shared) (E:Value->Shared->Prop) (Q:Value->Shared->Prop),ds[i]?=some d->St i s.heap ->
  (∀ v h' tk,(∀ b o,¬ wr b->s.heap.get? b=some o->h'.get? b=some o)->St (i+1) h' ->
   (∀ avn:Addr->Prop,(∀ b,avn b->∃ o,s.heap.get? b=some o)->(∀ b o,h0.get? b=some o->avn b->av0 b)->Rep h' avn v d)->Q v { s with heap:=h',toks:=tk }) ->
  wpAny (model O w) A (pyNext it) (λr ke=>match r with | none=>False | some v=>wpAny (model O w) A (letOwnedTupleGo target it v) (λ_ km=>Q v km) E ke) E s
 done:∀ (s:Shared) (E:Value->Shared->Prop) (Q:Shared->Prop),St ds.length s.heap->(∀ h' tk,(∀ b o,¬ wr b->s.heap.get? b=some o->h'.get? b=some o)->Q { s with heap:=h',toks:=tk }) ->
  wpAny (model O w) A (pyNext it) (λr ke=>match r with | none=>Q ke | some _=>False) E s
 self:∀ i (s:Shared) (Q:Value->Shared->Prop) (E:Value->Shared->Prop),St i s.heap->Q it s->wpAny (model O w) A (pyIter it) Q E s
theorem Src.itemT{h0:Heap}(S:Src A h0 av0 target it wr St ds){E:Value->Shared->Prop}(hd:ds[i]?=some d)(hs:St i s.heap)
  (h:∀ v h' tk,(∀ b o,¬ wr b->s.heap.get? b=some o->h'.get? b=some o)->St (i+1) h' ->
   (∀ avn:Addr->Prop,(∀ b,avn b->∃ o,s.heap.get? b=some o)->(∀ b o,h0.get? b=some o->avn b->av0 b)->Rep h' avn v d)->s.toks<=tk->Q v { s with heap:=h',toks:=tk }) :
  wpAny (model O w) A (pyNext it) (λr ke=>match r with | none=>False | some v=>wpAny (model O w) A (letOwnedTupleGo target it v) (λ_ km=>Q v km) E ke) E s:=by
 refine dA (az (S.item i d s E (λv s'=>s.toks<=s'.toks->Q v s') hd hs λv h' tk a b c m=>h v h' tk a b c m) (λr ke x m=>?_) λ_ _ x _=>x);cases r with
 |none=>exact x
 |some v=>exact dA (az x (λ_ _ y m'=>y (U m m')) λ_ _ y _=>y)
theorem Src.doneT{h0:Heap}(S:Src A h0 av0 target it wr St ds){E:Value->Shared->Prop}{Q:Shared->Prop}(hs:St ds.length s.heap)
  (h:∀ h' tk,(∀ b o,¬ wr b->s.heap.get? b=some o->h'.get? b=some o)->s.toks<=tk->Q { s with heap:=h',toks:=tk }) :
  wpAny (model O w) A (pyNext it) (λr ke=>match r with | none=>Q ke | some _=>False) E s:=by
 refine dA (az (S.done s E (λs'=>s.toks<=s'.toks->Q s') hs λh' tk a m=>h h' tk a m) (λr ke x m=>?_) λ_ _ x _=>x);cases r with
 |none=>exact x m
 |some v=>exact x
noncomputable def sZ(n:String):Bool:=["enumerate", "zip", "dict_itemiterator", "dict_reverseitemiterator", "odict_iterator", "itertools.zip_longest", "itertools.pairwise"].contains n
theorem U4{n:String}{Q:Unit->Shared->Prop}(hI:s.heap.get? I=some o)(hc:o.cls=.type n)(hn:sZ n=false)(h:Q () s):
  wpAny M A (letOwnedTupleGo target (.ref I) v) Q E s:=by
 have key:wpAny M A (match (Value.ref I,v) with
  | (.ref r,.ref a)=>(do
   let o <- load r
   match o.cls,o.data with
   | .type n,.fields vs=>if ["enumerate", "zip", "dict_itemiterator", "dict_reverseitemiterator", "odict_iterator", "itertools.zip_longest", "itertools.pairwise"].contains n&&vs[0]?==some (rawInt a) then do
     rule "for.unpacks-the-owned-tuple"; updateField r 0 .none else pure ()
   |_,_=>pure ():Sem Unit)
  |_=>pure ()) Q E s:=by
  cases v with
  |ref a =>
   refine aa (wpAny_load hI ?_);rw[hc];cases o.data<;>first | exact ag h | skip;have:["enumerate", "zip", "dict_itemiterator", "dict_reverseitemiterator", "odict_iterator", "itertools.zip_longest", "itertools.pairwise"].contains n=false:=hn;simp only[this,Bool.false_and,Bool.false_eq_true,if_false];exact ag h
  |_=>exact ag h
 cases target with
 |Tuple=>exact key
 |List=>exact key
 |_=>exact ag h
theorem jK{ds:List α}{d:α}(h:ds[i]?=some d):i < ds.length:=(cr.mp h).1
theorem Src.ofWalks{h0:Heap}{P:Nat->Value->Prop}(W:Walks O w A I fp [I] n P St0)(hn:n=ds.length)
  (hfp:∀ b∈fp,b=I\/((∃ o,h0.get? b=some o)/\¬ av0 b)) (hcls:∀ i h,St0 i h->∃ o T,h.get? I=some o/\o.cls=.type T/\sZ T=false)
  (hI0:h0.get? I=none) (hP:∀ i v d,P i v->ds[i]?=some d->Rep h0 av0 v d) :
  Src A h0 av0 target (.ref I) (λb=>b=I) (λi h=>St0 i h/\∀ b o,h0.get? b=some o->¬ av0 b->h.get? b=some o) ds where
 live:=λi h st b hb=>by obtain⟨o,T,e,_⟩:=hcls i h st.1;exact⟨o,(show b=I from hb)▸e⟩
 frame:=λi h h' st hk hk0=>⟨W.frame i h h' st.1 λb hb o e=>by
  rcases hfp b hb with rfl | ⟨⟨o',e'⟩,hav⟩
  ·exact hk b o rfl e
  ·have:=st.2 b o' e' hav;simp only[e] at this;obtain rfl:=si this;exact hk0 b o e' hav,hk0⟩
 item:=λi d s E Q hd st hQ=>by
  refine W.item i s _ E (hn▸jK hd) st.1 λv h' tk hPv st' hk=>?_;refine hde λ_ θ=>?_;obtain⟨o,T,e1,e2,e3⟩:=hcls _ _ st';apply θ;have hk':∀ b o,¬ (b=I)->s.heap.get? b=some o->h'.get? b=some o:=λb o hb e=>hk b o (λh=>hb (List.mem_singleton.mp h)) e;have hkk:∀ b o,h0.get? b=some o->¬ av0 b->h'.get? b=some o:=λb o e hav=>hk' b o (λx=>by simp only[x,hI0] at e;exact ns e) (st.2 b o e hav);refine U4 (s:={ s with heap:=h',toks:=tk }) e1 e2 e3 (hQ v h' tk hk' ⟨st',hkk⟩ λavn hlive hsub=>?_);exact(hP i v d hPv hd).mono (λb o hb e=>hkk b o e hb) hsub
 done:=λs E Q st hQ=>W.done s _ E (show St0 n s.heap from hn▸st.1) λh' tk hk=>hQ h' tk λb o hb e=>hk b o (λh=>hb (List.mem_singleton.mp h)) e
 self:=λi s Q E st hQ=>W.self i s Q E st.1 hQ
inductive IterAt(A:Around)(l:List Env)(target:Expr)(s:Shared)(av:Addr->Prop)(it:Value)(s':Shared)(ds:List PyData):Prop where
 |mk (ke wz sz) (a:K l s ke) (b:Src A ke.heap av target it wz sz ds) (c:sz 0 s'.heap) (d:∀ b,wz b->ke.heap.get? b=none/\∃ o,s'.heap.get? b=some o) (e:Kp ke s') (f:ds.length<=sizeLine) (g:ke.toks<=s'.toks):IterAt A l target s av it s' ds
theorem lD(e:h.get? a=some o):a≠h.objs.size:=λx=>by simp only[x,bP] at e;exact ns e
theorem iG(k0:K l ki s)(ho:o.isFreed=false){P:Nat->Value->Prop}
  (W:Walks O w A s.heap.objs.size fp [s.heap.objs.size] n P St0) (hn:n=ds.length) (hz:ds.length<=sizeLine)
  (hfp:∀ b∈fp,b=s.heap.objs.size\/((∃ o,s.heap.get? b=some o)/\¬ av b)) (hcls:∀ i h,St0 i h->∃ o T,h.get? s.heap.objs.size=some o/\o.cls=.type T/\sZ T=false)
  (hP:∀ i v d,P i v->ds[i]?=some d->Rep s.heap av v d) (hst:St0 0 (s.heap.push o)) :
  IterAt A l target ki av (.ref s.heap.objs.size) { s with heap:=s.heap.push o } ds :=
 ⟨s,_,_,k0,Src.ofWalks W hn hfp hcls (bP _) hP,⟨hst,λb o' e _=>ai _ e⟩,λb hb=>(show b=s.heap.objs.size from hb)▸⟨bP _,o,cE _ _ ho⟩,Kp.push' s o,hz,ae _⟩
theorem fp2(e:s.heap.get? a=some o)(h1:¬ av a):∀ b∈[s.heap.objs.size,a],b=s.heap.objs.size\/((∃ o,s.heap.get? b=some o)/\¬ av b):=λb hb=>by
 rcases List.mem_cons.mp hb with hb | hb
 ·exact .inl hb
 ·exact .inr (List.mem_singleton.mp hb▸⟨⟨_,e⟩,h1⟩)
theorem U5(k0:K l ki s)(hh:A.handled=none)(r:Rep s.heap av v d)(hi:items d=.ok ds)
  {Q:Value->Shared->Prop} {E:Value->Shared->Prop} (hq:∀ it s',IterAt A l target ki av it s' ds->Q it s'):wpAny (model O w) A (pyIter v) Q E s:=by
 cases d with
 |list dl =>
  obtain rfl:=pi hi;obtain⟨a,vs,rfl,h1,⟨n,e⟩,h3,h4,h5⟩:=r.list_inv;exact jp ⟨_,e,rfl,_,rfl⟩ (hq _ _ (iG k0 rfl (Walks.list hh s.heap.objs.size a (lD e) vs.toArray) (by simpa using h3) (h3▸h4) (fp2 e h1) (λi h st=>by obtain⟨⟨o,e,c,_⟩,_⟩:=st;exact⟨o,_,e,c,by decide⟩)
   (λi v d hP hd=>h5 i v d (by simpa using hP) hd) ⟨⟨_,cE _ _ rfl,rfl,rfl⟩,⟨_,ai _ e,rfl,_,rfl⟩⟩))
 |tuple dl =>
  obtain rfl:=pi hi;obtain⟨a,vs,rfl,h1,⟨n,e⟩,h3,h4,h5⟩:=r.tuple_inv;exact ig ⟨_,e,rfl,_,rfl⟩ (hq _ _ (iG k0 rfl (Walks.tuple hh s.heap.objs.size a (lD e) vs.toArray) (by simpa using h3) (h3▸h4) (fp2 e h1) (λi h st=>by obtain⟨⟨o,e,c,_⟩,_⟩:=st;exact⟨o,_,e,c,by decide⟩)
   (λi v d hP hd=>h5 i v d (by simpa using hP) hd) ⟨⟨_,cE _ _ rfl,rfl,rfl⟩,⟨_,ai _ e,rfl,_,rfl⟩⟩))
 |dict dl =>
  obtain rfl:=pi hi;obtain⟨a,kvs,rfl,h1,⟨o,es,ep,e,hd⟩,h3,h4,h5,h6⟩:=r.dict_inv;have hl:dl.length=kvs.length:=by simpa using congrArg List.length h5
  refine wpAny_pyIter_dict (knd:=strKind O w) (kvs:=kvs) (ep:=ep) h4 ⟨o,es,e,hd⟩ (hq _ _ (iG k0 rfl (Walks.dictKeys (knd:=strKind O w) hh s.heap.objs.size a (lD e) kvs ep) (by simp[hl]) (by simpa[hl] using h3.1) (fp2 e h1) (λi h st=>by obtain⟨⟨o,e,c,_⟩,_⟩:=st;exact⟨o,_,e,c,by decide⟩)
   (λi v d hP hd=>?_) ⟨⟨_,cE _ _ rfl,rfl,rfl⟩,⟨o,es,ai _ e,hd⟩⟩))
  obtain⟨k,x,e3,e4⟩:=hP;obtain⟨t,rfl⟩:=Value.isStrOf_shape e4;rw[h5,List.getElem?_map,e3] at hd;obtain rfl:=si hd;exact .str k t (h3.2 _ (cj e3))
 |str x =>
  obtain rfl:=pi hi;obtain⟨t,rfl,hx⟩:=r.str_inv;refine wpAny_pyIter_strU (hq _ _ ?_);have hP:∀ (i:Nat) (v:Value) (d:PyData),SignAt x i v->(x.cps.toList.map bB)[i]?=some d->Rep s.heap av v d:=λi v d hP hd=>by
   obtain⟨c,u,e1,rfl⟩:=hP;rw[List.getElem?_map,Array.getElem?_toList,e1] at hd;obtain rfl:=si hd;exact .str _ u (by rw[sizeLine_eq];exact eu rfl)
  have hfp:∀ b∈[s.heap.objs.size],b=s.heap.objs.size\/((∃ o,s.heap.get? b=some o)/\¬ av b):=λb hb=>.inl (List.mem_singleton.mp hb);have hz:(x.cps.toList.map bB).length<=sizeLine:=by simpa using (show x.cps.size<=sizeLine from hx)
  by_cases ha:x.cps.all (· < 128)=true
  ·rw[show strIterType x = "str_ascii_iterator" from if_pos ha];exact iG k0 rfl (Walks.strAscii hh s.heap.objs.size x t) (by simp) hz hfp (λi h st=>by obtain⟨o,e,c,_⟩:=st;exact⟨o,_,e,c,by decide⟩) hP ⟨_,cE _ _ rfl,rfl,rfl⟩
  ·rw[show strIterType x = "str_iterator" from if_neg ha];exact iG k0 rfl (Walks.strWide hh s.heap.objs.size x t) (by simp) hz hfp (λi h st=>by obtain⟨o,e,c,_⟩:=st;exact⟨o,_,e,c,by decide⟩) hP ⟨_,cE _ _ rfl,rfl,rfl⟩
 |_=>exact pno hi
end
section
theorem oW{it l:Addr}{items:Array Value}{x:Value}(hit:s.heap.IsTupleIter it l i)(hl:s.heap.IsTuple l items)(hx:items[i]?=some x)
  (hQ:∀ h',h'.IsTupleIter it l (i+1)->Heap.SameBut it s.heap h'->Q x { s with heap:=h' }):wpAny (model O w) A (Builtin.SmallTypes.nextOf (.ref it)) Q E s:=by
 obtain⟨o,ho,hc,hd⟩:=id hit;obtain⟨ol,hol,_,nl,hdl⟩:=hl;unfold Builtin.SmallTypes.nextOf;refine aa (wpAny_callSpecial?_slot (name:=Str.ofString "__next__") hit.typeIs F.slot_tuple_iterator_next (gz F.slot_tuple_iterator_next hit.typeIs F.entry_tuple_iterator_next ?_ (F.args_tuple_iterator_next_1 _)));show wpAny _ _ (field (.ref it) 0 >>= _) _ _ s;refine aa (cf ho hd (x:=.ref l) rfl ?_);show wpAny _ _ (if (Value.ref l==Value.none)=true then _ else _) _ _ s;rw[if_neg (show ¬ ((Value.ref l==Value.none)=true) from dj)];show wpAny _ _ (field (.ref it) 1 >>= _) _ _ s;refine aa (cf ho hd (x:=.int i 0) rfl ?_);show wpAny _ _ (seqItems? (.ref l) >>= _) _ _ s;refine aa (ew hol hdl ?_);simp only[Int.toNat_natCast,hx];refine aa (wpAny_setField ho hd (by simp) (ag ⟨x,rfl,ag (hQ _ ?_ (Heap.SameBut.update ..))⟩));exact⟨_,Heap.get?_update_self _ ho (Obj.isFreed_of_fields (Obj.data_mapFields hd _)),(Obj.cls_mapFields ..).trans hc,by rw[Obj.data_mapFields hd];simp[rawInt]⟩
theorem s0{it l:Addr}{items:Array Value}(hh:A.handled=none)(hit:s.heap.IsTupleIter it l i)(hl:s.heap.IsTuple l items)(hx:items[i]?=none)
  (hE:∀ h' e,Heap.ExtBut it s.heap h'->(∃ o,h'.get? e=some o/\o.cls=.type "StopIteration")->E (.ref e) { s with heap:=h' }):wpAny (model O w) A (Builtin.SmallTypes.nextOf (.ref it)) Q E s:=by
 obtain⟨o,ho,hc,hd⟩:=id hit;obtain⟨ol,hol,_,nl,hdl⟩:=hl;unfold Builtin.SmallTypes.nextOf;refine aa (wpAny_callSpecial?_slot (name:=Str.ofString "__next__") hit.typeIs F.slot_tuple_iterator_next (gz F.slot_tuple_iterator_next hit.typeIs F.entry_tuple_iterator_next ?_ (F.args_tuple_iterator_next_1 _)));show wpAny _ _ (field (.ref it) 0 >>= _) _ _ s;refine aa (cf ho hd (x:=.ref l) rfl ?_);show wpAny _ _ (if (Value.ref l==Value.none)=true then _ else _) _ _ s;rw[if_neg (show ¬ ((Value.ref l==Value.none)=true) from dj)];show wpAny _ _ (field (.ref it) 1 >>= _) _ _ s;refine aa (cf ho hd (x:=.int i 0) rfl ?_);show wpAny _ _ (seqItems? (.ref l) >>= _) _ _ s;refine aa (ew hol hdl ?_);simp only[Int.toNat_natCast,hx];refine aa (wpAny_rule (aa (wpAny_setField ho hd (by simp) ?_)));show wpAny _ _ (newExc (.type "StopIteration") [] >>= _) _ _ _;refine aa ?_;simp only[newExc,newTuple];refine aa (wpAny_newObj_type ?_ (by size_fits));refine aa (m:=firstArgMember _ _) (wpAny_of_eq (a:=Value.none) (by first | rfl | (simp only[firstArgMember];rfl)) ?_);refine wpAny_newObj_type ?_ (by size_fits);simp only[raiseNew];refine aa (wpAny_handled ?_)
 first | rw[show A.in1.handled=none from hh] | rw[hh]
 refine aa (ag (wpAny_throw ?_));exact hE _ _ (((Heap.SameBut.update ..).extBut.push _).push _) ⟨_,ck _ rfl,rfl⟩
theorem U6(hh:A.handled=none)(it l:Addr)(hne:l≠it)(items:Array Value):Draws O w A it [it,l] items.size (λi v=>items[i]?=some v) (λi h=>h.IsTupleIter it l i/\h.IsTuple l items) where
 live:=λ_ _ st=>by obtain⟨⟨o,ho,_⟩,_⟩:=st;exact⟨o,ho⟩
 frame:=λ_ _ _ st hk=>by
  obtain⟨⟨o,ho,r⟩,⟨o',ho',r'⟩⟩:=st;exact⟨⟨o,hk it (by simp) o ho,r⟩,⟨o',hk l (by simp) o' ho',r'⟩⟩
 item:=λi s Q E hi st hQ=>oW st.1 st.2 (x:=items[i]) (by simp[hi]) λh' hit' hs'=>hQ _ h' s.toks (by simp[hi]) ⟨hit',st.2.extBut hs'.extBut hne⟩ hs'
 done:=λs Q E st hE=>s0 hh st.1 st.2 (by simp) hE
theorem U7{z:Addr}{k1 k2:Nat}{xs:Array Value}{x y a b:Value}(D:ZipApart z TI TO i1 i2 l1 l2)
  (hz:IsZip s.heap z TI TO .none) (hTI:IsPair s.heap TI (.ref i1) (.ref i2)) (hTO:IsPair s.heap TO a b)
  (h1:s.heap.IsTupleIter i1 l1 k1) (h2:s.heap.IsTupleIter i2 l2 k2) (hl1:s.heap.IsTuple l1 xs) (hl2:s.heap.IsTuple l2 ys) (hx:xs[k1]?=some x) (hy:ys[k2]?=some y)
  (hQ:∀ h',IsZip h' z TI TO (rawInt s.heap.objs.size)->IsPair h' TO x y->h'.IsTupleIter i1 l1 (k1+1)->h'.IsTupleIter i2 l2 (k2+1)->IsPair h' s.heap.objs.size x y->h'.objs.size=s.heap.objs.size+1 ->
   (∀ c o,c≠z->c≠TO->c≠i1->c≠i2->s.heap.get? c=some o->h'.get? c=some o)->Q (.ref s.heap.objs.size) { s with heap:=h' }) :
  wpAny (model O w) A (Builtin.«zip.__next__» ⟨[.ref z],[]⟩) (λfin s'=>∃ v,fin=.done (.ret v)/\Q v s') E s:=by
 show wpAny _ _ (field (.ref z) 2 >>= _) _ _ _;refine aa (cf hz rfl (x:=.bool false) rfl ?_);show wpAny _ _ (field (.ref z) 3 >>= _) _ _ _;refine aa (cf hz rfl (x:=.ref TI) rfl ?_);refine aa (ew hTI rfl ?_);show wpAny _ _ (Builtin.SmallTypes.ownedTupleIsFree (.ref z) >>= _) _ _ _;refine aa ?_;unfold Builtin.SmallTypes.ownedTupleIsFree;refine aa (cf hz rfl (x:=.none) rfl (ag ?_));simp only[if_true];refine aa (wpAny_rule ?_);refine aa (cf hz rfl (x:=.ref TO) rfl ?_);refine aa (ik hz (by simp) λku ll kz=>?_);replace ll:IsZip ku z TI TO .ellipsis:=ll;refine aa ?_;simp only[List.zipIdx_cons,List.zipIdx_nil,List.forIn_cons,List.forIn_nil];refine aa (aa (wpAny_onRaise ?_));show wpAny _ _ (Builtin.SmallTypes.nextOf (.ref i1) >>= _) _ _ _;refine aa (oW (h1.extBut kz.extBut D.i1z) (hl1.extBut kz.extBut D.l1z) hx λlc ly lg=>ag ?_);have hTO2:IsPair lc TO a b:=lg.extBut _ _ D.TOi1 (kz.extBut _ _ D.TOz hTO);refine aa (ew hTO2 rfl ?_);refine aa (wpAny_updateSeq_pair hTO2 λld hTO3 lh=>?_);replace hTO3:IsPair ld TO x b:=hTO3;refine aa (wpAny_letGo (ag ?_));refine aa (aa (wpAny_onRaise ?_));show wpAny _ _ (Builtin.SmallTypes.nextOf (.ref i2) >>= _) _ _ _;refine aa (oW (((h2.extBut kz.extBut D.i2z).extBut lg.extBut D.i12.symm).extBut lh.extBut D.TOi2.symm) (((hl2.extBut kz.extBut D.l2z).extBut lg.extBut D.l2i1).extBut lh.extBut D.l2TO) hy λlq h24 hs4=>ag ?_);have hTO4:IsPair lq TO x b:=hs4.extBut _ _ D.TOi2 hTO3;refine aa (ew hTO4 rfl ?_);refine aa (wpAny_updateSeq_pair hTO4 λky hTO5 lm=>?_);replace hTO5:IsPair ky TO x y:=hTO5;refine aa (wpAny_letGo (ag (ag ?_)));refine aa (ew hTO5 rfl ?_);refine aa (wpAny_newTuple ?_);have hsz:ky.objs.size=s.heap.objs.size:=by rw[lm.1,hs4.1,lh.1,lg.1,kz.1]
 have hz5:IsZip ky z TI TO .ellipsis:=lm.extBut _ _ D.TOz.symm (hs4.extBut _ _ D.i2z.symm (lh.extBut _ _ D.TOz.symm (lg.extBut _ _ D.i1z.symm ll)));have hk5:∀ c o,c≠z->c≠TO->c≠i1->c≠i2->s.heap.get? c=some o->ky.get? c=some o:=λc o c1 c2 c3 c4 e =>
  lm.extBut _ _ c2 (hs4.extBut _ _ c4 (lh.extBut _ _ c2 (lg.extBut _ _ c3 (kz.extBut _ _ c1 e))))
 have md:ky.IsTupleIter i1 l1 (k1+1):=((ly.extBut lh.extBut D.TOi1.symm).extBut hs4.extBut D.i12).extBut lm.extBut D.TOi1.symm;have h25:ky.IsTupleIter i2 l2 (k2+1):=h24.extBut lm.extBut D.TOi2.symm;have hzlt:z < ky.objs.size:=bx hz5;show wpAny _ _ (Builtin.SmallTypes.ownedTupleHandOut (.ref z) (.ref ky.objs.size) >>= _) _ _ _;refine aa ?_;unfold Builtin.SmallTypes.ownedTupleHandOut;have hz6:IsZip (ky.push { cls:=.type "tuple", data:=.seq #[x,y] }) z TI TO .ellipsis:=ai _ hz5;refine aa (ik hz6 (by simp) λme hz7 hs7=>?_);replace hz7:IsZip me z TI TO (rawInt ky.objs.size):=hz7;refine ik hz7 (by simp) λlp lv hs8=>?_;replace lv:IsZip lp z TI TO (rawInt ky.objs.size):=lv;have up:∀ c o,c≠z->ky.get? c=some o->lp.get? c=some o:=λc o c1 e=>hs8.extBut _ _ c1 (hs7.extBut _ _ c1 (ai _ e));have hT8:IsPair lp ky.objs.size x y:=hs8.extBut _ _ (bp hzlt) (hs7.extBut _ _ (bp hzlt) (ck _ rfl));have hz8:lp.objs.size=ky.objs.size+1:=by rw[hs8.1,hs7.1,di]
 rw[hsz] at lv hT8 hz8;refine ag ⟨_,rfl,?_⟩;show Q (.ref ky.objs.size) _;rw[hsz];have at':∀ {i l k},i≠z->ky.IsTupleIter i l k->lp.IsTupleIter i l k:=λhi st=>by obtain⟨o,e,r⟩:=st;exact⟨o,up _ o hi e,r⟩
 exact hQ lp lv (up _ _ D.TOz hTO5) (at' D.i1z md) (at' D.i2z h25) hT8 hz8 λc o c1 c2 c3 c4 e=>up c o c1 (hk5 c o c1 c2 c3 c4 e)
theorem U8{z:Addr}{k1 k2:Nat}{xs:Array Value}{a b:Value}{Q:PySem.Fin->Shared->Prop}(hh:A.handled=none)(D:ZipApart z TI TO i1 i2 l1 l2)
  (hz:IsZip s.heap z TI TO .none) (hTI:IsPair s.heap TI (.ref i1) (.ref i2)) (hTO:IsPair s.heap TO a b)
  (h1:s.heap.IsTupleIter i1 l1 k1) (h2:s.heap.IsTupleIter i2 l2 k2) (hl1:s.heap.IsTuple l1 xs) (hl2:s.heap.IsTuple l2 ys) (hend:xs[k1]?=none\/ys[k2]?=none)
  (hE:∀ h' e,(∀ c o,c≠z->c≠TO->c≠i1->c≠i2->s.heap.get? c=some o->h'.get? c=some o)->(∃ o,h'.get? e=some o/\o.cls=.type "StopIteration")->E (.ref e) { s with heap:=h' }) :
  wpAny (model O w) A (Builtin.«zip.__next__» ⟨[.ref z],[]⟩) Q E s:=by
 show wpAny _ _ (field (.ref z) 2 >>= _) _ _ _;refine aa (cf hz rfl (x:=.bool false) rfl ?_);show wpAny _ _ (field (.ref z) 3 >>= _) _ _ _;refine aa (cf hz rfl (x:=.ref TI) rfl ?_);refine aa (ew hTI rfl ?_);show wpAny _ _ (Builtin.SmallTypes.ownedTupleIsFree (.ref z) >>= _) _ _ _;refine aa ?_;unfold Builtin.SmallTypes.ownedTupleIsFree;refine aa (cf hz rfl (x:=.none) rfl (ag ?_));simp only[if_true];refine aa (wpAny_rule ?_);refine aa (cf hz rfl (x:=.ref TO) rfl ?_);refine aa (ik hz (by simp) λku ll kz=>?_);replace ll:IsZip ku z TI TO .ellipsis:=ll;refine aa ?_;simp only[List.zipIdx_cons,List.zipIdx_nil,List.forIn_cons,List.forIn_nil];refine aa (aa (wpAny_onRaise ?_));show wpAny _ _ (Builtin.SmallTypes.nextOf (.ref i1) >>= _) _ _ _;cases hx:xs[k1]? with
 |none =>
  refine aa (s0 hh (h1.extBut kz.extBut D.i1z) (hl1.extBut kz.extBut D.l1z) hx λlc e lg he=>?_);obtain⟨oe,hoe,hce⟩:=he;have lz:IsZip lc z TI TO .ellipsis:=lg _ _ D.i1z.symm ll;have hez:e≠z:=λx=>by subst x;rw[lz] at hoe;cases hoe;simp at hce
  refine ik lz (by simp) λld _ lh=>hE ld e (λc o c1 _ c3 _ x=>lh.extBut _ _ c1 (lg _ _ c3 (kz.extBut _ _ c1 x))) ⟨oe,lh.extBut _ _ hez hoe,hce⟩
 |some x =>
  have hy:ys[k2]?=none:=by rcases hend with h | h;rw[hx] at h;cases h;exact h
  refine aa (oW (h1.extBut kz.extBut D.i1z) (hl1.extBut kz.extBut D.l1z) hx λlc ly lg=>ag ?_);have hTO2:IsPair lc TO a b:=lg.extBut _ _ D.TOi1 (kz.extBut _ _ D.TOz hTO);refine aa (ew hTO2 rfl ?_);refine aa (wpAny_updateSeq_pair hTO2 λld hTO3 lh=>?_);refine aa (wpAny_letGo (ag ?_));refine aa (aa (wpAny_onRaise ?_));show wpAny _ _ (Builtin.SmallTypes.nextOf (.ref i2) >>= _) _ _ _;refine aa (s0 hh (((h2.extBut kz.extBut D.i2z).extBut lg.extBut D.i12.symm).extBut lh.extBut D.TOi2.symm) (((hl2.extBut kz.extBut D.l2z).extBut lg.extBut D.l2i1).extBut lh.extBut D.l2TO) hy λlq e hs4 he=>?_);obtain⟨oe,hoe,hce⟩:=he;have hz4:IsZip lq z TI TO .ellipsis:=hs4 _ _ D.i2z.symm (lh.extBut _ _ D.TOz.symm (lg.extBut _ _ D.i1z.symm ll));have hez:e≠z:=λx=>by subst x;rw[hz4] at hoe;cases hoe;simp at hce
  refine ik hz4 (by simp) λky _ lm=>hE ky e (λc o c1 c2 c3 c4 x=>lm.extBut _ _ c1 (hs4 _ _ c4 (lh.extBut _ _ c2 (lg.extBut _ _ c3 (kz.extBut _ _ c1 x))))) ⟨oe,lm.extBut _ _ hez hoe,hce⟩
theorem U9{z:Addr}{k1 k2:Nat}{xs:Array Value}{x y a b:Value}{Q:Option Value->Shared->Prop}(D:ZipApart z TI TO i1 i2 l1 l2)
  (hz:IsZip s.heap z TI TO .none) (hTI:IsPair s.heap TI (.ref i1) (.ref i2)) (hTO:IsPair s.heap TO a b)
  (h1:s.heap.IsTupleIter i1 l1 k1) (h2:s.heap.IsTupleIter i2 l2 k2) (hl1:s.heap.IsTuple l1 xs) (hl2:s.heap.IsTuple l2 ys) (hx:xs[k1]?=some x) (hy:ys[k2]?=some y)
  (hQ:∀ h',IsZip h' z TI TO (rawInt s.heap.objs.size)->IsPair h' TO x y->h'.IsTupleIter i1 l1 (k1+1)->h'.IsTupleIter i2 l2 (k2+1)->IsPair h' s.heap.objs.size x y->h'.objs.size=s.heap.objs.size+1 ->
   (∀ c o,c≠z->c≠TO->c≠i1->c≠i2->s.heap.get? c=some o->h'.get? c=some o)->Q (some (.ref s.heap.objs.size)) { s with heap:=h' }) :
  wpAny (model O w) A (pyNext (.ref z)) Q E s:=by
 have hT:s.TypeIs (.ref z) "zip" := ⟨_,hz,rfl⟩
 unfold pyNext;exact aa (wpAny_attempt (wpAny_callSpecial?_slot (name:=Str.ofString "__next__") hT F.slot_zip_next
  (gz F.slot_zip_next hT F.entry_zip_next (U7 D hz hTI hTO h1 h2 hl1 hl2 hx hy λh' a1 a2 a3 a4 a5 a6 a7=>ag (hQ h' a1 a2 a3 a4 a5 a6 a7)) (F.args_zip_next_1 _))))
theorem Va{z:Addr}{k1 k2:Nat}{xs:Array Value}{a b:Value}{Q:Option Value->Shared->Prop}(hh:A.handled=none)(D:ZipApart z TI TO i1 i2 l1 l2)
  (hz:IsZip s.heap z TI TO .none) (hTI:IsPair s.heap TI (.ref i1) (.ref i2)) (hTO:IsPair s.heap TO a b)
  (h1:s.heap.IsTupleIter i1 l1 k1) (h2:s.heap.IsTupleIter i2 l2 k2) (hl1:s.heap.IsTuple l1 xs) (hl2:s.heap.IsTuple l2 ys) (hend:xs[k1]?=none\/ys[k2]?=none)
  (hQ:∀ h',(∀ c o,c≠z->c≠TO->c≠i1->c≠i2->s.heap.get? c=some o->h'.get? c=some o)->Q none { s with heap:=h' }):wpAny (model O w) A (pyNext (.ref z)) Q E s:=by
 have hT:s.TypeIs (.ref z) "zip" := ⟨_,hz,rfl⟩
 unfold pyNext;refine aa (wpAny_attempt (wpAny_callSpecial?_slot (name:=Str.ofString "__next__") hT F.slot_zip_next
  (gz F.slot_zip_next hT F.entry_zip_next (U8 hh D hz hTI hTO h1 h2 hl1 hl2 hend λh' e hk he=>?_) (F.args_zip_next_1 _))))
 obtain⟨o,ho,hc⟩:=he;refine aa (wpAny_isInstance (T := "StopIteration") (b:=true) ⟨o,ho,hc⟩ isSubtype_stop ?_);exact ag (hQ _ hk)
noncomputable abbrev zH1(h:Heap)(l1:Addr):Heap:=h.push { cls:=.type "tuple_iterator", data:=.fields #[.ref l1,.int 0 0] }
noncomputable abbrev zH2(h:Heap)(l1 l2:Addr):Heap:=(zH1 h l1).push { cls:=.type "tuple_iterator", data:=.fields #[.ref l2,.int 0 0] }
noncomputable abbrev zH3(h:Heap)(l1 l2:Addr):Heap:=(zH2 h l1 l2).push { cls:=.type "tuple", data:=.seq #[.ref h.objs.size,.ref (zH1 h l1).objs.size] }
noncomputable abbrev zH4(h:Heap)(l1 l2:Addr):Heap:=(zH3 h l1 l2).push { cls:=.type "tuple", data:=.seq #[.none,.none] }
noncomputable abbrev zH5(h:Heap)(l1 l2:Addr):Heap:=(zH4 h l1 l2).push { cls:=.type "zip", data:=.fields #[.none,.bool false,.bool false,.ref (zH2 h l1 l2).objs.size,.ref (zH3 h l1 l2).objs.size] }
theorem Vb(l1 l2:Addr)(xs ys:Array Value):Meets (Builtin.«zip.__new__» ⟨[.type "zip", .ref l1,.ref l2],[]⟩) (λ_ R s=>s.heap.IsTuple l1 xs/\s.heap.IsTuple l2 ys/\R (.ok (.ret (.ref (zH4 s.heap l1 l2).objs.size))) { s with heap:=zH5 s.heap l1 l2 }) :=
 .of_wp λO w A R s h=>by
  obtain⟨hp,g,d,tk,os⟩:=s;obtain⟨hl1,hl2,h⟩:=h;have hsub:=sub_zip;have hL1:Heap.IsTuple (Shared.heap ⟨hp,g,d,tk,os⟩) l1 xs:=hl1;have hL2:Heap.IsTuple (Shared.heap ⟨hp.push { cls:=.type "tuple_iterator", data:=.fields #[.ref l1,.int 0 0] },g,d,tk,os⟩) l2 ys:=Heap.IsTuple.push hl2 _
  wp_walk using ig hL1,ig hL2
  exact⟨_,rfl,h⟩
theorem Vc{xs:Array Value}(hl1:s.heap.IsTuple l1 xs)(hl2:s.heap.IsTuple l2 ys)
  (h:∀ h',IsZip h' (s.heap.objs.size+4) (s.heap.objs.size+2) (s.heap.objs.size+3) .none->IsPair h' (s.heap.objs.size+2) (.ref s.heap.objs.size) (.ref (s.heap.objs.size+1)) ->
   IsPair h' (s.heap.objs.size+3) .none .none->h'.IsTupleIter s.heap.objs.size l1 0->h'.IsTupleIter (s.heap.objs.size+1) l2 0->h'.objs.size=s.heap.objs.size+5 ->
   (∀ c o,s.heap.get? c=some o->h'.get? c=some o)->Q (.ref (s.heap.objs.size+4)) { s with heap:=h' }) :
  wpAny (model O w) A (call (.type "zip") [.ref l1,.ref l2]) Q E s:=by
 refine callType_new F.called_zip (by decide) (F.typeCall_zip_2 _ _) (F.newCall_zip_2 _ _) (λobj=>F.args_object_init_3 obj _ _) F.entry_zip_new (Vb l1 l2 xs ys) ⟨hl1,hl2,?_⟩;have z1:(zH1 s.heap l1).objs.size=s.heap.objs.size+1:=di ..;have z2:(zH2 s.heap l1 l2).objs.size=s.heap.objs.size+2:=by rw[di,z1]
 have z3:(zH3 s.heap l1 l2).objs.size=s.heap.objs.size+3:=by rw[di,z2]
 have z4:(zH4 s.heap l1 l2).objs.size=s.heap.objs.size+4:=by rw[di,z3]
 have z5:(zH5 s.heap l1 l2).objs.size=s.heap.objs.size+5:=by rw[di,z4]
 have g5:(zH5 s.heap l1 l2).get? (zH4 s.heap l1 l2).objs.size=some _:=ck _ rfl;have g4:(zH5 s.heap l1 l2).get? (zH3 s.heap l1 l2).objs.size=some _:=ai _ (ck _ rfl);have g3:(zH5 s.heap l1 l2).get? (zH2 s.heap l1 l2).objs.size=some _:=ai _ (ai _ (ck _ rfl));have g2:(zH5 s.heap l1 l2).get? (zH1 s.heap l1).objs.size=some _:=ai _ (ai _ (ai _ (ck _ rfl)));have g1:(zH5 s.heap l1 l2).get? s.heap.objs.size=some _:=ai _ (ai _ (ai _ (ai _ (ck _ rfl))));show _/\_;rw[z2,z3,z4] at g5;rw[z1,z2] at g3;rw[z3] at g4;rw[z1] at g2;rw[z4];exact⟨⟨_,g5,rfl⟩,h _ g5 g3 g4 ⟨_,g1,rfl,rfl⟩ ⟨_,g2,rfl,rfl⟩ z5 λc o x=>ai _ (ai _ (ai _ (ai _ (ai _ x))))⟩
theorem Vd{f:List (Code×Pos)->Bool}{K:Bool->Shared->Prop}(h:∀ b,K b s):wpAny M A stack (λa s'=>wpAny M A (pure (f a)) K E s') E s:=wpAny_stack_any λ_=>ag (h _)
theorem Ve(l:Addr)(items:Array Value)(n:Nat)(dct:Option Addr)(sl:Array (Option Value)):
  Meets (Builtin.«enumerate.__new__» ⟨[.type "enumerate", .ref l],[]⟩) (λ_ R s=>s.heap.get? l=some { cls:=.type "tuple", dict:=dct,data:=.seq items n,slots:=sl } /\
   R (.ok (.ret (.ref (s.heap.push { cls:=.type "tuple_iterator", data:=.fields #[.ref l,.int 0 0] }).objs.size)))
    { s with heap:=(s.heap.push { cls:=.type "tuple_iterator", data:=.fields #[.ref l,.int 0 0] }).push { cls:=.type "enumerate", data:=.fields #[.none,.bool false,.ref s.heap.objs.size,rawInt 0,.none,.none] } }) :=
 .of_wp λO w A R s h=>by
  obtain⟨hp,g,d,tk,os⟩:=s;obtain⟨hl,h⟩:=h;have hsub:=sub_enumerate;have hL:Heap.IsTuple (Shared.heap ⟨hp,g,d,tk,os⟩) l items:=⟨_,hl,rfl,n,rfl⟩
  wp_walk using AutoSeq1.wpAny_loadPart' hl
  refine Vd λb=>?_;cases b
  ·wp_walk using AutoSeq1.wpAny_loadPart' hl,ig hL
   exact⟨_,rfl,h⟩
  ·wp_walk using AutoSeq1.wpAny_loadPart' hl,ig hL
   exact⟨_,rfl,h⟩
theorem Vf{l:Addr}{items:Array Value}(hL:s.heap.IsTuple l items)
  (h:∀ h',IsEnum h' (s.heap.objs.size+1) s.heap.objs.size 0 .none->h'.IsTupleIter s.heap.objs.size l 0->(∀ b o,s.heap.get? b=some o->h'.get? b=some o)->Q (.ref (s.heap.objs.size+1)) { s with heap:=h' }) :
  wpAny (model O w) A (call (.type "enumerate") [.ref l]) Q E s:=by
 obtain⟨⟨c,dct,dt,sl⟩,hl,hc,n,hd⟩:=hL;replace hc:c=.type "tuple" := hc;replace hd:dt=.seq items n:=hd;subst hc hd;refine callType_new F.called_enumerate (by decide) (F.typeCall_enumerate_1 _) (F.newCall_enumerate_1 _) (λobj=>F.args_object_init_2 obj _) F.entry_enumerate_new (Ve l items n dct sl) ⟨hl,?_⟩;have hz:(s.heap.push { cls:=.type "tuple_iterator", data:=.fields #[.ref l,.int 0 0] }).objs.size=s.heap.objs.size+1:=di ..;show _/\_;rw[hz];have he:IsEnum ((s.heap.push { cls:=.type "tuple_iterator", data:=.fields #[.ref l,.int 0 0] }).push { cls:=.type "enumerate", data:=.fields #[.none,.bool false,.ref s.heap.objs.size,rawInt 0,.none,.none] }) (s.heap.objs.size+1) s.heap.objs.size 0 .none:=by
  have:=ck (s.heap.push { cls:=.type "tuple_iterator", data:=.fields #[.ref l,.int 0 0] }) (o:={ cls:=.type "enumerate", data:=.fields #[.none,.bool false,.ref s.heap.objs.size,rawInt 0,.none,.none] }) rfl;rw[hz] at this;exact this
 exact⟨⟨_,he,rfl⟩,h _ he ⟨_,ai _ (ck _ rfl),rfl,rfl⟩ λb o x=>ai _ (ai _ x)⟩
end
set_option tactic.hygienic true
section
theorem Bl:∀ (n:Nat) (a:Int) (i:Nat) (d:PyData),(cJ a n)[i]?=some d->d=.int (a+i)
 |0,a,i,d,h=>by exact ns h
 |n+1,a,0,d,h=>by obtain rfl:=si h;rw[show a+((0:Nat):Int)=a from Int.add_zero a]
 |n+1,a,i+1,d,h=>by
  rw[Bl n (a+1) i d h];congr 1;push_cast;exact xK
theorem Bm:∀ (n:Nat) (a:Int),(cJ a n).length=n:=by
 intro v0
 induction v0 with
 |zero =>
  intro _;exact rfl
 |succ n ih =>
  intro a;exact congrArg Nat.succ (ih (a+1))
theorem Vg{r:Addr}{b:Int}{t u v:Tok}(k0:K l ki s)(hh:A.handled=none)(hr:IsRange s.heap r 0 b 1 t u v)(h4:b<=4096)
  {Q:Value->Shared->Prop} {E:Value->Shared->Prop} (hq:∀ it s',IterAt A l target ki av it s' (cJ 0 b.toNat)->Q it s') (hb:-10000<=b):wpAny (model O w) A (pyIter (.ref r)) Q E s:=by
 have hsz:Builtin.Range.rangeSize 0 b 1=(b.toNat:Int):=by
  rw[rangeSize_one,Int.sub_zero]
  by_cases h:0 < b
  ·rw[if_pos h,gj (ej h)]
  ·rw[if_neg h,Int.toNat_of_nonpos (fw.mp h)];rfl
 have hsm:Builtin.Range.small 0 b 1=true:=by
  unfold Builtin.Range.small;rw[hsz];have f:∀ i:Int,-10000<=i->i<=10000->Builtin.Range.rangeFitsLong i=true:=λi q1 q2=>by
   unfold Builtin.Range.rangeFitsLong;simp only[Bool.and_eq_true,decide_eq_true_eq];exact⟨bf (by decide) q1,fx q2 (by decide)⟩
  rw[f 0 Hd (by decide),f b hb (He h4),f 1 Hf (by decide),f _ Hg (Hh h4)];have:((1:Int) > 0):=by decide
  simp only[this,if_true,Bool.and_self,Bool.true_and];rw[f (b+(1 - 1)) (Hi hb) (Hj h4)];simp
 refine wpAny_pyIter_range hr hsm (hq _ _ (iG k0 rfl (Walks.range hh s.heap.objs.size 0 1 b.toNat) (by rw[Bm]) (by rw[Bm,sizeLine_eq];exact Hk h4) (λx hx=>.inl (List.mem_singleton.mp hx)) (λi h st=>⟨_,_,st,rfl,by decide⟩) (λi v d hP hd=>?_) ?_))
 ·obtain⟨t,rfl⟩:=hP;rw[Bl _ _ _ _ hd,Int.mul_one];exact .int _ _
 ·show(s.heap.push _).get? _=_;rw[cE _ _ rfl,hsz];simp
def iH(n:Nat)(hd:Bool)(l:List Env)(sc:Scope)(σ:aA)(target e:Expr)(r:R (List PyData)):Prop :=
 ∀ (A:Around) (env:Env) (s:Shared) (av:Addr->Prop),Room n hd l A->Inv0 l env sc σ av s ->
  ∀ {β:Type} {k:List PyData->R β} {fin:R β} {Q:Value->Shared->Prop} {E:Value->Shared->Prop},Fin r k fin->(∀ it s' ds,IterAt A l target s av it s' ds->k ds=fin->Q it s')->EH l s av fin E ->
   wpAny (model O w) A (eval e env) (λx ke=>wpAny (model O w) A (pyIter x) Q E ke) E s
theorem Vh(hh:hd=false)(h:aH n hd l sc σ e (rec e)):iH n hd l sc σ target e (i8 rec e):=by
 intro A env s av hA I β k fin Q E hf hq he;refine h A env s av hA I (Fin.b hf) (λv ke u k1 r h1=>?_) he;obtain⟨ds,e1,e2⟩:=Fin.p ⟨h1,hf.2⟩;exact U5 k1 (hA.handled hh) (r.rep I.gnd.avlt) e1 λit s' x=>hq _ _ _ x e2
theorem Vi{a:Expr}{p q:Pos}(hbad:∀ e,bad e=true->rec e=.no)(hh:hd=false)(hg:isG sc "range" = true)(h:aH n hd l sc σ a (rec a)):
  iH n hd l sc σ target (.Call (.Name "range" p) [a] [] q) (nD rec a):=by
 intro A env s av hA I β k fin Q E hf hq he;refine PySem.Call_name1 (fJ (fK (hbad a) (Fin.b hf).ne)) (dK I hg rfl (fZ (.inr ⟨_,rfl⟩) (h A env s av hA I (Fin.b hf) (λv ke u k1 r h1=>?_) he)));obtain⟨ds,e1,e2⟩:=Fin.p ⟨h1,hf.2⟩;refine pcs (iA u) (λhu=>?_) λd hu=>?_
 ·rw[hu] at e1;exact pno e1
 ·rw[hu] at e1;cases sX hu;cases d with
  |int i =>
   obtain⟨t,rfl⟩:=(show Rep ke.heap av v (.int i) from r).int_inv;have e1:(if -4096<=i/\i<=4096 then P.ok (cJ 0 i.toNat) else .no)=.ok ds:=e1
   by_cases hc:-4096<=i/\i<=4096
   ·rw[if_pos hc] at e1;obtain rfl:=pi e1;refine call_range_1 ?_;exact Vg (k1.trp (Kp.mk' λb o e=>ai _ e) (bn (au _))) (hA.handled hh) (cE _ _ rfl) hc.2 (λit s' x=>hq _ _ _ x e2) (Hl hc)
   ·rw[if_neg hc] at e1;exact pno e1
  |_=>exact pno e1
theorem s5:∀ (l:List PyData) (a:Int) (i:Nat) (d:PyData),(cU a l)[i]?=some d->∃ x,l[i]?=some x/\d=.tuple [.int (a+i),x]
 | [],a,i,d,h=>by exact ns h
 |x::l,a,0,d,h=>by obtain rfl:=si h;exact⟨x,rfl,by rw[show a+((0:Nat):Int)=a from Int.add_zero a]⟩
 |x::l,a,i+1,d,h=>by
  obtain⟨y,h1,h2⟩:=s5 l (a+1) i d h;refine⟨y,h1,?_⟩;rw[h2,show a+1+(i:Int)=a+((i+1:Nat):Int) by push_cast;exact xK]
theorem jL:∀ (l:List PyData) (a:Int),(cU a l).length=l.length:=by
 intro v0
 induction v0 with
 |nil =>
  intro _;exact rfl
 |cons x l ih =>
  intro a;exact congrArg Nat.succ (ih (a+1))
theorem Vj{m:List PyData}(k0:K l ki s)(hh:A.handled=none)(e:s.heap.get? ad=some { cls:=.type "list", data:=.seq vs.toArray nn })(h1:¬ av ad)
  (h3:vs.length=m.length) (h4:vs.length<=sizeLine) (h5:∀ (i:Nat) (v:Value) (d:PyData),vs[i]?=some v->m[i]?=some d->Rep s.heap av v d)
  (he:IsEnum h' (s.heap.objs.size+1) s.heap.objs.size 0 old) (hit:h'.IsListIter s.heap.objs.size ad 0) (hk:∀ b o,s.heap.get? b=some o->h'.get? b=some o) :
  IterAt A l (.Tuple elts kk pos) ki av (.ref (s.heap.objs.size+1)) { s with heap:=h' } (cU 0 m):=by
 have halt:=bx e;have hei:s.heap.objs.size+1≠s.heap.objs.size:=bp (cz _);have hle:ad≠s.heap.objs.size+1:=cu (fm halt);have hli:ad≠s.heap.objs.size:=cu halt;have hn:∀ b,(b=s.heap.objs.size+1\/b=s.heap.objs.size)->s.heap.get? b=none:=λb hb=>hb.elim (λx=>x▸ft (au _)) λx=>x▸bP _;refine⟨s,λb=>b=s.heap.objs.size+1\/b=s.heap.objs.size,λi h=>(∃ old,IsEnum h (s.heap.objs.size+1) s.heap.objs.size i old)/\h.IsListIter s.heap.objs.size ad i/\∀ b o,s.heap.get? b=some o->¬ av b->h.get? b=some o,k0,
  ⟨λi h st b hb=>?_,λi h g st hk' hk0=>?_,λi d ke E Q hd st hQ=>?_,λke E Q st hQ=>?_,λi ke Q E st hQ=>?_⟩,⟨⟨old,he⟩,hit,λb o e _=>hk b o e⟩,λb hb=>⟨hn b hb,?_⟩,Kp.mkh hk,by simp only[jL,<- h3];exact h4,ae _⟩
 ·obtain⟨⟨old,he⟩,⟨o,hit,_⟩,_⟩:=st;rcases hb with rfl | rfl
  ·exact⟨_,he⟩
  ·exact⟨o,hit⟩
 ·obtain⟨⟨old,he⟩,hit,hl⟩:=st;exact⟨⟨old,hk' _ _ (.inl rfl) he⟩,hit.at λo x=>hk' _ o (.inr rfl) x,hk0⟩
 ·obtain⟨⟨old,he⟩,hit,hl⟩:=st;have hil:i < vs.length:=by have:=jK hd;simp only[jL] at this;simp only[h3];exact this
  have hL:ke.heap.IsList ad vs.toArray:=⟨_,hl ad _ e h1,rfl,_,rfl⟩
  have hx:vs.toArray[i]?=some vs[i]:=by simp[hil]
  refine wpAny_pyNext_enum_item he hit hL hx hei λh2 ho hit' hT hsz hk2=>?_;refine wpAny_letOwnedTupleGo_enum ho λh3' he' hs'=>?_;have helt:s.heap.objs.size+1 < ke.heap.objs.size:=bx he;have kept:∀ b o,¬ (b=s.heap.objs.size+1\/b=s.heap.objs.size)->ke.heap.get? b=some o->h3'.get? b=some o:=λb o hb e=>(hs'.2 b λx=>hb (.inl x)).trans (hk2 b o (λx=>hb (.inl x)) (λx=>hb (.inr x)) e);have keep0:∀ b o,s.heap.get? b=some o->¬ av b->h3'.get? b=some o:=λb o e hav=>kept b o (λhb=>by simp only[hn b hb] at e;exact ns e) (hl b o e hav);refine hQ (.ref ke.heap.objs.size) h3' _ kept ⟨⟨_,by simpa using he'⟩,hit'.at λo y=>(hs'.2 _ hei.symm).trans y,keep0⟩ λavn hlive hsub=>?_;obtain⟨y,hy,rfl⟩:=s5 _ _ _ _ hd;refine Rep.tuple (vs:=[.int i ke.toks,vs[i]]) (λhx=>?_) ⟨_,(hs'.2 _ (bp helt)).trans hT⟩ rfl (by simp only[sizeLine_eq];exact eu rfl) λj v e e2 e3=>?_
  ·obtain⟨o,e⟩:=hlive _ hx;simp only[bP] at e;exact ns e
  ·match j,e2,e3 with
   |0,e2,e3=>obtain rfl:=si e2;obtain rfl:=si e3;simp only[Int.zero_add];exact .int _ _
   |1,e2,e3=>obtain rfl:=si e2;obtain rfl:=si e3;exact(h5 i _ _ (bg hil) hy).mono (λb o hb e=>keep0 b o e hb) hsub
 ·obtain⟨⟨old,he⟩,hit,hl⟩:=st;have hL:ke.heap.IsList ad vs.toArray:=⟨_,hl ad _ e h1,rfl,_,rfl⟩
  simp only[jL,<- h3] at he hit;exact wpAny_pyNext_enum_end hh he hit hL (Array.getElem?_eq_none (by simp)) λh'' hx=>hQ h'' ke.toks λb o hb y=>hx b o (λe'=>hb (.inr e')) y
 ·obtain⟨⟨old,he⟩,_,_⟩:=st;exact ju he hQ
 ·rcases hb with rfl | rfl
  ·exact⟨_,he⟩
  ·obtain⟨o,eo,_⟩:=hit;exact⟨o,eo⟩
theorem Vk{m:List PyData}(k0:K l ki s)(hh:A.handled=none)(e:s.heap.get? ad=some { cls:=.type "tuple", data:=.seq vs.toArray nn })(h1:¬ av ad)
  (h3:vs.length=m.length) (h4:vs.length<=sizeLine) (h5:∀ (i:Nat) (v:Value) (d:PyData),vs[i]?=some v->m[i]?=some d->Rep s.heap av v d)
  (he:IsEnum h' (s.heap.objs.size+1) s.heap.objs.size 0 old) (hit:h'.IsTupleIter s.heap.objs.size ad 0) (hk:∀ b o,s.heap.get? b=some o->h'.get? b=some o) :
  IterAt A l (.Tuple elts kk pos) ki av (.ref (s.heap.objs.size+1)) { s with heap:=h' } (cU 0 m):=by
 have halt:=bx e;have hei:s.heap.objs.size+1≠s.heap.objs.size:=bp (cz _);have hli:ad≠s.heap.objs.size:=cu halt;have hle:ad≠s.heap.objs.size+1:=cu (fm halt);have hef:s.heap.objs.size+1∉[s.heap.objs.size,ad]:=λx=>by
  rcases List.mem_cons.mp x with x | x
  ·exact hei x
  ·exact hle (List.mem_singleton.mp x).symm
 have DD:=U6 (A:=A.in1) hh s.heap.objs.size ad hli vs.toArray;have hn:∀ b,(b=s.heap.objs.size+1\/b=s.heap.objs.size)->s.heap.get? b=none:=λb hb=>hb.elim (λx=>x▸ft (au _)) λx=>x▸bP _;refine⟨s,λb=>b=s.heap.objs.size+1\/b=s.heap.objs.size,λi h=>(∃ old,IsEnum h (s.heap.objs.size+1) s.heap.objs.size i old)/\h.IsTupleIter s.heap.objs.size ad i/\∀ b o,s.heap.get? b=some o->¬ av b->h.get? b=some o,k0,
  ⟨λi h st b hb=>?_,λi h g st hk' hk0=>?_,λi d ke E Q hd st hQ=>?_,λke E Q st hQ=>?_,λi ke Q E st hQ=>?_⟩,⟨⟨old,he⟩,hit,λb o e _=>hk b o e⟩,λb hb=>⟨hn b hb,?_⟩,Kp.mkh hk,by rw[jL,<- h3];exact h4,ae _⟩
 ·obtain⟨⟨old,he⟩,⟨o,hit,_⟩,_⟩:=st;rcases hb with rfl | rfl
  ·exact⟨_,he⟩
  ·exact⟨o,hit⟩
 ·obtain⟨⟨old,he⟩,⟨o,hit,r⟩,hl⟩:=st;exact⟨⟨old,hk' _ _ (.inl rfl) he⟩,⟨o,hk' _ o (.inr rfl) hit,r⟩,hk0⟩
 ·obtain⟨⟨old,he⟩,hit,hl⟩:=st;have hil:i < vs.length:=by have:=jK hd;rw[jL] at this;rw[h3];exact this
  have hL:ke.heap.IsTuple ad vs.toArray:=⟨_,hl ad _ e h1,rfl,_,rfl⟩
  refine wpAny_pyNext_enum_itemD DD he ⟨hit,hL⟩ (by simpa using hil) hei hef λx h2 tk hx ho hst hT hsz hk2=>?_;refine wpAny_letOwnedTupleGo_enum ho λh3' he' hs'=>?_;have helt:s.heap.objs.size+1 < ke.heap.objs.size:=bx he;have kept:∀ b o,¬ (b=s.heap.objs.size+1\/b=s.heap.objs.size)->ke.heap.get? b=some o->h3'.get? b=some o:=λb o hb e=>(hs'.2 b λx=>hb (.inl x)).trans (hk2 b o (λx=>hb (.inl x)) (λx=>hb (.inr x)) e);have keep0:∀ b o,s.heap.get? b=some o->¬ av b->h3'.get? b=some o:=λb o e hav=>kept b o (λhb=>by rw[hn b hb] at e;exact ns e) (hl b o e hav);refine hQ (.ref ke.heap.objs.size) h3' _ kept ⟨⟨_,by simpa using he'⟩,hst.1.extBut hs'.extBut hei.symm,keep0⟩ λavn hlive hsub=>?_;obtain⟨y,hy,rfl⟩:=s5 _ _ _ _ hd;have hx:vs[i]?=some x:=by simpa using hx
  refine Rep.tuple (vs:=[.int i tk,x]) (λhx=>?_) ⟨_,(hs'.2 _ (bp helt)).trans hT⟩ rfl (by rw[sizeLine_eq];exact eu rfl) λj v e e2 e3=>?_
  ·obtain⟨o,e⟩:=hlive _ hx;rw[bP] at e;exact ns e
  ·match j,e2,e3 with
   |0,e2,e3=>obtain rfl:=si e2;obtain rfl:=si e3;rw[Int.zero_add];exact .int _ _
   |1,e2,e3=>obtain rfl:=si e2;obtain rfl:=si e3;exact(h5 i _ _ hx hy).mono (λb o hb e=>keep0 b o e hb) hsub
 ·obtain⟨⟨old,he⟩,hit,hl⟩:=st;have hL:ke.heap.IsTuple ad vs.toArray:=⟨_,hl ad _ e h1,rfl,_,rfl⟩
  rw[jL,<- h3] at he hit;exact wpAny_pyNext_enum_endD DD he ⟨by simpa using hit,hL⟩ λh'' hx=>hQ h'' ke.toks λb o hb y=>hx b o (λe'=>hb (.inr e')) y
 ·obtain⟨⟨old,he⟩,_,_⟩:=st;exact ju he hQ
 ·rcases hb with rfl | rfl
  ·exact⟨_,he⟩
  ·obtain⟨o,eo,_⟩:=hit;exact⟨o,eo⟩
theorem Vl{a:Expr}{p q:Pos}(hbad:∀ e,bad e=true->rec e=.no)(hh:hd=false)(hg:isG sc "enumerate" = true)(ht:gH target=true)(h:aH n hd l sc σ a (rec a)):
  iH n hd l sc σ target (.Call (.Name "enumerate" p) [a] [] q) (nF rec a):=by
 intro A env s av hA I β k fin Q E hf hq he;refine PySem.Call_name1 (fJ (fK (hbad a) (Fin.b hf).ne)) (dK I hg rfl (fZ (.inr ⟨_,rfl⟩) (h A env s av hA I (Fin.b hf) (λv ke u k1 r h1=>?_) he)));obtain⟨ds,e1,e2⟩:=Fin.p ⟨h1,hf.2⟩;have rd:=r.rep I.gnd.avlt;unfold gH at ht;generalize hv:vw target=tv at ht;cases tv with
 |tup elts =>
  obtain⟨kk,pos,rfl⟩:=cA hv;generalize dOf u=d at rd e1;cases d with
  |list m =>
   obtain rfl:=pi e1;obtain⟨ad,vs,rfl,h1,⟨nn,e⟩,h3,h4,h5⟩:=rd.list_inv;refine call_enumerate_list ⟨_,e,rfl,_,rfl⟩ λh' he' hit hsz hk=>?_;exact ju he' (hq _ _ _ (Vj k1 (hA.handled hh) e h1 h3 h4 h5 he' hit hk) e2)
  |tuple m =>
   obtain rfl:=pi e1;obtain⟨ad,vs,rfl,h1,⟨nn,e⟩,h3,h4,h5⟩:=rd.tuple_inv;refine Vf ⟨_,e,rfl,_,rfl⟩ λh' he' hit hk=>?_;exact ju he' (hq _ _ _ (Vk k1 (hA.handled hh) e h1 h3 h4 h5 he' hit hk) e2)
  |_=>exact pno e1
 |_=>exact bft ht
theorem Vm:∀ (l m:List PyData) (i:Nat) (d:PyData),(dY l m)[i]?=some d->∃ x y,l[i]?=some x/\m[i]?=some y/\d=.tuple [x,y]:=by
 intro l m i d h;unfold dY at h;rw[List.getElem?_zipWith] at h
 split at h
 ·obtain rfl:=si h;rename_i x y e1 e2;exact⟨x,y,e1,e2,rfl⟩
 ·exact ns h
theorem Vn{N b:Addr}(h1:a < N)(h2:b < N):ZipApart (N+4) (N+2) (N+3) N (N+1) a b where
 TIz:=by lia
 TOz:=by lia
 i1z:=by lia
 i2z:=by lia
 TITO:=by lia
 TIi1:=by lia
 TIi2:=by lia
 TOi1:=by lia
 TOi2:=by lia
 i12:=by lia
 l1z:=by lia
 l1TO:=by lia
 l1i1:=by lia
 l1i2:=by lia
 l2z:=by lia
 l2TO:=by lia
 l2i1:=by lia
 l2i2:=by lia
theorem Vo{elts:List Expr}{kk:Nat}{pos:Pos}{h':Heap}{bd:Addr}{us:List Value}{m m':List PyData}{nn':Nat}(k0:K l ki s)(hh:A.handled=none)(e:s.heap.get? ad=some { cls:=.type "tuple", data:=.seq vs.toArray nn })(h1:¬ av ad)
  (h3:vs.length=m.length) (h4:vs.length<=sizeLine) (h5:∀ (i:Nat) (v:Value) (d:PyData),vs[i]?=some v->m[i]?=some d->Rep s.heap av v d)
  (e':s.heap.get? bd=some { cls:=.type "tuple", data:=.seq us.toArray nn' }) (h1':¬ av bd) (h3':us.length=m'.length) (h5':∀ (i:Nat) (v:Value) (d:PyData),us[i]?=some v->m'[i]?=some d->Rep s.heap av v d)
  (hz:IsZip h' (s.heap.objs.size+4) (s.heap.objs.size+2) (s.heap.objs.size+3) .none) (hTI:IsPair h' (s.heap.objs.size+2) (.ref s.heap.objs.size) (.ref (s.heap.objs.size+1))) (hTO:IsPair h' (s.heap.objs.size+3) .none .none)
  (hi1:h'.IsTupleIter s.heap.objs.size ad 0) (hi2:h'.IsTupleIter (s.heap.objs.size+1) bd 0) (hk:∀ b o,s.heap.get? b=some o->h'.get? b=some o) :
  IterAt A l (.Tuple elts kk pos) ki av (.ref (s.heap.objs.size+4)) { s with heap:=h' } (dY m m'):=by
 have D:=Vn (bx e) (bx e');have hn:∀ b,s.heap.objs.size<=b->s.heap.get? b=none:=λb hb=>ft hb;have at':∀ {h g:Heap} {i l k},(∀ o,h.get? i=some o->g.get? i=some o)->h.IsTupleIter i l k->g.IsTupleIter i l k:=λhi st=>by obtain⟨o,e,r⟩:=st;exact⟨o,hi o e,r⟩
 have zl:(dY m m').length=min m.length m'.length:=List.length_zipWith;generalize hN:s.heap.objs.size=N at *;refine⟨s,λb=>N<=b/\b<=N+4,λi h=>IsZip h (N+4) (N+2) (N+3) .none/\IsPair h (N+2) (.ref N) (.ref (N+1))/\(∃ a b,IsPair h (N+3) a b)/\h.IsTupleIter N ad i/\h.IsTupleIter (N+1) bd i/\∀ b o,s.heap.get? b=some o->¬ av b->h.get? b=some o,k0,
  ⟨λi h st b hb=>?_,λi h g st hk' hk0=>?_,λi d ke E Q hd st hQ=>?_,λke E Q st hQ=>?_,λi ke Q E st hQ=>?_⟩,⟨hz,hTI,⟨_,_,hTO⟩,hi1,hi2,λb o e _=>hk b o e⟩,λb hb=>⟨hn b hb.1,?_⟩,Kp.mkh hk,by rw[zl,<- h3];exact U (Nat.min_le_left _ _) h4,ae _⟩
 ·obtain⟨a1,a2,⟨x,y,a3⟩,⟨o4,a4,_⟩,⟨o5,a5,_⟩,_⟩:=st;rcases(show b=N\/b=N+1\/b=N+2\/b=N+3\/b=N+4 by have:=hb.1;have:=hb.2;lia) with rfl | rfl | rfl | rfl | rfl
  ·exact⟨_,a4⟩
  ·exact⟨_,a5⟩
  ·exact⟨_,a2⟩
  ·exact⟨_,a3⟩
  ·exact⟨_,a1⟩
 ·obtain⟨a1,a2,⟨x,y,a3⟩,a4,a5,_⟩:=st;exact⟨hk' _ _ ⟨by exact P4,by lia⟩ a1,hk' _ _ ⟨by exact P5,by lia⟩ a2,⟨x,y,hk' _ _ ⟨by exact P6,by lia⟩ a3⟩,at' (λo q=>hk' _ o ⟨by exact P7,by lia⟩ q) a4,at' (λo q=>hk' _ o ⟨by exact P8,by lia⟩ q) a5,hk0⟩
 ·obtain⟨a1,a2,⟨x,y,a3⟩,a4,a5,hl⟩:=st;obtain⟨dx,dy,g1,g2,rfl⟩:=Vm _ _ _ _ hd;have hx1:i < vs.length:=by rw[h3];exact jK g1
  have hx2:i < us.length:=by rw[h3'];exact jK g2
  have hL1:ke.heap.IsTuple ad vs.toArray:=⟨_,hl ad _ e h1,rfl,_,rfl⟩
  have hL2:ke.heap.IsTuple bd us.toArray:=⟨_,hl bd _ e' h1',rfl,_,rfl⟩
  refine U9 D a1 a2 a3 a4 a5 hL1 hL2 (x:=vs[i]) (y:=us[i]) (by simp[hx1]) (by simp[hx2]) λh2 b1 b2 b3 b4 b5 b6 bk=>?_;refine wpAny_letOwnedTupleGo_zip b1 λh3 c1 cs=>?_;have hlt:N+4 < ke.heap.objs.size:=bx a1;have kept:∀ b o,¬ (N<=b/\b<=N+4)->ke.heap.get? b=some o->h3.get? b=some o:=λb o hb e=>(cs.2 b λx=>hb ⟨by lia,by lia⟩).trans (bk b o (λx=>hb ⟨by lia,by lia⟩) (λx=>hb ⟨by lia,by lia⟩) (λx=>hb ⟨by lia,by lia⟩) (λx=>hb ⟨by lia,by lia⟩) e);have keep0:∀ b o,s.heap.get? b=some o->¬ av b->h3.get? b=some o:=λb o e hav=>kept b o (λhb=>by rw[hn b hb.1] at e;exact ns e) (hl b o e hav);refine hQ (.ref ke.heap.objs.size) h3 _ kept ⟨c1,cs.extBut _ _ D.TIz (bk _ _ D.TIz D.TITO D.TIi1 D.TIi2 a2),⟨_,_,cs.extBut _ _ D.TOz b2⟩,at' (λo q=>cs.extBut _ _ D.i1z q) b3,at' (λo q=>cs.extBut _ _ D.i2z q) b4,keep0⟩ λavn hlive hsub=>?_;refine Rep.tuple (vs:=[vs[i],us[i]]) (λhx=>?_) ⟨_,cs.extBut _ _ (bp hlt) b5⟩ rfl (by rw[sizeLine_eq];exact eu rfl) λj v e e2 e3=>?_
  ·obtain⟨o,e⟩:=hlive _ hx;rw[bP] at e;exact ns e
  ·match j,e2,e3 with
   |0,e2,e3=>obtain rfl:=si e2;obtain rfl:=si e3;exact(h5 i _ _ (bg hx1) g1).mono (λb o hb e=>keep0 b o e hb) hsub
   |1,e2,e3=>obtain rfl:=si e2;obtain rfl:=si e3;exact(h5' i _ _ (bg hx2) g2).mono (λb o hb e=>keep0 b o e hb) hsub
 ·obtain⟨a1,a2,⟨x,y,a3⟩,a4,a5,hl⟩:=st;have hL1:ke.heap.IsTuple ad vs.toArray:=⟨_,hl ad _ e h1,rfl,_,rfl⟩
  have hL2:ke.heap.IsTuple bd us.toArray:=⟨_,hl bd _ e' h1',rfl,_,rfl⟩
  have hend:vs.toArray[(dY m m').length]?=none\/us.toArray[(dY m m').length]?=none:=by
   rw[zl];rcases gr m.length m'.length with h | h
   ·exact .inl (by rw[Nat.min_eq_left h];exact Array.getElem?_eq_none (by simp[h3]))
   ·exact .inr (by rw[Nat.min_eq_right h];exact Array.getElem?_eq_none (by simp[h3']))
  exact Va hh D a1 a2 a3 a4 a5 hL1 hL2 hend λh'' hx=>hQ h'' ke.toks λb o hb y=>hx b o (λx=>hb ⟨by lia,by lia⟩) (λx=>hb ⟨by lia,by lia⟩) (λx=>hb ⟨by lia,by lia⟩) (λx=>hb ⟨by lia,by lia⟩) y
 ·exact wpAny_pyIter_zip st.1 hQ
 ·rcases(show b=N\/b=N+1\/b=N+2\/b=N+3\/b=N+4 by have:=hb.1;have:=hb.2;lia) with rfl | rfl | rfl | rfl | rfl
  ·obtain⟨o,eo,_⟩:=hi1;exact⟨o,eo⟩
  ·obtain⟨o,eo,_⟩:=hi2;exact⟨o,eo⟩
  ·exact⟨_,hTI⟩
  ·exact⟨_,hTO⟩
  ·exact⟨_,hz⟩
theorem Vp{T:String}(hs:as.any bad=false)
  (h:wpAny M A (spliced (backTo pos (starEach as env))) (λvs ke=>wpAny M A (call (.type T) vs) Q E ke) E s):wpAny M A (callWith pos (.type T) [] (backTo pos (starEach as env)) []) Q E s :=
 PySem.callWith_type (oU hs) (oS (Q:=λa ke=>wpAny M A (call (.type T) ([]++a.pos) a.kw) Q E ke) hs h)
theorem Vq{p q:Pos}(hbad:∀ e,bad e=true->rec e=.no)(hh:hd=false)(hg:isG sc "zip" = true)(h:∀ e∈as,aH n hd l sc σ e (rec e)):
  iH n hd l sc σ target (.Call (.Name "zip" p) as [] q) (rG rec target as):=by
 intro A env s av hA I β k fin Q E hf hq he;obtain⟨⟨ht,hns⟩,hf⟩:=Fin.ite hf;refine iw (dK I hg rfl (Vp hns (iD hbad hA h I hf.b (λvs ke us k1 r1 r2 h1=>?_) he)));obtain⟨ds,e1,e2⟩:=Fin.p ⟨h1,hf.2⟩;have r:RL ke.heap av vs (bV us):=⟨r1,r2⟩
 unfold gH at ht;generalize hv:vw target=tv at ht;cases tv with
 |tup elts =>
  obtain⟨kk,pos,rfl⟩:=cA hv;cases us with
  |nil=>exact pno e1
  |cons a us =>
   cases us with
   |nil=>exact pno e1
   |cons b us =>
    cases us with
    |cons=>exact pno e1
    |nil =>
     obtain⟨v1,vs,rfl,ra,r⟩:=r.cons;obtain⟨v2,vs,rfl,rb,r⟩:=r.cons;obtain rfl:=r.nil;replace e1:y9 (dOf a) (dOf b)=.ok ds:=e1;generalize dOf a=da at ra e1;generalize dOf b=db at rb e1;cases da with
     |tuple m =>
      cases db with
      |tuple m' =>
       obtain rfl:=pi e1;obtain⟨ad,vs,rfl,h1,⟨nn,e⟩,h3,h4,h5⟩:=ra.tuple_inv;obtain⟨bd,us,rfl,h1',⟨nn',e'⟩,h3',h4',h5'⟩:=rb.tuple_inv;refine Vc ⟨_,e,rfl,_,rfl⟩ ⟨_,e',rfl,_,rfl⟩ λh' z1 z2 z3 z4 z5 _ hk=>?_;exact wpAny_pyIter_zip z1 (hq _ _ _ (Vo k1 (hA.handled hh) e h1 h3 h4 h5 e' h1' h3' h5' z1 z2 z3 z4 z5 hk) e2)
      |_=>exact pno e1
     |_=>exact pno e1
 |_=>exact bft ht
theorem Vr{a:Expr}{p q:Pos}(hbad:∀ e,bad e=true->rec e=.no)(hh:hd=false)(hg:isG sc "reversed" = true)(h:aH n hd l sc σ a (rec a)):
  iH n hd l sc σ target (.Call (.Name "reversed" p) [a] [] q) (nE rec a):=by
 intro A env s av hA I β k fin Q E hf hq he;refine PySem.Call_name1 (fJ (fK (hbad a) (Fin.b hf).ne)) (dK I hg rfl (fZ (.inr ⟨_,rfl⟩) (h A env s av hA I (Fin.b hf) (λv ke u k1 r h1=>?_) he)));obtain⟨ds,e1,e2⟩:=Fin.p ⟨h1,hf.2⟩;have rd:=r.rep I.gnd.avlt;generalize dOf u=d at rd e1;cases d with
 |list m =>
  obtain rfl:=pi e1;obtain⟨ad,vs,rfl,h1,⟨nn,e⟩,h3,h4,h5⟩:=rd.list_inv;have hlt:=bx e;have W:=Walks.listRev (prog:=O) (w:=w) (hA.handled hh) ke.heap.objs.size ad (cu hlt) vs.toArray;have hst:0<=vs.toArray.size/\(ke.heap.push (revObj ad ((vs.toArray.size:Int) - 1))).IsRevIter ke.heap.objs.size ad ((vs.toArray.size:Int) - 1 - ((0:Nat):Int))/\(ke.heap.push (revObj ad ((vs.toArray.size:Int) - 1))).IsList ad vs.toArray :=
   ⟨am _,⟨_,cE _ _ rfl,rfl,by simp[revObj]⟩,⟨_,ai _ e,rfl,nn,rfl⟩⟩
  refine call_reversed_list ⟨_,e,rfl,nn,rfl⟩ (wpAny_pyIter_revIter hst.2.1 (hq _ _ _ (iG (o:=revObj ad ((vs.toArray.size:Int) - 1)) k1 rfl W (by simp[h3]) (by simp only[List.length_reverse,<- h3];exact h4) (fp2 e h1) (λi h st=>let ⟨_,⟨o,ho,hc,_⟩,_⟩:=st;⟨o,_,ho,hc,by decide⟩) (λi v d hP hd'=>?_) hst) e2));have hi:i < m.length:=by simpa using jK hd'
  simp only[List.getElem?_reverse hi] at hd';exact h5 (m.length - 1 - i) v d (by simpa[h3] using hP) hd'
 |_=>exact pno e1
theorem Bn(hbad:∀ e,bad e=true->rec e=.no)(h:aH n hd l sc σ e (rec e))
  (hsub:∀ f as kws q,e=.Call f as kws q->∀ a∈as,aH n hd l sc σ a (rec a)):iH n hd l sc σ target e (fV rec hd sc target e):=by
 unfold fV;cases hd with
 |true=>exact λA env s av hA I _ _ _ _ _ hf _ _=>hf.no.elim
 |false =>
  rw[if_neg dj];have P:=Vh (target:=target) rfl h;refine ocs (iB e) (λhc=>?_) λc hc=>?_
  ·try rewrite[hc]
   exact P
  ·obtain⟨x,as⟩:=c;obtain⟨p,q,rfl⟩:=sA hc;show iH n false l sc σ target _ (if x = "range" \/ x = "enumerate" \/ x = "reversed" \/ x = "zip" then _ else i8 rec _)
   by_cases hx:x = "range" \/ x = "enumerate" \/ x = "reversed" \/ x = "zip"
   ·rw[if_pos hx];intro A env s av hA I β k fin Q E hf hq he;obtain⟨hg,hf1⟩:=Fin.ite hf;clear hf
    by_cases h0:x = "zip"
    ·subst h0;exact Vq hbad rfl hg (λa ha=>hsub _ _ _ _ rfl a ha) A env s av hA I ((if_pos rfl:_=rG rec target as)▸hf1) hq he
    replace hf1:Fin (match as with
     | []=>.no
     |a::r=>match r with
      | []=>if x = "range" then nD rec a else if x = "enumerate" /\ gH target=true then nF rec a else if x = "reversed" then nE rec a else .no
      |_::_=>.no) k fin:=by
     have e:=hf1.1;rw[if_neg h0] at e;exact⟨e,hf1.2⟩
    cases as with
    |nil=>exact hf1.no.elim
    |cons a r =>
     cases r with
     |cons=>exact hf1.no.elim
     |nil =>
      have ha:=hsub _ _ _ _ rfl a ac;replace hf1:Fin (if x = "range" then nD rec a else if x = "enumerate" /\ gH target=true then nF rec a else if x = "reversed" then nE rec a else .no) k fin:=hf1
      by_cases h1:x = "range"
      ·rw[if_pos h1] at hf1;subst h1;exact Vi hbad rfl hg ha A env s av hA I hf1 hq he
      rw[if_neg h1] at hf1
      by_cases h2:x = "enumerate" /\ gH target=true
      ·rw[if_pos h2] at hf1;obtain⟨rfl,h2⟩:=h2;exact Vl hbad rfl hg h2 ha A env s av hA I hf1 hq he
      rw[if_neg h2] at hf1
      by_cases h3:x = "reversed"
      ·rw[if_pos h3] at hf1;subst h3;exact Vr hbad rfl hg ha A env s av hA I hf1 hq he
      ·rw[if_neg h3] at hf1;exact hf1.no.elim
   ·rw[if_neg hx];exact P
end
set_option tactic.hygienic false
section
theorem Vs:∀ (names:List (Str×NameKind)) (acc:List (Str×Addr)),(∀ p∈names,p.2=.free->∃ c,env.cells.lookup p.1=some c)->(∀ q∈acc,env.cells.lookup q.1=some q.2) ->
  ∃ cl,(forIn names acc (λ(x:Str×NameKind) (cs:List (Str×Addr))=>if (x.2==NameKind.free)=true then (do let c <- cellOf env x.1;pure (ForInStep.yield ((x.1,c)::cs))) else pure (ForInStep.yield cs)):Sem (List (Str×Addr)))=pure cl /\
   (∀ q∈cl,env.cells.lookup q.1=some q.2)/\(∀ q∈acc,q∈cl)/\∀ p∈names,p.2=.free->∃ c,(p.1,c)∈cl:=by
 intro v0
 induction v0 with
 |nil =>
  intro acc _ ha;exact⟨acc,by simp,ha,λ_ h=>h,λ_ h=>by simp at h⟩
 |cons pp r ih =>
  obtain⟨x,k⟩:=pp;intro acc hn ha;rw[List.forIn_cons]
  by_cases hk:k=.free
  ·subst hk;refine hde λ_ θ=>?_;obtain⟨c,hc⟩:=hn (x,.free) (by simp) rfl;obtain⟨cl,h1,h2,h3,h4⟩:=ih ((x,c)::acc) (λp hp=>hn p (af _ hp)) (λq hq=>by
    rcases List.mem_cons.mp hq with rfl | hq
    ·exact hc
    ·exact ha q hq)
   apply θ;refine⟨cl,?_,h2,λq hq=>h3 q (af _ hq),λp hp hpk=>?_⟩
   ·have e:cellOf env x=pure c:=by unfold cellOf;rw[hc]
    simp only[e];exact h1
   ·rcases List.mem_cons.mp hp with rfl | hp
    ·exact⟨c,h3 _ (by simp)⟩
    ·exact h4 p hp hpk
  ·obtain⟨cl,h1,h2,h3,h4⟩:=ih acc (λp hp=>hn p (af _ hp)) ha;refine⟨cl,?_,h2,h3,λp hp hpk=>?_⟩
   ·have e:(k==NameKind.free)=false:=beq_eq_false_iff_ne.mpr hk;simp only[e];exact h1
   ·rcases List.mem_cons.mp hp with rfl | hp
    ·exact absurd hpk hk
    ·exact h4 p hp hpk
theorem Bo:∀ {l:List (Str×α)} {x:Str} {c:α},(x,c)∈l->∃ c',l.lookup x=some c'/\(x,c')∈l
 | (y,d)::r,x,c,h=>by
  by_cases hxy:x=y
  ·subst hxy;exact⟨d,by simp[List.lookup],by simp⟩
  ·rcases List.mem_cons.mp h with h | h
   ·exact absurd (congrArg Prod.fst h) hxy
   ·obtain⟨c',h1,h2⟩:=Bo h;have:(x==y)=false:=beq_eq_false_iff_ne.mpr hxy;exact⟨c',by simp only[List.lookup,this];exact h1,af _ h2⟩
theorem fM:∀ {l:List (Str×α)} {x:Str} {c:α},l.lookup x=some c->(x,c)∈l
 | (y,d)::r,x,c,h=>by
  by_cases hxy:x=y
  ·subst hxy;simp[List.lookup] at h;simp[h]
  ·have:(x==y)=false:=beq_eq_false_iff_ne.mpr hxy;simp only[List.lookup,this] at h;exact af _ (fM h)
theorem Vt(h:∀ p∈scope.names,p.2=.free->∃ c,env.cells.lookup p.1=some c):∃ cl,closureFor scope env=pure cl/\∀ x c,(x,NameKind.free)∈scope.names->env.cells.lookup x=some c->cl.lookup x=some c:=by
 refine hde λ_ θ=>?_;obtain⟨cl,h1,h2,_,h4⟩:=Vs (env:=env) scope.names [] h (by simp);apply θ;refine⟨cl,?_,λx c hx hc=>?_⟩
 ·unfold closureFor;show(forIn scope.names [] _:Sem _) >>= _=_;have:(forIn scope.names [] (λ(x:Str×NameKind) (cs:List (Str×Addr))=>if (x.2==NameKind.free)=true then (do let c <- cellOf env x.1;pure (ForInStep.yield ((x.1,c)::cs))) else pure (ForInStep.yield cs)):Sem (List (Str×Addr)))=pure cl:=h1;rw[show(forIn scope.names [] (λ(x:Str×NameKind) (cs:List (Str×Addr))=>_):Sem (List (Str×Addr)))=pure cl from this];rfl
 ·obtain⟨c',hc'⟩:=h4 (x,.free) hx rfl;refine hde λ_ θ=>?_;obtain⟨c'',e1,e2⟩:=Bo hc';apply θ;have:=h2 _ e2;rw[hc] at this;rw[e1];exact this.symm▸rfl
def CpE(A:Around)(acc:Value)(G:Shared->Prop)(X:Value->Shared->Prop):Value->Shared->Prop:=λx s=>wpAny (model O w) A (call (.builtin "list.append") [acc,x]) (λ_ s=>G s) X s
def CpT(A:Around)(elt:Expr)(env:Env)(acc:Value)(G:Shared->Prop)(X:Value->Shared->Prop):Bool->Shared->Prop:=λok s=>if ok=true then wpAny (model O w) A (eval elt env) (CpE A acc G X) X s else G s
def CpA(A:Around)(ifs:List Expr)(elt:Expr)(env:Env)(acc:Value)(G:Shared->Prop)(X:Value->Shared->Prop):Unit->Shared->Prop:=λ_ s =>
 wpAny (model O w) A (forIn ifs true λc r=>if r=true then do let ok <- isTrue c env (eval c env);pure (ForInStep.yield ok) else pure (ForInStep.yield r)) (CpT A elt env acc G X) X s
def CpN(A:Around)(R:Result->Shared->Prop)(target:Expr)(it:Value)(ifs:List Expr)(elt:Expr)(env:Env)(acc:Value)(G:Shared->Prop)(X:Value->Shared->Prop):Option Value->Shared->Prop:=λr s=>match r with
 |none=>R (.ok .next) s
 |some v=>wpAny (model O w) A (letOwnedTupleGo target it v) (λ_ s=>wpAny (model O w) A (assign target env v) (CpA A ifs elt env acc G X) X s) X s
theorem Vu{R:Result->Shared->Prop}{acc:Value}(I:Nat->Shared->Prop)
  (turn:∀ n s,I n s->wpAny (model O w) A (pyNext it) (CpN A R target it ifs elt env acc (λs=>∃ m,m < n/\I m s) (notedBy (model O w) A env λe s'=>R (.error e) s')) (notedBy (model O w) A env λe s'=>R (.error e) s') s)
  (n:Nat) (h:I n s) :
  codeAny (model O w) A (.compLoop (.ListComp elt [⟨target,iter,ifs,0⟩] scope pos) 0 it acc env) R s:=by
 refine codeAny_loop rfl I (λn s hI=>?_) n h;show wpAny _ A ((compTurn (.ListComp elt [⟨target,iter,ifs,0⟩] scope pos) 0 it acc env).onRaise (λx=>do noteFrame x env;theTreesLotGoes x)) _ _ s;refine wpAny_noted ?_;rw[compTurn_list];refine aa (cq (aa (az (turn n s hI) (λr ke ku=>?_) λ_ _ h'=>h')));cases r with
 |none=>exact ag ku
 |some v =>
  refine aa (az ku (λ_ ke ku=>?_) λ_ _ h'=>h');refine aa (az ku (λ_ km lc=>aa (az lc (λok kq ld=>?_) λ_ _ h'=>h')) λ_ _ h'=>h');cases ok with
  |false=>exact ag ⟨rfl,ld⟩
  |true =>
   replace ld:wpAny (model O w) A (eval elt env) (CpE A acc _ _) _ kq:=ld;exact aa (aa (az ld (λx lu lq=>aa (az lq (λ_ mj ky=>ag (ag ⟨rfl,ky⟩)) λ_ _ h'=>h')) λ_ _ h'=>h'))
noncomputable def iI(env:Env)(x:Str)(k:NameKind):NameKind:=if (k==NameKind.free&&env.scope.kind==ScopeKind.function&&env.kindOf x==some NameKind.cell)=true then NameKind.cell else k
theorem Vv(f:Str->NameKind->NameKind)(x:Str):∀ (names:List (Str×NameKind)),(names.map λp=>(p.1,f p.1 p.2)).lookup x=(names.lookup x).map (f x):=by
 intro v0
 induction v0 with
 |nil =>
  exact rfl
 |cons pp r ih =>
  obtain⟨y,k⟩:=pp
  by_cases hxy:x=y
  ·subst hxy;simp[List.lookup]
  ·have h2:(x==y)=false:=beq_eq_false_iff_ne.mpr hxy;simp only[List.map_cons,List.lookup,h2];exact ih
theorem Vx(env:Env)(sc':Scope):(relabel sc' env).names=sc'.names.map λp=>(p.1,iI env p.1 p.2):=by
 unfold relabel;show List.map _ sc'.names=_;refine jq λp _=>?_;obtain⟨n,k⟩:=p;show(if _ then (n,NameKind.cell) else (n,k))=(n,iI env n k);unfold iI
 split<;>rfl
theorem lE{cl:List (Str×Addr)}{C:Addr}(x:Str):(compEnvC sc' cl C env).kindOf x=(sc'.names.lookup x).map (iI env x):=by
 show(relabel sc' env).names.lookup x=_;rw[Vx];exact Vv (iI env) x sc'.names
structure CompOk(sc sc':Scope)(t:Tg):Prop where
 kind:sc'.kind=.function
 loc:∀ p∈sc'.names,p.2=.local->(p.1 = ".0" \/ p.1∈t.ns)/\sc'.names.lookup p.1=some .local
 cell:∀ p∈sc'.names,p.2≠.cell
 free:∀ p∈sc'.names,p.2=.free->nL (sc.names.lookup p.1)=true
 tgt:∀ x∈t.ns,x ≠ ".0" /\ sc'.names.lookup x=some .local
 two:t.apart=true
 dbg:sc'.names.lookup (Str.ofString "__debug__")=none
 cld:sc'.names.lookup (Str.ofString "__classdict__")=none
theorem Vy{t:Tg}(h:nN sc sc' t=true):CompOk sc sc' t:=by
 unfold nN at h;simp only[Bool.and_eq_true] at h;obtain⟨⟨⟨⟨⟨h1,h2⟩,h3⟩,h4⟩,h5⟩,h6⟩:=h;have h2':=bb.mp h2;have h3':=bb.mp h3;refine⟨eq_of_beq h1,λp hp hk=>?_,λp hp hk=>?_,λp hp hk=>?_,λx hx=>?_,h4,Option.isNone_iff_eq_none.mp h5,Option.isNone_iff_eq_none.mp h6⟩
 ·have:=h2' p hp;rw[hk] at this;simp only[Bool.and_eq_true,Bool.or_eq_true,beq_iff_eq,List.contains_iff_mem] at this;exact this
 ·have:=h2' p hp;rw[hk] at this;exact bft this
 ·have:=h2' p hp;rw[hk] at this;exact this
 ·have:=h3' x hx;simp only[Bool.and_eq_true,bne_iff_ne,ne_eq,beq_iff_eq] at this;exact this
theorem aA.get_cons_ne{v:Option V}(h:x≠y):aA.get ((y,v)::σ) x=aA.get σ x:=by
 show(if x=y then some v else aA.get σ x)=_;rw[if_neg h]
theorem aA.get_cons_eq{v:Option V}:aA.get ((x,v)::σ) x=some v:=by
 show(if x=x then some v else aA.get σ x)=_;rw[if_pos rfl]
theorem Vz{t:Tg}(hb:kN t d σ=some σ'):aA.get σ' ".0" = some none/\∀ x:Str,x ≠ ".0" -> x∉t.ns->aA.get σ' x=aA.get σ x:=by
 cases t with
 |one z =>
  obtain rfl:=si hb;exact⟨aA.get_cons_eq,λy h0 hy=>(aA.get_cons_ne h0).trans (aA.get_cons_ne λe=>hy (List.mem_singleton.mpr e))⟩
 |pair z u =>
  obtain⟨q,_,rfl⟩:=bj.mp hb;exact⟨aA.get_cons_eq,λy h0 hy=>(aA.get_cons_ne h0).trans ((aA.get_cons_ne λe=>hy (by rw[e];exact af _ ac)).trans (aA.get_cons_ne λe=>hy (by rw[e];exact ac)))⟩
def Bp:List Expr->List Str->Prop
 | [],[]=>True
 |e::es,x::xs=>(∃ p,e=.Name x p)/\Bp es xs
 |_,_=>False
theorem V0:∀ {es:List Expr} {xs:List Str},dC es=some xs->Bp es xs:=by
 intro es
 induction es with
 |nil=>exact λh=>by obtain rfl:=si h;exact trivial
 |cons e es ih =>
  intro xs h;replace h:((bC e).bind λx=>(dC es).map (x::·))=some xs:=h;refine ocs (bC e) (λhn=>?_) λx hn=>?_
  ·rw[hn] at h;exact ns h
  ·rw[hn] at h;obtain⟨ys,e1,rfl⟩:=bj.mp h;exact⟨dJ hn,ih e1⟩
inductive TgI(target:Expr):Tg->Prop where
 |one (x:Str) (p:Pos) (e:target=.Name x p):TgI target (.one x)
 |pair (x y:Str) (k:Nat) (p p1 p2:Pos) (e:target=.Tuple [.Name x p1,.Name y p2] k p):TgI target (.pair x y)
theorem V1{t:Tg}(h:kM target=some t):TgI target t:=by
 unfold kM at h;generalize hv:vw target=tv at h;cases tv with
 |name x =>
  obtain rfl:=si h;obtain⟨p,rfl⟩:=cA hv;exact .one x p rfl
 |tup es =>
  obtain⟨k,p,rfl⟩:=cA hv;replace h:(dC es).bind tgL=some t:=h;refine ocs (dC es) (λhn=>by rw[hn] at h;exact ns h) λxs hn=>?_;rw[hn] at h;have N:=V0 hn;cases xs with
  |nil=>exact ns h
  |cons a xs =>
   cases xs with
   |nil=>exact ns h
   |cons b xs =>
    cases xs with
    |cons=>exact ns h
    |nil =>
     obtain rfl:=si h;cases es with
     |nil=>exact N.elim
     |cons e es =>
      cases es with
      |nil=>exact N.2.elim
      |cons f es =>
       cases es with
       |cons=>exact N.2.2.elim
       |nil =>
        obtain⟨⟨p1,rfl⟩,⟨p2,rfl⟩,_⟩:=N;exact .pair a b k p p1 p2 rfl
 |_=>exact ns h
theorem Inv0.comp{t:Tg}{cl:List (Str×Addr)}{C:Addr}{m:Str->Option Value}(I:Inv0 l env sc σ av s)(hok:CompOk sc sc' t)(hb:kN t d σ=some σ')
  (hcl:∀ x c,(x,NameKind.free)∈sc'.names->env.cells.lookup x=some c->cl.lookup x=some c) (k:K l s s') (hav:∀ b o,s.heap.get? b=some o->avn b->av b) (hva:∀ b,av b->avn b)
  (hlive:∀ b,avn b->∃ o,s'.heap.get? b=some o) (hns:s'.heap.Ns C m) (hm:∀ x v,x∈t.ns->aA.get σ' x=some (some v)->∃ u,m x=some u/\bS l s'.heap avn u v) :
  Inv0 l (compEnvC sc' cl C env) sc' σ' avn s' where
 gnd:={ I.gnd.k k with fav:=λb f=>hva b (I.gnd.fav b f),avlt:=hlive,avS:=hva _ I.gnd.avS }
 top:=I.top
 kind:=hok.kind
 eg:=I.eg
 eb:=I.eb
 dbg:=hok.dbg
 cld:=hok.cld
 glob:=λx hx=>by
  unfold isG at hx;rw[lE,eq_of_beq hx];rfl
 kinds:=λx hx=>by
  refine ocs (sc'.names.lookup x) (λhl=>?_) λk hl=>?_
  ·rw[hl] at hx;exact bft hx
  ·rw[hl] at hx;have hmem:=fM hl;cases k with
   |free =>
    obtain⟨h1,c,h2⟩:=I.kinds x (hok.free _ hmem rfl);rw[lE,hl];refine⟨?_,c,hcl x c hmem h2⟩;simp only[Option.map_some];unfold iI
    split<;>rfl
   |cell=>exact absurd rfl (hok.cell _ hmem)
   |_=>exact bft hx
 get:=λx v hl hg=>by
  obtain⟨b1,b2⟩:=Vz hb;have hx0:x ≠ ".0" := λe=>by rw[e,b1] at hg;cases hg
  unfold isL at hl;cases hk':sc'.names.lookup x with
  |none=>rw[hk'] at hl;exact bft hl
  |some kk =>
   rw[hk'] at hl;have hmem:=fM hk';cases kk with
   | «local» =>
    obtain⟨u,h1,h2⟩:=hm x v ((hok.loc _ hmem rfl).1.resolve_left hx0) hg;exact⟨u,.inl ⟨by rw[lE,hk'];rfl,m,hns,h1⟩,h2⟩
   |cell=>exact absurd rfl (hok.cell _ hmem)
   |free =>
    have hcf:=hok.free _ hmem rfl;have hnt:x∉t.ns:=λht=>by have:=(hok.tgt x ht).2;rw[hk'] at this;cases this
    rw[b2 x hx0 hnt] at hg;have hsl:isL sc x=true:=by
     unfold isL;refine ocs (sc.names.lookup x) (λh=>?_) λk h=>?_
     ·rw[h] at hcf;exact bft hcf
     ·try rewrite[h]
      cases k<;>first | rfl | (rw[h] at hcf;cases hcf)
    refine hde λ_ θ=>?_;obtain⟨u,h1,h2⟩:=I.get x v hsl hg;obtain⟨k1,c,k2⟩:=I.kinds x hcf;apply θ;refine⟨u,?_,?_⟩
    ·rcases h1.k k with ⟨e,_⟩ | ⟨_,c',e1,e2⟩
     ·rw[e] at k1;exact bft k1
     ·refine .inr ⟨?_,c',hcl x c' hmem e1,e2⟩;rw[lE,hk'];simp only[Option.map_some];unfold iI
      split
      ·exact .inl rfl
      ·exact .inr rfl
    ·exact(bS.mono (λ_ _ e=>e) hav h2).k (av:=avn) (λb f=>hva b (I.gnd.fav b f)) k
   |_=>exact bft hl
theorem V2{E:Value->Shared->Prop}{t:Tg}{m:Str->Option Value}{Q:Unit->Shared->Prop}(hh:A.handled=none)(ht:TgI target t)
  (hb:kN t d σ=some σ') (hv:Rep s.heap avn v d) (hC:avn env.locals) (hn:s.heap.Ns env.locals m) (hl:∀ x∈t.ns,x ≠ ".0" /\ env.kindOf x=some .local) (h2:t.apart=true) (hf:env.scope.kind=.function)
  (h:∀ h' tk m',h'.Ns env.locals m'->(∀ b o,b≠env.locals->s.heap.get? b=some o->h'.get? b=some o)->(∀ x v,x∈t.ns->aA.get σ' x=some (some v)->∃ u,m' x=some u/\bS l h' avn u v)->Q () { s with heap:=h',toks:=tk }) :
  wpAny (model O w) A (assign target env v) Q E s:=by
 have hp:(env.scope.kind==.class||(env.scope.kind==.module&&env.locals != env.globals))=false:=by rw[hf];rfl
 have mono:∀ {h1 h2:Heap} {v:Value} {d:PyData},Heap.SameBut env.locals h1 h2->Rep h1 avn v d->Rep h2 avn v d:=λhs r =>
  r.mono (λb o hb e=>by rw[hs.2 b (λx=>hb (x▸hC))];exact e) λ_ _ _ x=>x
 cases ht with
 |one x p et =>
  subst et;obtain⟨q1,q2⟩:=hl x ac;obtain rfl:=si hb;refine il (jv q2 hn (λh' hn' hs'=>?_) hp);refine h h' _ _ hn' (λb o hb e=>by rw[hs'.2 b hb];exact e) λy u hy hg=>?_;obtain rfl:=List.mem_singleton.mp hy;rw[bnd,aA.get_cons_ne q1,aA.get_cons_eq] at hg;cases hg;exact⟨v,by simp,mono hs' hv⟩
 |pair x y k p p1 p2 et =>
  subst et;refine hde λ_ θ=>?_;obtain⟨q,hd,rfl⟩:=bj.mp hb;obtain⟨q1,q2⟩:=hl x ac;obtain⟨q3,q4⟩:=hl y (af _ ac);have hxy:x≠y:=bne_iff_ne.mp h2;obtain⟨ad,v1,v2,rfl,g2,r1,r2⟩:=hv.two hd;apply θ;refine wpAny_assign_Tuple hh g2.isTuple rfl rfl λh1 he=>?_;have k1:∀ b o,s.heap.get? b=some o->h1.get? b=some o:=λb o e=>he b o (lD e) e;refine wpAny_assignInOrder_more (il (jv q2 (hn.keeps k1) (λh2 hn2 hs2=>?_) hp));refine wpAny_assignInOrder_more (il (jv q4 hn2 (λh3 hn3 hs3=>?_) hp));refine wpAny_assignInOrder_none ?_;refine h h3 _ _ hn3 (λb o hb e=>by rw[hs3.2 b hb,hs2.2 b hb];exact k1 b o e) λz u hz hg=>?_;rcases List.mem_cons.mp hz with rfl | hz
  ·rw[aA.get_cons_ne q1,aA.get_cons_ne hxy,aA.get_cons_eq] at hg;cases hg;exact⟨v1,by simp[hxy],mono hs3 (mono hs2 (r1.keeps k1))⟩
  ·obtain rfl:=List.mem_singleton.mp hz;rw[aA.get_cons_ne q3,aA.get_cons_eq] at hg;cases hg;exact⟨v2,by simp,mono hs3 (mono hs2 (r2.keeps k1))⟩
end
section
open PyProof.Rows.TI
section
variable {kg:List Env}
noncomputable def eA(h:Heap)(l:List Env)(e T:Addr):Heap:=gone h (e::T::l.filterMap (·.frame))
theorem oX{e T:Addr}:(eA h l e T).StaysIn h:=λ_ _ x=>(gone_some x).2
theorem s6{e T:Addr}:(eA h l e T).get? e=none:=gone_none ac
theorem s7{e T:Addr}:(eA h l e T).get? T=none:=gone_none (af _ ac)
theorem s8{e T b:Addr}(f:frs l b):(eA h l e T).get? b=none:=gone_none (af _ (af _ f))
theorem Bq{e T b:Addr}(h1:b≠e)(h2:b≠T)(h3:¬ frs l b)(x:h.get? b=some o):(eA h l e T).get? b=some o :=
 (gone_get λm=>by
  rcases List.mem_cons.mp m with m | m
  ·exact h1 m
  ·rcases List.mem_cons.mp m with m | m
   ·exact h2 m
   ·exact h3 m).trans x
theorem s9:∀ {l:List Env},h.FunFrames base l->(∀ b,frs l b->B.get? b=none)->h.FunFrames B l
 := by
 intro l
 induction l with
 |nil=>exact λ_ _=>trivial
 |cons env r ih =>
  intro f k;refine hde λ_ θ=>?_;obtain⟨hk,⟨L,o,hf,_,ho,hd⟩,hr⟩:=f;apply θ;exact⟨hk,⟨L,o,hf,k L (by unfold frs;rw[List.filterMap_cons,hf];exact ac),ho,hd⟩,ih hr λb f=>k b (by unfold frs;rw[List.filterMap_cons,hf];exact af _ f)⟩
theorem V3{e T C:Addr}(k:K l s s')(ff:s'.heap.FunFrames base l)(se:s.heap.get? e=none)(sT:s.heap.get? T=none)
  (st:(eA s'.heap l e T).StaysIn h') (up:s'.heap.UpToSlots h') (tr:h'.TracedAtW (eA s'.heap l e T) e (.ref C) a0 fl) :
  K l s { s' with heap:=h' }/\Tb s h' e fl/\∃ oe vs,h'.get? e=some oe/\oe.cls=.ref C/\oe.data=.fields vs:=by
 have ne:∀ {b:Addr} {o:Obj},s.heap.get? b=some o->b≠e/\b≠T:=λx=>⟨λy=>(by rw[y,se] at x;exact ns x),λy=>(by rw[y,sT] at x;exact ns x)⟩
 have at1:∀ b o,¬ frs l b->s.heap.get? b=some o->h'.get? b=some o:=λb o n x=>st b o (Bq (ne x).1 (ne x).2 n (k.at n x));have at2:∀ b o,frs l b->s.heap.get? b=some o->∃ sl,h'.get? b=some { o with slots:=sl }/\∀ vs,o.data≠.fields vs:=λb o f x=>by
  refine hde λ_ θ=>?_;obtain⟨sl,x'⟩:=k.up x;obtain⟨_,o',e1,e2⟩:=ff.mem f;rw[x'] at e1;obtain rfl:=si e1;obtain⟨sl',x''⟩:=up b _ x' e2;apply θ;exact⟨sl',x'',e2⟩
 refine hde λ_ θ=>?_;obtain⟨oe,vs,T',oT,ts,g1,⟨g2,g3⟩,g4,g5,g6,g7,g8,g9,g10⟩:=tr;apply θ;refine⟨?_,⟨oe,vs,T',oT,ts,g1,g4,g5,?_,g7,g8,g9,g10⟩,oe,vs,g1,g2,g4⟩
 ·obtain⟨h,t,rfl,_,_,m⟩:=k;refine⟨h',t,rfl,at1,λb o x=>?_,m⟩
  by_cases f:frs l b
  ·obtain⟨sl,h,_⟩:=at2 b o f x;exact⟨sl,h⟩
  ·exact⟨o.slots,at1 b o f x⟩
 ·refine ocs (s.heap.get? T') (λx=>?_) λo x=>?_
  ·try rewrite[x]
   rfl
  ·by_cases f:frs l T'
   ·obtain⟨sl,y,z⟩:=at2 T' o f x;rw[g8] at y;obtain rfl:=si y;exact absurd g9 (z ts)
   ·have:=at1 T' o f x;rw[Bq (ne x).1 (ne x).2 f (k.at f x)] at g6;exact sn g6
theorem Tb.tr{e C:Addr}(x:Tb s h e fl)(he:h.get? e=some oe)(hc:oe.cls=.ref C)(hB:∀ T,(∃ vs,oe.data=.fields vs/\vs[1]?=some (.ref T))->B.get? T=none):∃ a0,h.TracedAtW B e (.ref C) a0 fl:=by
 obtain⟨oe',vs,T,oT,ts,g1,g2,g3,g4,g5,g6,g7,g8⟩:=x;rw[he] at g1;obtain rfl:=si g1;have hs:=(Array.getElem?_eq_some_iff.mp g3).1;exact⟨vs[0],oe,vs,T,oT,ts,he,⟨hc,Array.getElem?_eq_getElem (by omega)⟩,g2,g3,hB T ⟨vs,g2,g3⟩,g5,g6,g7,g8⟩
theorem Tb.place{e:Addr}(x:Tb s h e fl)(he:h.get? e=some oe):∃ T,s.heap.get? T=none/\∀ T',(∃ vs,oe.data=.fields vs/\vs[1]?=some (.ref T'))->T'=T:=by
 obtain⟨oe',vs,T,oT,ts,g1,g2,g3,g4,_⟩:=x;rw[he] at g1;obtain rfl:=si g1;refine⟨T,g4,λT' ⟨vs',h1,h2⟩=>?_⟩;rw[g2] at h1;cases h1;rw[g3] at h2;cases h2;rfl
end
set_option tactic.hygienic true
section
variable {kg:List Env}{kj:Addr->Prop}
theorem K.wide(k:K kg s s'):K (env::kg) s s':=by
 obtain⟨h,t,rfl,k,u,m⟩:=k;refine⟨h,t,rfl,λb o n e=>k b o (λf=>n ?_) e,u,m⟩;unfold frs at f ⊢;rw[List.filterMap_cons];cases env.frame with
 |none=>exact f
 |some L=>exact af _ f
inductive Stn(ki:Shared)(l:List Env)(e C:Addr)(s' s'':Shared):Prop where
 |mk (T:Addr) (h':Heap) (a0 fl:Value) (sT:ki.heap.get? T=none) (hT:∀ o,s'.heap.get? T=some o->∃ vs,o.data=.fields vs) (es:s''={ s' with heap:=h' }) (st:(eA s'.heap l e T).StaysIn h') (up:s'.heap.UpToSlots h') (tr:h'.TracedAtW (eA s'.heap l e T) e (.ref C) a0 fl):Stn ki l e C s' s''
theorem Tb.placeF{e:Addr}(x:Tb s h e fl)(he:h.get? e=some oe):∃ T,s.heap.get? T=none/\(∀ T',(∃ vs,oe.data=.fields vs/\vs[1]?=some (.ref T'))->T'=T)/\∀ o,h.get? T=some o->∃ vs,o.data=.fields vs:=by
 obtain⟨oe',vs,T,oT,ts,g1,g2,g3,g4,g5,g6,g7,g8⟩:=x;rw[he] at g1;obtain rfl:=si g1;refine⟨T,g4,λT' h=>?_,λo ho=>?_⟩
 ·obtain⟨vs',h1,h2⟩:=h;rw[g2] at h1;obtain rfl:=Data.fields.inj h1;rw[g3] at h2;exact(Value.ref.inj (si h2)).symm
 ·rw[g6] at ho;obtain rfl:=si ho;exact⟨ts,g7⟩
theorem Stn.on{e C:Addr}{x:X}(S:Stn ki l e C s' s'')(k:K l ki s')(ff:s'.heap.FunFrames base l)(se:ki.heap.get? e=none)
  (na:¬ av e) (hm:mg x.cls=some (.ref C)):K l ki s''/\(∃ fl,Tb ki s''.heap e fl)/\ExAt s''.heap av e x:=by
 refine hde λ_ θ=>?_;obtain⟨T,h',a0,fl,sT,hT,rfl,st,up,tr⟩:=S;obtain⟨k',t',oe',vs',e1,e2,e3⟩:=V3 k ff se sT st up tr;apply θ;exact⟨k',⟨fl,t'⟩,na,oe',vs',C,e1,e3,e2,hm⟩
theorem V4{e:Value}(h:env.frame=env'.frame):noteFrame e env=noteFrame e env':=by
 unfold noteFrame frameOf;rw[h]
theorem Bt{base:Heap}{outer:List Env}{e:Addr}{Q:Unit->Shared->Prop}
  (hfr:A.frames=some (env::outer)) (hl:s.heap.FunFrames base (env::outer)) (hf:env.frame=some L) (ht:s.heap.TracedAtW base e cls a0 fl) (hkb:base.StaysIn s.heap) (hen:base.get? e=none)
  (h:∀ h',Heap.NotedW base (env::outer) e cls a0 (rawInt L) s.heap h'->Q () { s with heap:=h' }):wpAny M A (noteFrame (.ref e) env) Q E s:=by
 by_cases hfl:fl=rawInt L
 ·subst hfl;exact wpAny_noteFrame_againW hf ht (h s.heap ⟨hkb,hl,ht,λb o e _=>⟨o.slots,e⟩⟩)
 refine hde λ_ θ=>?_;obtain⟨oe,vs,T,oT,ts,he,⟨hcls,h0⟩,hd,h1,hnT,hTe,hT,hdT,h3⟩:=ht;apply θ;subst hcls;unfold noteFrame;simp only[hf];refine aa (cf he hd h1 ?_);rw[if_pos (show(Value.ref T != Value.none)=true from rfl)];refine aa (cf hT hdT h3 ?_);rw[if_neg (show ¬ ((fl==rawInt L)=true) from λx=>hfl (eq_of_beq x))];refine aa (wpAny_setField hT hdT (Array.getElem?_eq_some_iff.mp h3).1 ?_);have other:∀ b,b≠T->(s.heap.update T (Obj.mapFields (·.setIfInBounds 3 Value.none))).get? b=s.heap.get? b:=λb hb=>Heap.get?_update_other _ _ (Ne.symm hb);have noRec:∀ b o,s.heap.get? b=some o->(∀ vs,o.data≠.fields vs)->b≠T:=λb o hb hnf q=>by
  rw[q,hT] at hb;obtain rfl:=si hb;exact hnf ts hdT
 refine wpAny_entryW hfr (hl.of_keeps λb o hb hnf=>⟨o,(other b (noRec b o hb hnf)).trans hb,rfl⟩) hf ((other e (Ne.symm hTe)).trans he)
  (λb o hbo=>(other b λq=>by rw[q,hnT] at hbo;exact ns hbo).trans (hkb b o hbo)) hen hd (Array.getElem?_eq_some_iff.mp h1).1 h0 λh' x=>h h' ?_
 refine hde λ_ θ=>?_;obtain⟨x1,x2,x3,x4⟩:=x;apply θ;exact⟨x1,x2,x3,λb o hb hnf=>x4 b o ((other b (noRec b o hb hnf)).trans hb) hnf⟩
theorem Bu{base:Heap}{e:Addr}{f:Option Addr}{Q:Unit->Shared->Prop}(hkb:base.StaysIn s.heap)(ht:s.heap.TracedAtW base e cls a0 fl)
  (h:∀ h' fl',base.StaysIn h'->h'.TracedAtW base e cls a0 fl'->s.heap.UpToSlots h'->Q () { s with heap:=h' }):wpAny M A (setFlight (.ref e) f) Q E s:=by
 refine hde λ_ θ=>?_;obtain⟨oe,vs,T,oT,ts,he,hcls,hd,h1,hnT,hTe,hT,hdT,h3⟩:=ht;apply θ;have hsz3:3 < ts.size:=(Array.getElem?_eq_some_iff.mp h3).1;have other:∀ b,b≠T->(s.heap.update T (Obj.mapFields (·.setIfInBounds 3 (f.elim Value.none λf=>rawInt f)))).get? b=s.heap.get? b:=λb hb=>Heap.get?_update_other _ _ (Ne.symm hb);have noRec:∀ b o,s.heap.get? b=some o->(∀ vs,o.data≠.fields vs)->b≠T:=λb o hb hnf q=>by
  rw[q,hT] at hb;obtain rfl:=si hb;exact hnf ts hdT
 unfold setFlight;refine aa (cf he hd h1 ?_);rw[if_pos (show(Value.ref T != Value.none)=true from rfl)];refine wpAny_setField hT hdT hsz3 (h _ (f.elim Value.none λf=>rawInt f) (λb o hbo=>(other b λq=>by rw[q,hnT] at hbo;exact ns hbo).trans (hkb b o hbo)) ?_ λb o hb hnf=>⟨o.slots,(other b (noRec b o hb hnf)).trans hb⟩);exact⟨oe,vs,T,_,_,(other e (Ne.symm hTe)).trans he,hcls,hd,h1,hnT,hTe,Heap.get?_update_self _ hT (Obj.isFreed_of_fields (Obj.data_mapFields hdT _)),Obj.data_mapFields hdT _,by simp[hsz3]⟩
theorem Bv{x:X}{Q:Unit->Shared->Prop}(hfr:A.frames=some (env::kg))(hf:env'.frame=env.frame)(G:Gnd (env::kg) av s)(u:Fly (env::kg) s av x v s')
  (hq:∀ s'',Fly (env::kg) s av x v s''->s'.heap.UpToSlots s''.heap->Q () s''):wpAny (model O w) A (noteFrame v env') Q E s':=by
 rw[V4 hf];refine hde λ_ θ=>?_;obtain⟨k,e,rfl,se,⟨na,oe,vs,C,he,hd,hc,hm⟩,fl,ht⟩:=u;have ff:=(G.k k).ff;obtain⟨_,⟨L,_,hL,_⟩,_⟩:=id ff;obtain⟨T,sT,hT,hTf⟩:=ht.placeF he;obtain⟨a0,tr⟩:=ht.tr (B:=eA s'.heap (env::kg) e T) he hc λT' h=>hT T' h▸s7;apply θ;have key:wpAny (model O w) A (noteFrame (.ref e) env) (λ_ km=>Stn s (env::kg) e C s' km/\s'.heap.UpToSlots km.heap) (λ_ _=>False) s' :=
  Bt hfr (s9 ff λb f=>s8 f) hL tr oX s6 λh' hh=>⟨⟨T,h',a0,_,sT,hTf,rfl,hh.1,hh.2.2.2,hh.2.2.1⟩,hh.2.2.2⟩
 refine az key (λ_ km y=>?_) λ_ _ y=>y.elim;obtain⟨k',⟨fl',t'⟩,xa⟩:=y.1.on k ff se na hm;exact hq _ ⟨k',e,rfl,se,xa,fl',t'⟩ y.2
theorem tA{x:X}{f:Option Addr}{Q:Unit->Shared->Prop}(G:Gnd l av s)(u:Fly l s av x v s')
  (hq:∀ s'',Fly l s av x v s''->Q () s''):wpAny (model O w) A (setFlight v f) Q E s':=by
 refine hde λ_ θ=>?_;obtain⟨k,e,rfl,se,⟨na,oe,vs,C,he,hd,hc,hm⟩,fl,ht⟩:=u;have ff:=(G.k k).ff;obtain⟨T,sT,hT,hTf⟩:=ht.placeF he;obtain⟨a0,tr⟩:=ht.tr (B:=eA s'.heap l e T) he hc λT' h=>hT T' h▸s7;apply θ;have key:wpAny (model O w) A (setFlight (.ref e) f) (λ_ kq=>Stn s l e C s' kq) (λ_ _=>False) s' :=
  Bu (oX (l:=l) (e:=e) (T:=T)) tr λh' fl' h1 h3 h4=>⟨T,h',a0,fl',sT,hTf,rfl,h1,h4,h3⟩
 refine az key (λ_ kq z=>?_) λ_ _ z=>z.elim;obtain⟨k',⟨fl',t'⟩,xa⟩:=z.on k ff se na hm;exact hq _ ⟨k',e,rfl,se,xa,fl',t'⟩
theorem V5{x:X}{cenv:Env}{what:String}(G:Gnd l av s)(u:Fly l s av x v s')
  (hq:∀ s'',Fly l s av x v s''->E v s''):wpAny (model O w) A (passOn what v cenv:Sem Value) (λ_ _=>False) E s':=by
 have u':=u;obtain⟨_,e,rfl,_,_,fl,oe,vs,T,oT,ts,g1,g2,g3,_⟩:=u';unfold passOn;refine aa (cf g1 g2 g3 ?_);rw[if_neg (show ¬ ((Value.ref T==Value.none)=true) from λx=>Bool.noConfusion x)];exact aa (tA G u λs'' u''=>wpAny_throw (hq s'' u''))
end
set_option tactic.hygienic false
end
section
theorem Fin.nx{r:R α}{k:α->R β}{fin:R β}(h:Fin (nx r) k fin):∃ a,r=.ok a/\k a=fin:=by
 cases r with
 |ok a=>exact⟨a,rfl,h.1⟩
 |_=>exact(Fin.no h).elim
theorem EH.ok{b:β}:EH l s av (.ok b) E:=λ_ _ _ e=>nomatch e
def oY(n:Nat)(hd:Bool)(l:List Env)(sc:Scope)(σ:aA)(ifs:List Expr)(r:R Bool):Prop :=
 ∀ (A:Around) (env:Env) (s:Shared) (av:Addr->Prop),Room n hd l A->Inv0 l env sc σ av s->∀ {b:Bool} {Q:Bool->Shared->Prop} {E:Value->Shared->Prop},r=.ok b->(∀ s',K l s s'->Q b s') ->
  wpAny (model O w) A (forIn ifs true λc r=>if r=true then do let ok <- isTrue c env (eval c env);pure (ForInStep.yield ok) else pure (ForInStep.yield r)) Q E s
theorem aH.val(h:aH n hd l sc σ e r)(hA:Room n hd l A)(I:Inv0 l env sc σ av s){u:V}(hr:r=.ok u)
  (hq:∀ v s',K l s s'->bD s s'.heap av v u->Q v s'):wpAny (model O w) A (eval e env) Q E s :=
 h A env s av hA I (k:=.ok) (fin:=.ok u) ⟨by rw[hr];rfl,nofun⟩ (λv s' u' k r e=>by cases e;exact hq v s' k r) EH.ok
theorem V6:oY n hd l sc σ [] (.ok true):=λA env s av _ _ _ _ _ hr hq=>by cases hr;exact wpAny_tests_nil (hq _ (K.rf l s))
theorem V7{c:Expr}(h:bY n hd l sc σ c r):oY n hd l sc σ [c] (tst r):=λA env s av hA I b _ _ hr hq =>
 wpAny_tests_one (h A env s av hA I (k:=.ok) (fin:=.ok b) ⟨by rw[hr];rfl,nofun⟩ (λb' s' k e=>by cases e;exact hq s' k) EH.ok)
structure Cst(l:List Env)(ke:Shared)(avn:Addr->Prop)(D C:Addr)(xs:List PyData)(st:Shared):Prop where
 k:K l ke st
 ns:∃ m,st.heap.Ns C m
 lst:∃ ys:List Value,st.heap.PlainList D ys.toArray/\ys.length=xs.length/\∀ (j:Nat) (v:Value) (d:PyData),ys[j]?=some v->xs[j]?=some d->Rep st.heap avn v d
theorem K.on{tk:Nat}{c:Addr}(k:K l s s')(hc:s.heap.get? c=none)(hk:∀ b o,b≠c->s'.heap.get? b=some o->h'.get? b=some o)(mt:s'.toks<=tk):K l s { s' with heap:=h',toks:=tk }:=by
 obtain⟨h,t,rfl,k1,k2,m⟩:=k;have ne:∀ b o,s.heap.get? b=some o->b≠c:=λb o e x=>by rw[x,hc] at e;exact ns e
 exact⟨h',tk,rfl,λb o n e=>hk b o (ne b o e) (k1 b o n e),λb o e=>by obtain⟨sl,e'⟩:=k2 b o e;exact⟨sl,hk b _ (ne b o e) e'⟩,U m mt⟩
theorem K.onw{tk:Nat}{c:Addr->Prop}(k:K l s s')(hc:∀ b,c b->s.heap.get? b=none)(hk:∀ b o,¬ c b->s'.heap.get? b=some o->h'.get? b=some o)(mt:s'.toks<=tk):K l s { s' with heap:=h',toks:=tk }:=by
 obtain⟨h,t,rfl,k1,k2,m⟩:=k;have ne:∀ b o,s.heap.get? b=some o->¬ c b:=λb o e x=>by rw[hc b x] at e;exact ns e
 exact⟨h',tk,rfl,λb o n e=>hk b o (ne b o e) (k1 b o n e),λb o e=>by obtain⟨sl,e'⟩:=k2 b o e;exact⟨sl,hk b _ (ne b o e) e'⟩,U m mt⟩
theorem Bw{ys:List Value}{xs:List PyData}{x:PyData}(hl:ys.length=xs.length)(hr:∀ (j:Nat) (v:Value) (d:PyData),ys[j]?=some v->xs[j]?=some d->Rep h av v d)(hx:Rep h av v x):
  ∀ (j:Nat) (v':Value) (d:PyData),(ys++[v])[j]?=some v'->(xs++[x])[j]?=some d->Rep h av v' d :=
 sI hl (bs:=[x]) rfl hr λj v' d e1 e2=>by
  cases j with
  |zero=>obtain rfl:=si e1;obtain rfl:=si e2;exact hx
  |succ j=>exact ns e1
theorem Bx(t:Tg)(d:PyData)(σ:aA)(k:aA->R α):kO t d σ k=match kN t d σ with | some σ'=>k σ' | none=>.no:=by
 cases t with
 |one x=>rfl
 |pair x y =>
  show(match two d with | some q=>k _ | none=>.no)=match (two d).map _ with | some σ'=>k σ' | none=>.no
  cases two d with
  |none=>rfl
  |some q=>rfl
inductive CTurn(l:List Env)(ke:Shared)(av':Addr->Prop)(D C:Addr)(n:Nat)(St:Nat->Heap->Prop)(P:Nat->List PyData->Prop)(m:Nat)(st:Shared):Prop where
 |mk (i:Nat) (xs:List PyData) (hi:i+m=n) (hx:xs.length<=i) (F:Cst l ke av' D C xs st) (hs:St i st.heap) (hp:P i xs):CTurn l ke av' D C n St P m st
theorem V8{ke:Shared}{z:Tg}{cl:List (Str×Addr)}{C:Addr}
  {test:aA->R Bool} {eltF:aA->R V} (hA:Room n hd l A) (hh:A.handled=none) (htg:TgI target z) (I:Inv0 l env sc σ av ke) (hok:CompOk sc sc' z) (hcl:∀ x c,(x,NameKind.free)∈sc'.names->env.cells.lookup x=some c->cl.lookup x=some c)
  (hT:∀ σ',oY n hd l sc' σ' ifs (test σ')) (hE:∀ σ',aH n hd l sc' σ' elt (eltF σ'))
  (S:Src A ke.heap av target it wr St ds) (hwr:∀ b,wr b->ke.heap.get? b=none)
  (hD:ke.heap.get? D=none) (hC:ke.heap.get? C=none) (hDC:D≠C) (hlen:ds.length<=sizeLine) (hDwr:¬ wr D) (hCwr:¬ wr C)
  {R:Result->Shared->Prop} {β:Type} {k:List PyData->Internal.R β} {fin:Internal.R β} (hne:fin≠.no) (hR:∀ xs st',xs.length<=sizeLine->Cst l ke (λb=>av b\/wr b\/b=D\/b=C) D C xs st'->k xs=fin->R (.ok .next) st') (hX:∀ x v s',fin=.exc x->Fly l ke (λb=>av b\/wr b\/b=D\/b=C) x v s'->(∃ m,s'.heap.Ns C m)->R (.error v) s')
  {st:Shared} (h:Cst l ke (λb=>av b\/wr b\/b=D\/b=C) D C [] st) (hst:St 0 st.heap) (hf:rb (gJ test eltF z σ ds) k=fin) :
  codeAny (model O w) A (.compLoop (.ListComp elt [⟨target,iter,ifs,0⟩] sc' pos) 0 it (.ref D) (compEnvC sc' cl C env)) R st:=by
 have nf:∀ b,(wr b\/b=D\/b=C)->¬ frs l b:=λb hb f=>by
  obtain⟨o,e⟩:=I.gnd.avlt _ (I.gnd.fav _ f);rcases hb with hb | rfl | rfl
  ·rw[hwr b hb] at e;exact ns e
  ·rw[hD] at e;exact ns e
  ·rw[hC] at e;exact ns e
 have new:∀ b o,ke.heap.get? b=some o->(av b\/wr b\/b=D\/b=C)->av b:=λb o e hb=>by
  rcases hb with hb | hb | rfl | rfl
  ·exact hb
  ·rw[hwr b hb] at e;exact ns e
  ·rw[hD] at e;exact ns e
  ·rw[hC] at e;exact ns e
 have fvn:∀ b,frs l b->(av b\/wr b\/b=D\/b=C):=λb f=>.inl (I.gnd.fav b f);obtain⟨P,hP⟩:∃ P:Nat->List PyData->Prop,∀ i xs,P i xs↔rb (gJ test eltF z σ (ds.drop i)) (λys=>k (xs++ys))=fin:=⟨_,λ_ _=>Iff.rfl⟩
 refine Vu (I:=CTurn l ke (λb=>av b\/wr b\/b=D\/b=C) D C ds.length St P) ?_ ds.length ⟨0,[],ce _,ae _,h,hst,(hP _ _).mpr hf⟩;clear h hst hf st
 rintro m st ⟨i,xs,hi,hx,F,hst,hp⟩
 replace hp:=(hP _ _).mp hp;obtain⟨kk,⟨mm,hns⟩,ys,hpl,hyl,hys⟩:=F;have live:∀ (st':Shared),K l ke st'->(∃ m,st'.heap.Ns C m)->st'.heap.PlainList D ys.toArray->(∀ b,wr b->∃ o,st'.heap.get? b=some o)->∀ b,(av b\/wr b\/b=D\/b=C)->∃ o,st'.heap.get? b=some o:=λst' kk hn hp hw b hb=>by
  rcases hb with hb | hb | rfl | rfl
  ·obtain⟨o,e⟩:=I.gnd.avlt b hb;obtain⟨sl,e'⟩:=kk.up e;exact⟨_,e'⟩
  ·exact hw b hb
  ·obtain⟨nn,e⟩:=hp;exact⟨_,e⟩
  ·obtain⟨_,o,_,_,e,_⟩:=hn;exact⟨o,e⟩
 by_cases hend:i=ds.length
 ·subst hend;rw[List.drop_length] at hp;have hp:k (xs++[])=fin:=hp;rw[bz] at hp;refine az (S.doneT (Q:=λs'=>R (.ok .next) s') hst λh' tk hk mt=>hR xs _ (U hx hlen) ⟨kk.onw hwr hk mt,⟨mm,hns.at' λo e=>hk C o hCwr e⟩,ys,hpl.at λo e=>hk D o hDwr e,hyl,λj v d e1 e2 =>
   (hys j v d e1 e2).mono (λb o hb e=>hk b o (λhw=>hb (.inr (.inl hw))) e) λ_ _ _ x=>x⟩ hp) (λr ke ku=>?_) λ_ _ x=>x
  cases r with
  |none=>exact ku
  |some v=>exact ku.elim
 ·have hlt:i < ds.length:=xL hi hend;rw[List.drop_eq_getElem_cons hlt] at hp;replace hp:Fin (rb (nx (kO z ds[i] σ test)) λb=>if b then rb (kO z ds[i] σ eltF) λv=>rb (gJ test eltF z σ (ds.drop (i+1))) λxs=>.ok (dOf v::xs) else gJ test eltF z σ (ds.drop (i+1))) (λys=>k (xs++ys)) fin:=⟨hp,hne⟩
  obtain⟨b,ht,hp⟩:=hp.b.nx;rw[Bx] at ht;simp only[Bx] at hp;refine ocs (kN z ds[i] σ) (λhbt=>by rw[hbt] at ht;cases ht) λσ' hbt=>?_;rw[hbt] at ht hp;refine az (S.itemT (Q:=?QQ) (bg hlt) hst ?body) ?link λ_ _ x=>x
  case link =>
   intro r ke ku;cases r with
   |none=>exact ku.elim
   |some v=>exact ku
  intro v h1 tk1 hk1 st1 hrep mt1;have rv:=hrep (λb=>av b\/wr b\/b=D\/b=C) (live st kk ⟨mm,hns⟩ hpl (S.live i _ hst)) new;refine dA (V2 (l:=l) hh htg hbt rv (.inr (.inr (.inr rfl))) (hns.at' λo e=>hk1 C o hCwr e) (λx hx=>⟨(hok.tgt x hx).1,by rw[lE,(hok.tgt x hx).2];rfl⟩) hok.two hok.kind λh2 tk2 m2 hn2 hk2 hm2 mt2=>?_);have k2:K l ke { st with heap:=h2,toks:=tk2 }:=K.on (s':={ st with heap:=h1,toks:=tk1 }) (c:=C) (kk.onw (tk:=tk1) hwr hk1 mt1) hC hk2 mt2;have st2:St (i+1) h2:=S.frame _ _ _ st1 (λb o hb e=>hk2 b o (λx=>hCwr ((show b=C from x)▸hb)) e) λb o e hav=>k2.at (λf=>hav (I.gnd.fav b f)) e;have pl2:h2.PlainList D ys.toArray:=hpl.at λo e=>hk2 D o (λx=>hDC x) (hk1 D o hDwr e);have ys2:∀ (j:Nat) (v:Value) (d:PyData),ys[j]?=some v->xs[j]?=some d->Rep h2 (λb=>av b\/wr b\/b=D\/b=C) v d:=λj v d e1 e2 =>
   (hys j v d e1 e2).mono (λb o hb e=>hk2 b o (λx=>hb (.inr (.inr (.inr x)))) (hk1 b o (λhw=>hb (.inr (.inl hw))) e)) λ_ _ _ x=>x
  have I2:Inv0 l (compEnvC sc' cl C env) sc' σ' (λb=>av b\/wr b\/b=D\/b=C) { st with heap:=h2,toks:=tk2 } :=
   I.comp hok hbt hcl k2 new (λ_ x=>.inl x) (live { st with heap:=h2,toks:=tk2 } k2 ⟨m2,hn2⟩ pl2 (S.live _ _ st2)) hn2 hm2
  refine hT σ' A _ _ _ hA I2 ht λkq k3=>?_;have kk3:=k2.tr k3;have st3:St (i+1) kq.heap:=S.frame _ _ _ st2 (λb o hb e=>k3.at (nf b (.inl hb)) e) λb o e hav=>kk3.at (λf=>hav (I.gnd.fav b f)) e;have pl3:kq.heap.PlainList D ys.toArray:=pl2.at λo e=>k3.at (nf D (.inr (.inl rfl))) e;have ns3:kq.heap.Ns C m2:=hn2.at' λo e=>k3.at (nf C (.inr (.inr rfl))) e;have ys3:=λj v d e1 e2=>Rep.k fvn k3 (ys2 j v d e1 e2);cases b with
  |false=>exact(show ∃ m',m' < m/\CTurn l ke _ D C ds.length St P m' kq from ⟨m - 1,by exact qS hi hend,i+1,xs,by exact qT hi hend,by exact Hm hx,⟨kk3,⟨m2,ns3⟩,ys,pl3,hyl,ys3⟩,st3,(hP _ _).mpr hp⟩)
  |true =>
   replace hp:Fin (rb (eltF σ') λv=>rb (gJ test eltF z σ (ds.drop (i+1))) λxs=>.ok (dOf v::xs)) (λys=>k (xs++ys)) fin:=⟨hp,hne⟩
   have I3:=I2.k k3;refine hE σ' A _ kq _ hA I3 hp.b (λxv lu u k4 r4 hp=>?_) λx v s' e f=>?_
   rotate_left
   ·obtain⟨lw,kg,el,hfr⟩:=I.top;clear hE hT hR;subst el;exact Bv hA.frames hfr I3.gnd f λs'' f' _=>hX x v s'' e (f'.back kk3) (by obtain⟨k5,_⟩:=f';exact⟨m2,k5.upTo.ns ns3⟩)
   have rx:=r4.rep I3.gnd.avlt;have kk4:=kk3.tr k4;have pl4:lu.heap.PlainList D ys.toArray:=pl3.at λo e=>k4.at (nf D (.inr (.inl rfl))) e;refine wpAny_list_append_plain pl4 (λh5 pl5 hs5=>?_) (by simp;exact Hn hlen hi hx hyl);have k45:∀ b o,b≠D->lu.heap.get? b=some o->h5.get? b=some o:=λb o hb e=>by rw[hs5.2 b hb];exact e
   have kk5:K l ke { lu with heap:=h5 }:=kk4.on (tk:=lu.toks) hD k45 (ae _);have hp:rb (gJ test eltF z σ (ds.drop (i+1))) (λys=>k ((xs++[dOf u])++ys))=fin:=by
    rw[<- hp,sF];congr 1;funext ys;show k _=k _;rw[cv];rfl
   refine⟨m - 1,by exact qS hi hend,i+1,xs++[dOf u],by exact qT hi hend,by simp;exact Ho hx,⟨kk5,⟨m2,?_⟩,ys++[xv],by simpa using pl5,by simp[hyl],Bw hyl (λj v d e1 e2=>?_) ?_⟩,?_,(hP _ _).mpr hp⟩
   ·exact ns3.at' λo e=>k45 C o (λx=>hDC x.symm) (k4.at (nf C (.inr (.inr rfl))) e)
   ·exact(Rep.k fvn k4 (ys3 j v d e1 e2)).mono (λb o hb e=>k45 b o (λx=>hb (.inr (.inr (.inl x)))) e) λ_ _ _ x=>x
   ·exact rx.mono (λb o hb e=>k45 b o (λx=>hb (.inr (.inr (.inl x)))) e) λ_ _ _ x=>x
   ·exact S.frame _ _ _ st3 (λb o hb e=>k45 b o (λx=>hDwr (x▸hb)) (k4.at (nf b (.inl hb)) e)) λb o e hav=>kk5.at (λf=>hav (I.gnd.fav b f)) e
end
section
theorem V9{ke:Shared}{C:Addr}{xs:List PyData}{st:Shared}(k0:K l s ke)(hD:ke.heap.get? D=none)(hC:ke.heap.get? C=none)(hDC:D≠C)
  (F:Cst l ke (λb=>av b\/wr b\/b=D\/b=C) D C xs st) (hl:xs.length<=sizeLine) (hs:Heap.SameBut C st.heap h'):K l s { st with heap:=h' }/\bD s h' av (.ref D) (.own (.list xs)):=by
 refine hde λ_ θ=>?_;obtain⟨kk,_,ys,hpl,hyl,hys⟩:=F;apply θ;have hk:∀ b o,b≠C->st.heap.get? b=some o->h'.get? b=some o:=λb o hb e=>by rw[hs.2 b hb];exact e
 refine⟨k0.tr (kk.on (tk:=st.toks) hC hk (ae _)),D,rfl,k0.non hD,ys,hpl.at λo e=>hk D o hDC e,hyl,by rw[hyl];exact hl,λj v d e1 e2=>?_⟩;refine(hys j v d e1 e2).mono (λb o hb e=>hk b o (λx=>hb (.inr (.inr (.inr x)))) e) λb o _ hb=>?_;rcases hb with hb | hb
 ·exact .inl hb
 ·exact .inr (.inr (.inl hb))
theorem Wa{ke:Shared}{C:Addr}{x:X}{st:Shared}{m:Str->Option Value}(k0:K l s ke)(hC:ke.heap.get? C=none)
  (F:Fly l ke (λb=>av b\/wr b\/b=D\/b=C) x v st) (hn:st.heap.Ns C m) (hs:Heap.SameBut C st.heap h'):Fly l s av x v { st with heap:=h' }:=by
 refine hde λ_ θ=>?_;obtain⟨k,e,rfl,h1,h2,fl,oe,vs,T,oT,ts,g1,g2,g3,g4,g5,g6,g7,g8⟩:=F;obtain⟨oC,es,ep,c1,c2,_⟩:=hn;apply θ;have hk:∀ b o,b≠C->st.heap.get? b=some o->h'.get? b=some o:=λb o hb e=>by rw[hs.2 b hb];exact e
 have ne:∀ {b:Addr} {o:Obj} {vs:Array Value},st.heap.get? b=some o->o.data=.fields vs->b≠C:=λe d x=>by
  rw[x,c1] at e;obtain rfl:=si e;rw[c2] at d;cases d
 exact Fly.back k0 ⟨k.on (tk:=st.toks) hC hk (ae _),e,rfl,h1,h2.mono (λb o hb e=>hk b o (λx=>hb (.inr (.inr (.inr x)))) e) λb _ _ hb=>.inl hb,fl,oe,vs,T,oT,ts,hk _ _ (ne g1 g2) g1,g2,g3,g4,g5,hk _ _ (ne g6 g7) g6,g7,g8⟩
theorem By(hbad:∀ e,bad e=true->rec e=.no)(h:bad e=true):fV rec hd sc target e=.no:=by
 have h0:i8 rec e=.no:=by unfold i8;rw[hbad e h];rfl
 unfold fV
 split
 ·rfl
 ·unfold bad at h;unfold iB gI;generalize vw e=v at h;cases v<;>first | exact h0 | cases h
theorem Bz{rec:Scope->aA->Expr->R V}{g:Comprehension}(hbad:∀ e,bad e=true->rec sc σ e=.no)
  (hit:aH n hd l sc σ g.iter (rec sc σ g.iter)) (hsub:∀ f as kws q,g.iter=.Call f as kws q->∀ a∈as,aH n hd l sc σ a (rec sc σ a))
  (hT:∀ c∈g.ifs,∀ σ',bY n hd l sc' σ' c (rec sc' σ' c)) (hE:∀ σ',aH n hd l sc' σ' elt (rec sc' σ' elt))
  {A:Around} {env:Env} {s:Shared} {av:Addr->Prop} (hA:Room n hd l A) (I:Inv0 l env sc σ av s) {β:Type} {k:V->R β} {fin:R β} {Q:Value->Shared->Prop} {E:Value->Shared->Prop} {use:Option (Value->Sem Unit)}
  (hf:Fin (jA rec hd sc σ elt g sc') k fin) (he:EH l s av fin E)
  (hq:∀ (ke:Shared) (wr:Addr->Prop) (D C:Addr) (xs:List PyData) (st':Shared),K l s ke->ke.heap.get? D=none->ke.heap.get? C=none->D≠C->xs.length<=sizeLine->Cst l ke (λb=>av b\/wr b\/b=D\/b=C) D C xs st'->k (.own (.list xs))=fin->compPost (model O w) A E use Q (.ref D) C (.ok .next) st') :
  wpAny (model O w) A (comprehension (.ListComp elt [g] sc' pos) sc' env cpos (newList []) (firstAsync [g]) (firstIter [g] env) use) Q E s:=by
 obtain⟨target,iter,ifs,as⟩:=g;unfold jA at hf;replace hf:Fin (match kM target with
  |none=>.no
  |some x=>if (nN sc sc' x&&as==0)=true then match rJ rec sc' ifs with
   |none=>.no
   |some t=>rb (rb (fV (rec sc σ) hd sc target iter) λl=>gJ t (λσ'=>rec sc' σ' elt) x σ l) λr=>ofP (own (.list r))
  else .no) k fin:=hf
 cases hn:kM target with
 |none=>rw[hn] at hf;exact hf.no.elim
 |some z =>
  rw[hn] at hf;obtain⟨hc,hf1⟩:=Fin.ite hf;clear hf;have htg:=V1 hn;simp only[Bool.and_eq_true,beq_iff_eq] at hc;obtain⟨c1,rfl⟩:=hc;have hok:=Vy c1;refine ocs (rJ rec sc' ifs) (λhtt=>?_) λt htt=>?_
  ·rw[htt] at hf1;exact hf1.no.elim
  ·rw[htt] at hf1;have hT':∀ σ',oY n hd l sc' σ' ifs (t σ'):=λσ'=>by
    cases ifs with
    |nil=>obtain rfl:=si htt;exact V6
    |cons c r =>
     cases r with
     |nil=>obtain rfl:=si htt;exact V7 (hT c ac _)
     |cons=>cases htt
   have hb:bad iter=false:=fK (λe=>By hbad e) hf1.b.b.ne;obtain⟨cl,hclos,hcl⟩:=Vt (env:=env) (scope:=sc') λp hp hk=>(I.kinds p.1 (hok.free p hp hk)).2;have hs:∀ x,foldedSetIterable iter env x=pure x:=zZ hb;refine wpAny_comprehension_free (g:=⟨target,iter,ifs,0⟩) (gs:=[]) rfl hs hclos hok.kind (λp hp hk=>(hok.loc p hp hk).2) ?_;have hhd:hd=false:=by
    cases hd with
    |false=>rfl
    |true=>exact hf1.b.b.no.elim
   refine Bn (target:=target) hbad hit hsub A env s av hA I hf1.b.b (λit km ds x h1=>?_) he;obtain⟨ke,wr,St,k0,S,hst,hwr,k2,hlen,mt⟩:=x;refine wpAny_newObj_type (wpAny_newFunctionEnv hok.cell (by intro y hy;simp at hy) (λku hns1 hsb1=>?_) hok.kind);dsimp only at hns1 hsb1 ⊢;generalize hH2:km.heap.push { cls:=.type "list", dict:=none,data:=.seq ([]:List Value).toArray }=H2 at hns1 hsb1 ⊢;have hC:H2.objs.size=km.heap.objs.size+1:=by rw[<- hH2,di]
   have hDC:km.heap.objs.size≠H2.objs.size:=by rw[hC];exact cu (cz _)
   have below:∀ b,b < km.heap.objs.size->b≠H2.objs.size:=λb hb=>by rw[hC];exact cu (fm hb)
   have old:∀ b o,km.heap.get? b=some o->ku.get? b=some o:=λb o e=>hsb1.extBut b o (below b (bx e)) (ai _ (hH2▸ai _ e));have hacc:ku.PlainList km.heap.objs.size #[]:=⟨_,hsb1.extBut _ _ hDC (ai _ (hH2▸ck _ rfl))⟩
   have hD2:km.heap.get? km.heap.objs.size=none:=bP _;have hC2:km.heap.get? H2.objs.size=none:=ft (by rw[hC];exact au _);have kk2:K l ke km:=K.of k2 mt;have hst1:St 0 ku:=S.frame _ _ _ hst (λb o _ e=>old b o e) λb o e _=>old b o (k2.heap b o e);have loop:∀ kq:Shared,kq={ km with heap:=ku,toks:=km.toks+([]:List (Str×Value)).length } ->
     codeAny (model O w) A (.compLoop (.ListComp elt [⟨target,iter,ifs,0⟩] sc' pos) 0 it (.ref km.heap.objs.size) (compEnvC sc' cl H2.objs.size env)) (compPost (model O w) A E use Q (.ref km.heap.objs.size) H2.objs.size) kq:=by
    rintro kq rfl
    refine V8 (ke:=ke) (wr:=wr) hA (hA.handled hhd) htg (I.k k0) hok hcl hT' (λσ'=>hE σ') S (λb hb=>(hwr b hb).1) (kk2.non hD2) (kk2.non hC2) hDC hlen (λhw=>?_) (λhw=>?_) hf1.2 (λxs st' hz F e=>?_) (λx v s' e f hn=>?_) ⟨kk2.trp (Kp.mk' old) (ae _),⟨_,hns1⟩,[],hacc,rfl,nofun⟩ hst1 h1
    ·obtain⟨o,e⟩:=(hwr _ hw).2;rw[hD2] at e;exact ns e
    ·obtain⟨o,e⟩:=(hwr _ hw).2;rw[hC2] at e;exact ns e
    ·exact hq ke wr _ _ xs st' k0 (kk2.non hD2) (kk2.non hC2) hDC hz F e
    ·obtain⟨m,hn⟩:=hn;have key:∃ m,s'.heap.Ns H2.objs.size m/\∀ h',Heap.SameBut H2.objs.size s'.heap h'->∀ cenv:Env,cenv.locals=H2.objs.size->wpAny (model O w) A (passOn "comprehension.variables-let-go" v cenv:Sem Value) (λ_ _=>False) E { s' with heap:=h' } :=
      ⟨m,hn,λh' hs cenv _=>V5 I.gnd (Wa k0 (kk2.non hC2) f hn hs) λs'' f'=>he x v s'' e f'⟩
     cases use<;>exact key
   exact codeAny_compStart_list (loop _ rfl) (S.self 0 _ _ _ hst1 (loop _ rfl))
theorem Wb{rec:Scope->aA->Expr->R V}{g:Comprehension}(hbad:∀ e,bad e=true->rec sc σ e=.no)
  (hit:aH n hd l sc σ g.iter (rec sc σ g.iter)) (hsub:∀ f as kws q,g.iter=.Call f as kws q->∀ a∈as,aH n hd l sc σ a (rec sc σ a))
  (hT:∀ c∈g.ifs,∀ σ',bY n hd l sc' σ' c (rec sc' σ' c)) (hE:∀ σ',aH n hd l sc' σ' elt (rec sc' σ' elt)) :
  aH n hd l sc σ (.ListComp elt [g] sc' pos) (jA rec hd sc σ elt g sc'):=by
 intro A env s av hA I β k fin Q E hf hq he;simp only[eval_ListComp];refine Bz hbad hit hsub hT hE hA I hf he λke wr D C xs st' k0 hD hC hDC hz F e=>?_;obtain⟨m,hn⟩:=F.ns;exact⟨m,hn,λh' hs=>by obtain⟨a,b⟩:=V9 k0 hD hC hDC F hz hs;exact hq _ _ (.own (.list xs)) a b e⟩
end
section
theorem B5{rec:Scope->aA->Expr->R V}(h:bad e=true):fG rec C sc σ e=.no:=by
 cases e<;>first | rfl | cases h
theorem Wc(hK:KSound n C){rec:Scope->aA->Expr->R V}(hbad:∀ sc σ e,bad e=true->rec sc σ e=.no)(hlit:∀ sc σ x k p,rec sc σ (.Constant (.str x) k p)=.no\/rec sc σ (.Constant (.str x) k p)=ofP (mkS x))
  (ih:∀ sc σ e,aH n C.hd l sc σ e (rec sc σ e)/\bY n C.hd l sc σ e (rec sc σ e)) (sc:Scope) (σ:aA) (e:Expr) :
  aH n C.hd l sc σ e (fG rec C sc σ e)/\bY n C.hd l sc σ e (fG rec C sc σ e):=by
 have hE:∀ e,aH n C.hd l sc σ e (rec sc σ e):=λe=>(ih sc σ e).1;have hT:∀ e,bY n C.hd l sc σ e (rec sc σ e):=λe=>(ih sc σ e).2;have tv:∀ {e p},aH n C.hd l sc σ e p->(∀ env whole,PySem.isTrue e env whole=(do let v <- whole;standAt e.pos;holding [v] (truthy v)))->aH n C.hd l sc σ e p/\bY n C.hd l sc σ e p:=λh he=>⟨h,Ad h he⟩
 have tn:∀ {e},aH n C.hd l sc σ e .no/\bY n C.hd l sc σ e .no:=⟨λ_ _ _ _ _ _ _ _ _ _ _ hf=>hf.no.elim,λ_ _ _ _ _ _ _ _ _ _ _ hf=>(Fin.b hf).no.elim⟩
 cases e with
 |Constant c k p=>exact tv z6 λ_ _=>rfl
 |Name x p=>exact tv (Rq hK.const) λ_ _=>rfl
 |BoolOp op vs p =>
  cases op with
  |And=>exact⟨λA env s av hA I _ _ _ _ _ hf hq he=>R9 hA (λe _=>hE e) I hf hq he,λA env s av hA I _ _ _ _ _ hf hq he=>Sb hA (λe _=>hT e) I hf hq he⟩
  |Or=>exact⟨λA env s av hA I _ _ _ _ _ hf hq he=>Sa hA (λe _=>hE e) I hf hq he,λA env s av hA I _ _ _ _ _ hf hq he=>Sc hA (λe _=>hT e) I hf hq he⟩
 |BinOp l op r p=>exact tv (R5 (hE l) (hE r)) λ_ _=>rfl
 |UnaryOp op x p =>
  refine⟨sK (hE x),?_⟩;cases op with
  |Not=>exact R7 (hT x)
  |_=>exact Ad (sK (hE x)) λ_ _=>rfl
 |IfExp t b o p=>exact⟨R6 (hT t) (hE b) (hE o),R8 (hT t) (hT b) (hT o)⟩
 |Dict ks vs p=>exact tv (U3 (λk _=>hE k) λe _=>hE e) λ_ _=>rfl
 |List es p=>exact tv (Sg (hbad sc σ) λe _=>hE e) λ_ _=>rfl
 |Tuple es k p=>exact tv (Sh (hbad sc σ) λe _=>hE e) λ_ _=>rfl
 |ListComp elt gens sc' p =>
  cases gens with
  |nil=>exact tn
  |cons g gs =>
   cases gs with
   |nil=>exact tv (Wb (hbad sc σ) (hE _) (λ_ _ _ _ _ a _=>hE a) (λc _ σ'=>(ih sc' σ' c).2) λσ'=>(ih sc' σ' elt).1) λ_ _=>rfl
   |cons=>exact tn
 |Compare l ops es p=>exact⟨Sd (hbad sc σ) (hE l) λe _=>hE e,Se (hbad sc σ) (hE l) λe _=>hE e⟩
 |Subscript o i p=>exact tv (Sq (hE o) (hE i) λc _=>⟨λx _=>hE x,λx _=>hE x⟩) λ_ _=>rfl
 |Call f as kws p =>
  cases kws with
  |cons=>exact tn
  |nil =>
   show aH n C.hd l sc σ _ (match vw f with | .attr o m ap=>kS (rec sc σ) o m ap as p | .name f=>nR (rec sc σ) C sc σ f as | _=>.no)/\bY n C.hd l sc σ _ (match vw f with | .attr o m ap=>kS (rec sc σ) o m ap as p | .name f=>nR (rec sc σ) C sc σ f as | _=>.no);cases hv:vw f with
   |attr o m ap =>
    have ef:f=_:=cA hv;subst ef;exact tv (Us (hbad sc σ) (hlit sc σ) (hE o) λe _=>hE e) λ_ _=>rfl
   |name x =>
    obtain⟨q,rfl⟩:=cA hv;exact tv (Uz hK (hbad sc σ) (λe _=>hE e) λ_ _ _ _ _ _ _=>⟨λx _=>hE x,λo _ _ _=>hE o⟩) λ_ _=>rfl
   |_=>exact tn
 |_=>exact tn
theorem lF(hK:KSound n C):∀ (k:Nat) (sc:Scope) (σ:aA) (e:Expr),aH n C.hd l sc σ e (evE C k sc σ e)/\bY n C.hd l sc σ e (evE C k sc σ e):=by
 intro v0
 induction v0 with
 |zero =>
  intro _ _ _;exact⟨λ_ _ _ _ _ _ _ _ _ _ _ hf=>hf.no.elim,λ_ _ _ _ _ _ _ _ _ _ _ hf=>(Fin.b hf).no.elim⟩
 |succ k ih =>
  intro sc σ e;exact Wc hK (rec:=evE C k) (λsc σ e hb=>by cases k with | zero=>rfl | succ k=>exact B5 hb) (λsc σ x j p=>by cases k with | zero=>exact .inl rfl | succ k=>exact .inr rfl) (λsc σ e=>ih sc σ e) sc σ e
end
section
variable {kg:List Env}{kj:Addr->Prop}
theorem IsCell.uniq{c:Addr}{v v':Option Value}(x:h.IsCell c v)(y:h.IsCell c v'):v=v':=by
 obtain⟨o,e,d⟩:=x;obtain⟨o',e',d'⟩:=y;rw[e] at e';cases e';rw[d] at d';cases d';rfl
theorem a9.uniq{u':Value}(a:a9 env h x u)(b:a9 env h x u'):u=u':=by
 rcases a with ⟨k,m,hn,e⟩ | ⟨k,c,e,hc⟩
 ·rcases b with ⟨k',m',hn',e'⟩ | ⟨k',c',e',hc'⟩
  ·rw[hn.eq_nsMap] at e;rw[hn'.eq_nsMap] at e';rw[e] at e';exact Option.some.inj e'
  ·rw[k] at k';rcases k' with k' | k'<;>cases k'
 ·rcases b with ⟨k',m',hn',e'⟩ | ⟨k',c',e',hc'⟩
  ·rw[k'] at k;rcases k with k | k<;>cases k
  ·rw[e] at e';cases e';exact Option.some.inj (IsCell.uniq hc hc')
def Mn(env:Env)(b:Addr):Prop:=b=env.locals\/∃ y,env.cells.lookup y=some b
def cV(h:Heap)(u:Value)(v:V)(a:Addr):Prop:=match v with
 | .own _=>u=.ref a
 | .pil _=>u=.ref a\/∃ (r:Addr) (bs:List Addr),u=.ref r/\h.PlainList r (bs.map Value.ref).toArray/\a∈bs
 |_=>False
inductive OwnN(env:Env)(σ:aA)(h:Heap)(x:Str)(a:Addr):Prop where
 |mk (v:V) (u:Value) (g:aA.get σ x=some (some v)) (k:a9 env h x u) (o:cV h u v a):OwnN env σ h x a
theorem lG{as bs:List Addr}(h:as.map Value.ref=bs.map Value.ref):as=bs:=List.map_inj_right (λ_ _ e=>Value.ref.inj e) |>.mp h
theorem lH{x y:Array Value}(p:h.PlainList a x)(q:h.PlainList a y):x=y:=by
 obtain⟨n,e⟩:=p;obtain⟨m,e'⟩:=q;simp only[e] at e';injection si e' with _ _ hd
 injection hd
structure Act(kg:List Env)(env:Env)(sc:Scope)(kj:Addr->Prop)(ki:Shared)(σ:aA)(av:Addr->Prop)(s:Shared):Prop where
 inv:Inv0 (env::kg) env sc σ av s
 stay0:∀ b o,base.get? b=some o->ki.heap.get? b=some o
 frm:env.frame=some env.locals
 fr0:∀ b,frs kg b->kj b/\∃ o,ki.heap.get? b=some o
 k0:K kg ki s
 bas:∀ b,kj b->av b
 ns:∃ m,s.heap.Ns env.locals m
 cells:∀ x c,env.cells.lookup x=some c->c≠env.locals/\∃ v,s.heap.IsCell c v
 fresh:∀ b,Mn env b->av b/\ki.heap.get? b=none/\¬ kj b
 capart:∀ x y c,env.cells.lookup x=some c->env.cells.lookup y=some c->x=y
 names:∀ x v,aA.get σ x=some v->isL sc x=true/\(env.kindOf x=some .local\/(env.kindOf x=some .cell/\∃ c,env.cells.lookup x=some c))
 ownA:∀ x a,OwnN env σ s.heap x a->av a/\ki.heap.get? a=none/\¬ kj a/\¬ Mn env a
 ownI:∀ x y a,OwnN env σ s.heap x a->OwnN env σ s.heap y a->x=y
 loc:∀ x,sc.names.lookup x=some .local->env.kindOf x=some .local
theorem jM{b:Addr}(hf:env.frame=some env.locals):frs (env::kg) b↔b=env.locals\/frs kg b:=by
 unfold frs;rw[List.filterMap_cons,hf,List.mem_cons]
theorem Act.liveMn(X:Act kg env sc kj ki σ av s){b:Addr}(h:Mn env b):∃ o,s.heap.get? b=some o:=by
 rcases h with rfl | ⟨y,h⟩
 ·obtain⟨m,o,es,ep,e,_⟩:=X.ns;exact⟨o,e⟩
 ·obtain⟨_,v,o,e,_⟩:=X.cells y b h;exact⟨o,e⟩
theorem Act.newNot(X:Act kg env sc kj ki σ av s){b:Addr}(h:s.heap.get? b=none):¬ Mn env b/\¬ av b/\¬ kj b/\ki.heap.get? b=none/\¬ frs (env::kg) b :=
 have hav:¬ av b:=λx=>by obtain⟨o,e⟩:=X.inv.gnd.avlt b x;rw[h] at e;cases e
 ⟨λx=>(by obtain⟨o,e⟩:=X.liveMn x;rw[h] at e;cases e),hav,λx=>hav (X.bas b x),X.k0.non h,λx=>hav (X.inv.gnd.fav b x)⟩
theorem bS.mono'(hk:∀ b o,¬ av b->h.get? b=some o->h'.get? b=some o)(ha:∀ b o,h.get? b=some o->av' b->av b){v:V}
  (hs:∀ a,cV h u v a->∀ o,h.get? a=some o->h'.get? a=some o) (r:bS l h av u v):bS l h' av' u v:=by
 cases v with
 |fz d=>exact Rep.mono hk ha r
 |own d=>obtain⟨a,e,n,r⟩:=r;exact⟨a,e,n,r.mono hk ha (hs a e)⟩
 |ex x=>obtain⟨e,h,r⟩:=r;exact⟨e,h,r.mono hk ha⟩
 |pil ds =>
  obtain⟨a,bs,e,na,p,hl,z,nd,nab,nf,r⟩:=r;exact⟨a,bs,e,na,p.at (hs a (Or.inl e)),hl,z,nd,nab,nf,λi b d e1 e2=>(r i b d e1 e2).mono hk ha (hs b (Or.inr ⟨a,bs,e,p,cj e1⟩))⟩
theorem FunFrames.to{base:Heap}:∀ {l:List Env},h.FunFrames base l->(∀ b o,frs l b->h.get? b=some o->(∀ vs,o.data≠.fields vs)->∃ o',h'.get? b=some o'/\∀ vs,o'.data≠.fields vs)->h'.FunFrames base l
 := by
 intro l
 induction l with
 |nil=>exact λ_ _=>trivial
 |cons env r ih =>
  intro f k;refine hde λ_ θ=>?_;obtain⟨hk,⟨L,o,hf,hn,ho,hd⟩,hr⟩:=f;obtain⟨o',ho',hd'⟩:=k L o (by unfold frs;simp only[List.filterMap_cons,hf];exact ac) ho hd;apply θ;exact⟨hk,⟨L,o',hf,hn,ho',hd'⟩,ih hr λb o f=>k b o (by unfold frs;simp only[List.filterMap_cons,hf];exact af _ f)⟩
theorem a9.kept(v:a9 env h x u)(hk:∀ b o,Mn env b->h.get? b=some o->h'.get? b=some o):a9 env h' x u:=by
 rcases v with ⟨k,m,hn,e⟩ | ⟨k,c,e,o,e1,e2⟩
 ·exact .inl ⟨k,m,hn.at' λo e=>hk _ o (.inl rfl) e,e⟩
 ·exact .inr ⟨k,c,e,o,hk c o (.inr ⟨x,e⟩) e1,e2⟩
theorem Act.varBack(X:Act kg env sc kj ki σ av s){v:V}(hg:aA.get σ x=some (some v))(hk:∀ u,a9 env s.heap x u->a9 env h' x u)(hv:a9 env h' x u):a9 env s.heap x u:=by
 obtain⟨u',h1,_⟩:=X.inv.get x v (X.names x _ hg).1 hg;have:=a9.uniq (hk _ h1) hv;exact this▸h1
theorem cV.same{v:V}(x:cV h' u v a)(r:bS l h av u v)(hq:∀ a,cV h u v a->∀ o,h.get? a=some o->h'.get? a=some o):cV h u v a:=by
 cases v with
 |own d=>exact x
 |pil ds =>
  rcases x with ho | ⟨r',bs,e,p,m⟩
  ·exact Or.inl ho
  ·obtain⟨a0,bs0,e0,na,p0,_⟩:=r;obtain rfl:=Value.ref.inj (e0.symm.trans e);have:=lH p (p0.at (hq a0 (Or.inl e0)));obtain rfl:=lG (iz this);exact Or.inr ⟨_,_,e,p0,m⟩
 |_=>exact x
theorem Act.ownBack1(X:Act kg env sc kj ki σ av s){v:V}(hg:aA.get σ x=some (some v))(hk:∀ u,a9 env s.heap x u->a9 env h' x u)(hq:∀ a,OwnN env σ s.heap x a->∀ o,s.heap.get? a=some o->h'.get? a=some o)(hv:a9 env h' x u)(ho:cV h' u v a):OwnN env σ s.heap x a:=by
 have hu:=X.varBack hg hk hv;obtain⟨u',h1,r⟩:=X.inv.get x _ (X.names x _ hg).1 hg;obtain rfl:=a9.uniq h1 hu;exact⟨v,_,hg,hu,ho.same r λa ha=>hq a ⟨_,_,hg,hu,ha⟩⟩
theorem Act.ownBack(X:Act kg env sc kj ki σ av s)(hk:∀ u,a9 env s.heap x u->a9 env h' x u)(hq:∀ a,OwnN env σ s.heap x a->∀ o,s.heap.get? a=some o->h'.get? a=some o)(h:OwnN env σ h' x a):OwnN env σ s.heap x a:=by
 obtain⟨v,u,hg,hv,ho⟩:=h;exact X.ownBack1 hg hk hq hv ho
theorem K.drop(hf:env.frame=some env.locals)(h0:ki.heap.get? env.locals=none)(x:K kg ki s)(y:K (env::kg) s s'):K kg ki s':=by
 obtain⟨h,t,rfl,k,u,m⟩:=x;obtain⟨h',t',rfl,k',u',m'⟩:=y;refine⟨h',t',rfl,λb o n e=>k' b o (λf=>?_) (k b o n e),λb o e=>by obtain⟨_,e1⟩:=u b o e;exact by obtain⟨sl,e2⟩:=u' b _ e1;exact⟨sl,e2⟩,U m m'⟩;rcases(jM hf).mp f with f | f
 ·simp only[f,h0] at e;exact ns e
 ·exact n f
theorem Act.ownFr(X:Act kg env sc kj ki σ av s)(h:OwnN env σ s.heap x a):¬ frs (env::kg) a:=λf=>by
 obtain⟨_,_,h3,h4⟩:=X.ownA x a h;rcases(jM X.frm).mp f with f | f
 ·exact h4 (.inl f)
 ·exact h3 (X.fr0 a f).1
theorem Act.ownK(X:Act kg env sc kj ki σ av s)(k:K (env::kg) s s')(h:OwnN env σ s'.heap x a):OwnN env σ s.heap x a :=
 X.ownBack (λu h=>h.k k) (λa h o e=>k.at (X.ownFr h) e) h
theorem Act.k(X:Act kg env sc kj ki σ av s)(k:K (env::kg) s s'):Act kg env sc kj ki σ av s' :=
 { X with
  inv:=X.inv.k k
  k0:=X.k0.drop X.frm (X.fresh _ (.inl rfl)).2.1 k
  ns:=by obtain⟨m,hn⟩:=X.ns;exact⟨m,k.upTo.ns hn⟩
  cells:=λx c e=>by obtain⟨h1,v,o,h2,h3⟩:=X.cells x c e;exact by obtain⟨_,e'⟩:=k.up h2;exact⟨h1,v,_,e',h3⟩
  ownA:=λx a h=>X.ownA x a (X.ownK k h)
  ownI:=λx y a h1 h2=>X.ownI x y a (X.ownK k h1) (X.ownK k h2) }
theorem Gnd.grow(G:Gnd l av s)(hn:∀ a,S a->base.get? a=none)(hl:∀ a,S a->∃ o,s.heap.get? a=some o):Gnd l (λb=>av b\/S b) s :=
 { G with fav:=λb h=>.inl (G.fav b h),avlt:=λb h=>h.elim (G.avlt b) (hl b),avS:=.inl G.avS }
theorem Act.growS(X:Act kg env sc kj ki σ av s)(k:K (env::kg) s s')(hn:∀ a,S a->s.heap.get? a=none)(hl:∀ a,S a->∃ o,s'.heap.get? a=some o):
  Act kg env sc kj ki σ (λb=>av b\/S b) s':=by
 have Y:=X.k k;refine { Y with inv:={ Y.inv with gnd:=Y.inv.gnd.grow (λa ha=>ocs (base.get? a) (λh=>h) λo h=>by have:=X.inv.gnd.stay a o h;rw[hn a ha] at this;exact nomatch this) hl,get:=λx v hl' hg=>?_ },bas:=λb hb=>.inl (X.bas b hb),fresh:=λb h=>by obtain⟨h1,h2⟩:=X.fresh b h;exact⟨.inl h1,h2⟩,ownA:=λx a h=>by obtain⟨h1,h2⟩:=Y.ownA x a h;exact⟨.inl h1,h2⟩ };obtain⟨u,h1,h2⟩:=X.inv.get x v hl' hg;refine⟨u,h1.k k,?_⟩;have h3:bS (env::kg) s.heap (λb=>av b\/S b) u v:=h2.mono' (λ_ _ _ e=>e) (λb o e hb=>hb.elim id λhb=>by rw[hn b hb] at e;cases e) λ_ _ _ e=>e;exact h3.k (λb h=>.inl (X.inv.gnd.fav b h)) k
theorem aA.get_clear(xs:List Str)(x:Str):∀ σ:aA,aA.get (aA.cl σ xs) x=(aA.get σ x).map λv=>if xs.contains x then v.map V.cl else v
 | []=>rfl
 | (y,v)::r=>by
  show(if x=y then some (if xs.contains y then v.map V.cl else v) else aA.get (aA.cl r xs) x)=(if x=y then some v else aA.get r x).map _
  by_cases h:x=y
  ·subst h;rw[if_pos rfl,if_pos rfl];rfl
  ·rw[if_neg h,if_neg h];exact aA.get_clear xs x r
theorem B6{v:V}(h:aA.get (aA.cl σ xs) x=some (some v)):∃ v0,aA.get σ x=some (some v0)/\(v=v0/\(xs.contains x=true->hO v0=false)\/xs.contains x=true/\hO v0=true/\v=v0.cl):=by
 rw[aA.get_clear] at h;refine ocs (aA.get σ x) (λhg=>?_) λo hg=>?_
 ·rw[hg] at h;exact ns h
 ·try rewrite[hg]
  rw[hg] at h;have h:=Option.some.inj h;cases o with
  |none=>revert h;cases xs.contains x<;>exact λh=>by exact ns h
  |some v0 =>
   refine⟨v0,rfl,?_⟩
   revert h
   cases xs.contains x with
   |false=>exact λh=>.inl ⟨(Option.some.inj h).symm,λh=>by exact bft h⟩
   |true =>
    intro h;have h:v0.cl=v:=Option.some.inj h;cases v0 with
    |own d=>exact .inr ⟨rfl,rfl,h.symm⟩
    |pil d=>exact .inr ⟨rfl,rfl,h.symm⟩
    |_=>exact .inl ⟨h.symm,λ_=>rfl⟩
theorem cV.ow{v:V}(x:cV h u v a):hO v=true:=by
 cases v with
 |own d=>rfl
 |pil d=>rfl
 |_=>exact x.elim
theorem bS.clr{v:V}(ha:∀ b,av' b->av b)(hn:∀ a,cV h u v a->¬ av' a)(ho:hO v=true)(r:bS l h av u v):bS l h av' u v.cl:=by
 cases v with
 |own d=>obtain⟨a,rfl,_,r⟩:=r;exact bL.rep (hn a rfl) (r.mono (λ_ _ _ e=>e) (λb _ _ h=>ha b h) λ_ e=>e)
 |pil ds =>
  obtain⟨a,bs,rfl,na,p,hl,z,nd,nab,nf,r⟩:=r;refine Rep.list (vs:=bs.map Value.ref) (hn a (Or.inl rfl)) p (by rw[List.length_map];exact hl) (by rw[List.length_map];exact z) λi v d e1 e2=>?_;rw[List.getElem?_map] at e1;obtain⟨b,e0,rfl⟩:=bj.mp e1;exact bL.rep (hn b (Or.inr ⟨a,bs,rfl,p,cj e0⟩)) ((r i b d e0 e2).mono (λ_ _ _ e=>e) (λb _ _ h=>ha b h) λ_ e=>e)
 |_=>exact bft ho
theorem Act.cl(X:Act kg env sc kj ki σ av s)(xs:List Str):∃ av1,Act kg env sc kj ki (aA.cl σ xs) av1 s/\∀ b,av1 b->av b:=by
 let Z:Addr->Prop:=λb=>∃ x,xs.contains x=true/\OwnN env σ s.heap x b
 have back:∀ x a,OwnN env (aA.cl σ xs) s.heap x a->xs.contains x=false/\OwnN env σ s.heap x a:=λx a h=>by
  obtain⟨v,u,h,hv,ho⟩:=h;obtain⟨v0,hg,⟨rfl,hc⟩ | ⟨_,_,rfl⟩⟩:=B6 h
  ·exact⟨Bool.not_eq_true _▸λh=>btf (ho.ow.symm.trans (hc h)),v,u,hg,hv,ho⟩
  ·exact btf (ho.ow.symm.trans zY)
 have nZ:∀ b,(ki.heap.get? b≠none\/kj b\/Mn env b)->¬ Z b:=by
  rintro b hb ⟨x,_,h⟩
  obtain⟨_,h2,h3,h4⟩:=X.ownA x b h;rcases hb with hb | hb | hb
  ·exact hb h2
  ·exact h3 hb
  ·exact h4 hb
 have hmods:ki.heap.get? sysModules≠none:=λe=>by
  obtain⟨mm,o,es,ep,h,_⟩:=X.inv.gnd.glo.mods;rw[X.stay0 _ _ h] at e;exact sn e
 refine⟨λb=>av b/\¬ Z b,{ X with inv:=?_,bas:=λb hb=>⟨X.bas b hb,nZ b (.inr (.inl hb))⟩,fresh:=λb h=>by obtain⟨h1,h2⟩:=X.fresh b h;exact⟨⟨h1,nZ b (.inr (.inr h))⟩,h2⟩,names:=λx v h=>?_,ownA:=λx a h=>?_,ownI:=λx y a h1 h2=>X.ownI x y a (back x a h1).2 (back y a h2).2 },λb h=>h.1⟩
 ·refine { X.inv with gnd:={ X.inv.gnd with fav:=λb h=>?_,avlt:=λb hb=>X.inv.gnd.avlt b hb.1,avS:=⟨X.inv.gnd.avS,nZ _ (.inl hmods)⟩ },get:=λx v hl hg=>?_ }
  ·refine⟨X.inv.gnd.fav b h,nZ b ?_⟩;rcases(jM X.frm).mp h with h | h
   ·exact .inr (.inr (.inl h))
   ·exact .inr (.inl (X.fr0 b h).1)
  ·obtain⟨v0,hg0,⟨rfl,hc⟩ | ⟨hc,ho,rfl⟩⟩:=B6 hg
   ·obtain⟨u,h1,h2⟩:=X.inv.get x v hl hg0;exact⟨u,h1,h2.mono' (λ_ _ n e=>e) (λ_ _ _ h=>h.1) λ_ _ _ e=>e⟩
   ·obtain⟨u,h1,r⟩:=X.inv.get x _ hl hg0;exact⟨u,h1,r.clr (λ_ h=>h.1) (λa ha h=>h.2 ⟨x,hc,_,_,hg0,h1,ha⟩) ho⟩
 ·rw[aA.get_clear] at h;obtain⟨v0,hg,_⟩:=bj.mp h;exact X.names x v0 hg
 ·obtain⟨hc,h⟩:=back x a h;obtain⟨h1,h2⟩:=X.ownA x a h;exact⟨⟨h1,λhh=>by obtain⟨y,hcy,hy⟩:=hh;exact by rw[X.ownI x y a h hy,hcy] at hc;exact btf hc⟩,h2⟩
theorem Act.weaken(X:Act kg env sc li ki σ av s)(h:∀ b,kj b->li b)(hf:∀ b,frs kg b->kj b):Act kg env sc kj ki σ av s :=
 { X with fr0:=λb hb=>⟨hf b hb,(X.fr0 b hb).2⟩,bas:=λb hb=>X.bas b (h b hb),fresh:=λb hb=>by obtain⟨h1,h2,h3⟩:=X.fresh b hb;exact⟨h1,h2,λx=>h3 (h b x)⟩,ownA:=λx a hb=>by obtain⟨h1,h2,h3,h4⟩:=X.ownA x a hb;exact⟨h1,h2,λx=>h3 (h a x),h4⟩ }
theorem Act.pin(X:Act kg env sc kj ki σ av s)(k:K (env::kg) s s')(hn:∀ a,S a->s.heap.get? a=none)(hl:∀ a,S a->∃ o,s'.heap.get? a=some o):
  Act kg env sc (λb=>kj b\/S b) ki σ (λb=>av b\/S b) s':=by
 have Y:=X.growS k hn hl;refine { Y with fr0:=λb h=>by obtain⟨h1,h2⟩:=X.fr0 b h;exact⟨.inl h1,h2⟩,bas:=λb hb=>hb.imp (X.bas b) id,fresh:=λb h=>by obtain⟨h1,h2,h3⟩:=Y.fresh b h;exact⟨h1,h2,λx=>x.elim h3 λx=>(X.newNot (hn b x)).1 h⟩,ownA:=λx a h=>?_ };obtain⟨h1,h2,h3,h4⟩:=X.ownA x a (X.ownK k h);exact⟨.inl h1,h2,λx=>x.elim h3 λx=>(X.newNot (hn a x)).2.1 h1,h4⟩
theorem Act.gndS{tk:Nat}(X:Act kg env sc kj ki σ av s)(mt:s.toks<=tk)(h0:∀ b,S b->ki.heap.get? b=none)(hs:∀ b o,¬ S b->s.heap.get? b=some o->h'.get? b=some o)
  (hL:∃ m,h'.Ns env.locals m)
  (h1:∀ b,av' b->av b) (h2:∀ b,av b->¬ S b->av' b) (h3:∀ b,av' b->S b->∃ o,h'.get? b=some o) (h4:∀ b,frs (env::kg) b->av' b):Gnd (env::kg) av' { s with heap:=h',toks:=tk }/\K kg ki { s with heap:=h',toks:=tk }:=by
 have hbase:∀ b o,base.get? b=some o->¬ S b:=λb o e h=>by have:=X.stay0 b o e;rw[h0 b h] at this;cases this
 refine⟨{ X.inv.gnd with stay:=λb o e=>hs b o (hbase b o e) (X.inv.gnd.stay b o e),ff:=?_,fav:=h4,avlt:=λb hb=>?_,avS:=h2 _ X.inv.gnd.avS ?_,pos:=bw X.inv.gnd.pos mt },?_⟩
 ·refine FunFrames.to X.inv.gnd.ff λb o f e hd=>?_;rcases(jM X.frm).mp f with f | f
  ·obtain⟨m,o',es,ep,e',d',_⟩:=hL;exact⟨o',f▸e',λvs q=>by rw[d'] at q;cases q⟩
  ·exact⟨o,hs b o (λx=>by obtain⟨_,o',e'⟩:=X.fr0 b f;rw[h0 b x] at e';cases e') e,hd⟩
 ·by_cases hb':S b
  ·exact h3 b hb hb'
  ·obtain⟨o,e⟩:=X.inv.gnd.avlt b (h1 b hb);exact⟨o,hs b o hb' e⟩
 ·obtain⟨mm,o,es,ep,e,_⟩:=X.inv.gnd.glo.mods;exact hbase _ _ e
 ·have mt':=U X.k0.tk mt;obtain⟨h,t,rfl,k,u⟩:=X.k0;exact⟨h',tk,rfl,λb o n e=>hs b o (λx=>by rw[h0 b x] at e;cases e) (k b o n e),λb o e=>by obtain⟨sl,e1⟩:=u b o e;exact⟨sl,hs b _ (λx=>by rw[h0 b x] at e;cases e) e1⟩,mt'⟩
end
section
variable {kg:List Env}{kj:Addr->Prop}
theorem Act.upd{tk:Nat}(X:Act kg env sc kj ki σ av s)(mt:s.toks<=tk)(h0:∀ b,S b->ki.heap.get? b=none)(hs:∀ b o,¬ S b->s.heap.get? b=some o->h'.get? b=some o)
  (hL:∃ m,h'.Ns env.locals m) (hC:∀ x c,env.cells.lookup x=some c->∃ v,h'.IsCell c v) (h1:∀ b,av' b->av b) (h2:∀ b,av b->¬ S b->av' b) (h3:∀ b,av' b->S b->∃ o,h'.get? b=some o) (h4:∀ b,kj b->av' b) (hM:∀ b,Mn env b->av' b)
  (hN:∀ x v,aA.get σ' x=some v->∃ v0,aA.get σ x=some v0) (hG:∀ x v,isL sc x=true->aA.get σ' x=some (some v)->∃ u,a9 env h' x u/\bS (env::kg) h' av' u v)
  (hA:∀ x a,OwnN env σ' h' x a->av' a/\ki.heap.get? a=none/\¬ kj a/\¬ Mn env a) (hI:∀ x y a,OwnN env σ' h' x a->OwnN env σ' h' y a->x=y):Act kg env sc kj ki σ' av' { s with heap:=h',toks:=tk }:=by
 have g:=X.gndS (tk:=tk) mt h0 hs hL h1 h2 h3 λb f=>((jM X.frm).mp f).elim (λf=>hM b (.inl f)) λf=>h4 b (X.fr0 b f).1;exact { X with inv:={ X.inv with gnd:=g.1,get:=hG },k0:=g.2,bas:=h4,ns:=hL,cells:=λx c e=>⟨(X.cells x c e).1,hC x c e⟩,fresh:=λb h=>⟨hM b h,(X.fresh b h).2⟩,names:=λx v h=>by obtain⟨v0,e⟩:=hN x v h;exact X.names x v0 e,ownA:=hA,ownI:=hI }
theorem Act.wildS{tk:Nat}(X:Act kg env sc kj ki σ av s)(mt:s.toks<=tk)(hS:∀ b,S b->av b)(h0:∀ b,S b->ki.heap.get? b=none)(hM:∀ b,Mn env b->¬ S b)
  (ho:∀ x a,OwnN env σ s.heap x a->¬ S a) (hs:∀ b o,¬ S b->s.heap.get? b=some o->h'.get? b=some o)
  (h1:∀ b,av' b->av b) (h2:∀ b,av b->¬ S b->av' b) (h3:∀ b,av' b->S b->∃ o,h'.get? b=some o) (h4:∀ b,kj b->av' b):Act kg env sc kj ki σ av' { s with heap:=h',toks:=tk }:=by
 have hvar:∀ y u,a9 env s.heap y u->a9 env h' y u:=λy u h=>h.kept λb o m e=>hs b o (hM b m) e;have kp:∀ y a,OwnN env σ s.heap y a->∀ o,s.heap.get? a=some o->h'.get? a=some o:=λy a h o e=>hs a o (ho y a h) e;refine X.upd mt h0 hs (by obtain⟨m,hn⟩:=X.ns;exact⟨m,hn.at' λo e=>hs _ o (hM _ (.inl rfl)) e⟩) (λy c e=>by obtain⟨_,v,o,e1,e2⟩:=X.cells y c e;exact⟨v,o,hs c o (hM c (.inr ⟨y,e⟩)) e1,e2⟩) h1 h2 h3 h4 (λb h=>h2 b (X.fresh b h).1 (hM b h)) (λx v h=>⟨v,h⟩) (λx v hl hg=>?_)
  (λx a h=>?_) λx y a hx hy=>X.ownI x y a (X.ownBack (hvar x) (kp x) hx) (X.ownBack (hvar y) (kp y) hy)
 ·obtain⟨u,g1,g2⟩:=X.inv.get x v hl hg;refine⟨u,hvar _ _ g1,g2.mono' (λb o n e=>hs b o (λh=>n (hS b h)) e) (λb _ _ h=>h1 b h) λa ha o e=>hs a o (ho x a ⟨_,_,hg,g1,ha⟩) e⟩
 ·have h:=X.ownBack (hvar x) (kp x) h;obtain⟨q1,q2⟩:=X.ownA x a h;exact⟨h2 a q1 (ho x a h),q2⟩
theorem aA.get_set(x:Str)(u:V)(y:Str):∀ σ:aA,aA.get (aA.set σ x u) y=if y=x then (aA.get σ x).map (λ_=>some u) else aA.get σ y
 | []=>by
  show none=if y=x then none else none
  split<;>rfl
 | (z,v)::r=>by
  have ih:=aA.get_set x u y r
  by_cases hxz:x=z
  ·subst hxz;have e:aA.set ((x,v)::r) x u=(x,some u)::r:=if_pos rfl;rw[e]
   by_cases hy:y=x
   ·subst hy;rw[aA.get_cons_eq,if_pos rfl,aA.get_cons_eq];rfl
   ·rw[aA.get_cons_ne hy,if_neg hy,aA.get_cons_ne hy]
  ·have e:aA.set ((z,v)::r) x u=(z,v)::aA.set r x u:=if_neg hxz;rw[e,aA.get_cons_ne hxz]
   by_cases hy:y=z
   ·subst hy;rw[aA.get_cons_eq,if_neg (λh=>hxz h.symm),aA.get_cons_eq]
   ·rw[aA.get_cons_ne hy,ih,aA.get_cons_ne hy]
theorem jN{u:V}{o:Option V}(hy:y≠x)(h:aA.get (aA.set σ x u) y=some o):aA.get σ y=some o:=by
 rw[aA.get_set,if_neg hy] at h;exact h
theorem lI{u w:V}(h:aA.get (aA.set σ x u) x=some (some w)):w=u:=by
 rw[aA.get_set,if_pos rfl] at h;refine ocs (aA.get σ x) (λhg=>?_) λo hg=>?_
 ·rw[hg] at h;exact ns h
 ·rw[hg] at h;cases h;rfl
theorem B7{u:V}{o:Option V}(h:aA.get (aA.set σ x u) y=some o):∃ v0,aA.get σ y=some v0:=by
 by_cases hy:y=x
 ·subst hy;rw[aA.get_set,if_pos rfl] at h;refine ocs (aA.get σ y) (λhg=>?_) λo hg=>?_
  ·rw[hg] at h;exact ns h
  ·try rewrite[hg]
   exact⟨o,rfl⟩
 ·exact⟨o,jN hy h⟩
theorem Act.put1{v:V}{p:Addr}{tk:Nat}(X:Act kg env sc kj ki σ av s)(mt:s.toks<=tk)(hv:bS (env::kg) s.heap av u v)
  (ho:∀ a,cV s.heap u v a->av a/\ki.heap.get? a=none/\¬ kj a/\¬ Mn env a/\∀ y,y≠x->¬ OwnN env σ s.heap y a) (hp:Mn env p) (hs:Heap.SameBut p s.heap h') (hns:∃ m,h'.Ns env.locals m) (hcells:∀ y c,env.cells.lookup y=some c->∃ v,h'.IsCell c v)
  (hvx:a9 env h' x u) (hvy:∀ y w',y≠x->a9 env s.heap y w'->a9 env h' y w'):Act kg env sc kj ki (aA.set σ x v) av { s with heap:=h',toks:=tk }:=by
 have kept:∀ b o,¬ b=p->s.heap.get? b=some o->h'.get? b=some o:=λb o hb e=>by simp only[hs.2 b hb];exact e
 obtain⟨p1,p2,p3⟩:=X.fresh p hp;have kpx:∀ a,cV s.heap u v a->∀ o,s.heap.get? a=some o->h'.get? a=some o:=λa ha o e=>kept a o (λh=>(ho a ha).2.2.2.1 (h▸hp)) e;have kpy:∀ y a,OwnN env σ s.heap y a->∀ o,s.heap.get? a=some o->h'.get? a=some o:=λy a h o e=>kept a o (λh'=>(X.ownA y a h).2.2.2 (h'▸hp)) e;have back:∀ y a,OwnN env (aA.set σ x v) h' y a->(y=x/\cV s.heap u v a)\/(y≠x/\OwnN env σ s.heap y a):=λy a h=>by
  obtain⟨v',u',hg,hv',hh⟩:=h
  by_cases hy:y=x
  ·subst hy;obtain rfl:=lI hg;obtain rfl:=a9.uniq hvx hv';exact .inl ⟨rfl,hh.same hv kpx⟩
  ·have hg:=jN hy hg;exact .inr ⟨hy,X.ownBack1 hg (λu=>hvy y u hy) (kpy y) hv' hh⟩
 refine X.upd (S:=λb=>b=p) mt (λb h=>h▸p2) kept hns hcells (λ_ h=>h) (λ_ h _=>h) (λb _ h=>?_) X.bas (λb h=>(X.fresh b h).1) (λ_ _ h=>B7 h) (λy w' hl h=>?_) (λy a h=>?_) λy z a h1 h2=>?_
 ·subst h;rcases hp with rfl | ⟨y,h⟩
  ·obtain⟨m,o,es,ep,e,_⟩:=hns;exact⟨o,e⟩
  ·obtain⟨v,o,e,_⟩:=hcells y b h;exact⟨o,e⟩
 ·have hk:∀ b o,¬ av b->s.heap.get? b=some o->h'.get? b=some o:=λb o n e=>kept b o (λh=>n (h▸p1)) e
  by_cases hy:y=x
  ·subst hy;cases lI h;exact⟨u,hvx,hv.mono' hk (λ_ _ _ h=>h) kpx⟩
  ·have h:=jN hy h;obtain⟨u',h1,h2⟩:=X.inv.get y w' hl h;exact⟨u',hvy y u' hy h1,h2.mono' hk (λ_ _ _ h=>h) λa ha=>kpy y a ⟨_,_,h,h1,ha⟩⟩
 ·rcases back y a h with ⟨_,h⟩ | ⟨_,h⟩
  ·obtain⟨q1,q2,q3,q4,_⟩:=ho a h;exact⟨q1,q2,q3,q4⟩
  ·exact X.ownA y a h
 ·rcases back y a h1 with ⟨ey,h1⟩ | ⟨ny,h1⟩
  ·rcases back z a h2 with ⟨ez,_⟩ | ⟨nz,h2⟩
   ·simp only[ey,ez]
   ·exact absurd h2 ((ho a h1).2.2.2.2 z nz)
  ·rcases back z a h2 with ⟨ez,h2⟩ | ⟨nz,h2⟩
   ·exact absurd h1 ((ho a h2).2.2.2.2 y ny)
   ·exact X.ownI y z a h1 h2
theorem Act.put{v:V}{Q:Unit->Shared->Prop}(X:Act kg env sc kj ki σ av s)(hx:aA.get σ x=some v0)(hv:bS (env::kg) s.heap av u v)
  (ho:∀ a,cV s.heap u v a->av a/\ki.heap.get? a=none/\¬ kj a/\¬ Mn env a/\∀ y,y≠x->¬ OwnN env σ s.heap y a)
  (hq:∀ s',Act kg env sc kj ki (aA.set σ x v) av s'->(∀ b o,¬ Mn env b->s.heap.get? b=some o->s'.heap.get? b=some o)->a9 env s'.heap x u->(∀ y w',y≠x->a9 env s.heap y w'->a9 env s'.heap y w')->Q () s'):wpAny (model O w) A (storeName env x u) Q E s:=by
 obtain⟨hlx,hkx⟩:=X.names x v0 hx;have hp:(env.scope.kind==.class||(env.scope.kind==.module&&env.locals != env.globals))=false:=by rw[X.inv.kind];rfl
 have fin:∀ (p:Addr) (h':Heap) (tk:Nat),Mn env p->Heap.SameBut p s.heap h'->(∃ m,h'.Ns env.locals m)->(∀ y c,env.cells.lookup y=some c->∃ v,h'.IsCell c v) ->
   a9 env h' x u->(∀ y w',y≠x->a9 env s.heap y w'->a9 env h' y w')->s.toks<=tk->Q () { s with heap:=h',toks:=tk }:=λp h' tk m hs hns hc hvx hvy mt =>
  hq _ (X.put1 mt hv ho m hs hns hc hvx hvy) (λb o n e=>by rw[hs.2 b λh=>n (h▸m)];exact e) hvx hvy
 obtain⟨m,hn⟩:=X.ns;rcases hkx with hk | ⟨hk,c,hc⟩
 ·refine dA (jv hk hn (λh' hn' hs'=>?_) hp);refine fin env.locals h' _ (.inl rfl) hs' ⟨_,hn'⟩ (λy c e=>?_) (.inl ⟨hk,_,hn',by simp⟩) λy w' hy hv'=>?_
  ·obtain⟨q3,v,o,e1,e2⟩:=X.cells y c e;exact⟨v,o,by rw[hs'.2 c q3];exact e1,e2⟩
  ·rcases hv' with ⟨k',m',hn2,e⟩ | ⟨k',c',e,o,e1,e2⟩
   ·have:m'=m:=hn2.eq_nsMap.trans hn.eq_nsMap.symm;subst this;exact .inl ⟨k',_,hn',by simp[hy,e]⟩
   ·exact .inr ⟨k',c',e,o,by rw[hs'.2 c' (X.cells y c' e).1];exact e1,e2⟩
 ·obtain⟨q3,v1,q4⟩:=X.cells x c hc;refine dA (wpAny_storeName_cell X.inv.kind hk hc q4 λh' hc' hs'=>?_);have hn':h'.Ns env.locals m:=hn.at' λo e=>by rw[hs'.2 _ (λh=>q3 h.symm)];exact e
  refine fin c h' _ (.inr ⟨x,hc⟩) hs' ⟨m,hn'⟩ (λy c' e=>?_) (.inr ⟨.inl hk,c,hc,hc'⟩) λy w' hy hv'=>?_
  ·by_cases hcc:c'=c
   ·subst hcc;exact⟨_,hc'⟩
   ·obtain⟨_,v,o,e1,e2⟩:=X.cells y c' e;exact⟨v,o,by rw[hs'.2 c' hcc];exact e1,e2⟩
  ·rcases hv' with ⟨k',m',hn2,e⟩ | ⟨k',c',e,o,e1,e2⟩
   ·have:m'=m:=hn2.eq_nsMap.trans hn.eq_nsMap.symm;subst this;exact .inl ⟨k',_,hn',e⟩
   ·have hcc:c'≠c:=λh=>hy (X.capart y x c (h▸e) hc);exact .inr ⟨k',c',e,o,by rw[hs'.2 c' hcc];exact e1,e2⟩
theorem bL.live(r:bL h av a d):∃ o,h.get? a=some o:=by
 cases d with
 |list ds=>obtain⟨vs,⟨n,e⟩,_⟩:=r;exact⟨_,e⟩
 |dict ds=>obtain⟨kvs,⟨o,es,ep,e,_⟩,_⟩:=r;exact⟨_,e⟩
 |_=>exact r.elim
theorem Act.mutG{v v':V}{tk:Nat}(X:Act kg env sc kj ki σ av s)(mt:s.toks<=tk)(hx:aA.get σ x=some (some v))(hv:a9 env s.heap x u)
  (hS:∀ a,S a->cV s.heap u v a) (hs:∀ b o,¬ S b->s.heap.get? b=some o->h'.get? b=some o) (hlv:∀ a,S a->∃ o,h'.get? a=some o) (hH:∀ a,cV h' u v' a->cV s.heap u v a\/(av a/\ki.heap.get? a=none/\¬ kj a/\¬ Mn env a/\∀ y,¬ OwnN env σ s.heap y a)) (hb:bS (env::kg) h' av u v'):Act kg env sc kj ki (aA.set σ x v') av { s with heap:=h',toks:=tk }:=by
 have hox:∀ a,S a->OwnN env σ s.heap x a:=λa h=>⟨_,_,hx,hv,hS a h⟩
 have nM:∀ b,Mn env b->¬ S b:=λb m h=>(X.ownA x b (hox b h)).2.2.2 m;have hvar:∀ y u,a9 env s.heap y u->a9 env h' y u:=λy u h=>h.kept λb o m e=>hs b o (nM b m) e;have kpy:∀ y,y≠x->∀ a,OwnN env σ s.heap y a->∀ o,s.heap.get? a=some o->h'.get? a=some o:=λy hy a h o e=>hs a o (λha=>hy (X.ownI y x a h (hox a ha))) e;have back:∀ y b,OwnN env (aA.set σ x v') h' y b->OwnN env σ s.heap y b\/(y=x/\(av b/\ki.heap.get? b=none/\¬ kj b/\¬ Mn env b/\∀ y,¬ OwnN env σ s.heap y b)):=λy b h=>by
  obtain⟨v2,u2,hg,h,hh⟩:=h
  by_cases hy:y=x
  ·subst hy;obtain rfl:=lI hg;obtain rfl:=a9.uniq (hvar _ _ hv) h;exact(hH b hh).imp (λhh=>⟨_,_,hx,hv,hh⟩) λhh=>⟨rfl,hh⟩
  ·exact .inl (X.ownBack1 (jN hy hg) (hvar y) (kpy y hy) h hh)
 refine X.upd (S:=S) mt (λb h=>(X.ownA x b (hox b h)).2.1) hs (by obtain⟨m,hn⟩:=X.ns;exact⟨m,hn.at' λo e=>hs _ o (nM _ (.inl rfl)) e⟩) (λy c e=>by obtain⟨_,v,o,e1,e2⟩:=X.cells y c e;exact⟨v,o,hs c o (nM c (.inr ⟨y,e⟩)) e1,e2⟩) (λ_ h=>h) (λ_ h _=>h) (λb _ h=>hlv b h) X.bas
  (λb h=>(X.fresh b h).1) (λ_ _ h=>B7 h) (λy w' hl h=>?_) (λy b h=>(back y b h).elim (λh=>X.ownA y b h) λh=>⟨h.2.1,h.2.2.1,h.2.2.2.1,h.2.2.2.2.1⟩) λy z b h1 h2=>?I
 case I =>
  rcases back y b h1 with h1 | ⟨e1,h1⟩
  ·rcases back z b h2 with h2 | ⟨_,h2⟩
   ·exact X.ownI y z b h1 h2
   ·exact absurd h1 (h2.2.2.2.2 y)
  ·rcases back z b h2 with h2 | ⟨e2,_⟩
   ·exact absurd h2 (h1.2.2.2.2 z)
   ·exact e1.trans e2.symm
 by_cases hy:y=x
 ·subst hy;cases lI h;exact⟨u,hvar _ _ hv,hb⟩
 ·have h:=jN hy h;obtain⟨u',h1,h2⟩:=X.inv.get y w' hl h;exact⟨u',hvar _ _ h1,h2.mono' (λb o n e=>hs b o (λh=>n (X.ownA x b (hox b h)).1) e) (λ_ _ _ h=>h) λb hb o e=>kpy y hy b ⟨_,_,h,h1,hb⟩ o e⟩
theorem Act.mut{d':PyData}{tk:Nat}(X:Act kg env sc kj ki σ av s)(mt:s.toks<=tk)(hx:aA.get σ x=some (some (.own d)))(hv:a9 env s.heap x (.ref a))
  (hs:Heap.SameBut a s.heap h') (hb:bL h' av a d'):Act kg env sc kj ki (aA.set σ x (.own d')) av { s with heap:=h',toks:=tk }:=by
 refine X.mutG (S:=λb=>b=a) mt hx hv (λb h=>h▸rfl) (λb o hb e=>(hs.2 b hb).trans e) (λb h=>h▸hb.live) (λb h=>.inl h) ⟨a,rfl,?_,hb⟩;exact X.ownFr ⟨_,_,hx,hv,rfl⟩
end
section
variable {kg:List Env}{kj:Addr->Prop}
structure Fr(l:List Env)(kj:Addr->Prop)(s:Shared)(av:Addr->Prop)(s':Shared)(av':Addr->Prop):Prop where
 keep:∀ b o,s.heap.get? b=some o->¬ av b->s'.heap.get? b=some o
 grow:∀ b o,s.heap.get? b=some o->av' b->av b
 pins:∀ b o,kj b->¬ frs l b->s.heap.get? b=some o->s'.heap.get? b=some o
theorem Fr.tr{av'':Addr->Prop}(x:Fr l kj s av s' av')(y:Fr l kj s' av' s'' av''):Fr l kj s av s'' av'' where
 keep:=λb o e hb=>y.keep b o (x.keep b o e hb) λh=>hb (x.grow b o e h)
 grow:=λb o e h=>Classical.byContradiction λhb=>hb (x.grow b o e (y.grow b o (x.keep b o e hb) h))
 pins:=λb o hb n e=>y.pins b o hb n (x.pins b o hb n e)
theorem Fr.rf(l:List Env)(s:Shared)(av:Addr->Prop):Fr l kj s av s av:=⟨λ_ _ e _=>e,λ_ _ _ h=>h,λ_ _ _ _ e=>e⟩
theorem Fr.sub{av1:Addr->Prop}(h:∀ b,av1 b->av b):Fr l kj s av s av1:=⟨λ_ _ e _=>e,λb _ _ x=>h b x,λ_ _ _ _ e=>e⟩
theorem Fr.weaken(h:∀ b,kj b->li b)(x:Fr l li s av s' av'):Fr l kj s av s' av':=⟨x.keep,x.grow,λb o hb n e=>x.pins b o (h b hb) n e⟩
theorem Fr.ofK(fav:∀ b,frs l b->av b)(k:K l s s'):Fr l kj s av s' av:=⟨λb o e n=>k.at (λf=>n (fav b f)) e,λ_ _ _ h=>h,λb o _ n e=>k.at n e⟩
theorem Act.frk(X:Act kg env sc kj ki σ av s)(k:K (env::kg) s s'):Fr (env::kg) kj s av s' av:=Fr.ofK X.inv.gnd.fav k
theorem Act.frPut(X:Act kg env sc kj ki σ av s)(f:∀ b o,¬ Mn env b->s.heap.get? b=some o->s'.heap.get? b=some o):Fr (env::kg) kj s av s' av :=
 ⟨λb o e n=>f b o (λm=>n (X.fresh b m).1) e,λ_ _ _ h=>h,λb o hb _ e=>f b o (λm=>(X.fresh b m).2.2 hb) e⟩
theorem Act.frMut(X:Act kg env sc kj ki σ av s)(hx:aA.get σ x=some (some (.own d)))(hv:a9 env s.heap x (.ref a))(hs:Heap.SameBut a s.heap s'.heap):Fr (env::kg) kj s av s' av :=
 have hk:∀ b o,b≠a->s.heap.get? b=some o->s'.heap.get? b=some o:=λb o hb e=>by simp only[hs.2 b hb];exact e
 have q:=X.ownA x a ⟨_,_,hx,hv,rfl⟩
 ⟨λb o e hb=>hk b o (λh=>hb (h▸q.1)) e,λ_ _ _ h=>h,λb o hb _ e=>hk b o (λh=>q.2.2.1 (h▸hb)) e⟩
def Mk(h:Heap)(e:Addr):Prop:=∃ oe vs,h.get? e=some oe/\oe.data=.fields vs/\vs[1]?=some .none
inductive Upx(kg:List Env)(env:Env)(ki:Shared)(kj:Addr->Prop)(x:X)(v:Value)(s':Shared):Prop where
 |mk (k:K kg ki s') (ff:s'.heap.FunFrames base (env::kg)) (st:∀ b o,base.get? b=some o->s'.heap.get? b=some o) (e:Addr) (a:v=.ref e) (n:ki.heap.get? e=none) (xa:ExAt s'.heap (λb=>kj b\/frs (env::kg) b) e x) (t:(∃ fl,Tb ki s'.heap e fl)\/Mk s'.heap e):Upx kg env ki kj x v s'
theorem Upx.weaken{x:X}(h:∀ b,kj b->li b)(u:Upx kg env ki li x v s'):Upx kg env ki kj x v s' :=
 by obtain⟨h1,h2,h3,e,h4,h5,h6,h7⟩:=u;exact⟨h1,h2,h3,e,h4,h5,h6.mono (λ_ _ _ e=>e) λb _ _ x=>x.imp (h b) id,h7⟩
theorem Act.up(X:Act kg env sc kj ki σ av s){x:Internal.X}(f:Fly (env::kg) s av x v s'):Upx kg env ki kj x v s':=by
 obtain⟨k,e,h1,h2,h3,fl,oe,vs,T,oT,ts,g1,g2,g3,g4,g5,g6,g7,g8⟩:=f;have Y:=X.k k;exact⟨Y.k0,Y.inv.gnd.ff,Y.inv.gnd.stay,e,h1,X.k0.non h2,h3.mono (λ_ _ _ e=>e) λb _ _ x=>x.elim (X.bas b) (X.inv.gnd.fav b),.inl ⟨fl,oe,vs,T,oT,ts,g1,g2,g3,X.k0.non g4,g5,g6,g7,g8⟩⟩
def aU(n:Nat)(hd:Bool)(kg:List Env)(env:Env)(sc:Scope)(ki:Shared)(σ:aA)(t:Sem Flow)(r:KN->KR->R V):Prop :=
 ∀ (kj:Addr->Prop) (A:Around) (s:Shared) (av:Addr->Prop),Room n hd (env::kg) A->Act kg env sc kj ki σ av s ->
  ∀ {kn:KN} {kr:KR} {fin:R V} {Q:Flow->Shared->Prop} {E:Value->Shared->Prop},r kn kr=fin->fin≠.no->PassesOwn (model O w) A env E ->
  (∀ s' σ' av',Act kg env sc kj ki σ' av' s'->Fr (env::kg) kj s av s' av'->kn σ'=fin->Q .next s') ->
  (∀ v s' u,K kg ki s'->bD ki s'.heap kj v u->kr u=fin->Q (.ret v) s') ->
  (∀ x v s',fin=.exc x->Upx kg env ki kj x v s'->E v s')->wpAny (model O w) A t Q E s
theorem aU.no{t:Sem Flow}:aU n hd kg env sc ki σ t λ_ _=>.no:=λ_ _ _ _ _ _ _ _ _ _ _ hf hne _=>absurd hf.symm hne
theorem jO{rec:Stmt->aA->KN->KR->R V}:∀ {b:List Stmt} {σ:aA},(∀ st∈b,∀ σ,aU n hd kg env sc ki σ (exec st env) (rec st σ))->aU n hd kg env sc ki σ (execs b env) (blk rec b σ)
 | [],σ,_=>λkj A s av hA X _ _ _ _ _ hf hne hp hn hr he=>wpAny_execs_nil (hn s σ av X (Fr.rf _ s av) hf)
 |st::r,σ,h=>λkj A s av hA X kn kr fin Q E hf hne hp hn hr he=>by
  refine wpAny_execs_cons (h st ac σ kj A s av hA X hf hne hp (λs' σ' av' Y fr e=>?_) (λv s' u k r e=>hr v s' u k r e) he);exact jO (b:=r) (λst hst=>h st (af _ hst)) kj A s' av' hA Y e hne hp (λs'' σ'' av'' Z fr' e'=>hn s'' σ'' av'' Z (fr.tr fr') e') hr he
theorem bD.out(X:Act kg env sc kj ki σ av s){u:V}(r:bD s h av v u):bD ki h kj v u:=by
 have r':=r.back X.k0;cases u with
 |ex x=>exact r
 |pil l=>exact r
 |fz d=>exact(show Rep h av v d from r).mono (λ_ _ _ e=>e) λb _ _ x=>X.bas b x
 |own d =>
  obtain⟨a,e,hn,rb⟩:=r';exact⟨a,e,hn,rb.mono (λ_ _ _ e=>e) (λb _ _ x=>x.imp (X.bas b) id) λ_ e=>e⟩
theorem aH.st(h:aH n hd (env::kg) sc σ e r)(hA:Room n hd (env::kg) A)(X:Act kg env sc kj ki σ av s){k:V->R V}{fin:R V}(hf:rb r k=fin)(hne:fin≠.no)
  (hq:∀ v s' u,K (env::kg) s s'->bD s s'.heap av v u->k u=fin->Q v s') (he:∀ x v s',fin=.exc x->Upx kg env ki kj x v s'->E v s'):wpAny (model O w) A (eval e env) Q E s :=
 h A env s av hA X.inv ⟨hf,hne⟩ hq λx v s' e f=>he x v s' e (X.up f)
theorem B8{p:R V}(h:aH n hd (env::kg) sc (aA.cl σ xs) e p):aU n hd kg env sc ki σ (exec (.Return (some e) pos) env) λ_ kr=>rb p kr:=by
 intro kj A s av hA X kn kr fin Q E hf hne hp hn hr he;obtain⟨av1,Y,_⟩:=X.cl xs;exact jw (h.st hA Y hf hne (λv s' u k r e=>hr v s' u (Y.k k).k0 (r.out Y) e) he)
theorem B9:∀ σ:aA,aA.cl σ []=σ
 | []=>rfl
 | (_,_)::r=>congrArg _ (B9 r)
theorem Wd(h:∀ σ,aH n hd (env::kg) sc σ e (ev σ e)):aU n hd kg env sc ki σ (exec (.Return (some e) pos) env) λ_ kr=>rO ev F sc σ e kr:=by
 unfold rO;refine ocs (bC e) (λhx=>?_) λx hx=>?_
 ·try rewrite[hx]
  exact B8 (h _)
 ·obtain⟨p,rfl⟩:=dJ hx;show aU n hd kg env sc ki σ _ λ_ kr=>match kP sc σ x with
   |some d=>kr (.own d)
   |none=>rb (ev σ (.Name x p)) kr
  refine ocs (kP sc σ x) (λho=>?_) λd ho=>?_
  ·try rewrite[ho]
   exact B8 (xs:=[]) (p:=ev σ (.Name x p)) ((B9 σ).symm▸h σ)
  ·try rewrite[ho]
   intro kj A s av hA X kn kr fin Q E hf hne hp hn hr he;obtain⟨hl,hg⟩:=An ho;obtain⟨u,h1,a,rfl,_,h2⟩:=X.inv.get x _ hl hg;obtain⟨q1,q2,_⟩:=X.ownA x a ⟨_,_,hg,h1,rfl⟩;exact jw (eR X.inv hl h1 (hr _ _ (.own d) X.k0 ⟨a,rfl,q2,h2.mono (λ_ _ _ e=>e) (λb _ _ h=>h.elim (X.bas b) λh=>h▸q1) λ_ e=>e⟩ hf))
theorem eK{u:V}(h:cD x u σ=.ok σ'):∃ v0,aA.get σ x=some v0/\σ'=aA.set σ x u:=by
 unfold cD at h;refine ocs (aA.get σ x) (λhg=>?_) λv0 hg=>?_
 ·rw[hg] at h;exact pno h
 ·try rewrite[hg]
  rw[hg] at h;obtain rfl:=pi h;exact⟨v0,rfl,rfl⟩
theorem cF{p:P α}{k:α->R V}{fin:R V}(h:rb (ofP p) k=fin)(hne:fin≠.no):∃ a,p=.ok a/\k a=fin:=Fin.p ⟨h,hne⟩
theorem Act.bindVal{ke:Shared}{u:V}{Q:Unit->Shared->Prop}(X:Act kg env sc kj ki σ av s)(k:K (env::kg) s ke)(r:bD s ke.heap av v u)
  (hx:aA.get σ x=some v0) (hq:∀ s' av',Act kg env sc kj ki (aA.set σ x u) av' s'->Fr (env::kg) kj s av s' av'->Q () s'):wpAny (model O w) A (storeName env x v) Q E ke:=by
 cases u with
 |ex x=>exact r.elim
 |pil l=>exact r.elim
 |fz d=>exact(X.k k).put hx (show bS (env::kg) ke.heap av v (.fz d) from r) (λ_ e=>e.elim) λs' Y f _ _=>hq s' av Y ((X.frk k).tr ((X.k k).frPut f))
 |own d =>
  obtain⟨a,rfl,hn,rb⟩:=r;have Y:=X.growS (S:=λb=>b=a) k (λb h=>h▸hn) λb h=>h▸rb.live;obtain⟨n1,n2,n3,n4,n5⟩:=X.newNot hn;have g:Fr (env::kg) kj s av ke (λb=>av b\/b=a):=⟨(X.frk k).keep,λb o e h=>h.elim id (λh=>by simp only[h,hn] at e;cases e),(X.frk k).pins⟩
  refine Y.put hx (show bS (env::kg) ke.heap _ (.ref a) (.own d) from ⟨a,rfl,n5,rb⟩) (λa' e2=>?_) λs' Z f _ _=>hq s' _ Z (g.tr (Y.frPut f));obtain rfl:=Value.ref.inj e2;exact⟨.inr rfl,n4,n3,n1,λy _ h=>n2 (X.ownA y a (X.ownK k h)).1⟩
theorem Cb{p:Pos}{q:R V}(hs:swapsWith e (some (.Name x p)) pos.line env=pure false)(h:aH n hd (env::kg) sc (aA.cl σ xs) e q):
  aU n hd kg env sc ki σ (exec (.Assign [.Name x p] e pos) env) λkn _=>rb q λv=>rb (ofP (cD x v (aA.cl σ xs))) kn:=by
 intro kj A s av hA X kn kr fin Q E hf hne hp hn hr he;obtain⟨av1,Y,hsub⟩:=X.cl xs;refine wpAny_Assign_Name (h.st hA Y hf hne (λv s' u k r e=>?_) he) hs;obtain⟨σ',hσ,e⟩:=cF e hne;obtain⟨v0,hg,rfl⟩:=eK hσ;exact Y.bindVal k r hg λs'' av' Z fr=>hn _ _ _ Z ((Fr.sub hsub).tr fr) e
theorem We{b o:List Stmt}{q:R V}{kb ko:KN->KR->R V}(h:bY n hd (env::kg) sc (aA.cl σ xs) t q)
  (hb:aU n hd kg env sc ki (aA.cl σ xs) (execs b env) kb) (ho:aU n hd kg env sc ki (aA.cl σ xs) (execs o env) ko) :
  aU n hd kg env sc ki σ (exec (.If t b o pos) env) λkn kr=>rb (tst q) λc=>if c then kb kn kr else ko kn kr:=by
 intro kj A s av hA X kn kr fin Q E hf hne hp hn hr he;obtain⟨av1,Y,hsub⟩:=X.cl xs;refine wpAny_If (h A env s av1 hA Y.inv ⟨hf,hne⟩ (λc s' k e=>?_) λx v s' e f=>he x v s' e (Y.up f));have fr:Fr (env::kg) kj s av s' av1:=(Fr.sub hsub).tr (Y.frk k);cases c with
 |true=>exact hb kj A s' av1 hA (Y.k k) e hne hp (λs'' σ' av' Z f e'=>hn s'' σ' av' Z (fr.tr f) e') hr he
 |false=>exact ho kj A s' av1 hA (Y.k k) e hne hp (λs'' σ' av' Z f e'=>hn s'' σ' av' Z (fr.tr f) e') hr he
theorem Wf{q:R V}(hc:hY e=false)(h:aH n hd (env::kg) sc (aA.cl σ xs) e q):
  aU n hd kg env sc ki σ (exec (.Expr e pos) env) λkn _=>rb q λ_=>kn (aA.cl σ xs):=by
 intro kj A s av hA X kn kr fin Q E hf hne hp hn hr he;obtain⟨av1,Y,hsub⟩:=X.cl xs;exact wpAny_Expr_any (h.st hA Y hf hne (λv s' u k r e=>hn _ _ _ (Y.k k) ((Fr.sub hsub).tr (Y.frk k)) e) he) (by unfold interactive;rw[X.inv.kind];rfl) (swz hc)
end
section
variable {kg:List Env}{kj:Addr->Prop}
theorem Cc(h:kT σ x=.ok d):aA.get σ x=some (some (.own d)):=by
 unfold kT at h;refine ocs (aA.get σ x) (λhg=>?_) λo hg=>?_
 ·rw[hg] at h;exact pno h
 ·try rewrite[hg]
  rw[hg] at h;cases o with
  |none=>exact pno h
  |some v =>
   cases v with
   |own d'=>obtain rfl:=pi h;rfl
   |_=>exact pno h
theorem Wg{r:List (Str×Value)}{k:Str}(hn:(((y,v)::r).map (·.1)).Nodup):without ((y,v)::r) k=if k=y then r else (y,v)::without r k:=by
 by_cases h:k=y
 ·subst h;rw[if_pos rfl];have hnot:k∉r.map (·.1):=(bo.mp (show(k::r.map (·.1)).Nodup from hn)).1;have:without ((k,v)::r) k=without r k:=by
   unfold without;simp
  rw[this,without_of_not_mem r k hnot]
 ·rw[if_neg h];unfold without;have:(decide ((y,v).1≠k))=true:=by simp;exact λe=>h e.symm
  rw[jx,if_pos this]
theorem KV.del{k:Str}:∀ {kvs:List (Str×Value)} {ds:List (PyData×PyData)},(kvs.map (·.1)).Nodup->KV h av kvs ds->KV h av (without kvs k) (fE ds k)
 | [],[],_,_=>trivial
 | (y,v0)::r,(dk,d0)::t,hn,x=>by
  obtain⟨x1,x2,x3⟩:=x;have x1:dk=.str y:=x1;subst x1;rw[Wg hn];show KV h av _ (if k=y then t else (.str y,d0)::fE t k)
  split
  ·exact x3
  ·exact⟨rfl,x2,KV.del (bo.mp (show(y::r.map (·.1)).Nodup from hn)).2 x3⟩
 | [],_::_,_,x=>x.elim
 |_::_,[],_,x=>x.elim
theorem KV.ps:∀ {kvs:List (Str×Value)} {ds:List (PyData×PyData)} {ps:List (Str×PyData)},KV h av kvs ds->(∀ kv∈kvs,kv.1.length<=sizeLine)->keys? ds=some ps->PS h av kvs ps
 | [],[],_,_,_,e=>by obtain rfl:=si e;trivial
 | (y,v)::r,(dk,d)::t,ps,x,hz,e=>by
  obtain⟨x1,x2,x3⟩:=x;have x1:dk=.str y:=x1;subst x1;have e:(keys? t).map ((y,d)::·)=some ps:=e;obtain⟨ps',e1,rfl⟩:=bj.mp e;exact⟨rfl,hz _ ac,x2,KV.ps x3 (λkv h=>hz kv (af _ h)) e1⟩
 | [],_::_,_,x,_,_=>x.elim
 |_::_,[],_,x,_,_=>x.elim
theorem Cd(x:h.DictOf (strKind O w) a kvs):(kvs.map (·.1)).Nodup:=by
 obtain⟨o,es,ep,_,_,_,_,_,hn⟩:=x;exact hn
theorem fN(ha:av a)(hs:Heap.SameBut a h h')(b:Addr)(o:Obj)(hb:¬ av b)(e:h.get? b=some o):h'.get? b=some o:=by rw[hs.2 b (λh=>hb (h▸ha))];exact e
theorem Ce{ds:List (PyData×PyData)}(hd:h'.DictOf (strKind O w) a kvs)(hz:kvs.length<=sizeLine/\∀ kv∈kvs,kv.1.length<=sizeLine)(hm:(a==sysModules)=false)(x:KV h' av kvs ds):bL h' av a (.dict ds) :=
 by obtain⟨g1,g2⟩:=x.out;exact⟨kvs,hd,hz,hm,g1,g2⟩
theorem Wh{l:List (PyData×PyData)}{k:Str}(ha:av a)(hb:bL s.heap av a (.dict l))(r:Rep s.heap av v (.str k))(hg:cH l k=some d)
  (hq:∀ u h' tk,Heap.SameBut a s.heap h'->Rep h' av u d->bL h' av a (.dict (fE l k))->Q u { s with heap:=h',toks:=tk }):wpAny (model O w) A (call (.builtin "dict.pop") [.ref a,v]) Q E s:=by
 obtain⟨kvs,h2,h3,h4,h5,h6⟩:=hb;obtain⟨t,rfl,hkl⟩:=r.str_inv;rcases oH k h5 with ⟨_,hno⟩ | ⟨i,u,d',hu,hd',e1,e2⟩
 ·rw[hno] at hg;exact ns hg
 ·rw[hd'] at hg;obtain rfl:=si hg;refine call_meetsIn F.slot_dict_pop h2.typeIs F.entry_dict_pop (F.args_dict_pop_2 _ _) (meets_dict_pop_there (strKind O w) a (eS k t) [] (.inl rfl) rfl) ⟨kvs,u,h2,h3.1,hu,λh' hdo hs=>?_⟩;refine hq u h' _ hs ((h6 i _ _ e1 e2).mono (fN ha hs) λ_ _ _ x=>x) (Ce hdo ⟨U (jt _ _) h3.1,λkv hkv=>h3.2 kv (List.mem_filter.mp hkv).1⟩ h4 ((KV.del (k:=k) (Cd h2) (KV.of h5 h6)).mono (fN ha hs) λ_ _ _ x=>x))
theorem Cf{l:List PyData}(ha:av a)(hb:bL s.heap av a (.list l))(rv:Rep s.heap av v d)(hl:l.length < aF)
  (hq:∀ h',Heap.SameBut a s.heap h'->bL h' av a (.list (l++[d]))->Q .none { s with heap:=h' }):wpAny (model O w) A (call (.builtin "list.append") [.ref a,v]) Q E s:=by
 obtain⟨xs,hp,hxl,hxz,hxr⟩:=hb;refine wpAny_list_append_plain hp (λh' hp' hs=>hq h' hs ⟨xs++[v],by simpa using hp',by simp[hxl],?_,Bw hxl (λi u du e1 e2=>(hxr i u du e1 e2).mono (fN ha hs) λ_ _ _ x=>x) (rv.mono (fN ha hs) λ_ _ _ x=>x)⟩) (by simp;exact hxz);have:aF=sizeLine:=rfl;simp only[List.length_append,hxl];exact this▸hl
inductive MutThere(m:Str)(od:PyData):Prop where
 |mk (T id) (a:PlainAttrs T) (b:Slot T m id) (c:typeOf (.builtin id)=pure (.type "method_descriptor")) (d:∀ (s:Shared) (av:Addr->Prop) (a:Addr),bL s.heap av a od->s.TypeIs (.ref a) T/\∃ ob,s.heap.get? a=some ob/\ob.dict=none)
  (e:∀ (A:Around) (s:Shared) (av:Addr->Prop) (a:Addr) (vs:List Value) (ds:List PyData) (od':PyData) (Q:Value->Shared->Prop) (E:Value->Shared->Prop),av a->bL s.heap av a od->RL s.heap av vs ds->nU m od ds=.ok od' ->
   (∀ v h' tk,Heap.SameBut a s.heap h'->bL h' av a od'->Q v { s with heap:=h',toks:=tk })->wpAny (model O w) A (call (.builtin id) (.ref a::vs)) Q E s):MutThere m od
theorem Wi{l:List (PyData×PyData)}(hb:bL s.heap av a (.dict l)):s.TypeIs (.ref a) "dict" /\ ∃ ob,s.heap.get? a=some ob/\ob.dict=none:=by
 obtain⟨kvs,h2,_⟩:=hb;refine⟨h2.typeIs,?_⟩;refine hde λ_ θ=>?_;obtain⟨ob,es,ep,e,c,_⟩:=h2;apply θ;exact⟨ob,e,c.2.1⟩
theorem Cg{od':PyData}(h:nU m od ds=.ok od'):∃ d,ds=[d]:=by
 cases ds with
 |nil=>exact pno h
 |cons d r =>
  cases r with
  |nil=>exact⟨d,rfl⟩
  |cons=>exact pno h
theorem Wj(hm:jE m od=true):MutThere m od:=by
 cases od with
 |list l =>
  obtain rfl:m = "append" := of_decide_eq_true hm;refine⟨"list", "list.append", F.plainAttrs_list,F.slot_list_append,by kernel_rfl,λs av a hb=>?_,λA s av a vs ds od' Q E ha hb r hmu hq=>?_⟩
  ·obtain⟨vs,⟨n,e⟩,_⟩:=hb;exact⟨⟨_,e,rfl⟩,_,e,rfl⟩
  ·obtain⟨d,rfl⟩:=Cg hmu;obtain⟨v,vs,rfl,rv,r⟩:=r.cons;obtain rfl:=r.nil;replace hmu:(if l.length < aF then P.ok (.list (l++[d])) else .no)=.ok od':=hmu
   by_cases hc:l.length < aF
   ·rw[if_pos hc] at hmu;obtain rfl:=pi hmu;exact Cf ha hb rv hc λh' hs hb'=>hq _ h' _ hs hb'
   ·rw[if_neg hc] at hmu;exact pno hmu
 |dict l =>
  obtain rfl:m = "pop" := of_decide_eq_true hm;refine⟨"dict", "dict.pop", F.plainAttrs_dict,F.slot_dict_pop,by kernel_rfl,λs av a hb=>Wi hb,λA s av a vs ds od' Q E ha hb r hmu hq=>?_⟩;obtain⟨d,rfl⟩:=Cg hmu;obtain⟨v,vs,rfl,rv,r⟩:=r.cons;obtain rfl:=r.nil;replace hmu:zP l d=.ok od':=hmu;cases d with
  |str k =>
   replace hmu:(if (cH l k).isSome then P.ok (.dict (fE l k)) else .no)=.ok od':=hmu;refine ocs (cH l k) (λhg=>?_) λd hg=>?_
   ·rw[hg] at hmu;exact pno hmu
   ·rw[hg] at hmu;obtain rfl:=pi hmu;exact Wh ha hb rv hg λu h' tk hs _ hb'=>hq u h' tk hs hb'
  |_=>exact pno hmu
 |_=>exact bft hm
theorem P.bind_ok{p:P α}{f:α->P β}{b:β}(h:p.bind f=.ok b):∃ a,p=.ok a/\f a=.ok b:=by
 cases p with
 |no=>exact pno h
 |ok a=>exact⟨a,rfl,h⟩
theorem Wk(hbad:∀ σ e,bad e=true->ev σ e=.no)(h:∀ e∈as,aH n hd (env::kg) sc (aA.cl σ xs) e (ev (aA.cl σ xs) e)):
  aU n hd kg env sc ki σ (exec (.Expr (.Call (.Attribute (.Name x xp) m ap) as [] cp) pos) env) λkn _=>kY ev (aA.cl σ xs) x m ap as cp kn:=by
 intro kj A s av hA X kn kr fin Q E hf hne hp hn hr he;refine hde λ_ θ=>?_;obtain⟨av1,Y,hsub⟩:=X.cl xs;apply θ;replace hf:kY ev (aA.cl σ xs) x m ap as cp kn=fin:=hf;unfold kY at hf
 by_cases hc:(ap.endLine==cp.line)=false\/as.any bad=true\/3 < as.length
 ·rw[if_pos hc] at hf;exact absurd hf.symm hne
 rw[if_neg hc] at hf;simp only[not_or,Bool.not_eq_true,Bool.not_eq_false,Nat.not_lt] at hc;refine hde λ_ θ=>?_;obtain⟨c3,c4,c5⟩:=hc;obtain⟨od,hod,hf⟩:=cF hf hne;have hg:=Cc hod;obtain⟨hlx,_⟩:=Y.names x _ hg;obtain⟨u,hv,a,rfl,hfr,hb⟩:=Y.inv.get x _ hlx hg;apply θ;have ha:=(Y.ownA x a ⟨_,_,hg,hv,rfl⟩).1;refine bcs (jE m od) (λhm=>?_) λhm=>?_
 ·rw[hm] at hf;exact absurd hf.symm hne
 ·rw[hm] at hf;replace hf:rb (evs (ev (aA.cl σ xs)) as) _=fin:=hf;refine hde λ_ θ=>?_;obtain⟨T,id,t1,t2,t3,t4,t5⟩:=Wj hm;obtain⟨q1,q2⟩:=t4 s av1 a hb;apply θ;refine wpAny_Expr_any ?_ (by unfold interactive;rw[X.inv.kind];rfl) rfl;refine ii rfl (jJ c4 c5 cp env) c3 (eR Y.inv hlx hv ⟨T,id,t1,t2,t3,q1,λa' e=>by cases e;exact q2,fL c4 (iD (hbad _) hA h Y.inv ⟨hf,hne⟩ (λvs km us k2 r1 r2 e2=>?_) λx v s' e f=>he x v s' e (Y.up f))⟩);refine hde λ_ θ=>?_;obtain⟨od',hmu,e2⟩:=cF e2 hne;obtain⟨σ',hσ,e3⟩:=cF e2 hne;obtain⟨v0,_,rfl⟩:=eK hσ;apply θ;have Y2:=Y.k k2;refine dA (t5 A km av1 a vs _ od' _ _ ha (hb.k Y.inv.gnd.fav k2 hfr) ⟨r1,r2⟩ hmu λv h' tk hs hb' mt=>?_);exact hn _ _ _ (Y2.mut (tk:=tk) mt hg (hv.k k2) hs hb') ((Fr.sub hsub).tr ((Y.frk k2).tr (Y2.frMut (s':={ km with heap:=h',toks:=tk }) hg (hv.k k2) hs))) e3
end
section
variable {kg:List Env}{kj:Addr->Prop}
theorem Wl(f:Array Value->Array Value)(its:Array Value)(n:Nat):∃ n',Obj.mapSeq f { cls:=.type "list", data:=.seq its n }={ cls:=.type "list", data:=.seq (f its) n' }:=⟨_,rfl⟩
theorem Wm{A:Around}{E:Value->Shared->Prop}{l:Addr}{items:Array Value}{k:Int}{t:Tok}{Q:Unit->Shared->Prop}(hp:s.heap.PlainList l items)
  (h0:0<=k) (hfit:k < 2 ^ 63) (hn:k < items.size)
  (hQ:∀ h',h'.PlainList l (items.setIfInBounds k.toNat v)->Heap.SameBut l s.heap h'->Q () { s with heap:=h' }) :
  wpAny (model O w) A (PySem.setItem (.ref l) (.int k t) v) Q E s:=by
 have hl:=hp.isList;obtain⟨ne,ho⟩:=hp;unfold PySem.setItem
 try with_reducible refine bl ?_
 first | refine aa (ag ?_) | skip
 refine aa (wpAny_sequenceKey hl.typeIs (by decide) ?_);refine aa (wpAny_callSpecial?_slot (name:=Str.ofString "__setitem__") hl.typeIs slot_list_setitem
  (gz slot_list_setitem hl.typeIs entry_list_setitem ?_ (args_list_setitem _ _ _)))
 show wpAny _ _ (Builtin.List.listSubscript? (.int k t) >>= _) _ _ s;refine aa (wpAny_listSubscript_int (fitsIndex_of h0 hfit) ?_);clear hfit;obtain⟨j,rfl⟩:=iq h0;have hj:j < items.size:=Hp hn;have hx':items[j]?=some items[j]:=Array.getElem?_eq_getElem hj;show wpAny _ _ ((seqItemAt l j >>= λr=>pure (r.map (j,·))) >>= _) _ _ s;refine aa (aa (wpAny_seqItemAt ho rfl (ag ?_)));rw[hx'];show wpAny _ _ (setSeqItemAt l j v >>= _) _ _ s;obtain⟨n',hm⟩:=Wl (·.setIfInBounds j v) items ne;have hfin:(s.heap.update l (Obj.mapSeq (·.setIfInBounds j v))).PlainList l (items.setIfInBounds j v) :=
  ⟨n',by rw[Heap.get?_update_self _ ho (by rw[hm];rfl),hm]⟩
 refine aa (wpAny_setSeqItemAt ho rfl ?_)
 first
  |exact aa (ag (ag ⟨.none,rfl,ag (hQ _ hfin (Heap.SameBut.update ..))⟩))
  |exact ag ⟨.none,rfl,ag (hQ _ hfin (Heap.SameBut.update ..))⟩
theorem Wn(kvs:List (Str×Value))(k:Str)(v:Value):(stored kvs k v).length<=kvs.length+1:=by
 unfold stored
 split
 ·simp
 ·simp
theorem Wo{o i o':PyData}{Q:Unit->Shared->Prop}(ha:av a)(hb:bL s.heap av a o)(ri:Rep s.heap av vi i)(rd:Rep s.heap av vd d)
  (hs:setItem o i d=.ok o') (hq:∀ h' tk,Heap.SameBut a s.heap h'->bL h' av a o'->Q () { s with heap:=h',toks:=tk }):wpAny (model O w) A (PySem.setItem (.ref a) vi vd) Q E s:=by
 cases o with
 |dict l =>
  replace hs:zN l d i=.ok o':=hs;cases i with
  |str k =>
   replace hs:(if l.length < aF then P.ok (.dict (eG l k d)) else .no)=.ok o':=hs
   by_cases hc:l.length < aF
   ·rw[if_pos hc] at hs;obtain rfl:=pi hs;obtain⟨kvs,h2,h3,h4,h5,h6⟩:=hb;obtain⟨t,rfl,hkl⟩:=ri.str_inv;have hlen:kvs.length=l.length:=by
     have:=congrArg List.length h5;simpa using this.symm
    refine wpAny_setItem_pairs (eS k t) h2 (λh' hd' hsb=>hq h' _ hsb (Ce hd' ⟨?_,A5 h3.2 hkl⟩ h4 (KV.set (k:=k) (rd.mono (fN ha hsb) λ_ _ _ x=>x) (Cd h2) ((KV.of h5 h6).mono (fN ha hsb) λ_ _ _ x=>x)))) h3.1;have h1:=Wn kvs k vd;have h2:aF=sizeLine:=rfl;exact Hq hc hlen h1 h2
   ·rw[if_neg hc] at hs;exact pno hs
  |_=>exact pno hs
 |list l =>
  replace hs:zO l d i=.ok o':=hs;cases i with
  |int k =>
   replace hs:(if 0<=k/\k < l.length then P.ok (.list (l.set k.toNat d)) else .no)=.ok o':=hs
   by_cases hc:0<=k/\k < l.length
   ·rw[if_pos hc] at hs;obtain rfl:=pi hs;obtain⟨xs,hp,hxl,hxz,hxr⟩:=hb;obtain⟨t,rfl⟩:=ri.int_inv;have hN:sizeLine=16777216:=rfl;refine Wm hp hc.1 (cn hc.2 (ej (jI (hxl▸hxz)))) (by simp;exact Hr hc hxl) λh' hp' hsb=>hq h' _ hsb ⟨xs.set k.toNat vd,?_,by simp[hxl],by simpa using hxz,λi u du e1 e2=>?_⟩
    ·have:(xs.set k.toNat vd).toArray=xs.toArray.setIfInBounds k.toNat vd:=by simp
     rw[this];exact hp'
    ·rw[List.getElem?_set] at e1 e2
     by_cases hj:k.toNat=i
     ·rw[if_pos hj] at e1 e2
      split at e1
      ·split at e2
       ·obtain rfl:=si e1;obtain rfl:=si e2;exact rd.mono (fN ha hsb) λ_ _ _ x=>x
       ·exact ns e2
      ·exact ns e1
     ·rw[if_neg hj] at e1 e2;exact(hxr i u du e1 e2).mono (fN ha hsb) λ_ _ _ x=>x
   ·rw[if_neg hc] at hs;exact pno hs
  |_=>exact pno hs
 |_=>exact pno hs
theorem Wp{i:Expr}{ri:R V}(hi:aH n hd (env::kg) sc σ i ri)(hA:Room n hd (env::kg) A)(X:Act kg env sc kj ki σ av s)(rd:Rep s.heap av vd d)
  {kn:KN} {fin:R V} {Q:Flow->Shared->Prop} {E:Value->Shared->Prop} (hf:rb (ofP (kT σ x)) (λo=>rb ri λiv=>rb (ofP (setItem o (dOf iv) d)) λo=>rb (ofP (cD x (.own o) σ)) kn)=fin) (hne:fin≠.no)
  (hn:∀ s' σ' av',Act kg env sc kj ki σ' av' s'->Fr (env::kg) kj s av s' av'->kn σ'=fin->Q .next s') (he:∀ x v s',fin=.exc x->Upx kg env ki kj x v s'->E v s') :
  wpAny (model O w) A (eval (.Name x xp) env) (λov km=>wpAny (model O w) A (eval i env) (λiv kq=>wpAny (model O w) A (PySem.setItem ov iv vd) (λ_=>Q Flow.next) E kq) E km) E s:=by
 refine hde λ_ θ=>?_;obtain⟨od,hod,hf⟩:=cF hf hne;have hg:=Cc hod;obtain⟨hlx,_⟩:=X.names x _ hg;obtain⟨u',hv,a,rfl,hfr,hb⟩:=X.inv.get x _ hlx hg;apply θ;have ha:=(X.ownA x a ⟨_,_,hg,hv,rfl⟩).1;refine eR X.inv hlx hv (hi.st hA X hf hne (λiv km ui k2 r2 e2=>?_) he);refine hde λ_ θ=>?_;obtain⟨od',hso,e2⟩:=cF e2 hne;obtain⟨σ',hσ,e3⟩:=cF e2 hne;obtain⟨v0,_,rfl⟩:=eK hσ;apply θ;have X2:=X.k k2;refine dA (Wo ha (hb.k X.inv.gnd.fav k2 hfr) (r2.rep X.inv.gnd.avlt) (rd.k X.inv.gnd.fav k2) hso λh' tk hs hb' mt=>?_);exact hn _ _ _ (X2.mut (tk:=tk) mt hg (hv.k k2) hs hb') ((X.frk k2).tr (X2.frMut (s':={ km with heap:=h',toks:=tk }) hg (hv.k k2) hs)) e3
theorem oZ[Decidable c]{r fin:R α}(h:(if c then .no else r)=fin)(hne:fin≠.no):¬ c/\r=fin:=by
 by_cases hc:c
 ·rw[if_pos hc] at h;exact absurd h.symm hne
 ·rw[if_neg hc] at h;exact⟨hc,h⟩
theorem Wq(e o i:Expr)(p:Pos)(line:Nat):swapsWith e (some (.Subscript o i p)) line env=pure false:=bcs (hY e) swz λh=>z0 (P:=λe=>swapsWith e (some (.Subscript o i p)) line env=pure false) h (λ_ _ _ _=>rfl) (λ_ _ _ _=>rfl) λ_ _ _ _ _=>rfl
theorem Wr{i:Expr}{p:Pos}(h:∀ σ e,aH n hd (env::kg) sc σ e (ev σ e)):
  aU n hd kg env sc ki σ (exec (.Assign [.Subscript (.Name x xp) i p] e pos) env) λkn _=>rP ev (aA.cl σ xs) x i e kn:=by
 intro kj A s av hA X kn kr fin Q E hf hne hp hn hr he;obtain⟨av1,Y,hsub⟩:=X.cl xs;obtain⟨_,hf⟩:=oZ hf hne;refine wpAny_Assign_Subscript ((h _ e).st hA Y hf hne (λv ke u k1 r e1=>?_) he) (Wq ..);exact Wp (h _ i) hA (Y.k k1) ((r.rep Y.inv.gnd.avlt)) e1 hne (λs' σ' av' Z f e=>hn s' σ' av' Z ((Fr.sub hsub).tr ((Y.frk k1).tr f)) e) he
end
section
variable {kg:List Env}{kj:Addr->Prop}
theorem iJ[Decidable c]{r fin:R α}(h:(if c then r else .no)=fin)(hne:fin≠.no):c/\r=fin:=by
 by_cases hc:c
 ·rw[if_pos hc] at h;exact⟨hc,h⟩
 ·rw[if_neg hc] at h;exact absurd h.symm hne
theorem tB{l:List PyData}(h:kW σ x=.ok l):aA.get σ x=some (some (.pil l)):=by
 unfold kW at h;refine ocs (aA.get σ x) (λhg=>?_) λo hg=>?_
 ·rw[hg] at h;exact pno h
 ·rw[hg] at h ⊢;cases o with
  |none=>exact pno h
  |some v =>
   cases v with
   |pil l'=>obtain rfl:=pi h;rfl
   |_=>exact pno h
theorem Fr.off{tk:Nat}{c:Addr}(h1:av c)(h2:¬ kj c)(hs:Heap.SameBut c s.heap h'):Fr l kj s av { s with heap:=h',toks:=tk } av :=
 ⟨λb o e n=>by show h'.get? b=_;rw[hs.2 b λe'=>n (e'▸h1)];exact e,λ_ _ _ h=>h,λb o n _ e=>by show h'.get? b=_;rw[hs.2 b λe'=>h2 (e'▸n)];exact e⟩
theorem Ch(h:eQ e=true):∃ p,e=.List [] p:=by
 unfold eQ at h;generalize hv:vw e=v at h;cases v with
 |lst es =>
  obtain⟨p,rfl⟩:=cA hv;replace h:es.isEmpty=true:=h;exact⟨p,by rw[List.isEmpty_iff.mp h]⟩
 |_=>exact bft h
theorem Ws:∀ {es:List Expr} {s:Shared} {Q:List Value->Shared->Prop},es.all eQ=true ->
  (∀ (bs:List Addr) s',Kp s s'->s.toks<=s'.toks->bs.length=es.length->bs.Nodup->(∀ b∈bs,s.heap.get? b=none/\s'.heap.get? b=some { cls:=.type "list", data:=.seq ([]:List Value).toArray })->Q (bs.map Value.ref) s')->wpAny (model O w) A (spliced (backTo pos (starEach es env))) Q E s:=by
 intro es
 induction es with
 |nil=>intro s Q _ hq;exact dh (hq [] s (Kp.rfl' s) (ae _) rfl ec λb h=>aZ h)
 |cons e es ih =>
  intro s Q ha hq;obtain⟨h1,h2⟩:=ax.mp (show(eQ e&&es.all eQ)=true from ha);obtain⟨q,rfl⟩:=Ch h1;refine dz (wpAny_List (dh ⟨am _,ih h2 λbs s' k mt hl hn hb=>hq (s.heap.objs.size::bs) s' ((Kp.push' s _).tr k) mt (by simp[hl]) (bo.mpr ⟨λhm=>?_,hn⟩) λb hm=>?_⟩))
  ·have:=(hb _ hm).1;rw[show Heap.get? (s.heap.push { cls:=.type "list", data:=.seq ([]:List Value).toArray }) s.heap.objs.size=some { cls:=.type "list", data:=.seq ([]:List Value).toArray } from cE _ _ rfl] at this;exact sn this
  ·rcases List.mem_cons.mp hm with rfl | hm
   ·exact⟨bP _,k.heap _ _ (cE _ _ rfl)⟩
   ·obtain⟨g1,g2⟩:=hb b hm;refine⟨?_,g2⟩;refine ocs (s.heap.get? b) (λh=>h) λo h=>?_;rw[(Kp.push' s _).heap b o h] at g1;exact sn g1
theorem Wt{k:Nat}(h:kU e=some k):∃ es q,e=.List es q/\es.all eQ=true/\es.length<=aF/\k=es.length:=by
 unfold kU at h;generalize hv:vw e=v at h;cases v with
 |lst es =>
  obtain⟨p,rfl⟩:=cA hv;replace h:(if es.isEmpty=false/\es.all eQ=true/\es.length<=aF then some es.length else none)=some k:=h
  by_cases hc:es.isEmpty=false/\es.all eQ=true/\es.length<=aF
  ·rw[if_pos hc] at h;exact⟨es,p,rfl,hc.2.1,hc.2.2,(si h).symm⟩
  ·rw[if_neg hc] at h;exact ns h
 |_=>exact ns h
theorem Wu{p q:Pos}(ha:es.all eQ=true)(hz:es.length<=aF):
  aU n hd kg env sc ki σ (exec (.Assign [.Name x p] (.List es q) pos) env) λkn _=>rb (ofP (cD x (.pil (List.replicate es.length (.list []))) σ)) kn:=by
 intro kj A s av hA X kn kr fin Q E hf hne hp hn hr he;refine hde λ_ θ=>?_;obtain⟨σ',hσ,e⟩:=cF hf hne;obtain⟨v0,hg,rfl⟩:=eK hσ;apply θ;refine wpAny_Assign_Name (wpAny_List (Ws ha λbs ke k mt hl hnd hbs=>?_)) rfl;have hz':bs.length<=sizeLine:=hl▸hz;refine⟨by rw[List.length_map];exact hz',?_⟩;have k1:=k.tr (Kp.push' ke { cls:=.type "list", data:=.seq (bs.map Value.ref).toArray });have kk:K (env::kg) s { ke with heap:=ke.heap.push { cls:=.type "list", data:=.seq (bs.map Value.ref).toArray } }:=K.of k1 mt;have hpa:(ke.heap.push { cls:=.type "list", data:=.seq (bs.map Value.ref).toArray }).PlainList ke.heap.objs.size (bs.map Value.ref).toArray:=⟨0,cE _ _ rfl⟩
 have hn1:ke.heap.get? ke.heap.objs.size=none:=bP _;generalize ke.heap.objs.size=a at hpa hn1 ⊢;have hna:s.heap.get? a=none:=ocs (s.heap.get? a) (λh=>h) λo h=>by rw[k.heap a o h] at hn1;exact sn hn1
 have nab:a∉bs:=λh=>by rw[(hbs a h).2] at hn1;exact sn hn1
 have hnew:∀ c,(c=a\/c∈bs)->s.heap.get? c=none:=λc h=>h.elim (λh=>h▸hna) λh=>(hbs c h).1;have hdic:∀ b∈bs,Heap.get? (ke.heap.push { cls:=.type "list", data:=.seq (bs.map Value.ref).toArray }) b=some { cls:=.type "list", data:=.seq ([]:List Value).toArray }:=λb h=>(Kp.push' ke _).heap _ _ (hbs b h).2;have Z:=X.growS (S:=λc=>c=a\/c∈bs) kk hnew λc h=>h.elim (λh=>by obtain⟨m,e⟩:=hpa;exact⟨_,h▸e⟩) λh=>⟨_,hdic c h⟩
 have g:Fr (env::kg) kj s av { ke with heap:=ke.heap.push { cls:=.type "list", data:=.seq (bs.map Value.ref).toArray } } (λc=>av c\/c=a\/c∈bs):=⟨(X.frk kk).keep,λc o e h=>h.elim id (λh=>by rw[hnew c h] at e;exact ns e),(X.frk kk).pins⟩
 refine Z.put hg (v:=.pil (List.replicate es.length (.list []))) ⟨a,bs,rfl,(X.newNot hna).2.2.2.2,hpa,by rw[List.length_replicate];exact hl,hz',hnd,nab,λb h=>(X.newNot (hnew b (Or.inr h))).2.2.2.2,λm b d q1 q2=>?_⟩ (λc hc=>?_) λs' Z' f _ _=>hn _ _ _ Z' (g.tr (Z.frPut f)) e
 ·rw[List.getElem?_replicate] at q2
  split at q2
  ·obtain rfl:=si q2;have hm:=cj q1;exact⟨[],⟨0,hdic b hm⟩,rfl,am _,λi v d e=>ns e⟩
  ·exact ns q2
 ·have hc:c=a\/c∈bs:=by
   rcases hc with hc | ⟨r',bs',ee,p',m⟩
   ·exact Or.inl (Value.ref.inj hc).symm
   ·obtain rfl:=Value.ref.inj ee;obtain rfl:=lG (iz (lH hpa p'));exact Or.inr m
  refine hde λ_ θ=>?_;obtain⟨d1,d2,d3,d4,d5⟩:=X.newNot (hnew c hc);apply θ;exact⟨Or.inr hc,d4,d3,d1,λy _ h=>d2 (X.ownA y c (X.ownK kk h)).1⟩
theorem Ci{c:Str×Str×Pos×List Expr×Pos}(h:nV e=some c):∃ p,e=.Call (.Attribute (.Name c.1 p) c.2.1 c.2.2.1) c.2.2.2.1 [] c.2.2.2.2:=by
 refine hde λ_ θ=>?_;obtain⟨c1,h1,h⟩:=ob h;obtain⟨a,h2,h⟩:=ob h;obtain⟨x,h3,h⟩:=ob h;obtain⟨e5,e6⟩:=oF h;obtain⟨p,e3⟩:=dJ h3;exact θ ⟨p,by rw[oG h1,zX h2,e3,e5,<- e6]⟩
theorem Wv{w:List PyData}(h:yZ d=.ok w):d=.list w:=by
 cases d with
 |list l=>obtain rfl:=pi h;rfl
 |_=>exact pno h
theorem tC:∀ {l:List PyData} {w:List PyData},fI l=.ok w->l=l.dropLast++[.list w]
 | [],_,h=>pno h
 | [d],w,h=>by rw[Wv (d:=d) h];rfl
 |d::e::r,w,h=>congrArg (List.cons d) (tC (l:=e::r) h)
theorem Cj{bs:List Addr}{l ini:List PyData}{o:PyData}(hl:bs.length=l.length)(e:l=ini++[o]):∃ cs b,bs=cs++[b]/\cs.length=ini.length:=by
 rcases List.eq_nil_or_concat bs with rfl | ⟨cs,b,rfl⟩
 ·rw[e,List.length_append] at hl;cases hl
 ·refine⟨cs,b,List.concat_eq_append,?_⟩;rw[e,List.concat_eq_append,List.length_append,List.length_append] at hl;exact Nat.succ.inj hl
theorem Ww{q:Pos}:aU n hd kg env sc ki σ (exec (.Expr (.Call (.Attribute (.Name x xp) "append" ap) [.List [] q] [] cp) pos) env) λkn _=>rS σ x ap cp kn:=by
 intro kj A s av hA X kn kr fin Q E hf hne hp hn hr he;obtain⟨hc,hf⟩:=oZ hf hne;refine hde λ_ θ=>?_;obtain⟨l,hl,hf⟩:=cF hf hne;have hg:=tB hl;obtain⟨hlt,hf⟩:=iJ hf hne;obtain⟨σ',hσ,e⟩:=cF hf hne;obtain⟨v0,_,rfl⟩:=eK hσ;obtain⟨hlx,_⟩:=X.names x _ hg;obtain⟨u,hv,a,bs,rfl,na,p0,hll,hz,nd,nab,nf,rB⟩:=X.inv.get x _ hlx hg;obtain⟨a1,a2,a3,a4⟩:=X.ownA x a ⟨_,_,hg,hv,Or.inl rfl⟩;apply θ;refine wpAny_Expr_any ?_ (by unfold interactive;rw[X.inv.kind];rfl) rfl;refine ii rfl (jJ (as:=[.List [] q]) rfl (eu rfl) cp env) ((Bool.not_eq_false _).mp hc) (eR X.inv hlx hv ⟨"list", "list.append", F.plainAttrs_list,F.slot_list_append,by kernel_rfl,p0.isList.typeIs,λa' e=>by cases e;obtain⟨n,e⟩:=p0;exact⟨_,e,rfl⟩,fL rfl (dz (wpAny_List (dh ⟨am _,dh ?_⟩)) rfl)⟩);have kk:K (env::kg) s { s with heap:=s.heap.push { cls:=.type "list", data:=.seq ([]:List Value).toArray } }:=K.of (Kp.push' s _) (ae _);have hcn:(s.heap.push { cls:=.type "list", data:=.seq ([]:List Value).toArray }).get? s.heap.objs.size=some { cls:=.type "list", data:=.seq ([]:List Value).toArray }:=cE _ _ rfl;have hn0:s.heap.get? s.heap.objs.size=none:=bP _;have hpush:∀ b o,s.heap.get? b=some o->(s.heap.push { cls:=.type "list", data:=.seq ([]:List Value).toArray }).get? b=some o:=λb o e=>ai _ e;generalize s.heap.push { cls:=.type "list", data:=.seq ([]:List Value).toArray }=H at kk hcn hpush ⊢;generalize s.heap.objs.size=c at hcn hn0 ⊢;obtain⟨d1,d2,d3,d4,d5⟩:=X.newNot hn0;have Y:=X.growS (S:=λb=>b=c) kk (λb h=>h▸hn0) λb h=>⟨_,h▸hcn⟩
 have g:Fr (env::kg) kj s av { s with heap:=H } (λb=>av b\/b=c):=⟨(X.frk kk).keep,λb o e h=>h.elim id (λh=>by simp only[h,hn0] at e;exact ns e),(X.frk kk).pins⟩
 have p1:H.PlainList a (bs.map Value.ref).toArray:=p0.at λo e=>hpush a o e;have hca:c≠a:=λh=>d2 (h▸a1);have hcb:c∉bs:=λh=>d2 (X.ownA x c ⟨_,_,hg,hv,Or.inr ⟨a,bs,rfl,p0,h⟩⟩).1;refine wpAny_list_append_plain p1 (λh' hp' hs=>?_) (by rw[cw,List.length_map];exact hz);have p2:h'.PlainList a ((bs++[c]).map Value.ref).toArray:=by simpa using hp'
 have hcn':h'.get? c=some { cls:=.type "list", data:=.seq ([]:List Value).toArray }:=(hs.2 c hca).trans hcn;refine hn _ _ _ (Y.mutG (S:=λb=>b=a) (v':=.pil (l++[.list []])) (tk:=s.toks) (ae _) hg (hv.k kk) (λb h=>h▸Or.inl rfl) (λb o hb e=>(hs.2 b hb).trans e) (λb h=>by obtain⟨m,e⟩:=p2;exact⟨_,h▸e⟩) (λb hb=>?_) ⟨a,bs++[c],rfl,na,p2,by simp[hll],?_,?_,?_,λb hb=>?_,λm b d q1 q2=>?_⟩) (g.tr (Fr.off (.inl a1) a3 hs)) e
 ·rcases hb with hb | ⟨r',bs',ee,p',m⟩
  ·exact .inl (Or.inl hb)
  ·obtain rfl:=Value.ref.inj ee;obtain rfl:=lG (iz (lH p2 p'));rcases bv.mp m with m | m
   ·exact .inl (Or.inr ⟨_,_,rfl,p1,m⟩)
   ·obtain rfl:=List.mem_singleton.mp m;exact .inr ⟨.inr rfl,d4,d3,d1,λy h=>d2 (X.ownA y b (X.ownK kk h)).1⟩
 ·rw[List.length_append,hll];exact hlt
 ·exact jr.mpr ⟨nd,bo.mpr ⟨λh=>aZ h,ec⟩,λb hb b' hb'=>by obtain rfl:=List.mem_singleton.mp hb';exact λh=>hcb (h▸hb)⟩
 ·exact λh=>(bv.mp h).elim nab λh=>hca (List.mem_singleton.mp h).symm
 ·rcases bv.mp hb with hb | hb
  ·exact nf b hb
  ·exact List.mem_singleton.mp hb▸d5
 ·by_cases hm:m < bs.length
  ·rw[er hm] at q1;rw[er (hll▸hm)] at q2;have hba:b≠a:=λh=>nab (h▸cj q1);exact(rB m b d q1 q2).mono (λb' o hb e=>(hs.2 b' λh=>hb (h▸a1)).trans (hpush b' o e)) (λb' o e h=>h.elim id λh=>by rw[h,hn0] at e;exact ns e) λo e=>(hs.2 b hba).trans (hpush b o e)
  ·rw[fq (Nat.not_lt.mp hm)] at q1;rw[fq (hll▸Nat.not_lt.mp hm),<- hll] at q2;cases hi:m - bs.length with
   |zero =>
    rw[hi] at q1 q2;obtain rfl:=si q1;obtain rfl:=si q2;exact⟨[],⟨0,hcn'⟩,rfl,am _,λi v d e=>ns e⟩
   |succ j=>rw[hi] at q1;exact ns q1
theorem Wx{items:Array Value}{y:Value}(hl:s.heap.PlainList a items)(hy:items[items.size - 1]?=some y)(hz:items.size<=sizeLine)
  (hQ:∀ h',h'.PlainList a (items.eraseIdxIfInBounds (items.size - 1))->Heap.SameBut a s.heap h'->Q y { s with heap:=h' }):wpAny (model O w) A (call (.builtin "list.pop") [.ref a]) Q E s:=by
 obtain⟨n,ho⟩:=hl;exact call_meets F.slot_list_pop ⟨_,ho,rfl⟩ F.entry_list_pop (F.args_list_pop_1 _) (MeetsSeq.list_pop_last a items n y hy hz) ⟨ho,hQ _ ⟨_,IsL.update (n:=n) ho _⟩ (Heap.SameBut.update ..)⟩
theorem Wy{p tp tq:Pos}:aU n hd kg env sc ki σ (exec (.Assign [.Name y p] (.Call (.Name "tuple" tp) [.Call (.Attribute (.Name x xp) "pop" ap) [] [] cp] [] tq) pos) env) λkn _=>nW sc σ y x ap cp kn:=by
 intro kj A s av hA X kn kr fin Q E hf hne hp hn hr he;obtain⟨hc,hf⟩:=oZ hf hne;simp only[not_or,Bool.not_eq_false] at hc;refine hde λ_ θ=>?_;obtain⟨c1,c2⟩:=hc;obtain⟨l,hl,hf⟩:=cF hf hne;have hg:=tB hl;obtain⟨wl,hw,hf⟩:=cF hf hne;have hlw:=tC hw;obtain⟨σ',hσ,hf⟩:=cF hf hne;obtain⟨v0,_,rfl⟩:=eK hσ;obtain⟨σ',hσ,e⟩:=cF hf hne;obtain⟨v1,hgy,rfl⟩:=eK hσ;obtain⟨hlx,_⟩:=X.names x _ hg;obtain⟨u,hv,a,bs,rfl,na,p0,hll,hz,nd,nab,nf,rB⟩:=X.inv.get x _ hlx hg;obtain⟨a1,a2,a3,a4⟩:=X.ownA x a ⟨_,_,hg,hv,Or.inl rfl⟩;obtain⟨cs,b,rfl,hcs⟩:=Cj hll hlw;apply θ;have hsz:(List.map Value.ref (cs++[b])).toArray.size=cs.length+1:=by simp
 refine wpAny_Assign_Name (PySem.Call_name1 rfl (dK X.inv c2 rfl (fZ (.inr ⟨_,rfl⟩) (ii rfl (jJ (as:=[]) rfl (am _) cp env) c1 (eR X.inv hlx hv ⟨"list", "list.pop", F.plainAttrs_list,F.slot_list_pop,by kernel_rfl,p0.isList.typeIs,λa' e=>by cases e;obtain⟨n,e⟩:=p0;exact⟨_,e,rfl⟩,fL rfl (dh (Wx (y:=.ref b) p0 (by rw[hsz];simp) (by rw[cw,List.length_map];exact hz) λh' hp' hs=>?_))⟩))))) rfl;have p2:h'.PlainList a (cs.map Value.ref).toArray:=by
  rw[hsz] at hp';have:(List.map Value.ref (cs++[b])).toArray.eraseIdxIfInBounds (cs.length+1 - 1)=(cs.map Value.ref).toArray:=by
   rw[Nat.add_sub_cancel,List.eraseIdxIfInBounds_toArray,bu,List.eraseIdx_append_of_length_le (by simp)];simp
  rw[this] at hp';exact hp'
 have hba:b≠a:=λh=>nab (h▸jy _ (List.mem_singleton.mpr rfl));have ncs:∀ c∈cs,c≠a:=λc hc h=>nab (h▸gg _ hc);have bd:∀ (m:Nat) (c:Addr) (d:PyData),(cs++[b])[m]?=some c->l[m]?=some d->bL h' av c d:=λm c d q1 q2=>(rB m c d q1 q2).mono (fN a1 hs) (λ_ _ _ x=>x) λo e=>(hs.2 c λh=>nab (h▸cj q1)).trans e;have hlen:cs.length=l.dropLast.length:=hcs;have Y:=X.mutG (S:=λc=>c=a) (v':=.pil l.dropLast) (tk:=s.toks) (h':=h') (ae _) hg hv (λc h=>h▸Or.inl rfl) (λc o hb e=>(hs.2 c hb).trans e) (λc h=>by obtain⟨m,e⟩:=p2;exact⟨_,h▸e⟩) (λc hc=>by
   rcases hc with hc | ⟨r',bs',ee,p',m⟩
   ·exact .inl (Or.inl hc)
   ·obtain rfl:=Value.ref.inj ee;obtain rfl:=lG (iz (lH p2 p'));exact .inl (Or.inr ⟨_,_,rfl,p0,gg _ m⟩))
  ⟨a,cs,rfl,na,p2,hlen,U (by simp) hz,(jr.mp nd).1,λh=>nab (gg _ h),λc h=>nf c (gg _ h),λm c d q1 q2=>bd m c d (by rw[er (cr.mp q1).1];exact q1) (by rw[hlw,er (cr.mp q2).1];exact q2)⟩
 have fr:Fr (env::kg) kj s av { s with heap:=h' } av:=Fr.off (tk:=s.toks) a1 a3 hs;obtain⟨vs,pb,hvl,hvz,hvr⟩:BodyL h' av b wl:=bd cs.length b (.list wl) (by simp) (by rw[hlw,hlen,fq (by simp)];simp);refine call_tuple_list pb.isList (λh2 hk=>?_) (by simpa using hvz);obtain⟨kp,rt⟩:=lB (s:={ s with heap:=h' }) (ke:={ s with heap:=h2 }) (Kp.mkh hk) (λc hc=>by obtain⟨o,e⟩:=Y.inv.gnd.avlt c hc;exact⟨o,hk _ _ e⟩) hvl hvz λi v d e1 e2=>(hvr i v d e1 e2).keeps hk;exact Y.bindVal (K.of kp (ae _)) rt hgy λs'' av' Z f=>hn _ _ _ Z (fr.tr f) e
theorem Wz{k1:Nat}{p1 p2 p3:Pos}(hbad:bad e=false)(h:∀ σ e,aH n hd (env::kg) sc σ e (ev σ e)):
  aU n hd kg env sc ki σ (exec (.Expr (.Call (.Attribute (.Subscript (.Name x xp) (.UnaryOp .USub (.Constant (.int 1) k1 p1) p2) p3) "append" ap) [e] [] cp) pos) env) λkn _=>rQ ev σ x e ap cp kn:=by
 intro kj A s av hA X kn kr fin Q E hf hne hp hn hr he;obtain⟨hc,hf⟩:=oZ hf hne;refine hde λ_ θ=>?_;obtain⟨l,hl,hf⟩:=cF hf hne;have hg:=tB hl;obtain⟨wl,hw,hf⟩:=cF hf hne;have hlw:=tC hw;obtain⟨hlx,_⟩:=X.names x _ hg;obtain⟨u,hv,a,bs,rfl,na,p0,hll,hz,nd,nab,nf,rB⟩:=X.inv.get x _ hlx hg;obtain⟨cs,b,rfl,hcs⟩:=Cj hll hlw;apply θ;have hi:aH n hd (env::kg) sc σ (.UnaryOp .USub (.Constant (.int 1) k1 p1) p2) (.ok (.fz (.int (-1)))):=sK (op:=.USub) (z6 (c:=.int 1) (k:=k1) (pos:=p1));refine wpAny_Expr_any ?_ (by unfold interactive;rw[X.inv.kind];rfl) rfl;refine ii rfl (jJ (as:=[e]) (by show(bad e||false)=false;rw[hbad];rfl) (eu rfl) cp env) ((Bool.not_eq_false _).mp hc) (sO ⟨_,λ_ _=>rfl⟩ (eR X.inv hlx hv (hi.val hA X.inv rfl λiv km k2 r2=>?_)));obtain⟨t,rfl⟩:=(show Rep km.heap av iv (.int (-1)) from r2).int_inv;have X2:=X.k k2;have q2:km.heap.PlainList a ((cs++[b]).map Value.ref).toArray:=p0.at λo e=>k2.at na e;have hz1:(cs++[b]).length=cs.length+1:=by simp
 refine⟨⟨"list", _,q2.isList.typeIs,list_getitem_lookup⟩,wpAny_getItem_list_neg (x:=.ref b) q2.isList (by decide) (by rw[cw,List.length_map,hz1];exact Qd) (by decide) (by
  rw[cw,List.length_map,hz1,show((-1:Int)+((cs.length+1:Nat):Int)).toNat=cs.length by exact Qe];simp) ?_⟩
 have hbm:b∈cs++[b]:=jy _ (List.mem_singleton.mpr rfl);have hbl:∀ (s':Shared),K (env::kg) s s'->bL s'.heap av b (.list wl):=λs' k=>(rB cs.length b (.list wl) (by simp) (by rw[hlw,hcs,fq (ae _)];simp)).k X.inv.gnd.fav k (nf b hbm);refine hde λ_ θ=>?_;obtain⟨vs,pb,_⟩:BodyL km.heap av b wl:=hbl km k2;apply θ;refine⟨"list", "list.append", F.plainAttrs_list,F.slot_list_append,by kernel_rfl,pb.isList.typeIs,λa' e=>by cases e;obtain⟨n,e⟩:=pb;exact⟨_,e,rfl⟩,fL (by show(bad e||false)=false;rw[hbad];rfl) (dz ((h σ e).st hA X2 hf hne (λv kq u k3 r3 e3=>dh ?_) he) (fJ hbad))⟩;refine hde λ_ θ=>?_;obtain⟨hlt,e3⟩:=iJ e3 hne;obtain⟨σ',hσ,e4⟩:=cF e3 hne;obtain⟨v0,_,rfl⟩:=eK hσ;have k23:=k2.tr k3;have X3:=X.k k23;have hv3:=hv.k k23;have q3:kq.heap.PlainList a ((cs++[b]).map Value.ref).toArray:=p0.at λo e=>k23.at na e;have hold:cV kq.heap (.ref a) (.pil l) b:=Or.inr ⟨a,_,rfl,q3,hbm⟩;obtain⟨b1,b2,b3,b4⟩:=X3.ownA x b ⟨_,_,hg,hv3,hold⟩;apply θ;refine Cf b1 (hbl kq k23) (r3.rep X2.inv.gnd.avlt) hlt λh' hs hb'=>?_;have hab:a≠b:=λh=>nab (h▸hbm);have p4:h'.PlainList a ((cs++[b]).map Value.ref).toArray:=q3.at λo e=>(hs.2 a hab).trans e;refine hn _ _ _ (X3.mutG (S:=λc=>c=b) (v':=.pil (l.dropLast++[.list (wl++[dOf u])])) (tk:=kq.toks) (ae _) hg hv3 (λc h=>h▸hold) (λc o hc e=>(hs.2 c hc).trans e) (λc h=>h▸hb'.live) (λc hc=>?_) ⟨a,_,rfl,na,p4,?_,hz,nd,nab,nf,λm c d g1 g2=>?_⟩) ((X.frk k23).tr (Fr.off b1 b3 hs)) e4
 ·rcases hc with hc | ⟨r',bs',ee,p',m⟩
  ·exact .inl (Or.inl hc)
  ·obtain rfl:=Value.ref.inj ee;obtain rfl:=lG (iz (lH p4 p'));exact .inl (Or.inr ⟨_,_,rfl,q3,m⟩)
 ·rw[hz1,List.length_append,hcs];rfl
 ·by_cases hm:m < cs.length
  ·have hcb:c≠b:=λh=>by
    rw[er hm] at g1;exact(jr.mp nd).2.2 c (cj g1) b (List.mem_singleton.mpr rfl) h
   rw[er (hcs▸hm)] at g2;exact((rB m c d g1 (by rw[hlw,er (hcs▸hm)];exact g2)).k X.inv.gnd.fav k23 (nf c (cj g1))).mono (fN b1 hs) (λ_ _ _ x=>x) λo e=>(hs.2 c hcb).trans e
  ·rw[fq (Nat.not_lt.mp hm)] at g1;rw[fq (hcs▸Nat.not_lt.mp hm),<- hcs] at g2;cases hj:m - cs.length with
   |zero =>
    rw[hj] at g1 g2;obtain rfl:=si g1;obtain rfl:=si g2;exact hb'
   |succ j=>rw[hj] at g1;exact ns g1
end
section
variable {kg:List Env}{kj:Addr->Prop}
theorem W0{g:Comprehension}{p:Pos}{rec:Scope->aA->Expr->R V}
  (hs:swapsWith (.ListComp elt [g] sc' cpos) (some (.Name x p)) pos.line env=pure true) (hbad:∀ e,bad e=true->rec sc (aA.cl σ xs) e=.no)
  (hit:aH n hd (env::kg) sc (aA.cl σ xs) g.iter (rec sc (aA.cl σ xs) g.iter)) (hsub:∀ f as kws q,g.iter=.Call f as kws q->∀ a∈as,aH n hd (env::kg) sc (aA.cl σ xs) a (rec sc (aA.cl σ xs) a))
  (hT:∀ c∈g.ifs,∀ σ',bY n hd (env::kg) sc' σ' c (rec sc' σ' c)) (hE:∀ σ',aH n hd (env::kg) sc' σ' elt (rec sc' σ' elt)) :
  aU n hd kg env sc ki σ (exec (.Assign [.Name x p] (.ListComp elt [g] sc' cpos) pos) env) λkn _=>rb (jA rec hd sc (aA.cl σ xs) elt g sc') λv=>rb (ofP (cD x v (aA.cl σ xs))) kn:=by
 intro kj A s av hA X kn kr fin Q E hf hne hp hn hr he;refine hde λ_ θ=>?_;obtain⟨av1,Y,hsb⟩:=X.cl xs;apply θ;simp only[exec_Assign_Name_used _ _ _ _ hs];refine aa (cq (aa ?_));simp only[arm_evalThenUse_ListComp];refine aa (az (Bz (Q:=λ_ s'=>Q .next s') hbad hit hsub hT hE hA Y.inv ⟨hf,hne⟩ (λx v s' e f=>he x v s' e (Y.up f)) λke wr D C zs st' k0 hD hC hDC hz F e=>?_) (λ_ s' hq=>ag (ag hq)) λ_ _ e=>e);refine hde λ_ θ=>?_;obtain⟨σ',hσ,e⟩:=cF e hne;obtain⟨v0,hg,rfl⟩:=eK hσ;obtain⟨kk,⟨mC,hnsC⟩,ys,hpl,hyl,hys⟩:=F;have k:=k0.tr kk;have sD:=k0.non hD;have sC:=k0.non hC;obtain⟨d1,d2,d3,d4,d5⟩:=Y.newNot sD;obtain⟨c1,c2,c3,c4,c5⟩:=Y.newNot sC;apply θ;have Z:=Y.growS (S:=λb=>b=D\/b=C) k (λa ha=>ha.elim (λh=>h▸sD) λh=>h▸sC) (λa ha=>ha.elim (λh=>by obtain⟨n,e⟩:=hpl;exact⟨_,h▸e⟩) λh=>by obtain⟨o,es,ep,e,_⟩:=hnsC;exact⟨o,h▸e⟩);have notO:∀ b,¬ av1 b->∀ y,¬ OwnN env (aA.cl σ xs) st'.heap y b:=λb hb y h=>hb (Y.ownA y b (Y.ownK k h)).1;have g:Fr (env::kg) kj s av1 st' (λb=>av1 b\/b=D\/b=C):=⟨(Y.frk k).keep,λb o e h=>h.elim id (λh=>by
  rcases h with h | h
  ·simp only[h,sD] at e;exact ns e
  ·simp only[h,sC] at e;exact ns e),(Y.frk k).pins⟩
 refine il (Z.put hg (v:=.own (.list zs)) ⟨D,rfl,d5,ys,hpl,hyl,by simp only[hyl];exact hz,λj v d e1 e2=>?_⟩ (λa e2=>?_) λs' Z' f hvx hvy=>?_)
 ·exact(hys j v d e1 e2).mono (λ_ _ _ e=>e) λb o _ hb=>hb.imp id .inr
 ·obtain rfl:=Value.ref.inj e2;exact⟨.inr (.inl rfl),d4,d3,d1,λy _=>notO D d2 y⟩
 ·have hown:∀ y a,OwnN env (aA.set (aA.cl σ xs) x (.own (.list zs))) s'.heap y a->¬ a=C:=λy a h ha=>by
   subst ha;refine hde λ_ θ=>?_;obtain⟨v',u',hgy,hv,hh⟩:=h;apply θ
   by_cases hyx:y=x
   ·subst hyx;obtain rfl:=lI hgy;obtain rfl:=a9.uniq hvx hv;exact hDC (Value.ref.inj hh)
   ·have hgy:=jN hyx hgy;exact notO a c2 y (Z.ownBack1 hgy (λu=>hvy y u hyx) (λb hb o e=>f b o (Z.ownA y b hb).2.2.2 e) hv hh)
  refine⟨mC,hnsC.at' λo e=>f C o c1 e,λh' hs'=>?_⟩;have hkeep:∀ b o,¬ b=C->s'.heap.get? b=some o->h'.get? b=some o:=λb o hb e=>by simp only[hs'.2 b hb];exact e
  have W:=Z'.wildS (S:=λb=>b=C) (av':=λb=>(av1 b\/b=D\/b=C)/\b≠C) (h':=h') (tk:=s'.toks) (ae _) (λb hb=>.inr (.inr hb)) (λb hb=>hb▸c4) (λb m h=>c1 (h▸m)) hown hkeep
   (λb hb=>hb.1) (λb hb hb'=>⟨hb,hb'⟩) (λb hb hb'=>absurd hb' hb.2) (λb hb=>⟨.inl (Y.bas b hb),λh=>c3 (h▸hb)⟩)
  have fr:Fr (env::kg) kj s' (λb=>av1 b\/b=D\/b=C) { s' with heap:=h' } (λb=>(av1 b\/b=D\/b=C)/\b≠C):=⟨λb o e hb=>hkeep b o (λh=>hb (.inr (.inr h))) e,λ_ _ _ h=>h.1,λb o hb _ e=>hkeep b o (λh=>c3 (h▸hb)) e⟩
  exact hn _ _ _ W ((Fr.sub hsb).tr (g.tr ((Z.frPut f).tr fr))) e
theorem W1:∀ {es:List Expr} {xs:List Str},dC es=some xs->(assignEach es env).length=xs.length/\(assignEach es env).findIdx? (·.1)=none:=by
 intro v0
 induction v0 with
 |nil =>
  intro xs h;obtain rfl:=si h;exact⟨rfl,rfl⟩
 |cons e es ih =>
  intro xs h;replace h:((bC e).bind λx=>(dC es).map (x::·))=some xs:=h;refine ocs (bC e) (λhx=>?_) λx hx=>?_
  ·rw[hx] at h;exact ns h
  ·rw[hx] at h;obtain⟨p,rfl⟩:=dJ hx;have h:(dC es).map (x::·)=some xs:=h;obtain⟨ys,h1,rfl⟩:=bj.mp h;obtain⟨g1,g2⟩:=ih h1;have e0:assignEach (.Name x p::es) env=(false,assign (.Name x p) env)::assignEach es env:=rfl;rw[e0];refine⟨by simp[g1],?_⟩;rw[List.findIdx?_cons];simp[g2]
theorem Act.putF{Q:Unit->Shared->Prop}(X:Act kg env sc kj ki σ av s)(hx:aA.get σ x=some v0)(hv:Rep s.heap av u d)
  (hq:∀ s',Act kg env sc kj ki (aA.set σ x (.fz d)) av s'->Fr (env::kg) kj s av s' av->Q () s'):wpAny (model O w) A (storeName env x u) Q E s :=
 X.put hx (show bS (env::kg) s.heap av u (.fz d) from hv) (λ_ e=>e.elim) λs' Y f _ _=>hq s' Y (X.frPut f)
theorem W2{Q:Unit->Shared->Prop}:∀ {es:List Expr} {xs:List Str} {ds:List PyData} {vs:List Value} {σ σ':aA} {s:Shared},dC es=some xs->nT xs ds σ=.ok σ'->RL s.heap av vs ds ->
  Act kg env sc kj ki σ av s->(∀ s',Act kg env sc kj ki σ' av s'->Fr (env::kg) kj s av s' av->Q () s')->wpAny (model O w) A (assignInOrder ((assignEach es env).map (·.2)) vs) Q E s:=by
 intro v0
 induction v0 with
 |nil =>
  intro xs ds vs σ σ' s hn hs r X hq;obtain rfl:=si hn;cases ds with
  |cons=>exact pno hs
  |nil =>
   obtain rfl:=pi hs;obtain rfl:=r.nil;exact wpAny_assignInOrder_none (hq s X (Fr.rf _ s av))
 |cons e es ih =>
  intro xs ds vs σ σ' s hn hs r X hq;replace hn:((bC e).bind λx=>(dC es).map (x::·))=some xs:=hn;refine ocs (bC e) (λhx=>?_) λx hx=>?_
  ·rw[hx] at hn;exact ns hn
  ·rw[hx] at hn;refine hde λ_ θ=>?_;obtain⟨p,rfl⟩:=dJ hx;have hn:(dC es).map (x::·)=some xs:=hn;obtain⟨ys,h1,rfl⟩:=bj.mp hn;apply θ;cases ds with
   |nil=>exact pno hs
   |cons d ds =>
    refine hde λ_ θ=>?_;obtain⟨v,vs,rfl,rv,r⟩:=r.cons;obtain⟨σ1,h2,h3⟩:=P.bind_ok hs;obtain⟨v0,hg,rfl⟩:=eK h2;apply θ;show wpAny _ A (assignInOrder (assign (.Name x p) env::(assignEach es env).map (·.2)) (v::vs)) Q E s;refine wpAny_assignInOrder_more (il (X.putF hg rv λs1 Y1 f1=>?_));exact ih h1 h3 ⟨r.1,λi v' d' e1 e2=>(r.2 i v' d' e1 e2).mono (λb o hb e=>f1.keep b o e hb) λ_ _ _ h=>h⟩ Y1 λs' Z fr=>hq s' Z (f1.tr fr)
theorem Ck:∀ {xs:List Str} {ds:List PyData} {σ σ':aA},nT xs ds σ=.ok σ'->xs.length=ds.length
 | [],[],_,_,_=>rfl
 | [],_::_,_,_,h=>by exact pno h
 |_::_,[],_,_,h=>by exact pno h
 |x::xs,d::ds,σ,σ',h=>by
  obtain⟨σ1,_,h2⟩:=P.bind_ok h;have:=Ck h2;simp[this]
theorem W3{l:List PyData}(h:nG d=.ok l):d=.tuple l:=by
 cases d with
 |tuple l'=>obtain rfl:=pi h;rfl
 |_=>exact pno h
theorem Cl{Q:Unit->Shared->Prop}(hh:A.handled=none)(X:Act kg env sc kj ki σ av s)(r:Rep s.heap av v d)(ha:bA target d σ=.ok σ')
  (hq:∀ s',Act kg env sc kj ki σ' av s'->Fr (env::kg) kj s av s' av->Q () s'):wpAny (model O w) A (assign target env v) Q E s:=by
 unfold bA at ha;cases hv:vw target with
 |name x =>
  simp only[hv] at ha;obtain⟨p,rfl⟩:=cA hv;obtain⟨v0,hg,rfl⟩:=eK ha;exact il (X.putF hg r hq)
 |tup es =>
  simp only[hv] at ha;obtain⟨k,p,rfl⟩:=cA hv;obtain⟨ds,h1,ha1⟩:=P.bind_ok ha;clear ha;cases W3 h1;obtain⟨xs,h2,ha⟩:=P.bind_ok ha1;clear ha1;refine ocs (dC es) (λhn=>?_) λys hn=>?_
  ·simp only[hn] at h2;exact pno h2
  ·simp only[hn] at h2;obtain rfl:=pi h2;obtain⟨ad,vs,rfl,g1,g2,g3,g4,g5⟩:=r.tuple_inv;obtain⟨e1,e2⟩:=W1 (env:=env) hn;refine wpAny_assign_Tuple hh g2.isTuple (by simp only[e1,Ck ha,<- g3];simp) e2 λh1 he=>?_;have k1:∀ b o,s.heap.get? b=some o->h1.get? b=some o:=λb o e=>he b o (lD e) e;have kk:K (env::kg) s { s with heap:=h1 }:=K.of ⟨h1,s.toks,rfl,k1⟩ (ae _);exact W2 hn ha ⟨g3,λi v d q1 q2=>(g5 i v d q1 q2).keeps k1⟩ (X.k kk) λs' Z fr=>hq s' Z ((X.frk kk).tr fr)
 |_=>simp only[hv] at ha;exact pno ha
theorem W4(h:rE e=true):∃ f as kws q,e=.Call f as kws q:=by
 unfold rE at h;cases hv:vw e with
 |call f as kws q=>exact⟨f,as,kws,q,cA hv⟩
 |_=>rw[hv] at h;exact bft h
theorem W5{k:Nat}{p:Pos}(h:aH n hd (env::kg) sc (aA.cl σ xs) e (ev (aA.cl σ xs) e)):
  aU n hd kg env sc ki σ (exec (.Assign [.Tuple es k p] e pos) env) λkn _=>zQ ev hd (aA.cl σ xs) (.Tuple es k p) e kn:=by
 intro kj A s av hA X kn kr fin Q E hf hne hp hn hr he;obtain⟨av1,Y,hsub⟩:=X.cl xs;obtain⟨hc,hf⟩:=iJ hf hne;have go:wpAny (model O w) A (eval e env) (λv ke=>wpAny (model O w) A (assign (.Tuple es k p) env v) (λ_=>Q .next) E ke) E s:=by
  refine h.st hA Y hf hne (λv ke u k1 r e1=>?_) he;obtain⟨σ',hσ,e2⟩:=cF e1 hne;exact Cl (hA.handled hc.2) (Y.k k1) (r.rep Y.inv.gnd.avlt) hσ λs' Z fr=>hn _ _ _ Z ((Fr.sub hsub).tr ((Y.frk k1).tr fr)) e2
 rcases hc.1 with hc | hc
 ·obtain⟨f,as,kws,q,rfl⟩:=W4 hc;exact wpAny_Assign_stores go rfl rfl
 ·obtain⟨y,hy⟩:=ij.mp hc;obtain⟨q,rfl⟩:=dJ hy;exact wpAny_Assign_stores go rfl rfl
theorem ifE{p:Prop}[Decidable p]{x:Option α}{c:α}(h:(if p then x else none)=some c):p/\x=some c:=by
 by_cases hp:p
 ·rw[if_pos hp] at h;exact⟨hp,h⟩
 ·rw[if_neg hp] at h;exact ns h
theorem W6{o:Expr}{F:Expr->Expr->Option α}{c:α}(h:(match vw o with | .sub b i=>F b i | _=>none)=some c):∃ b i p,o=.Subscript b i p/\F b i=some c:=by
 refine hde λ_ θ=>?_
 revert h
 cases hv:vw o with
 |sub b i=>intro h;obtain⟨p,e⟩:=cA hv;exact θ ⟨b,i,p,e,h⟩
 |_=>intro h;exact ns h
theorem Cm{F:Expr->Option α}{c:α}(h:(match as with | []=>none | e::r=>(match r with | []=>F e | _::_=>none))=some c):∃ e,as=[e]/\F e=some c:=by
 cases as with
 |nil=>exact ns h
 |cons a r =>
  cases r with
  |cons=>exact ns h
  |nil=>exact⟨a,rfl,h⟩
theorem W7{c:Str×Pos×Pos}(h:kX e=some c):∃ tp xp tq,e=.Call (.Name "tuple" tp) [.Call (.Attribute (.Name c.1 xp) "pop" c.2.1) [] [] c.2.2] [] tq:=by
 refine hde λ_ θ=>?_;obtain⟨c1,h1,h2⟩:=ob h;obtain⟨hf,h3⟩:=ifE h2;obtain⟨a,e1,h4⟩:=Cm h3;obtain⟨m,h5,h6⟩:=ob h4;obtain⟨hc,h7⟩:=ifE h6;obtain⟨p,q,e2⟩:=sA h1;obtain⟨xp,e3⟩:=Ci h5;refine θ ⟨p,xp,q,?_⟩;rw[e2,hf,e1,e3,hc.1,List.isEmpty_iff.mp hc.2,<- Option.some.inj h7]
theorem W8{rec:Scope->aA->Expr->R V}(hbad:∀ sc σ e,bad e=true->rec sc σ e=.no)(hc:C.hd=hd)
  (ihr:∀ sc σ e,aH n hd (env::kg) sc σ e (rec sc σ e)/\bY n hd (env::kg) sc σ e (rec sc σ e))
  (h:∀ σ e,aH n hd (env::kg) sc σ e (fG rec C sc σ e)) {t e:Expr} {pos:Pos}:aU n hd kg env sc ki σ (exec (.Assign [t] e pos) env) λkn _=>rT (fG rec C sc) F hd sc σ t e kn:=by
 unfold rT;cases hv:vw t with
 |name x =>
  obtain⟨p,rfl⟩:=cA hv;show aU n hd kg env sc ki σ _ λkn _=>match kU e with
   |some k=>rb (ofP (cD x (.pil (List.replicate k (.list []))) σ)) kn
   |none=>match kX e with
    |some c=>nW sc σ x c.1 c.2.1 c.2.2 kn
    |none=>rb (fG rec C sc (aA.cl σ (esc F e)) e) λv=>rb (ofP (cD x v (aA.cl σ (esc F e)))) kn
  cases hpe:kU e with
  |some k =>
   refine hde λ_ θ=>?_;obtain⟨es,q,rfl,p1,p2,rfl⟩:=Wt hpe;apply θ;exact Wu p1 p2
  |none =>
  show aU n hd kg env sc ki σ _ λkn _=>match kX e with
    |some c=>nW sc σ x c.1 c.2.1 c.2.2 kn
    |none=>rb (fG rec C sc (aA.cl σ (esc F e)) e) λv=>rb (ofP (cD x v (aA.cl σ (esc F e)))) kn
  cases hpt:kX e with
  |some c =>
   obtain⟨tp,xp,tq,rfl⟩:=W7 hpt;exact Wy
  |none =>
  refine bcs (hY e) (λhcm=>Cb (swz hcm) (h _ e)) λhcm=>z0 (P:=λe=>aU n hd kg env sc ki σ (exec (.Assign [.Name x p] e pos) env) λkn _=>rb (fG rec C sc (aA.cl σ (esc F e)) e) λv=>rb (ofP (cD x v (aA.cl σ (esc F e)))) kn) hcm (λelt gens sc' cpos=>?_) (λ_ _ _ _=>aU.no) λ_ _ _ _ _=>aU.no;cases gens with
  |nil=>exact aU.no
  |cons g gs =>
   cases gs with
   |cons=>exact aU.no
   |nil =>
    obtain⟨b,hsw⟩:∃ b:Bool,swapsWith (.ListComp elt [g] sc' cpos) (some (.Name x p)) pos.line env=pure b:=⟨_,rfl⟩
    cases b with
    |false=>exact Cb hsw (h _ _)
    |true =>
     show aU n hd kg env sc ki σ _ λkn _=>rb (jA rec C.hd sc _ elt g sc') λv=>rb (ofP (cD x v _)) kn;rw[hc];exact W0 hsw (hbad sc _) (ihr _ _ _).1 (λ_ _ _ _ _ a _=>(ihr _ _ a).1) (λc _ σ'=>(ihr _ _ c).2) λσ'=>(ihr _ _ elt).1
 |sub o i =>
  obtain⟨p,rfl⟩:=cA hv;show aU n hd kg env sc ki σ _ λkn _=>match bC o with | some x=>rP (fG rec C sc) (aA.cl σ (esc F e)) x i e kn | none=>.no
  cases hn:bC o with
  |none=>exact aU.no
  |some x =>
   obtain⟨q,rfl⟩:=dJ hn;exact Wr h
 |tup es =>
  obtain⟨k,p,rfl⟩:=cA hv;exact W5 (h _ e)
 |_=>exact aU.no
theorem W9{c:Const}(h:jB e=some c):∃ k p,e=.Constant c k p:=by
 unfold jB at h;cases hv:vw e with
 |cst c'=>rw[hv] at h;obtain rfl:=si h;exact cA hv
 |_=>rw[hv] at h;exact ns h
theorem Xa(h:zR e=true):∃ k p p',e=.UnaryOp .USub (.Constant (.int 1) k p) p':=by
 cases e with
 |UnaryOp op e p' =>
  cases op with
  |USub =>
   replace h:(match jB e with | some c=>(match c with | .int i=>decide (i=1) | _=>false) | none=>false)=true:=h;cases hl:jB e with
   |none=>rw[hl] at h;exact bft h
   |some c =>
    rw[hl] at h;obtain⟨k,p,rfl⟩:=W9 hl;cases c with
    |int i=>obtain rfl:i=1:=of_decide_eq_true h;exact⟨k,p,p',rfl⟩
    |_=>exact bft h
  |_=>exact bft h
 |_=>exact bft h
theorem Xb{c:Str×Expr×Pos×Pos}(h:nX e=some c):∃ xp k p1 p2 p3,bad c.2.1=false/\e=.Call (.Attribute (.Subscript (.Name c.1 xp) (.UnaryOp .USub (.Constant (.int 1) k p1) p2) p3) "append" c.2.2.1) [c.2.1] [] c.2.2.2:=by
 refine hde λ_ θ=>?_;obtain⟨c1,h1,h3⟩:=ob h;obtain⟨a,h2,h4⟩:=ob h3;obtain⟨hm,h5⟩:=ifE h4;obtain⟨b,i,p3,e3,h6⟩:=W6 h5;obtain⟨x,h7,h8⟩:=ob h6;obtain⟨hi,h9⟩:=ifE h8;obtain⟨e',e4,h10⟩:=Cm h9;obtain⟨hn,h11⟩:=ifE h10;obtain⟨e5,e6⟩:=oF h11;obtain⟨y,hy⟩:=ij.mp hn;obtain⟨yp,e7⟩:=dJ hy;obtain⟨xp,e8⟩:=dJ h7;obtain⟨k,p1,p2,e9⟩:=Xa hi;refine θ ⟨xp,k,p1,p2,p3,?_,?_⟩
 ·rw[<- e6,e7];rfl
 ·rw[oG h1,zX h2,e3,hm,e4,e5,e8,e9,<- e6]
theorem Xc(hbad:∀ σ e,bad e=true->ev σ e=.no)(h:∀ σ e,aH n hd (env::kg) sc σ e (ev σ e)):aU n hd kg env sc ki σ (exec (.Expr e pos) env) λkn _=>rU ev F σ e kn:=by
 unfold rU;cases hm:nV e with
 |some c =>
  obtain⟨x,m,ap,as,cp⟩:=c;obtain⟨xp,rfl⟩:=Ci hm;show aU n hd kg env sc ki σ _ λkn _=>if rR m as=true then rS σ x ap cp kn else kY ev (aA.cl σ (as.flatMap (esc F))) x m ap as cp kn;refine bcs (rR m as) (λhb=>?_) λhb=>?_
  ·rw[hb];exact Wk hbad λe _=>h _ e
  ·rw[hb];obtain⟨h1,h2⟩:=ax.mp hb;obtain rfl:=of_decide_eq_true h1;cases as with
   |nil=>exact bft h2
   |cons a r =>
    cases r with
    |cons=>exact bft h2
    |nil =>
     obtain⟨q,rfl⟩:=Ch h2;exact Ww
 |none =>
  cases hc:hY e with
  |true=>exact aU.no
  |false =>
   show aU n hd kg env sc ki σ _ λkn _=>match nX e with
    |some c=>rQ ev σ c.1 c.2.1 c.2.2.1 c.2.2.2 kn
    |none=>rb (ev (aA.cl σ (esc F e)) e) λ_=>kn (aA.cl σ (esc F e))
   cases hl:nX e with
   |none=>exact Wf hc (h _ e)
   |some c =>
    obtain⟨xp,k1,p1,p2,p3,hb,rfl⟩:=Xb hl;exact Wz hb h
end
section
variable {kg:List Env}{kj:Addr->Prop}
theorem bD.weaken{u:V}(hw:∀ b,kj b->li b)(r:bD ki h li v u):bD ki h kj v u:=by
 cases u with
 |ex x=>exact r
 |pil l=>exact r
 |fz d=>exact(show Rep h li v d from r).mono (λ_ _ _ e=>e) λb _ _ x=>hw b x
 |own d=>obtain⟨a,e,hn,rb⟩:=r;exact⟨a,e,hn,rb.mono (λ_ _ _ e=>e) (λb _ _ x=>x.imp (hw b) id) λ_ e=>e⟩
theorem Xd{km:Shared}{b:List Stmt}{body:aA->KN->KR->R V}
  (hA:Room n hd (env::kg) A) (hh:A.handled=none) (Y:Act kg env sc kj ki σ av s) (hb:∀ σ,aU n hd kg env sc ki σ (execs b env) (body σ))
  (k:Kp s km) (mt:s.toks<=km.toks) (S:Src A s.heap av t it wr St ds) (hst:St 0 km.heap) (hwr:∀ b,wr b->s.heap.get? b=none/\∃ o,km.heap.get? b=some o)
  {kn:KN} {kr:KR} {fin:R V} {Q:Flow->Shared->Prop} {E:Value->Shared->Prop} (hf:a8 body t ds σ kn kr=fin) (hne:fin≠.no) (hp:PassesOwn (model O w) A env E)
  (hn:∀ s' σ' av',Act kg env sc kj ki σ' av' s'->Fr (env::kg) kj s av s' av'->kn σ'=fin->Q .next s') (hr:∀ v s' u,K kg ki s'->bD ki s'.heap kj v u->kr u=fin->Q (.ret v) s')
  (he:∀ x v s',fin=.exc x->Upx kg env ki kj x v s'->E v s') :
  codeAny (model O w) A (.forLoop t it b [] env) (λr s'=>match r with | .ok f=>Q f s' | .error e=>cameBackBy (model O w) A env E e s') km:=by
 have kk:K (env::kg) s km:=K.of k mt;have Z:=Y.pin (S:=wr) kk (λa ha=>(hwr a ha).1) (λa ha=>(hwr a ha).2);have fr0:Fr (env::kg) kj s av km (λb=>av b\/wr b):=⟨(Y.frk kk).keep,λb o e h=>h.elim id (λh=>by rw[(hwr b h).1] at e;exact ns e),(Y.frk kk).pins⟩
 have nw:∀ b,wr b->¬ Mn env b/\¬ av b/\¬ kj b/\ki.heap.get? b=none/\¬ frs (env::kg) b:=λb h=>Y.newNot (hwr b h).1;have hM:∀ b,Mn env b->¬ wr b:=λb m h=>(nw b h).1 m;have not0:∀ b,kj b->¬ wr b:=λb x h=>(nw b h).2.2.1 x;have hf0:∀ b,frs kg b->kj b:=λb h=>(Y.fr0 b h).1;refine codeAny_forLoop_any (λk st=>∃ (i:Nat) (σi:aA) (avi:Addr->Prop),i+k=ds.length/\Act kg env sc (λb=>kj b\/wr b) ki σi avi st/\Fr (env::kg) kj s av st avi/\St i st.heap/\a8 body t (ds.drop i) σi kn kr=fin) ?_ ds.length
  ⟨0,σ,_,ce _,Z,fr0,hst,hf⟩
 rintro k' st ⟨i,σi,avi,hi,X,fr,sti,hfi⟩
 by_cases hend:i=ds.length
 ·subst hend;rw[List.drop_length] at hfi;refine az (S.doneT (Q:=λs'=>Q .next s') sti λh' tk hk mt=>hn _ σi (λb=>avi b/\¬ wr b) ?_ (fr.tr ⟨λb o e hb=>hk b o (λhw=>hb (X.bas b (.inr hw))) e,λ_ _ _ h=>h.1,λb o hb _ e=>hk b o (not0 b hb) e⟩) hfi) (λr ke ku=>?_) λ_ _ x=>x
  ·exact(X.weaken (λb hb=>.inl hb) hf0).wildS (S:=wr) mt (λb hb=>X.bas b (.inr hb)) (λb h=>(nw b h).2.2.2.1) hM (λx a h hw=>(X.ownA x a h).2.2.1 (.inr hw)) hk (λb hb=>hb.1) (λb hb hw=>⟨hb,hw⟩) (λb hb hw=>absurd hw hb.2) (λb hb=>⟨X.bas b (.inl hb),not0 b hb⟩)
  ·cases r with
   |none=>exact wpAny_execs_nil ku
   |some v=>exact ku.elim
 ·have hlt:i < ds.length:=xL hi hend;rw[List.drop_eq_getElem_cons hlt] at hfi;obtain⟨σ1,hasg,hfi⟩:=cF (show rb (ofP (bA t ds[i] σi)) (λσ=>body σ (λσ=>a8 body t (ds.drop (i+1)) σ kn kr) kr)=fin from hfi) hne;refine az (S.itemT (Q:=?QQ) (bg hlt) sti ?body) ?link λ_ _ x=>x
  case link =>
   intro r ke ku;cases r with
   |none=>exact ku.elim
   |some v=>exact ku
  intro v h1 tk1 hk1 st1 hrep mt1;have X1:Act kg env sc (λb=>kj b\/wr b) ki σi avi { st with heap:=h1,toks:=tk1 } :=
   X.wildS (S:=wr) mt1 (λb hb=>X.bas b (.inr hb)) (λb h=>(nw b h).2.2.2.1) hM (λx a h hw=>(X.ownA x a h).2.2.1 (.inr hw)) hk1 (λb hb=>hb) (λb hb _=>hb) (λb _ hw=>S.live _ _ st1 b hw) X.bas
  have rv:=hrep avi X.inv.gnd.avlt fr.grow;have fr1:Fr (env::kg) kj st avi { st with heap:=h1,toks:=tk1 } avi:=⟨λb o e hb=>hk1 b o (λhw=>hb (X.bas b (.inr hw))) e,λ_ _ _ h=>h,λb o hb _ e=>hk1 b o (not0 b hb) e⟩
  refine Cl hh X1 rv hasg λs2 Y2 fr2=>wpAny_passesOwn hp ?_;refine hb σ1 _ A s2 avi hA Y2 hfi hne hp (λs3 σ3 av3 Y3 fr3 e3=>?_) (λv s' u k r e=>hr v s' u k (r.weaken λ_ h=>.inl h) e) λx v s' e u=>he x v s' e (u.weaken λ_ h=>.inl h);have frA:=fr1.tr ((fr2.weaken λb hb=>.inl hb).tr (fr3.weaken λb hb=>.inl hb));refine⟨k' - 1,by exact qS hi hend,i+1,σ3,av3,by exact qT hi hend,Y3,fr.tr frA,S.frame _ _ _ st1 (λb o hw e=>fr3.pins b o (.inr hw) (nw b hw).2.2.2.2 (fr2.pins b o (.inr hw) (nw b hw).2.2.2.2 e)) (fr.tr frA).keep,e3⟩
theorem Xe{it:Expr}{k:List PyData->R V}{fin:R V}(h:rb (fV rec hd sc t it) k=fin)(hne:fin≠.no):hd=false:=by
 cases hd with
 |false=>rfl
 |true=>exact absurd h.symm hne
theorem Xf(hbad:∀ σ e,bad e=true->ev σ e=.no)(h:∀ σ e,aH n hd (env::kg) sc σ e (ev σ e)){it:Expr}{b:List Stmt}{body:aA->KN->KR->R V}
  (hb:∀ σ,aU n hd kg env sc ki σ (execs b env) (body σ)) :
  aU n hd kg env sc ki σ (exec (.For t it b [] pos) env) λkn kr=>rb (fV (ev (aA.cl σ xs)) hd sc t it) λl=>a8 body t l (aA.cl σ xs) kn kr:=by
 intro kj A s av hA X kn kr fin Q E hf hne hp hn hr he;refine hde λ_ θ=>?_;obtain⟨av1,Y,hsb⟩:=X.cl xs;apply θ;have hh:=hA.handled (Xe hf hne);have hb':bad it=false:=fK (λe=>By (hbad _) e) (Fin.ne ⟨hf,hne⟩);have hs:∀ x,foldedSetIterable it env x=pure x:=zZ hb';refine wpAny_For (Bn (target:=t) (hbad _) (h _ it) (λ_ _ _ _ _ a _=>h _ a) A env s av1 hA Y.inv ⟨hf,hne⟩ (λitv km ds x e=>?_) λx v s' e f=>he x v s' e (Y.up f)) hs;obtain⟨ke,wr,St,k0,S,hst,hwr,k2,_,mt⟩:=x;exact Xd hA hh (Y.k k0) hb k2 mt S hst hwr e hne hp (λs' σ' av' Z f e=>hn s' σ' av' Z ((Fr.sub hsb).tr ((Y.frk k0).tr f)) e) hr he
end
section
variable {nm q:Str}{C N:Addr}{bs:List Value}{hdct:Bool}{sn:List Str}{sub:List Value}{ab:Bool}{col:Option Bool}{dd:Option Addr}{k0 k1 k2 k3 k5:Option Value}{newId:String}
theorem Xg{x:Sem Value}{Q:Flow->Shared->Prop}(hbase:bm.contains (.type "BaseException")=true)(hh:A.handled=none)
  (h:wpAny M A x (λv ke=>∃ (e:Addr) (dx:Option Addr) (t:Addr),v=.ref e/\ke.heap.get? C=some (excClassObj nm q C N bs bm hdct sn sub ab col dd k0 k1 k2 k3 k5 newId)/\ke.heap.get? e=some { cls:=.ref C,dict:=dx,data:=.fields #[.ref t,.none,.none,.none,.bool false,.none] }/\E (.ref e) ke) E s) :
  wpAny M A (raiseStmt env (some x) none) Q E s:=by
 have hcB:(Value.ref C::bm).contains (.type "BaseException")=true:=by rw[List.contains_cons,hbase,jc]
 unfold raiseStmt;refine aa (az h (λv ke ku=>?_) λ_ _ x=>x);refine hde λ_ θ=>?_;obtain⟨e,dx,t,rfl,hC,he,hE⟩:=ku;obtain⟨hp,g,d,tk,os⟩:=ke;apply θ
 repeat (first | with_reducible refine ca he ?_ | with_reducible refine ca hC ?_ | (with_reducible refine fu hC ?_;rw[hcB]) | wp_step)
 exact wpAny_raiseNew_none hh hE
theorem Xh{np pos:Pos}{args:List Expr}{Q:Flow->Shared->Prop}(hbase:bm.contains (.type "BaseException")=true)(hh:A.handled=none)(hs:args.any bad=false)
  (h:wpAny M A (eval (.Name x np) env) (λf ke=>f=.ref C/\wpAny M A (spliced (backTo cpos (starEach args env))) (λvs km=>km.heap.get? C=some (excClassObj nm q C N bs bm hdct sn sub ab col dd k0 k1 k2 k3 k5 newId) /\
   wpAny M A (call (.ref C) vs) (λv kq=>∃ (e:Addr) (dx:Option Addr) (t:Addr),v=.ref e/\kq.heap.get? C=some (excClassObj nm q C N bs bm hdct sn sub ab col dd k0 k1 k2 k3 k5 newId)/\kq.heap.get? e=some { cls:=.ref C,dict:=dx,data:=.fields #[.ref t,.none,.none,.none,.bool false,.none] }/\E (.ref e) kq) E km) E ke) E s) :
  wpAny M A (exec (.Raise (some (.Call (.Name x np) args [] cpos)) none pos) env) Q E s:=by
 have hplain:=oU (env:=env) (pos:=cpos) hs;rw[arm_exec_Raise];refine aa (cq (Xg (C:=C) (nm:=nm) (q:=q) (N:=N) (bs:=bs) (bm:=bm) (hdct:=hdct) (sn:=sn) (sub:=sub) (ab:=ab) (col:=col) (dd:=dd) (k0:=k0) (k1:=k1) (k2:=k2) (k3:=k3) (k5:=k5) (newId:=newId) hbase hh ?_));refine aa (az (wpAny_Call_ofName (az h (λf ke ku=>?_) λ_ _ x=>x)) (λv kq ld=>aa (cq (ag ld))) λ_ _ x=>x);obtain⟨rfl,ku⟩:=ku;unfold callWith;refine aa (bl (oS hs (az ku (λa km lc=>aa (cq ?_)) λ_ _ x=>x)));obtain⟨hC,lc⟩:=lc;rw[hplain];obtain⟨hp,g,d,tk,os⟩:=km;refine aa (wpAny_keeperOf_exc hC ?_);exact aa (az lc (λv kq ld=>aa (bl (wpAny_point (ag ld)))) λ_ _ x=>x)
end
section
variable {O:Program}{w:World}{g:Array GenState}{d:Drawn}{t:Nat}{os:OsState}
variable {nm q:Str}{C N:Addr}{bs:List Value}{hdct:Bool}{sn:List Str}{sub:List Value}{ab:Bool}{col:Option Bool}{dd:Option Addr}{k0 k1 k2 k3 k5:Option Value}{B newId initId:String}
end
section
open Builtin Builtin.ObjectAttr
inductive TailN(h:Heap)(bmB:List Value)(ns:List Str):List Value->Prop
 |base:TailN h bmB ns bmB
 |own {A:Addr} {c0:Value} {dd:Option Addr} {cd:ClassData} {sl:Array (Option Value)} {mA:Str->Option Value} {tl:List Value} :
   h.get? A=some { cls:=c0,dict:=dd,data:=.cls cd,slots:=sl }->h.Ns cd.ns mA->(∀ n∈ns,mA n=none)->TailN h bmB ns tl->TailN h bmB ns (.ref A::tl)
theorem TailN.tail{tl:List Value}{ns:List Str}(hi:Str.ofString "__init__" ∈ ns)(T:TailN h bmB ns tl):OwnTail h bmB tl:=by
 induction T with
 |base=>exact .base
 |own h1 h2 h3 _ ih=>exact .own h1 h2 (h3 _ hi) ih
theorem TailN.keeps{tl:List Value}{ns:List Str}(hk:∀ b o,h.get? b=some o->h'.get? b=some o)(T:TailN h bmB ns tl):TailN h' bmB ns tl:=by
 induction T with
 |base=>exact .base
 |own h1 h2 h3 _ ih=>exact .own (hk _ _ h1) (h2.keeps hk) h3 ih
theorem TailN.less{tl:List Value}{ns ns':List Str}(hs:∀ n∈ns',n∈ns)(T:TailN h bmB ns tl):TailN h bmB ns' tl:=by
 induction T with
 |base=>exact .base
 |own h1 h2 h3 _ ih=>exact .own h1 h2 (λn hn=>h3 n (hs n hn)) ih
theorem TailN.refuse{tl:List Value}{ns:List Str}(T:TailN h bmB ns tl){self:Value}{what:Str}(hp:refuseLoop self what bmB=pure ()):refuseLoop self what tl=pure ():=by
 induction T with
 |base=>exact hp
 |own _ _ _ _ ih=>rw[refuseLoop_ref];exact ih
section
variable {g:Array GenState}{d:Drawn}{t:Nat}{os:OsState}
variable {nm q:Str}{C N:Addr}{bs:List Value}{hdct:Bool}{sn:List Str}{sub:List Value}{ab:Bool}{col:Option Bool}{dd:Option Addr}{k0 k1 k2 k3 k5:Option Value}{B newId:String}{mN:Str->Option Value}{ns:List Str}
theorem Xi{tl:List Value}{n:Str}{y:Option Value}{Q:Option Value->Shared->Prop}(T:TailN h bmB ns tl)(hn:n∈ns)(hrest:lookupAlong bmB n=pure y)(hq:Q y ⟨h,g,d,t,os⟩):wpAny M A (lookupAlong tl n) Q E ⟨h,g,d,t,os⟩:=by
 induction T with
 |base=>rw[hrest];exact ag hq
 |own h1 h2 h3 _ ih =>
  rw[lookupAlong_cons];refine aa (wpAny_classOwn_cls h1 h2 ?_);rw[h3 n hn];exact ih
theorem tD{n:Str}{y:Option Value}{Q:Option Value->Shared->Prop}(hC:h.get? C=some (excClassObj nm q C N bs bm hdct sn sub ab col dd k0 k1 k2 k3 k5 newId))(hN:h.Ns N mN)(T:TailN h bmB ns bm)(hbm:mroOf (.type B)=pure bmB)(hn:n∈ns)(h0:mN n=none)
  (hB:typeLookup (.type B) n=pure y) (hq:Q y ⟨h,g,d,t,os⟩):wpAny M A (typeLookup (.ref C) n) Q E ⟨h,g,d,t,os⟩:=by
 have hrest:lookupAlong bmB n=pure y:=by rw[typeLookup_eq,hbm] at hB;exact hB
 rw[typeLookup_eq];refine aa (wpAny_mroOf_exc hC ?_);rw[lookupAlong_cons];refine aa (wpAny_classOwn_exc hC hN ?_);rw[h0];exact Xi T hn hrest hq
end
end
theorem tE:∀ {ps:List Str} {us:List α} {x:Str} {v:α},(ps.zip us).lookup x=some v->∃ i:Nat,ps[i]?=some x/\us[i]?=some v
 | [],_,_,_,h=>by simp at h
 |_::_,[],_,_,h=>by simp at h
 |p::ps,u::us,x,v,h=>by
  rw[List.zip_cons_cons,List.lookup_cons] at h;refine bcs (x==p) (λhb=>?_) λhb=>?_
  ·rw[hb] at h;obtain⟨i,h1,h2⟩:=tE h;exact⟨i+1,by simpa using h1,by simpa using h2⟩
  ·rw[hb] at h;obtain rfl:=si h;exact⟨0,by simp[beq_iff_eq.mp hb],rfl⟩
theorem tF:∀ {ps:List Str} {us:List α} {x:Str} {v:α} {i:Nat},ps.Nodup->ps[i]?=some x->us[i]?=some v->(ps.zip us).lookup x=some v
 | [],_,_,_,_,_,h,_=>by simp at h
 |_::_,[],_,_,_,_,_,h=>by simp at h
 |p::ps,u::us,x,v,i,hn,h1,h2=>by
  rw[List.zip_cons_cons,List.lookup_cons];cases i with
  |zero =>
   simp at h1 h2;subst h1;subst h2;simp
  |succ i =>
   simp at h1 h2;have hne:(x==p)=false:=by
    rw[beq_eq_false_iff_ne];intro e;subst e;exact(bo.mp hn).1 (cj h1)
   rw[hne];exact tF (bo.mp hn).2 h1 h2
theorem Cn:∀ (ps:List Str) (vs:List Value) (f:Str->Option Value),ps.length=vs.length->(∀ (i:Nat) x v,ps[i]?=some x->vs[i]?=some v->f x=some v)->(ps.filterMap λn=>(f n).map (n,·))=ps.zip vs
 | [],[],_,_,_=>rfl
 | [],_::_,_,h,_=>by simp at h
 |_::_,[],_,h,_=>by simp at h
 |p::ps,v::vs,f,hl,h=>by
  have h0:=h 0 p v rfl rfl;rw[List.filterMap_cons,h0,List.zip_cons_cons];simp only[Option.map_some];rw[Cn ps vs f (by simpa using hl) λi x v' h1 h2=>h (i+1) x v' (by simpa using h1) (by simpa using h2)]
theorem Co{c:Bool}{x y z:α}(h:c=false)(e:y=z):(if c=true then x else y)=z:=by rw[h];exact e
theorem Xj{fd:FuncData}{as:List Arg}{kwd:List (Option Expr)}{dfl:List Expr}(hp:fd.params=⟨[],as,none,[],kwd,none,dfl⟩)(hd:fd.defaults=.none)(hl:as.length=vals.length)(hn:(as.map (·.arg)).Nodup):
  bindArgs fd ⟨vals,[]⟩=pure ((as.map (·.arg)).zip vals):=by
 have hf:((as.map (·.arg)).filterMap λn=>(((as.map (·.arg)).zip vals).lookup n).map (n,·))=(as.map (·.arg)).zip vals :=
  Cn _ _ _ (by simpa using hl) λi x v h1 h2=>tF hn h1 h2
 have hm:((as.map (·.arg)).filter λn=>(((as.map (·.arg)).zip vals).lookup n).isNone)=[]:=by
  rw[gh];intro x hx;obtain⟨i,hi⟩:=List.mem_iff_getElem?.mp hx;have hlt:i < vals.length:=by
   have:=(cr.mp hi).1;simp at this;exact Hs hl this
  rw[tF hn hi (bg hlt)];simp
 obtain⟨nm,qn,pr,bd,sc,gl,cl,df,kd,dc,pm,an,cd,ct,bt⟩:=fd;obtain rfl:pr=_:=hp;obtain rfl:df=_:=hd;refine Co (c:=decide (vals.length > (as.map (·.arg)).length)&&true) (by simp[hl]) ?_;dsimp only [List.map_nil,jd,Option.getD_none,Array.toList_empty,List.length_nil,bz];simp only[List.drop_nil];refine Co (c:=!(List.filter (λn=>(((as.map (·.arg)).zip vals).lookup n).isNone) (List.take ((as.map (·.arg)).length - 0) (as.map (·.arg)))).isEmpty) ?_ ?_
 ·rw[Nat.sub_zero,jo];exact congrArg (λl=>!List.isEmpty l) hm
 ·dsimp only [List.length_nil,Nat.sub_zero];simp only[List.drop_length];exact congrArg (pure (f:=Sem)) ((congrArg (List.filterMap _) (bz _)).trans hf)
theorem Cp:∀ {ps:List Str} {vs:List Value} {m:Str->Option Value} {x:Str},x∉ps->bindL kindOf (ps.zip vs) m x=m x
 | [],_,_,_,_=>rfl
 |_::_,[],_,_,_=>rfl
 |p::ps,v::vs,m,x,h=>by
  show bindL kindOf (ps.zip vs) _ x=m x;simp at h;rw[Cp h.2]
  split
  ·exact if_neg h.1
  ·rfl
theorem Cq:∀ {ps:List Str} {vs:List Value} {m:Str->Option Value} {x:Str} {v:Value} {i:Nat},ps.Nodup->ps[i]?=some x->vs[i]?=some v->kindOf x=some .local->bindL kindOf (ps.zip vs) m x=some v
 | [],_,_,_,_,_,_,h,_,_=>by simp at h
 |_::_,[],_,_,_,_,_,_,h,_=>by simp at h
 |p::ps,u::vs,m,x,v,i,hn,h1,h2,hk=>by
  show bindL kindOf (ps.zip vs) _ x=some v;obtain⟨n1,n2⟩:=bo.mp hn;cases i with
  |zero =>
   simp at h1 h2;subst h1;subst h2;rw[Cp n1,if_pos hk];exact if_pos rfl
  |succ i=>exact Cq n2 (by simpa using h1) (by simpa using h2) hk
section
open Builtin Builtin.ObjectAttr
section
variable {O:Program}{w:World}{g:Array GenState}{d:Drawn}{t:Nat}{os:OsState}{dx:Addr}{vs:Array Value}
 {nm q:Str} {C N:Addr} {bs bm:List Value} {hdct:Bool} {sn:List Str} {sub:List Value} {ab:Bool} {col:Option Bool} {dd:Option Addr} {k0 k1 k2 k3 k5:Option Value} {newId:String} {mN m:Str->Option Value} {ns:List Str} {name:Str} {v:Value}
theorem Xk{nameV:Value}{Q:Unit->Shared->Prop}(hC:h.get? C=some (excClassObj nm q C N bs bm hdct sn sub ab col dd k0 k1 k2 k3 k5 newId))(hbm:bm.contains (.type "BaseException")=true)
  (hx:h.get? a=some o) (hc:o.cls=.ref C) (hq:Q () ⟨h,g,d,t,os⟩):wpAny M A (checkBuiltinCall "BaseException.__getattribute__" ⟨[.ref a,nameV],[]⟩) Q E ⟨h,g,d,t,os⟩:=by
 have hk:builtinKind "BaseException.__getattribute__" = some .slot:=by decide +kernel
 have hsplit:splitId "BaseException.__getattribute__" = some ("BaseException", "__getattribute__"):=by decide +kernel
 have hcB:(Value.ref C::bm).contains (.type "BaseException")=true:=by rw[List.contains_cons,hbm,jc]
 have ha:=F.args_bexc_ga (.ref a) nameV;simp only[checkBuiltinCall,hk,hsplit];refine aa ?_;unfold isInstance
 repeat (first | (with_reducible refine ca hx ?_;rw[hc]) | (with_reducible refine fu hC ?_;rw[hcB]) | wp_step)
 exact hq
end
section
variable {O:Program}{w:World}{g:Array GenState}{d:Drawn}{t:Nat}{os:OsState}{vs:Array Value}
 {nm q:Str} {C N:Addr} {bs bm:List Value} {hdct:Bool} {sn:List Str} {sub:List Value} {ab:Bool} {col:Option Bool} {dd:Option Addr} {k0 k1 k2 k3 k5:Option Value} {newId:String} {mN:Str->Option Value} {ns:List Str}
theorem Xl:typeLookup (.type "ValueError") "__class__" = pure (some (.builtin "object.__class__")):=by rw[typeLookup_type,builtinLookup_eq_fast];kernel_rfl
theorem Xm{R:Result->Shared->Prop}(hC:h.get? C=some (excClassObj nm q C N bs bm hdct sn sub ab col dd k0 k1 k2 k3 k5 newId))(hbo:bm.contains (.type "object")=true)
  (hx:h.get? a=some o) (hc:o.cls=.ref C) (hq:R (.ok (.ret (.ref C))) ⟨h,g,d,t,os⟩) :
  codeAny (model O w) A (.call (.builtin "getset_descriptor.__get__") ⟨[.builtin "object.__class__", .ref a,.ref C],[]⟩) R ⟨h,g,d,t,os⟩:=by
 have hT5:(⟨h,g,d,t,os⟩:Shared).TypeIs (.builtin "object.__class__") "getset_descriptor" := F.typeOf_object_class;have hcB:(Value.ref C::bm).contains (.type (".".intercalate ("object.__class__".cutAt '.').dropLast))=true:=by rw[F.owner_object_class,List.contains_cons,hbo,jc]
 refine codeAny_call_builtin F.slot_gs_get.plain F.entry_gs_get (F.slot_gs_get.check _ _ _ _ _ _ _ _ hT5 (F.args_gs_get _ _ _) ?_)
 repeat (any_goals (first | assumption | (with_reducible refine ca hx ?_;rw[hc]) | (with_reducible refine fu hC ?_;rw[hcB]) | wp_step))
 refine⟨Code.quiet_builtin _ (by decide +kernel),codeAny_builtin F.entry_object_class ?_⟩
 repeat (any_goals (first | assumption | (with_reducible refine ca hx ?_;rw[hc]) | wp_step))
theorem Xn{tk:Tok}{Q:PySem.Fin->Shared->Prop}(hC:h.get? C=some (excClassObj nm q C N bs bm hdct sn sub ab col dd k0 k1 k2 k3 k5 newId))(hN:h.Ns N mN)(T:TailN h bmV ns bm)(hn0:Str.ofString "__class__" ∈ ns)(hn1:mN "__class__" = none)(hbo:bm.contains (.type "object")=true)
  (hx:h.get? a=some o) (hc:o.cls=.ref C) (hq:Q (.done (.ret (.ref C))) ⟨h,g,d,t,os⟩) :
  wpAny (model O w) A (Builtin.«object.__getattribute__» ⟨[.ref a,.str "__class__" tk],[]⟩) Q E ⟨h,g,d,t,os⟩:=by
 have hT5:(⟨h,g,d,t,os⟩:Shared).TypeIs (.builtin "object.__class__") "getset_descriptor" := F.typeOf_object_class;have f5:=F.typeOf_object_class;have f6:=F.slot_gs_get.lookup;have f7:=F.slot_gs_set.lookup;unfold Builtin.«object.__getattribute__»
 repeat (any_goals (first | assumption | (with_reducible refine ca hx ?_;rw[hc]) | with_reducible refine tD hC hN T F.excBase_ValueError.mroIs hn0 hn1 Xl ?_ | wp_step))
 refine Xm hC hbo hx hc ?_
 repeat (any_goals (first | assumption | wp_step))
theorem Xo{tk:Tok}(hC:h.get? C=some (excClassObj nm q C N bs bm hdct sn sub ab col dd k0 k1 k2 k3 k5 newId))(hN:h.Ns N mN)(T:TailN h bmV ns bm)(hbm:bm.contains (.type "BaseException")=true)(hg0:Str.ofString "__getattribute__" ∈ ns)(hg1:mN "__getattribute__" = none)(hh0:Str.ofString "__getattr__" ∈ ns)(hh1:mN "__getattr__" = none)(hn0:Str.ofString "__class__" ∈ ns)(hn1:mN "__class__" = none)(hbo:bm.contains (.type "object")=true)
  (hx:h.get? a=some o) (hc:o.cls=.ref C) (hq:Q (.ref C) ⟨h,g,d,t,os⟩):wpAny (model O w) A (getAttrBy (.ref a) (.str "__class__" tk) false) Q E ⟨h,g,d,t,os⟩:=by
 have f3:=F.attrBase_ValueError.ga.bind (.ref a);have hx2:(Value.builtin "BaseException.__getattribute__" == Value.builtin "object.__getattribute__")=false:=by decide +kernel
 have hx1:(onTheHeap (Value.ref C)&&Value.builtin "BaseException.__getattribute__" == Value.builtin "object.__getattribute__")=false:=by rw[hx2];rfl
 repeat (any_goals (first | assumption | (with_reducible refine ca hx ?_;rw[hc]) | with_reducible refine tD hC hN T F.excBase_ValueError.mroIs hg0 hg1 F.attrBase_ValueError.ga.lookup ?_ | with_reducible refine tD hC hN T F.excBase_ValueError.mroIs hh0 hh1 F.attrBase_ValueError.noGetattr ?_ | (rw[if_neg (by rw[hx1];exact dj)]) | wp_step))
 refine codeAny_call_builtin F.attrBase_ValueError.ga.plain F.entry_bexc_ga (Xk hC hbm hx hc (Xn hC hN T hn0 hn1 hbo hx hc ?_))
 repeat (any_goals (first | assumption | wp_step))
theorem Xp{Q:Option Value->Shared->Prop}(hC:h.get? C=some (excClassObj nm q C N bs bm hdct sn sub ab col dd k0 k1 k2 k3 k5 newId))(hN:h.Ns N mN)(T:TailN h bmV ns bm)(hbm:bm.contains (.type "BaseException")=true)(hg0:Str.ofString "__getattribute__" ∈ ns)(hg1:mN "__getattribute__" = none)(hh0:Str.ofString "__getattr__" ∈ ns)(hh1:mN "__getattr__" = none)(hn0:Str.ofString "__class__" ∈ ns)(hn1:mN "__class__" = none)(hbo:bm.contains (.type "object")=true)
  (hx:h.get? a=some o) (hc:o.cls=.ref C) (hq:Q (some (.ref C)) ⟨h,g,d,t+1,os⟩):wpAny (model O w) A (getAttr? (.ref a) "__class__") Q E ⟨h,g,d,t,os⟩:=by
 unfold getAttr? getAttrBy?
 repeat (any_goals (first | assumption | with_reducible apply Xo hC hN T hbm hg0 hg1 hh0 hh1 hn0 hn1 hbo hx hc | wp_step))
theorem Xq{od:Obj}{cdD:ClassData}{tk:Tok}{b:Bool}{Q:PySem.Fin->Shared->Prop}(hC:h.get? C=some (excClassObj nm q C N bs bm hdct sn sub ab col dd k0 k1 k2 k3 k5 newId))(hN:h.Ns N mN)(T:TailN h bmV ns bm)(hbm:bm.contains (.type "BaseException")=true)(hg0:Str.ofString "__getattribute__" ∈ ns)(hg1:mN "__getattribute__" = none)(hh0:Str.ofString "__getattr__" ∈ ns)(hh1:mN "__getattr__" = none)(hn0:Str.ofString "__class__" ∈ ns)(hn1:mN "__class__" = none)(hbo:bm.contains (.type "object")=true)
  (hx:h.get? a=some o) (hc:o.cls=.ref C) (hD:h.get? D=some od) (hDc:od.cls=.type "type") (hDd:od.data=.cls cdD) (hsub:(Value.ref C::bm).contains (.ref D)=b) (hq:∀ tk,Q (.done (.ret (.bool b))) ⟨h,g,d,tk,os⟩) :
  wpAny (model O w) A (Builtin.«isinstance.nested» ⟨[.ref a,.ref D,.int dep tk],[]⟩) Q E ⟨h,g,d,t,os⟩:=by
 have hq0:=hq t;have hq1:=hq (t+1)
 by_cases he:C=D
 ·subst he;have hb:b=true:=by rw[<- hsub,List.contains_cons,beq_self_eq_true,Bool.true_or]
  subst hb
  repeat (any_goals (first | assumption | (with_reducible refine ca hx ?_;rw[hc]) | wp_step))
 ·have hne:(Value.ref C==Value.ref D)=false:=beq_false_of_ne λe=>he (Value.ref.inj e);cases b with
  |true=>repeat (any_goals (first | assumption | (with_reducible refine ca hx ?_;rw[hc]) | (with_reducible refine ca hD ?_;rw[hDc]) | (with_reducible refine ca hD ?_;rw[hDd]) | (with_reducible refine fu hC ?_;rw[hsub]) | wp_step))
  |false=>repeat (any_goals (first | assumption | (with_reducible refine ca hx ?_;rw[hc]) | (with_reducible refine ca hD ?_;rw[hDc]) | (with_reducible refine ca hD ?_;rw[hDd]) | (with_reducible refine fu hC ?_;rw[hsub]) | with_reducible refine Xp hC hN T hbm hg0 hg1 hh0 hh1 hn0 hn1 hbo hx hc ?_ | wp_step))
theorem Xr{tk:Tok}{Q:PySem.Fin->Shared->Prop}(hC:h.get? C=some (excClassObj nm q C N bs bm hdct sn sub ab col dd k0 k1 k2 k3 k5 newId))(hx:h.get? a=some o)(hc:o.cls=.ref C)(hbv:bm.contains (.type "ValueError")=true)(hq:Q (.done (.ret (.bool true))) ⟨h,g,d,t,os⟩):
  wpAny (model O w) A (Builtin.«isinstance.nested» ⟨[.ref a,.type "ValueError", .int dep tk],[]⟩) Q E ⟨h,g,d,t,os⟩:=by
 have hsub:(Value.ref C::bm).contains (.type "ValueError")=true:=by rw[List.contains_cons,hbv,jc]
 have hty:typeOf (.type "ValueError")=pure (.type "type"):=by kernel_rfl
 have hne:(Value.ref C==Value.type "ValueError")=false:=rfl
 repeat (any_goals (first | assumption | (with_reducible refine ca hx ?_;rw[hc]) | (with_reducible refine fu hC ?_;rw[hsub]) | wp_step))
end
section
variable {O:Program}{w:World}{C N:Addr}{od:Obj}{cdD:ClassData}
 {nm q:Str} {bs bm:List Value} {hdct:Bool} {sn:List Str} {sub:List Value} {ab:Bool} {col:Option Bool} {dd:Option Addr} {k0 k1 k2 k3 k5:Option Value} {newId:String} {mN:Str->Option Value} {ns:List Str} {b:Bool}
theorem Xs(hC:s.heap.get? C=some (excClassObj nm q C N bs bm hdct sn sub ab col dd k0 k1 k2 k3 k5 newId))(hN:s.heap.Ns N mN)(T:TailN s.heap bmV ns bm)(hbm:bm.contains (.type "BaseException")=true)(hg0:Str.ofString "__getattribute__" ∈ ns)(hg1:mN "__getattribute__" = none)(hh0:Str.ofString "__getattr__" ∈ ns)(hh1:mN "__getattr__" = none)(hn0:Str.ofString "__class__" ∈ ns)(hn1:mN "__class__" = none)(hbo:bm.contains (.type "object")=true)
  (hx:s.heap.get? a=some o) (hc:o.cls=.ref C) (hD:s.heap.get? D=some od) (hDc:od.cls=.type "type") (hDd:od.data=.cls cdD) (hsub:(Value.ref C::bm).contains (.ref D)=b) (hq:∀ tk,Q (.bool b) { s with toks:=tk }):wpAny (model O w) A (call (.builtin "isinstance") [.ref a,.ref D]) Q E s:=by
 obtain⟨h,g,d,t,os⟩:=s;refine call_isinstance (S:=λ_ R s=>(∃ tk,s=⟨h,g,d,tk,os⟩)/\∀ tk,R (.ok (.ret (.bool b))) ⟨h,g,d,tk,os⟩) (λ_ _ _ _ s hs=>?_) ⟨⟨t,rfl⟩,λtk=>hq tk⟩;obtain⟨⟨tk,rfl⟩,hs⟩:=hs;exact isinstance_outer (Xq hC hN T hbm hg0 hg1 hh0 hh1 hn0 hn1 hbo hx hc hD hDc hDd hsub λtk=>hs tk) (by intro q;cases q)
theorem Xu(hC:s.heap.get? C=some (excClassObj nm q C N bs bm hdct sn sub ab col dd k0 k1 k2 k3 k5 newId))(hx:s.heap.get? a=some o)(hc:o.cls=.ref C)(hbv:bm.contains (.type "ValueError")=true)(hq:∀ tk,Q (.bool true) { s with toks:=tk }):wpAny (model O w) A (call (.builtin "isinstance") [.ref a,.type "ValueError"]) Q E s:=by
 obtain⟨h,g,d,t,os⟩:=s;refine call_isinstance (S:=λ_ R s=>(∃ tk,s=⟨h,g,d,tk,os⟩)/\∀ tk,R (.ok (.ret (.bool true))) ⟨h,g,d,tk,os⟩) (λ_ _ _ _ s hs=>?_) ⟨⟨t,rfl⟩,λtk=>hq tk⟩;obtain⟨⟨tk,rfl⟩,hs⟩:=hs;exact isinstance_outer (Xr hC hx hc hbv (hs tk)) (by intro q;cases q)
end
end
section
variable {O:Program}{w:World}
inductive ClsP(h:Heap)(C:Addr)(bm:List Value)(ini:Option (List Str)):Prop where
 |mk (N nm q bs hdct sn sub ab col dd k0 k1 k2 k3 k5 mN) (a:h.get? C=some (excClassObj nm q C N bs bm hdct sn sub ab col dd k0 k1 k2 k3 k5 "ValueError.__new__")) (b:h.Ns N mN) (c:ini=none->mN "__init__" = none) (d:∀ n∈hid,mN n=none) (e:TailN h bmV (Str.ofString "__init__" :: hid) bm):ClsP h C bm ini
theorem OwnTail.has(T:OwnTail h bmV bm){X:String}(hx:bmV.contains (.type X)=true):bm.contains (.type X)=true:=T.hasType hx
theorem ClsP.ok{base:Heap}{C:Addr}(x:ClsP base C bm ini):ClsOk O w base C bm ini:=by
 obtain⟨N,nm,q,bs,hdct,sn,sub,ab,col,dd,k0,k1,k2,k3,k5,mN,hC,hN,hni,hn,TT⟩:=x;have T:=TT.tail (.head _);refine⟨⟨nm,q,N,bs,hdct,sn,sub,ab,col,dd,k0,k1,k2,k3,k5,_,hC⟩,OwnTail.has T (by decide +kernel),OwnTail.has T (by decide +kernel),λhi A vals s E Q hd hb ha hq=>?_,λA s e o D bm' b E Q hb hx hc hD hs hq=>by
  obtain⟨_,_,_,_,_,_,_,_,_,_,_,_,_,_,_,_,hD⟩:=hD;exact Xs (hb _ _ hC) (hN.keeps hb) (TT.keeps hb) (OwnTail.has T (by decide +kernel)) (.tail _ (.head _)) (hn _ (.head _)) (.tail _ (.tail _ (.head _))) (hn _ (.tail _ (.head _))) (.tail _ (.tail _ (.tail _ (.head _)))) (hn _ (.tail _ (.tail _ (.head _)))) (OwnTail.has T (by decide +kernel)) hx hc hD rfl rfl hs hq,
  λA s e o E Q hb hx hc hq=>Xu (hb _ _ hC) hx hc (OwnTail.has T (by decide +kernel)) hq⟩
 obtain⟨h,g,d,t,os⟩:=s;refine wpAny_call_exc_subT F.excBase_ValueError (T.keeps hb) (hb _ _ hC) (hN.keeps hb) (hni hi) (λh' e m=>?_) (by have hZ:sizeLine=16777216:=rfl;exact Ht ha hZ);obtain⟨tt,he,_,_⟩:=m.there;exact hq _ _ ⟨⟨h',t,rfl,m.keeps⟩,e,none,tt,rfl,m.new,he⟩
end
section
open PyProof.Rows.TI
section
variable {kg:List Env}{kj:Addr->Prop}
theorem Xv{x:X}{Q:Unit->Shared->Prop}(hfr:A.frames=some (env::kg))(hf:env.frame=some env.locals)(hL:ki.heap.get? env.locals=none)(u:Upx kg env ki kj x v s')
  (hq:∀ s'',Fly kg ki kj x v s''->Q () s''):wpAny (model O w) A (leaving env v) Q E s':=by
 obtain⟨k,ff,st,e,rfl,se,⟨na,oe,vs,C,he,hd,hc,hm⟩,ht⟩:=u;have key:wpAny (model O w) A (leaving env (.ref e)) (λ_ s''=>Stn ki (env::kg) e C s' s'') E s':=by
  rcases ht with ⟨fl,ht⟩ | ⟨oe',vs',e1,e2,e3⟩
  ·obtain⟨T,sT,hT,hTf⟩:=ht.placeF he;obtain⟨a0,tr⟩:=ht.tr (B:=eA s'.heap (env::kg) e T) he hc λT' h=>hT T' h▸s7;unfold leaving;exact aa (Bt hfr (s9 ff λb f=>s8 f) hf tr oX s6 λh' hh=>Bu (s:={ s' with heap:=h' }) hh.1 hh.2.2.1 λh'' fl' g1 g2 g3=>⟨T,h'',a0,fl',sT,hTf,rfl,g1,λb o e hn=>by obtain⟨sl,e1⟩:=hh.2.2.2 b o e hn;obtain⟨sl',e2⟩:=g3 b _ e1 hn;exact⟨sl',e2⟩,g2⟩)
  ·rw[he] at e1;obtain rfl:=si e1;have hs:=(Array.getElem?_eq_some_iff.mp e3).1;exact wpAny_leaving_firstW (base:=eA s'.heap (env::kg) e e) (a0:=vs'[0]) hfr (s9 ff λb f=>s8 f) hf he oX s6 e2 e3 (Array.getElem?_eq_getElem (Hu hs)) λh' h=>⟨e,h',_,_,se,λo ho=>by rw[he] at ho;obtain rfl:=si ho;exact⟨_,hd⟩,rfl,h.1,h.2.2.2,hc▸h.2.2.1.at⟩
 refine az key (λ_ s'' y=>?_) λ_ _ y=>y;obtain⟨k',⟨fl,t'⟩,xa⟩:=y.on (av:=λb=>kj b\/frs (env::kg) b) k.wide ff se na hm;exact hq _ ⟨K.drop hf hL (K.rf kg ki) k',e,rfl,se,xa.mono (λ_ _ _ e=>e) λb _ _ h=>.inl h,fl,t'⟩
theorem Xw{x:X}{Q:Unit->Shared->Prop}(hfr:A.frames=some (env::kg))(G:Gnd (env::kg) av s)(u:Fly (env::kg) s av x v s')
  (hq:∀ s'',Fly (env::kg) s av x v s''->Q () s''):wpAny (model O w) A (noteFrame v env) (λ_ km=>wpAny (model O w) A (setFlight v none) Q E km) E s' :=
 Bv hfr rfl G u λ_ u' _=>tA G u' hq
theorem Xx(hK:KSound n C)(hh:C.hd=hd)(hbad:∀ σ e,bad e=true->ev σ e=.no)(h:∀ σ e,aH n hd (env::kg) sc σ e (ev σ e)):
  aU n hd kg env sc ki σ (exec (.Raise (some e) none pos) env) λ_ _=>nY ev F C sc σ e:=by
 intro kj A s av hA X kn kr fin Q E hf hne hp hn hr he;replace hf:nY ev F C sc σ e=fin:=hf;unfold nY at hf;refine ocs (iB e) (λhc=>?_) λc hc=>?_
 ·rw[hc] at hf;exact absurd hf.symm hne
 ·refine hde λ_ θ=>?_;obtain⟨c,as⟩:=c;rw[hc] at hf;obtain⟨p,q,rfl⟩:=sA hc;obtain⟨⟨c1,c2,c3⟩,hf⟩:=iJ hf hne;apply θ;have hini:C.init c=(bQ c O.main.body).map (·.2):=by rw[hK.init]
  rw[hini] at hf;refine ocs (bQ c O.main.body) (λhcl=>?_) λpc hcl=>?_
  ·rw[hcl] at hf;exact absurd hf.symm hne
  ·rw[hcl] at hf;refine hde λ_ θ=>?_;obtain⟨av1,Y,hsub⟩:=X.cl (as.flatMap (esc F));obtain⟨Ca,bm,g1,g2,_⟩:=Y.inv.gnd.glo.cls c pc hcl;obtain⟨nm,qn,N,bs,hdct,sn,sub,ab,col,dd,k0,k1,k2,k3,k5,newId,hC⟩:=g2.obj;apply θ;obtain⟨hini',hf⟩:pc.2=none/\rb (evs (ev (aA.cl σ (as.flatMap (esc F)))) as) (λvs=>if vs.length=1 then .exc ⟨c,[]⟩ else .no)=fin:=by
    obtain⟨b0,ini⟩:=pc;cases ini with
    |none=>exact⟨rfl,hf⟩
    |some=>exact absurd hf.symm hne
   refine Xh (C:=Ca) (bm:=bm) g2.exc (hA.handled (hh▸c3)) c2 (lA Y.inv c1 g1 ⟨rfl,iD (hbad _) hA (λe _=>h _ e) Y.inv ⟨hf,hne⟩ (λvs km us k2' r1 r2 e2=>⟨(Y.inv.gnd.k k2').stay _ _ hC,?_⟩) λx v s' e f=>he x v s' e (Y.up f)⟩);have hlen:vs.length=us.length:=by rw[r1];exact List.length_map _
   obtain⟨ha,hfin⟩:=iJ e2 hne;have Y2:=Y.k k2';refine dA (g2.make hini' A vs km _ _ (by have:=hA.depth;exact Hv this) Y2.inv.gnd.stay (hlen.trans ha) λv kq m mt=>?_);obtain⟨k3',e,dx,t,rfl,en,et⟩:=m;have nn:∀ {b:Addr},km.heap.get? b=none->¬ (kj b\/frs (env::kg) b):=λh x=>x.elim (Y2.newNot h).2.2.1 (Y2.newNot h).2.2.2.2;have Y3:=Y2.k (K.of k3' mt);exact⟨e,dx,t,rfl,Y3.inv.gnd.stay _ _ hC,et,he _ _ _ hfin.symm ⟨Y3.k0,Y3.inv.gnd.ff,Y3.inv.gnd.stay,e,rfl,(Y2.newNot en).2.2.2.1,⟨nn en,_,_,Ca,et,rfl,rfl,g1⟩,.inr ⟨_,_,et,rfl,rfl⟩⟩⟩
end
end
section
variable {nm q nm' q':Str}{C N N':Addr}{bs bs' bm':List Value}{hdct hdct':Bool}{sn sn':List Str}{sub sub':List Value}{ab ab':Bool}{col col':Option Bool}{dd dd':Option Addr}{k0 k1 k2 k3 k5 k0' k1' k2' k3' k5':Option Value}{newId newId':String}
theorem Xy{g:Array GenState}{d:Drawn}{t:Nat}{os:OsState}{e:Addr}{Q:Bool->Shared->Prop}
  (hC:h.get? C=some (excClassObj nm q C N bs bm hdct sn sub ab col dd k0 k1 k2 k3 k5 newId)) (hD:h.get? D=some (excClassObj nm' q' D N' bs' bm' hdct' sn' sub' ab' col' dd' k0' k1' k2' k3' k5' newId')) (he:h.get? e=some oe) (hcls:oe.cls=.ref C) (hbase:bm'.contains (.type "BaseException")=true)
  (hcD:(Value.ref C::bm).contains (.ref D)=true) (hq:Q true ⟨h,g,d,t,os⟩):wpAny M A (excMatches (.ref e) (.ref D)) Q E ⟨h,g,d,t,os⟩:=by
 have hcB:(Value.ref D::bm').contains (.type "BaseException")=true:=by rw[List.contains_cons,hbase,jc]
 have f:=tc_notTuple;unfold excMatches
 repeat (first | (with_reducible refine ca he ?_;rw[hcls]) | with_reducible refine ca hD ?_ | (with_reducible refine fu hD ?_;rw[hcB]) | (with_reducible refine fu hC ?_;rw[hcD]) | wp_step)
 exact hq
theorem Xz{base:Heap}{e:Addr}{Q:Bool->Shared->Prop}(c2:ClsObj base C bm)(d2:ClsObj base D bm')(st:∀ a o,base.get? a=some o->s.heap.get? a=some o)
  (he:s.heap.get? e=some oe) (hcls:oe.cls=.ref C) (hbase:bm'.contains (.type "BaseException")=true) (hcD:(Value.ref C::bm).contains (.ref D)=true) (hq:Q true s):wpAny M A (excMatches (.ref e) (.ref D)) Q E s:=by
 obtain⟨_,_,_,_,_,_,_,_,_,_,_,_,_,_,_,_,hC⟩:=c2;obtain⟨_,_,_,_,_,_,_,_,_,_,_,_,_,_,_,_,hD⟩:=d2;exact Xy (st _ _ hC) (st _ _ hD) he hcls hbase hcD hq
end
section
variable {kg:List Env}{kj:Addr->Prop}
theorem Room.mark{e:Addr}(h:Room n hd l A):Room n true l (A.mark (some (.ref e))):=⟨h.depth,h.units,nofun,h.guards,h.frames⟩
theorem Cr{b:List Stmt}(h:gM b=some e):∃ pos,b=[.Return (some e) pos]:=by
 cases b with
 |nil=>exact ns h
 |cons s r =>
  cases r with
  |cons=>exact ns h
  |nil =>
   replace h:(match sv s with | .ret o=>o | _=>none)=some e:=h;generalize hv:sv s=v at h;cases v with
   |ret o=>obtain⟨p,rfl⟩:=Rj hv;exact⟨p,by rw[show o=some e from h]⟩
   |_=>exact ns h
theorem X0{hs:List ExceptHandler}{c:Str×Option Str×Expr}(h:n6 hs=some c):∃ p pos pos2,hs=[.ExceptHandler (some (.Name c.1 p)) c.2.1 [.Return (some c.2.2) pos2] pos]:=by
 cases hs with
 |nil=>exact ns h
 |cons hh r =>
  cases r with
  |cons=>exact ns h
  |nil =>
   obtain⟨t,x,b,pos⟩:=hh;cases t with
   |none=>exact ns h
   |some t =>
    replace h:(match bC t with | some c=>(match gM b with | some e=>some (c,x,e) | none=>none) | none=>none)=some c:=h;refine ocs (bC t) (λhn=>?_) λy hn=>?_
    ·rw[hn] at h;exact ns h
    ·rw[hn] at h;replace h:(match gM b with | some e=>some (y,x,e) | none=>none)=some c:=h;refine ocs (gM b) (λhr=>?_) λe hr=>?_
     ·rw[hr] at h;exact ns h
     ·rw[hr] at h;obtain rfl:=si h;obtain⟨p,rfl⟩:=dJ hn;obtain⟨pos2,rfl⟩:=Cr hr;exact⟨p,pos,pos2,rfl⟩
theorem bD.same{u:V}(hL:av L)(hlt:∃ o,s.heap.get? L=some o)(hs:Heap.SameBut L h h')(r:bD s h av v u):bD s h' av v u:=by
 have hk:∀ b o,¬ av b->h.get? b=some o->h'.get? b=some o:=λb o n e=>(hs.2 b λx=>n (x▸hL)).trans e;cases u with
 |ex x=>exact r
 |pil l=>exact r
 |fz d=>exact(show Rep h av v d from r).mono hk λ_ _ _ x=>x
 |own d =>
  obtain⟨a,e,hn,rb⟩:=r;refine⟨a,e,hn,rb.mono (λb o n e=>hk b o (λx=>n (.inl x)) e) (λ_ _ _ x=>x) λo e=>(hs.2 a λx=>?_).trans e⟩;obtain⟨o,ho⟩:=hlt;simp only[x,ho] at hn;exact sn hn
theorem X4{ev':EV}(hK:KSound n C)(h:∀ σ e,aH n hd (env::kg) sc σ e (ev σ e))(h':∀ σ e,aH n true (env::kg) sc σ e (ev' σ e)){e':Expr}{c z:Str}{p pos1 pos2 pos3:Pos}:
  aU n hd kg env sc ki σ (exec (.Try [.Return (some e) pos1] [.ExceptHandler (some (.Name c p)) (some z) [.Return (some e') pos2] pos3] [] [] pos) env) λ_ kr=>n7 ev ev' F C sc σ e c z e' kr:=by
 intro kj A s av hA X kn kr fin Q E hf hne hp hn hr he;refine hde λ_ θ=>?_;obtain⟨hg,hf⟩:=iJ (show(if isG sc c=true/\(C.init c).isSome=true/\sc.names.lookup z=some .local then _ else R.no)=fin from hf) hne;obtain⟨hg,hin,hz⟩:=hg;obtain⟨av1,Y,hsub⟩:=X.cl (esc F e);apply θ;refine wpAny_Try_except (wpAny_execs_cons (jw ?_));have hE:=h (aA.cl σ (esc F e)) e;cases hev:ev (aA.cl σ (esc F e)) e with
 |no=>rw[hev] at hf;exact absurd hf.symm hne
 |ok v0 =>
  rw[hev] at hf;exact hE.val hA Y.inv hev λv s' k r=>hr v s' v0 (Y.k k).k0 (r.out Y) hf
 |exc y =>
  rw[hev] at hf;refine hE A env s av1 hA Y.inv (k:=R.ok) (fin:=R.exc y) ⟨by rw[hev];rfl,nofun⟩ (λv s' u _ _ e=>by cases e) λy' v s' ey fly=>?_;cases ey;refine hde λ_ θ=>?_;obtain⟨hsb,hf⟩:=iJ hf hne;rw[show C.sub y.cls c=fH O.main.body y.cls c by rw[hK.sub]] at hsb;rw[show C.init c=(bQ c O.main.body).map (·.2) by rw[hK.init]] at hin;obtain⟨pd,hcd⟩:∃ pd,bQ c O.main.body=some pd:=by
   revert hin;cases bQ c O.main.body with
   |none=>exact λh=>by exact bft h
   |some pd=>exact λ_=>⟨pd,rfl⟩
  obtain⟨pc,hcc⟩:∃ pc,bQ y.cls O.main.body=some pc:=by
   revert hsb;unfold fH;cases bQ y.cls O.main.body with
   |none=>rw[Option.isSome_none,Bool.and_false];exact λh=>by exact ns h
   |some pc=>exact λ_=>⟨pc,rfl⟩
  have hso:fH O.main.body y.cls c=some (jC O.main.body 4 y.cls c):=by unfold fH;rw[hcc,hcd];rfl
  have hsb:=si (hso.symm.trans hsb);obtain⟨σ1,hs1,hf⟩:=cF hf hne;obtain⟨v0,hg0,rfl⟩:=eK hs1;obtain⟨u,hu,hf⟩:=Fin.nx ⟨hf,hne⟩;obtain⟨D,bmD,d1,d2,_⟩:=Y.inv.gnd.glo.cls c pd hcd;obtain⟨Ca,bmC,c1,c2,c3⟩:=Y.inv.gnd.glo.cls y.cls pc hcc;apply θ;have hcon:=(c3 c pd D hcd d1).trans hsb;refine Xw hA.frames Y.inv.gnd fly λkm fly2=>?_;refine hde λ_ θ=>?_;obtain⟨k2',e2,rfl,se,⟨na,oe,vs,C',o1,o2,o3,o4⟩,tb⟩:=id fly2;apply θ;obtain rfl:=Value.ref.inj (si (c1.symm.trans o4));have Y2:=Y.k k2';refine wpAny_handleBy_cons (codeAny_handlers_test (lA Y2.inv hg d1 ?_)) (by intro q;cases q);refine Xz c2.obj d2.obj (λa o h=>Y2.inv.gnd.stay _ _ h) o1 o3 d2.exc hcon ?_;clear o1 o2 o3 hcon c1 c2 c3 d1 d2 hE hev;refine codeAny_handlers_suite_as (tA Y.inv.gnd fly2 λkq fly3=>?_);refine hde λ_ θ=>?_;obtain⟨k3'',e3,ee,_,xa,_⟩:=id fly3;apply θ;obtain rfl:=Value.ref.inj ee;refine(Y.k k3'').put hg0 (v:=.ex y) ⟨_,rfl,xa⟩ (λ_ q=>q.elim) λs4 Z f4 _ _=>wpAny_execs_cons (jw ?_);refine hde λ_ θ=>?_;obtain⟨av3,Y4,sub4⟩:=Z.cl (esc F e');apply θ;refine(h' _ e').val hA.mark Y4.inv hu λv s' k r=>?_;have Y5:=Y4.k k;obtain⟨mL,hnL⟩:=Y5.ns;refine wpAny_nameGoes (Y5.loc z hz) hnL (by rw[Y5.inv.kind];rfl) λh'' m' _ hs=>?_;refine hde λ_ θ=>?_;obtain⟨f1,f2,_⟩:=Y5.fresh env.locals (.inl rfl);apply θ;exact hr v _ u (Y5.k0.on f2 (λb o hb eb=>(hs.2 b hb).trans eb) (au _)) ((r.same f1 (Y4.liveMn (.inl rfl)) hs).out Y4) hf
end
theorem Cs:∀ {ps:List Str} {vs:List Value} {m:Str->Option Value} {x:Str},x∉ps->bindC kindOf (ps.zip vs) m x=m x
 | [],_,_,_,_=>rfl
 |_::_,[],_,_,_=>rfl
 |p::ps,v::vs,m,x,h=>by
  show bindC kindOf (ps.zip vs) _ x=m x;simp at h;rw[Cs h.2]
  split
  ·rfl
  ·exact if_neg h.1
theorem Ct:∀ {ps:List Str} {vs:List Value} {m:Str->Option Value} {x:Str} {v:Value} {i:Nat},ps.Nodup->ps[i]?=some x->vs[i]?=some v->kindOf x≠some .local->bindC kindOf (ps.zip vs) m x=some v
 | [],_,_,_,_,_,_,h,_,_=>by simp at h
 |_::_,[],_,_,_,_,_,_,h,_=>by simp at h
 |p::ps,u::vs,m,x,v,i,hn,h1,h2,hk=>by
  show bindC kindOf (ps.zip vs) _ x=some v;obtain⟨n1,n2⟩:=bo.mp hn;cases i with
  |zero =>
   simp at h1 h2;subst h1;subst h2;rw[Cs n1,if_neg hk];exact if_pos rfl
  |succ i=>exact Ct n2 (by simpa using h1) (by simpa using h2) hk
theorem X5:∀ (names:List (Str×NameKind)) (k:Nat) (acc:List (Str×Addr)) (x:Str),(acc.lookup x).isSome=true->((cellsFrom k names acc).lookup x).isSome=true:=by
 intro v0
 induction v0 with
 |nil =>
  intro _ _ _ h;exact h
 |cons pp r ih =>
  obtain⟨y,kd⟩:=pp;intro k acc x h;unfold cellsFrom
  split
  ·refine ih _ _ x ?_;simp only[List.lookup_cons]
   split
   ·rfl
   ·exact h
  ·exact ih _ _ x h
theorem pA:∀ (names:List (Str×NameKind)) (k:Nat) (acc:List (Str×Addr)) (x:Str),(x,NameKind.cell)∈names->((cellsFrom k names acc).lookup x).isSome=true
 | (y,kd)::r,k,acc,x,h=>by
  unfold cellsFrom;rcases List.mem_cons.mp h with e | h
  ·cases e;rw[if_pos (by rfl)];refine X5 r _ _ _ ?_;simp only[List.lookup_cons];simp
  ·split
   ·exact pA r _ _ x h
   ·exact pA r _ _ x h
theorem tG{ps:List Str}:∀ {names:List (Str×NameKind)} {x:Str} {v:Option V},aA.get (eI ps us names) x=some v->v=(ps.zip us).lookup x/\((x,NameKind.local)∈names\/(x,NameKind.cell)∈names):=by
 intro v0
 induction v0 with
 |nil =>
  intro _ _ h;exact ns h
 |cons pp r ih =>
  obtain⟨y,k⟩:=pp;intro x v h;have step:∀ {k'},(k'=NameKind.local\/k'=NameKind.cell)->aA.get ((y,(ps.zip us).lookup y)::eI ps us r) x=some v->v=(ps.zip us).lookup x/\((x,NameKind.local)∈(y,k')::r\/(x,NameKind.cell)∈(y,k')::r):=λhk' h=>by
   by_cases hxy:x=y
   ·subst hxy;rw[aA.get_cons_eq] at h;obtain rfl:=si h;refine⟨rfl,?_⟩;rcases hk' with rfl | rfl
    ·exact .inl ac
    ·exact .inr ac
   ·rw[aA.get_cons_ne hxy] at h;obtain⟨h1,h2⟩:=ih h;exact⟨h1,h2.imp (af _) (af _)⟩
  have skip:∀ {k'},aA.get (eI ps us r) x=some v->v=(ps.zip us).lookup x/\((x,NameKind.local)∈(y,k')::r\/(x,NameKind.cell)∈(y,k')::r):=λh=>by
   obtain⟨h1,h2⟩:=ih h;exact⟨h1,h2.imp (af _) (af _)⟩
  cases k with
  | «local»=>exact step (.inl rfl) h
  |cell=>exact step (.inr rfl) h
  |_=>exact skip h
theorem Cu:∀ {l:List Str},kZ l=true->l.Nodup:=by
 intro v0
 induction v0 with
 |nil =>
  intro _;exact ec
 |cons x r ih =>
  intro h;have h:(!r.contains x&&kZ r)=true:=h;simp only[Bool.and_eq_true,Bool.not_eq_true',Bool.eq_false_iff] at h;exact bo.mpr ⟨by simpa using h.1,ih h.2⟩
theorem lJ:∀ {l:List (Str×α)} {x:Str} {k:α},(l.map (·.1)).Nodup->(x,k)∈l->l.lookup x=some k
 | (y,d)::r,x,k,hn,h=>by
  obtain⟨n1,n2⟩:=bo.mp (show(y::r.map (·.1)).Nodup from hn);rcases List.mem_cons.mp h with e | h
  ·cases e;simp[List.lookup]
  ·have hne:(x==y)=false:=by
    rw[beq_eq_false_iff_ne];intro e;exact n1 (by rw[<- e];exact bq.mpr ⟨(x,k),h,rfl⟩)
   rw[List.lookup_cons,hne];exact lJ n2 h
structure FnOk(a:Arguments)(sc:Scope):Prop where
 params:∃ kwd dfl,a=⟨[],a.args,none,[],kwd,none,dfl⟩
 kind:sc.kind=.function
 gen:sc.isGenerator=false
 cor:sc.isCoroutine=false
 nodup:(sc.names.map (·.1)).Nodup
 anodup:(a.args.map (·.arg)).Nodup
 nofree:∀ p∈sc.names,p.2≠.free
 akind:∀ x∈a.args,sc.names.lookup x.arg=some .local\/sc.names.lookup x.arg=some .cell
 dbg:sc.names.lookup (Str.ofString "__debug__")=none
 cld:sc.names.lookup (Str.ofString "__classdict__")=none
theorem X6{a:Arguments}(h:n8 a sc=true):FnOk a sc:=by
 unfold n8 at h;simp only[Bool.and_eq_true] at h;obtain⟨⟨⟨⟨⟨⟨⟨⟨⟨⟨⟨⟨⟨⟨h1,h2⟩,h3⟩,h4⟩,h5⟩,h6⟩,h7⟩,h8⟩,h9⟩,h10⟩,h11⟩,h12⟩,h13⟩,h14⟩,h15⟩:=h;refine⟨?_,by simpa using h7,by simpa using h8,by simpa using h9,Cu h10,Cu h11,λp hp=>by simpa using bb.mp h12 p hp,λx hx=>?_,by simpa using h14,by simpa using h15⟩
 ·obtain⟨po,as,va,ko,kd,kw,df⟩:=a;simp only[List.isEmpty_iff,Option.isNone_iff_eq_none] at h1 h2 h3 h4;subst h1;subst h2;subst h3;subst h4;exact⟨kd,df,rfl⟩
 ·have:=bb.mp h13 x hx
  split at this
  ·rename_i e;exact .inl e
  ·rename_i e;exact .inr e
  ·exact bft this
section
theorem X7{R:Result->Shared->Prop}{fd:FuncData}{binds:List (Str×Value)}
  (hroom:A.depth < recursionLimit) (ho:s.heap.get? a=some o) (hdata:o.data=.func fd) (hlim:s.heap.NoLimit) (hcd:s.heap.CodeRec fd.code fd.qualname)
  (hbody:fd.body=.stmts body) (hbind:bindArgs fd ⟨vals,[]⟩=pure binds) (hclo:fd.closure=[])
  (hkind:∀ x∈binds,fd.scope.names.lookup x.1=some .local\/(fd.scope.names.lookup x.1=some .cell/\((cellsFrom (s.heap.objs.size+1) fd.scope.names []).lookup x.1).isSome=true))
  (h:∀ ke,InCallC s (callEnvC fd s.heap.objs.size a).locals (bindL (callEnvC fd s.heap.objs.size a).kindOf binds λ_=>none) (callEnvC fd s.heap.objs.size a).cells
    (bindC (callEnvC fd s.heap.objs.size a).kindOf binds λ_=>none) ke->s.toks<=ke.toks ->
   wpAny (model O w) (A.deeper (callEnvC fd s.heap.objs.size a)) (execs body (callEnvC fd s.heap.objs.size a)) (λf s'=>R (.ok (.ret (match f with | .ret v=>v | _=>.none))) s')
    (λe s'=>wpAny (model O w) (A.deeper (callEnvC fd s.heap.objs.size a)) (leaving (callEnvC fd s.heap.objs.size a) e) (λ_ s''=>R (.error e) s'') (λe' s''=>R (.error e') s'') s') ke)
  (hco:fd.scope.isCoroutine=false) (hgen:fd.scope.isGenerator=false) (hk:fd.scope.kind=.function):codeAny (model O w) A (.call (.ref a) ⟨vals,[]⟩) R s:=by
 refine codeAny_call_function hroom ho hdata hco hgen hbody hcd ?_;rw[hbind,hclo];refine ag (dA (wpAny_newFunctionEnv_cells hk hkind λenv he s' x mt=>?_));subst he;exact⟨hlim.keeps x.toInCall.keep,codeAny_func (h s' x mt)⟩
theorem X8{ke:Shared}{a:Arguments}{b:List Stmt}{pm cd doc:Value}(hE:env=callEnvC (Calls.docDef f a b sc pm cd doc) s.heap.objs.size ad)(G:Gnd l av s)
  (hargs:fY (CA l av) s vs us) (hok:FnOk a sc) (hin:InCallC s env.locals (bindL env.kindOf ((a.args.map (·.arg)).zip vs) λ_=>none) env.cells (bindC env.kindOf ((a.args.map (·.arg)).zip vs) λ_=>none) ke) (mt:s.toks<=ke.toks) :
  ∃ av1,Act l env sc av s (eI (a.args.map (·.arg)) us sc.names) av1 ke:=by
 have hkind:∀ x,env.kindOf x=sc.names.lookup x:=λ_=>by rw[hE];rfl
 have hL:env.locals=s.heap.objs.size:=by rw[hE];rfl
 have hcells:env.cells=cellsFrom (s.heap.objs.size+1) sc.names []:=by rw[hE];rfl
 have ek:env.scope.kind=.function:=by rw[hE];exact hok.kind
 have eg:env.globals=mainGlobals:=by rw[hE];rfl
 have eb:env.builtins=builtinsNs:=by rw[hE];rfl
 have hfrm:env.frame=some env.locals:=by rw[hE];rfl
 clear hE;have dead:∀ b,Mn env b->s.heap.get? b=none:=λb h=>by
  rcases h with h | ⟨x,h⟩
  ·rw[h,hL];exact bP _
  ·exact ft (by
    have:=hin.above x b (fM h);rw[hL] at this;exact bh this)
 have notav:∀ b,Mn env b->¬ av b:=λb h x=>by obtain⟨o,e⟩:=G.avlt b x;rw[dead b h] at e;exact ns e
 have neL:∀ x c,env.cells.lookup x=some c->c≠env.locals:=λx c e=>bp (hin.above x c (fM e));have notown:∀ x v,aA.get (eI (a.args.map (·.arg)) us sc.names) x=some (some v)->hO v=false:=λx v h=>by
  obtain⟨h1,_⟩:=tG h;obtain⟨i,_,h3⟩:=tE h1.symm;have hlt':i < vs.length:=by
   have:=(cr.mp h3).1;rw[hargs.len];exact this
  exact(hargs.at i _ _ (bg hlt') h3).2
 have cellOfName:∀ x,sc.names.lookup x=some .cell->∃ c,env.cells.lookup x=some c:=λx hx=>by
  have:=pA sc.names (s.heap.objs.size+1) [] x (fM hx);rw[<- hcells] at this;exact ij.mp this
 have keep:=hin.toInCall.keep;have k0:Kp s ke:=by obtain⟨h,t,e⟩:=hin.toInCall.same;subst e;exact⟨h,t,rfl,keep⟩
 have back:∀ b o,s.heap.get? b=some o->(av b\/Mn env b)->av b:=λb o e h=>h.elim id λh=>by rw[dead b h] at e;exact ns e
 have bfr:base.get? env.locals=none:=by
  refine ocs (base.get? env.locals) (λe=>?_) λo e=>?_
  ·try rewrite[e]
   rfl
  ·have:=G.stay _ _ e;rw[dead _ (.inl rfl)] at this;exact ns this
 refine hde λ_ θ=>?_;obtain⟨oL,esL,epL,e1,e2,e3⟩:=id hin.toInCall.ns;apply θ;have noO:∀ {P:Prop} x a',OwnN env (eI (a.args.map (·.arg)) us sc.names) ke.heap x a'->P:=λx a' h=>by obtain⟨v,u,e,_,hh⟩:=h;exact btf (hh.ow.symm.trans (notown x v e))
 have frb:∀ b,frs l b->av b/\∃ o,s.heap.get? b=some o:=λb h=>⟨G.fav b h,by obtain⟨_,o,e,_⟩:=G.ff.mem h;exact⟨o,e⟩⟩
 refine⟨λb=>av b\/Mn env b,{ inv:=?_,stay0:=G.stay,frm:=hfrm,fr0:=λb h=>frb b h,k0:=K.of k0 mt,bas:=λb h=>Or.inl h,ns:=⟨_,hin.toInCall.ns⟩,cells:=λx c e=>⟨neL x c e,_,hin.cell x c e⟩,fresh:=λb h=>⟨.inr h,dead b h,notav b h⟩,capart:=λx y c hx hy=>name_of_addr hin.apart (fM hx) (fM hy),names:=λx v h=>?_,ownA:=λx a h=>noO x a h,ownI:=λx y a h=>noO x a h,loc:=λx h=>(hkind x).trans h }⟩
 ·refine { gnd:={ G.k (K.of k0 mt) with ff:=⟨by rw[ek];nofun,⟨env.locals,oL,hfrm,bfr,e1,λvs q=>by rw[e2] at q;cases q⟩,(G.k (K.of k0 mt)).ff⟩,fav:=λb h=>((jM hfrm).mp h).elim (λh=>.inr (.inl h)) λh=>.inl (G.fav b h),avlt:=λb h=>?_,avS:=.inl G.avS },top:=⟨_,_,rfl,rfl⟩,kind:=ek,eg:=eg,eb:=eb,dbg:=hok.dbg,cld:=hok.cld,glob:=λx hx=>?_,kinds:=λx hx=>?_,get:=λx v hl hg=>?_ }
  ·rcases h with h | h | ⟨x,h⟩
   ·exact(G.k (K.of k0 mt)).avlt b h
   ·exact⟨oL,h▸e1⟩
   ·obtain⟨o,e,_⟩:=hin.cell x b h;exact⟨o,e⟩
  ·unfold isG at hx;rw[hkind];exact eq_of_beq hx
  ·rw[hkind];refine⟨hx,?_⟩;refine ocs (sc.names.lookup x) (λhk=>?_) λk hk=>?_
   ·rw[hk] at hx;exact bft hx
   ·rw[hk] at hx;cases k with
    |cell=>exact cellOfName x hk
    |free=>exact absurd rfl (hok.nofree _ (fM hk))
    |_=>exact bft hx
  ·obtain⟨h1,h2⟩:=tG hg;obtain⟨i,h3,h4⟩:=tE h1.symm;have hlt':i < vs.length:=by
    have:=(cr.mp h4).1;rw[hargs.len];exact this
   have h5:=bg hlt';obtain⟨r,hno⟩:=hargs.at i _ _ h5 h4;refine⟨vs[i],?_,?_⟩
   ·rcases h2 with h2 | h2
    ·have hk:=lJ hok.nodup h2;exact .inl ⟨by rw[hkind];exact hk,_,hin.toInCall.ns,Cq hok.anodup h3 h5 (by rw[hkind];exact hk)⟩
    ·have hk:=lJ hok.nodup h2;obtain⟨c,hc⟩:=cellOfName x hk;refine .inr ⟨.inl (by rw[hkind];exact hk),c,hc,?_⟩;have:=hin.cell x c hc
     rwa [Ct hok.anodup h3 h5 (by rw[hkind,hk];intro e;cases e)] at this
   ·cases v with
    |fz d=>exact(show Rep s.heap av _ d from r).mono (λb o _ e=>keep b o e) back
    |own d=>exact btf hno
    |pil d=>exact btf hno
    |ex x=>obtain⟨e,h,r⟩:=r;exact⟨e,h,r.mono (λb o _ e=>keep b o e) back⟩
 ·obtain⟨_,h2⟩:=tG h;rcases h2 with h2 | h2
  ·have hk:=lJ hok.nodup h2;exact⟨by unfold isL;rw[hk],.inl (by rw[hkind];exact hk)⟩
  ·have hk:=lJ hok.nodup h2;exact⟨by unfold isL;rw[hk],.inr ⟨by rw[hkind];exact hk,cellOfName x hk⟩⟩
end
section
variable {kg:List Env}
theorem X9{b:List Stmt}{body:aA->KN->KR->R V}(ht:∀ σ,bY n hd (env::kg) sc σ t (ev σ t))(hb:∀ σ,aU n hd kg env sc ki σ (execs b env) (body σ)):
  aU n hd kg env sc ki σ (exec (.While t b [] pos) env) λkn kr=>dE (λσ=>tst (ev σ t)) body bX σ kn kr:=by
 intro kj A s av hA X kn kr fin Q E hf hne hp hn hr he;refine wpAny_While (codeAny_whileLoop (λk st=>∃ σi avi,Act kg env sc kj ki σi avi st/\Fr (env::kg) kj s av st avi/\dE (λσ=>tst (ev σ t)) body k σi kn kr=fin) ?_ bX ⟨σ,av,X,Fr.rf _ s av,hf⟩)
 rintro k st ⟨σi,avi,Y,fr,hwi⟩
 cases k with
 |zero=>exact absurd hwi.symm hne
 |succ k =>
  replace hwi:rb (tst (ev σi t)) (λb=>if b then body σi (λσ=>dE (λσ=>tst (ev σ t)) body k σ kn kr) kr else kn σi)=fin:=hwi;refine wpAny_passesOwn hp (ht σi A env st avi hA Y.inv ⟨hwi,hne⟩ (λc s1 k1 e=>?_) λx v s' e f=>he x v s' e (Y.up f));have Y1:=Y.k k1;have fr1:=fr.tr (Y.frk k1);cases c with
  |false=>exact wpAny_execs_nil (hn _ _ _ Y1 fr1 e)
  |true=>exact wpAny_passesOwn hp (hb σi kj A s1 avi hA Y1 e hne hp (λs3 σ3 av3 Y3 fr3 e3=>⟨k,cz k,σ3,av3,Y3,fr1.tr fr3,e3⟩) hr he)
theorem Cv{k:Nat}(h:bad e=true):evE C k sc σ e=.no:=by
 cases k with
 |zero=>rfl
 |succ k=>exact B5 h
theorem Yb(hK:KSound n C)(hK':KSound n C')(hc':C'.hd=true){k:Nat}{rec:Stmt->aA->KN->KR->R V}(ih:∀ σ st,aU n C.hd kg env sc ki σ (exec st env) (rec st σ))(σ:aA)(st:Stmt):
  aU n C.hd kg env sc ki σ (exec st env) (zS (evE C (k+1) sc) (evE C' (k+1) sc) F C sc rec st σ):=by
 have h:∀ σ e,aH n C.hd (env::kg) sc σ e (evE C (k+1) sc σ e):=λσ e=>(lF hK (k+1) sc σ e).1;have h':∀ σ e,aH n true (env::kg) sc σ e (evE C' (k+1) sc σ e):=λσ e=>hc'▸(lF hK' (k+1) sc σ e).1;have hbad:∀ σ e,bad e=true->evE C (k+1) sc σ e=.no:=λσ e hb=>Cv hb;cases st with
 |Return o pos =>
  cases o with
  |none=>exact λkj A s av hA X _ _ _ _ _ hf hne hp hn hr he=>wpAny_Return_none (hr _ _ (.fz .none) X.k0 .none hf)
  |some e=>exact Wd λσ=>h σ e
 |Assign ts e pos =>
  cases ts with
  |nil=>exact aU.no
  |cons t r =>
   cases r with
   |nil=>exact W8 (rec:=evE C k) (λ_ _ _ hb=>Cv hb) rfl (λsc σ e=>lF hK k sc σ e) h
   |cons=>exact aU.no
 |Expr e pos=>exact Xc hbad h
 |If t b o pos=>exact We (lF hK (k+1) sc _ t).2 (jO λst _ σ=>ih σ st) (jO λst _ σ=>ih σ st)
 |For t it b o pos =>
  cases o with
  |nil=>exact Xf hbad h λσ=>jO λst _ σ=>ih σ st
  |cons=>exact aU.no
 |While t b o pos =>
  cases o with
  |nil=>exact X9 (λσ=>(lF hK (k+1) sc σ t).2) λσ=>jO λst _ σ=>ih σ st
  |cons=>exact aU.no
 |Raise o c pos =>
  cases o with
  |none=>exact aU.no
  |some e =>
   cases c with
   |none=>exact Xx hK rfl hbad h
   |some=>exact aU.no
 |Try b hs o f pos =>
  cases o with
  |cons=>exact aU.no
  |nil =>
   cases f with
   |cons=>exact aU.no
   |nil =>
    show aU n C.hd kg env sc ki σ _ λkn kr=>match gM b with
     |some e=>(match n6 hs with | some (c,x,e')=>(match x with | some z=>if C.hd then .no else n7 (evE C (k+1) sc) (evE C' (k+1) sc) F C sc σ e c z e' kr | none=>.no) | none=>.no)
     |none=>.no
    cases hr:gM b with
    |none=>exact aU.no
    |some e =>
     cases hcl:n6 hs with
     |none=>exact aU.no
     |some c =>
      obtain⟨pos1,rfl⟩:=Cr hr;obtain⟨p,pos3,pos2,rfl⟩:=X0 hcl;obtain⟨c,x,e'⟩:=c;cases x with
      |none=>exact aU.no
      |some z =>
      show aU n C.hd kg env sc ki σ _ λkn kr=>if C.hd then .no else n7 (evE C (k+1) sc) (evE C' (k+1) sc) F C sc σ e c z e' kr;cases hh:C.hd with
      |true=>exact aU.no
      |false=>exact X4 hK (λσ e=>hh▸h σ e) h'
 |Pass pos=>exact λkj A s av hA X _ _ _ _ _ hf hne hp hn hr he=>wpAny_Pass (hn _ _ _ X (Fr.rf _ s av) hf)
 |_=>exact aU.no
theorem Yc(hK:KSound n C)(hK':KSound n C')(hc':C'.hd=true):∀ (k:Nat) (σ:aA) (st:Stmt),aU n C.hd kg env sc ki σ (exec st env) (evS (evE C (j+1) sc) (evE C' (j+1) sc) F C sc k st σ):=by
 intro v0
 induction v0 with
 |zero =>
  intro _ _;exact aU.no
 |succ k ih =>
  intro σ st;exact Yb hK hK' hc' (λσ st=>ih σ st) σ st
theorem Room.deeper(h:Room (n+1) hd l A)(env:Env):Room n hd (env::l) (A.deeper env) where
 depth:=by have:=h.depth;show A.depth+1+n+1 < _;exact Hw this
 units:=by have:=h.units;show A.units+3+16*n+300 < _;exact Hx this
 handled:=h.handled
 guards:=h.guards
 frames:=Around.frames_deeper h.frames
theorem tH(f:Str)(h:(dR f O.main.body).isSome=true):∃ a b sc,dR f O.main.body=some (a,b,sc):=by
 obtain⟨⟨a,b,sc⟩,e⟩:=ij.mp h;exact⟨a,b,sc,e⟩
theorem Cw:∀ n hd,KSound n (eJ O.main.body (run O.main.body n hd) hd)
 |0,hd=>⟨rfl,rfl,rfl,tH,λf us ad hf hh A l s av vs hA G hargs β k fin Q E hfin hq he=>hfin.no.elim⟩
 |n+1,hd=>by
  refine⟨rfl,rfl,rfl,tH,λf us ad hf hh A l s av vs hA G hargs β k fin Q E hfin hq he=>?_⟩;refine hde λ_ θ=>?_;obtain⟨a,b,sc,e⟩:=tH f hh;have ih:=Cw n;replace hfin:Fin (match dR f O.main.body with
   |none=>.no
   |some (a,b,sc) =>
    if a.args.length=us.length/\n8 a sc=true then
     blk (evS (evE (eJ O.main.body (run O.main.body n hd) hd) dS sc) (evE (eJ O.main.body (run O.main.body n true) true) dS sc) dS (eJ O.main.body (run O.main.body n hd) hd) sc dS) b (eI (a.args.map (·.arg)) us sc.names) (λ_=>.ok (.fz .none)) .ok
    else .no) k fin:=hfin
  rw[e] at hfin;obtain⟨⟨hlen,hfn⟩,hfin⟩:=Fin.ite hfin;have hok:=X6 hfn;obtain⟨ad',o,pm,cd,doc,g1,g2,g3,g4⟩:=G.glo.fn f a b sc e;rw[hf] at g1;cases g1;obtain⟨kwd,dfl,hpar⟩:=hok.params;apply θ;refine wpAny_call (X7 (binds:=(a.args.map (·.arg)).zip vs) (by have:=hA.depth;exact Hy this) (G.stay _ _ g2) g3 (G.glo.nolimit.keeps G.stay) (g4.keeps G.stay) rfl (Xj hpar rfl (by rw[hlen,hargs.len]) hok.anodup) rfl (λx hx=>?_) (λke hin mt=>?_) hok.cor hok.gen hok.kind)
  ·obtain⟨ar,har,e⟩:=bq.mp (List.of_mem_zip hx).1;show sc.names.lookup x.1=_\/_;rw[<- e];rcases hok.akind ar har with h | h
   ·exact .inl h
   ·exact .inr ⟨h,pA _ _ _ _ (fM h)⟩
  ·obtain⟨av1,X⟩:=X8 rfl G hargs hok hin mt;have B:=jO (b:=b) (σ:=eI (a.args.map (·.arg)) us sc.names) (λst _ σ=>Yc (kg:=l) (env:=callEnvC (Calls.docDef f a b sc pm cd doc) s.heap.objs.size ad) (sc:=sc) (ki:=s) (F:=dS) (j:=23) (ih hd) (ih true) rfl dS σ st);refine B av _ ke av1 (hA.deeper _) X rfl hfin.ne PassesOwn.leaving (λs' σ' av' Z _ e1=>?_) (λv s' u k1 r e1=>?_) λx v s' e1 u=>?_
   ·exact hq _ _ (.fz .none) Z.k0 .none ((e1▸hfin:Fin (.ok (.fz .none)) k fin).ok)
   ·exact hq _ _ u k1 r ((e1▸hfin:Fin (.ok u) k fin).ok)
   ·refine Xv (Around.frames_deeper hA.frames) X.frm (X.fresh _ (.inl rfl)).2.1 u λs'' fl=>he x _ _ ?_ fl;exact((e1▸hfin:Fin (.exc x) k fin).1).symm
end
theorem Ye{l:List Str}:∀ {chain:List Str},rX h l chain=true->TailN h bmV l (k6 h chain):=by
 intro v0
 induction v0 with
 |nil =>
  intro _;exact .base
 |cons n r ih =>
  intro e;obtain⟨e1,e2⟩:=ax.mp (show((match h.clsAt mainGlobals n with | some x=>h.isNs x.2.2.ns&&rW h x.2.2.ns l | none=>false)&&rX h l r)=true from e);refine ocs (h.clsAt mainGlobals n) (λhc=>?_) λx hc=>?_
  ·simp only[hc] at e1;exact bft e1
  ·refine hde λ_ θ=>?_;obtain⟨a,o,cd⟩:=x;simp only[hc] at e1;obtain⟨h1,h2,h3⟩:=Heap.clsAt_spec hc;obtain⟨f1,f2⟩:=ax.mp e1;obtain⟨oc,dd,dt,sl⟩:=o;apply θ;obtain rfl:dt=.cls cd:=h3;show TailN h bmV l (rV h n::k6 h r);unfold rV;simp only[h1];exact .own h2 (.of_isNs f1) (λn hn=>Option.isNone_iff_eq_none.mp (bb.mp f2 n hn)) (ih e2)
theorem Yg{chain:List Str}{c:Str}{x:Addr×Obj×ClassData}(hx:h.clsAt mainGlobals c=some x)(e:oA h chain ini x=true):ClsP h x.1 (k6 h chain) ini:=by
 obtain⟨C,o,cd⟩:=x;obtain⟨h1,h2,h3⟩:=Heap.clsAt_spec hx;obtain⟨oc,dd,dt,sl⟩:=o;obtain⟨nm,bs,mro,N,q,hdct,sn,sub,ab,col,hdel⟩:=cd;unfold oA at e;simp only[Bool.and_eq_true,decide_eq_true_eq,Bool.not_eq_true'] at e;obtain⟨⟨⟨⟨⟨⟨hcls,hmro⟩,hdl⟩,hsz⟩,hmk⟩,hns⟩,hin⟩:=e;obtain⟨l⟩:=sl;obtain⟨k0,k1,k2,k3,k5,rfl⟩:=six_places (l:=l) (by simpa using hsz) (by simpa using hmk);obtain rfl:oc=.type "type" := hcls;obtain rfl:dt=_:=h3;obtain rfl:hdel=false:=hdl;subst hmro;obtain⟨i1,i2⟩:=ax.mp hin;obtain⟨i1,i3⟩:=ax.mp i1;exact⟨N,nm,q,bs,hdct,sn,sub,ab,col,dd,k0,k1,k2,k3,k5,_,h2,.of_isNs hns,λe=>by subst e;exact Option.isNone_iff_eq_none.mp i1,λn hn=>Option.isNone_iff_eq_none.mp (bb.mp i3 n hn),Ye i2⟩
section
open PySem.W PyProof.Rows
theorem Cx{c:Str}{p:Str×Option (List Str)}(h:bQ c body=some p):c∈oB body:=by
 induction body with
 |nil=>exact ns h
 |cons s r ih =>
  have skip:bQ c r=some p->c∈oB (s::r):=λh=>by
   obtain⟨q,hq,e⟩:=jz.mp (ih h);exact jz.mpr ⟨q,af _ hq,e⟩
  replace h:(match sv s with | .cls n bs b=>if c=n then (match dC bs with | some [y]=>some (y,zM b) | _=>none) else bQ c r | _=>bQ c r)=some p:=h;cases e:sv s with
  |cls n bs b =>
   rw[e] at h
   by_cases x:c=n
   ·exact jz.mpr ⟨s,ac,by show(match sv s with | .cls n _ _=>some n | _=>none)=_;rw[e,x]⟩
   ·exact skip ((if_neg x).symm.trans (show(if c=n then _ else bQ c r)=some p from h))
  |_=>rw[e] at h;exact skip h
def jP(body:List Stmt)(mg:Str->Option Value)(h:Heap):Prop :=
 ∀ c p,bQ c body=some p->∃ C bm,mg c=some (.ref C)/\ClsP h C bm p.2/\∀ d q D,bQ d body=some q->mg d=some (.ref D)->(Value.ref C::bm).contains (.ref D)=jC body 4 c d
theorem Yh{o:Option α}{p:α->Bool}(h:o.any p=true):∃ x,o=some x/\p x=true:=by
 cases o with
 |none=>exact bft h
 |some x=>exact⟨x,rfl,h⟩
theorem Yi(e:oE h body=true):jP body (h.nsMap mainGlobals) h:=λc p hc=>by
 have e1:=bb.mp e c (Cx hc);rw[hc] at e1;obtain⟨x,hx,e2⟩:=Yh (show(h.clsAt mainGlobals c).any (λx=>oA h (n9 body 4 c) p.2 x&&zT h body c x.1)=true from e1);obtain⟨e3,e4⟩:=ax.mp e2;refine⟨x.1,_,(Heap.clsAt_spec hx).1,Yg hx e3,λd q D hd hD=>?_⟩;have e5:=bb.mp e4 d (Cx hd);rw[hD] at e5;exact of_decide_eq_true e5
theorem ClsP.keeps{C:Addr}(x:ClsP h C bm ini)(hk:∀ b o,h.get? b=some o->h'.get? b=some o):ClsP h' C bm ini:=by
 obtain⟨N,nm,q,bs,hdct,sn,sub,ab,col,dd,k0,k1,k2,k3,k5,mN,hC,hN,hni,hnh,T⟩:=x;exact⟨N,nm,q,bs,hdct,sn,sub,ab,col,dd,k0,k1,k2,k3,k5,mN,hk _ _ hC,hN.keeps hk,hni,hnh,T.keeps hk⟩
theorem jP.keeps{mg:Str->Option Value}(x:jP body mg h)(hk:∀ b o,h.get? b=some o->h'.get? b=some o):jP body mg h' :=
 λc p e=>by obtain⟨C,bm,h1,h2,h3⟩:=x c p e;exact⟨C,bm,h1,h2.keeps hk,h3⟩
noncomputable def pB(f:Str):List DefRec->Option (Arguments×List Stmt×Scope)
 | []=>none
 |d::r=>if f=d.name then some (d.params,d.body,d.scope) else pB f r
theorem Yj{a:Arguments}{b:List Stmt}:∀ {l:List DefRec},pB f l=some (a,b,sc)->∃ d∈l,d.name=f/\d.params=a/\d.body=b/\d.scope=sc
 := by
 intro l
 induction l with
 |nil=>intro h;exact ns h
 |cons d r ih =>
  intro h;replace h:(if f=d.name then some (d.params,d.body,d.scope) else pB f r)=some (a,b,sc):=h
  by_cases e:f=d.name
  ·rw[if_pos e] at h;cases h;exact⟨d,ac,e.symm,rfl,rfl,rfl⟩
  ·rw[if_neg e] at h;obtain⟨d',h1,h2⟩:=ih h;exact⟨d',af _ h1,h2⟩
noncomputable def tI:List Str:=["isinstance", "len", "all", "sorted", "abs", "min", "repr", "list", "tuple", "dict", "set", "int", "str", "bool", "range", "enumerate", "reversed", "zip", "ValueError"]
theorem Yk{l:List (Str×Value)}(h:l.lookup x=some v):(x,v)∈l:=by
 induction l with
 |nil=>exact ns h
 |cons p r ih =>
  rw[List.lookup_cons] at h
  by_cases e:x=p.1
  ·simp only[e,beq_self_eq_true] at h;obtain rfl:=si h;simp only[e];exact ac
  ·simp only[beq_false_of_ne e] at h;exact af _ (ih h)
theorem Yl:∀ p∈sE,p.1∈tI/\bootBuiltins p.1=some p.2/\p.1 ≠ "__name__" := by
 unfold sE
 iterate 19 (refine de.mpr ⟨⟨by decide,by kernel_rfl,by decide⟩,?_⟩)
 exact λ_ h=>aZ h
theorem Ym(h:jG x=some v):x∈tI/\bootBuiltins x=some v/\x ≠ "__name__" := Yl _ (Yk h)
def Cy(body:List Stmt):List Str:=body.filterMap λs=>(zL s).map (·.1)
theorem Yn(h:iC body x=some d):x∈Cy body/\x ≠ "__name__" := by
 by_cases hx:x = "__name__"
 ·exact ns ((if_pos hx).symm.trans h)
 ·obtain⟨s,hs,he⟩:=List.exists_of_findSome?_eq_some ((if_neg hx).symm.trans h);obtain⟨p,e1,e2⟩:=im.mp he
  by_cases e:x=p.1
  ·exact⟨jz.mpr ⟨s,hs,by simp only[e1,e];rfl⟩,hx⟩
  ·exact ns ((if_neg e).symm.trans e2)
def cE1(d e:PyData):Bool:=match d with
 | .int a=>(match e with | .int b=>a==b | _=>false)
 | .str a=>(match e with | .str b=>a==b&&decide (a.length<=aF) | _=>false)
 |_=>false
def cEq(o q:Option PyData):Bool:=match o with
 |none=>true
 |some d=>(match q with | some e=>cE1 d e | none=>false)
theorem Yo{o:Option PyData}(h:cEq (some d) o=true):o=some d/\((∃ i,d=.int i)\/∃ s,d=.str s/\s.length<=aF):=by
 cases o with
 |none=>exact bft h
 |some e =>
  replace h:cE1 d e=true:=h;cases d with
  |int a =>
   cases e with
   |int b=>obtain rfl:=eq_of_beq (show(a==b)=true from h);exact⟨rfl,.inl ⟨_,rfl⟩⟩
   |_=>exact bft h
  |str a =>
   cases e with
   |str b =>
    obtain⟨h1,h2⟩:=ax.mp (show(a==b&&decide (a.length<=aF))=true from h);obtain rfl:=eq_of_beq h1;exact⟨rfl,.inr ⟨_,rfl,of_decide_eq_true h2⟩⟩
   |_=>exact bft h
  |_=>exact bft h
theorem Yp{p O:Program}{w:World}{loose:List Str}{mean:ExcName->Option Value}{mg mb:Str->Option Value}(T:Top p loose mean mg mb h)(X:jP O.main.body mg h)
  (hfn:∀ f,dR f O.main.body=pB f (recsOf p)) (hc:((Cy O.main.body).all λx=>cEq (iC O.main.body x) (valOf p x))=true)
  (hfree:(tI.all λx=>!startupNames.contains x&&!loose.contains x&&!((recsOf p).map (·.name)).contains x&&!((litsOf p).map (·.1)).contains x&&!((clssOf p loose).map (·.name)).contains x)=true) (himp:importsNone p=true) :
  Glo O w mg mb h where
 g:=T.g
 b:=T.b
 nolimit:=T.nolimit
 mods:=by
  obtain⟨mm,hm,_⟩:=(T.seer himp).mods;exact⟨mm,hm⟩
 fn:=λf a b sc e=>by
  rw[hfn] at e;refine hde λ_ θ=>?_;obtain⟨d,hd,h1,h2,h3,h4⟩:=Yj e;obtain⟨ad,o,pm,code,doc,g1,g2,g3,g4⟩:=T.fn d hd;apply θ;subst h1;subst h2;subst h3;subst h4;exact⟨ad,o,pm,code,doc,g1,g2,g3,g4⟩
 const:=λx d e=>by
  obtain⟨h1,h2⟩:=Yn e;have:=bb.mp hc x h1;rw[e] at this;obtain⟨h3,h4⟩:=Yo this;obtain⟨v,h5,h6⟩:=T.const x d h3;refine⟨v,h5,?_⟩;have r:=h6 h;rcases h4 with ⟨i,rfl⟩ | ⟨s,rfl,hl⟩
  ·cases r;exact .inl ⟨_,_,rfl,rfl⟩
  ·cases r;exact .inr ⟨_,_,rfl,rfl,hl⟩
 blt:=λx v e=>by
  obtain⟨h1,h2,h3⟩:=Ym e;have:=bb.mp hfree x h1;simp only[Bool.and_eq_true,Bool.not_eq_true',List.contains_eq_mem,decide_eq_false_iff_not] at this;obtain⟨⟨⟨⟨q1,q2⟩,q3⟩,q4⟩,q5⟩:=this;exact⟨T.free x q1 q2 q3 q4 q5,(T.builtins x h3).trans h2⟩
 cls:=λc p e=>by
  obtain⟨C,bm,h1,h2,h3⟩:=X c p e;exact⟨C,bm,h1,h2.ok,h3⟩
theorem Yq{P:Params}{n:Int}(x:Well P h v (.int n)):∃ t,v=.int n t:=by cases x;exact⟨_,rfl⟩
theorem Yr{P:Params}:∀ {ns:List Int} {vs:List Value},WellAll P h vs (ofPys (ns.map .int))->vs.length=ns.length/\∀ (i:Nat) (v:Value) (d:PyData),vs[i]?=some v->(ns.map PyData.int)[i]?=some d->∃ k t,v=.int k t/\d=.int k:=by
 intro ns
 induction ns with
 |nil =>
  intro vs hw;cases (show WellAll P h vs [] from hw);exact⟨rfl,λi v d e=>nomatch e⟩
 |cons n ns ih =>
  intro vs hw;refine hde λ_ θ=>?_;obtain⟨v,vs',e,h1,h2⟩:=wellAll_cons_inv (show WellAll P h vs (WData.int n::ofPys (ns.map .int)) from hw);obtain⟨g1,g2⟩:=ih h2;obtain⟨t,e'⟩:=Yq h1;apply θ;rw[e,e'];refine⟨congrArg Nat.succ g1,λi u d e1 e2=>?_⟩;cases i with
  |zero=>exact⟨_,t,(si e1).symm,(si e2).symm⟩
  |succ i=>exact g2 i u d e1 e2
theorem Ys:Law gC:=by
 intro fa l ns N Q E GL hmg hw hn ht hf hN hrun hq;replace GL:Glo O w mg mb base:=GL;have hw:Well w.params base (.ref l) (.list (ofPys (ns.map .int))):=hw;cases hw with
 | @list _ vs _ h1 h2 =>
  obtain⟨g1,g2⟩:=Yr h2;obtain⟨mm,hm⟩:=GL.mods;have hne:¬ l=sysModules:=λe=>by
   obtain⟨o,es,ep,e1,e2,_⟩:=hm;rw[<- e,h1] at e1;obtain rfl:=si e1;cases e2
  have rep:Rep base (λb=>b=sysModules) (.ref l) (.list (ns.map .int)):=by
   refine .list hne ⟨_,h1⟩ (by simp[g1]) ?_ λi v d e1 e2=>?_
   ·have:sizeLine=16777216:=rfl;exact Hz hn g1 this
   ·obtain⟨k,t,rfl,rfl⟩:=g2 i v d e1 e2;exact .int k t
  have room:Room N false [] callerA:=by
   refine⟨?_,?_,λ_=>rfl,rfl,rfl⟩
   ·have:callerA.depth+400+1 < recursionLimit:=by decide
    exact H0 hN this
   ·have:callerA.units+16*400+300 < cLine:=by decide
    exact H1 hN this
  have G:Gnd [] (λb=>b=sysModules) gC.e:=⟨GL,λ_ _ e=>e,trivial,λb f=>(nomatch f),λb hb=>by
   obtain⟨o,es,ep,e1,_⟩:=hm;exact⟨o,hb▸e1⟩,rfl,ht⟩
  refine(Cw N false).call (Str.ofString "law") [.fz (.list (ns.map .int))] fa hmg hf callerA [] gC.e (λb=>b=sysModules) [.ref l] room G ⟨⟨rep,rfl⟩,trivial⟩ (k:=R.ok) (fin:=.ok (.fz (.bool true))) ⟨by rw[show(eJ O.main.body (run O.main.body N false) false).call (Str.ofString "law") [.fz (.list (ns.map .int))]=_ from hrun];rfl,nofun⟩ (λv s' u k r e=>?_) λx v s' e _=>by cases e
  cases e;have:=Rep.bool_inv r;subst this;obtain⟨h,t,rfl,k1,_⟩:=k;exact hq _ ⟨h,t,rfl,λb o e=>k1 b o (λf=>nomatch f) e⟩
theorem Yt{O:Program}{w:World}{mg mb:Str->Option Value}{ke:Shared}{fa l:Addr}{ns:List Int}{N:Nat}(GL:Glo O w mg mb ke.heap)(hmg:mg (Str.ofString "law")=some (.ref fa))
  (hw:Well w.params ke.heap (.ref l) (ofPy (.list (ns.map .int)))) (hn:ns.length<=63) (ht:0 < ke.toks) (hf:(dR (Str.ofString "law") O.main.body).isSome=true) (hN:N<=400)
  (hrun:run O.main.body N false (Str.ofString "law") [.fz (.list (ns.map .int))]=.ok (.fz (.bool true))) (hq:∀ s',Kp ke s'->Q (.bool true) s'):wpAny (model O w) callerA (call (.ref fa) [.ref l]) Q E ke :=
 Rn Ys ⟨O,w,mg,mb,ke⟩ fa l ns N Q E GL hmg hw hn ht hf hN hrun hq
end
end Mine.Internal
namespace Mine.Internal
open PySem
variable {f y i:Int}{r h:It}{ps:LP}{ws:List (List Nat)}{T cs s:List Nat}{l xs:List PyData}{S fs:List Str}{k g p q h' g' l' b':Nat}{Q:Prop}{d:PyData}{t:PyData->R Bool}{e:PyData->R V}{b a c:R V}{x:Str}{α:Type}{v:V}
def pC(B:List Stmt)(f:Str):Scope:=match dR f B with | some (_,_,sc)=>sc | none=>⟨.function,[],false,false,[]⟩
def aP(B:List Stmt)(f:Str):List Stmt:=match dR f B with | some (_,b,_)=>b | none=>[]
def tv(s:Stmt):List Stmt×Expr:=match sv s with
 | .blk b t _=>(b,t)
 | .asg ts _=>([],ts.head?.getD (.Name Str.empty ⟨0,0,0,0⟩))
 |_=>([],.Name Str.empty ⟨0,0,0,0⟩)
def dT(l:List Stmt):List Stmt:=l.head?.elim [] λs=>match sv s with | .blk _ _ o=>o | _=>[]
def dL(l:List Stmt):List Stmt:=l.head?.elim [] λs=>(tv s).1
def bT(l:List Stmt):List Stmt:=l.head?.elim [] λs=>(tv s).1
def tJ(l:List Stmt):Expr:=l.head?.elim (.Name Str.empty ⟨0,0,0,0⟩) λs=>(tv s).2
def cW(l:List Stmt):Expr:=l.head?.elim (.Name Str.empty ⟨0,0,0,0⟩) λs=>(tv s).2
def stm(B:List Stmt)(f:Str)(n k:Nat):List Stmt->aA->KN->KR->R V :=
 blk (evS (evE (eJ B (run B n false) false) dS (pC B f)) (evE (eJ B (run B n true) true) dS (pC B f)) dS (eJ B (run B n false) false) (pC B f) k)
def aB(op:Operator)(a b:R V):R V:=rb a λa=>rb b λb=>ofP (aD op (dOf a) (dOf b))
def unS(op:UnaryOp)(a:R V):R V:=rb a λv=>ofP (fF op v)
def aI(a b:R V):R V:=rb a λv=>rb (ofP (c9 v)) λc=>if c then b else .ok v
def orS(a b:R V):R V:=rb a λv=>rb (ofP (c9 v)) λc=>if c then .ok v else b
def bM(t a b:R V):R V:=rb (tst t) λc=>if c then a else b
def aC(a:R V)(op:CmpOp)(b:R V):R V:=rb a λa=>aV (rb b λv=>ofP (cmp op (dOf a) (dOf v)))
def b8(a:R V)(op:CmpOp)(b:R V)(op':CmpOp)(c:R V):R V:=rb a λa=>aV (rb b λv=>rb (ofP (cmp op (dOf a) (dOf v))) λt=>if t then (rb c λw=>ofP (cmp op' (dOf v) (dOf w))) else .ok false)
def eB:List (R V)->R (List V)
 | []=>.ok []
 |e::r=>rb e λv=>rb (eB r) λvs=>.ok (v.cl::vs)
def b9(l:List (R V)):R V:=rb (eB l) λl=>if l.length<=aF then .ok (.own (.list (bV l))) else .no
def aO(l:List (R V)):R V:=rb (eB l) λl=>if l.length<=aF then .ok (.fz (.tuple (bV l))) else .no
def tK:List (R V×R V)->R (List (PyData×PyData))
 | []=>.ok []
 |p::r=>rb p.1 λk=>rb p.2 λv=>rb (tK r) λr=>.ok ((dOf k,dOf v)::r)
def gN(l:List (R V×R V)):R V:=rb (tK l) λl=>ofP (kL l)
def aK(a:R PyData)(i:R V):R V:=rb a λa=>rb i λi=>ofP (getItem a (dOf i))
def pD:Option (R V)->R (Option Int)
 |none=>.ok none
 |some e=>rb e λv=>ofP (toI v)
def aR(a:R PyData)(lo hi:Option (R V)):R V:=rb a λa=>rb (pD lo) λlo=>rb (pD hi) λhi=>ofP (iY a lo hi)
def bN(m:Str)(o:R V)(as:List (R V)):R V:=rb o λo=>if mOk m (dOf o) then rb (eB as) λas=>ofP (rD m (dOf o) (bV as)) else .no
def dF(t:Str)(a:R V):R V:=rb a λv=>ofP (nP t (dOf v))
def aL(f:PyData->P V)(a:R V):R V:=rb a λv=>ofP (f (dOf v))
def lK(as:List (R V)):R V:=rb (eB as) λvs=>ofP (nO vs)
def aE(f:List V->R V)(as:List (R V)):R V:=rb (eB as) λvs=>f vs
def aM(it:R (List PyData))(t:PyData->R Bool)(e:PyData->R V):R V:=rb (rb it λl=>aN t e l) λr=>ofP (own (.list r))
def plI(e:R V):R (List PyData):=rb e λv=>ofP (items (dOf v))
def rgI(e:R V):R (List PyData):=rb e λv=>ofP ((iA v).bind nC)
def enI(e:R V):R (List PyData):=rb e λv=>ofP ((mZ (dOf v)).bind λl=>.ok (cU 0 l))
def rvI(e:R V):R (List PyData):=rb e λv=>ofP (y8 (dOf v))
def bH(v:V):R PyData:=match (match v with | .own d=>some d | _=>none) with
 |some d=>.ok d
 |none=>rb (ofP (rdv v)) λv=>.ok (dOf v)
def bU(v:V):R V:=match (match v with | .ex d=>some d | _=>none) with
 |some x=>.ok (.ex x)
 |none=>ofP (rdv v)
def cR(e:R V):R PyData:=rb e λv=>.ok (dOf v)
def dM(v:V)(kr:V->R V):R V:=match (match v with | .own d=>some d | _=>none) with
 |some d=>kr (.own d)
 |none=>rb (ofP (rdv v)) kr
def ifS(t:R V)(a b:R V):R V:=rb (tst t) λc=>if c then a else b
def cX(x:R V)(X:R PyData)(I:R V)(k:PyData->R V):R V:=rb x λv=>rb X λo=>rb I λiv=>rb (ofP (setItem o (dOf iv) (dOf v))) k
def lL(X:R PyData)(m:Str)(as:List (R V))(k:PyData->R V):R V:=rb X λo=>if jE m o then rb (eB as) λas'=>rb (ofP (nU m o (bV as'))) k else .no
def tL(ps:List Str)(c:Str)(as:List (R V)):R V:=rb (eB as) λvs=>if ps.length=vs.length then .exc ⟨c,ps.zip (bV vs)⟩ else .no
def fO(c:Str)(as:List (R V)):R V:=rb (eB as) λvs=>if vs.length=1 then .exc ⟨c,[]⟩ else .no
def Yu(B:List Stmt)(c:Str)(a:R V)(h:X->R V)(kr:V->R V):R V:=match a with
 | .no=>.no
 | .ok v=>kr v
 | .exc y=>if fH B y.cls c=some true then rb (nx (h y)) kr else .no
def zpI(as:List (R V)):R (List PyData):=rb (eB as) λvs=>ofP (zA vs)
def Cz(B:List Stmt)(f:Str)(n:Nat)(e:Expr)(σ:aA):R Bool:=tst (evE (eJ B (run B n false) false) dS (pC B f) σ e)
def pr2{α:Type}(d:PyData)(k:PyData->PyData->R α):R α:=match two d with
 |some q=>k q.1 q.2
 |none=>.no
noncomputable def q63(d:PyData):R V:=match (match d with | .list l=>some l.length | _=>none) with
 |some n=>.ok (.fz (.int n))
 |none=>.no
def cY(w:V):R V:=match nI w with
 |some n=>.ok (.fz (.int n))
 |none=>rb (ofP (rdv w)) λv=>ofP (aW (dOf v))
noncomputable abbrev κ(d:PyData):R V:=.ok (.fz d)
noncomputable def BB:List Stmt:=PySem.Challenge.rw_uf010037_13.prog.main.body
noncomputable abbrev so(x:String):Str:=Str.ofString x
noncomputable abbrev ζ(d:PyData):Option V:=some (.fz d)
noncomputable abbrev rn(n:Nat)(f:String)(vs:List V):R V:=run BB n false (Str.ofString f) vs
variable (n:Nat)(a1 a2 a3 a4 a5 a6 a7 x1 x2 x3 x4 x5 x6 x7 x8 x9 x10 x11 x12 x13 x14 x15 x16 x17 x18 x19 d0 d1 d2 d3 d4 d5:PyData)(w1 w2 w3 w4 w5 w6 w7 w8 w9 w10 w11 w12 w13 w14 w15 w16 w17 w18 w19:V)(o1 o2 o3 o4 o5 o6 o7 o8 o9 o10 o11 o12 o13 o14 o15 o16 o17 o18 o19 p0 p1 p2 p3 p4 p5 p6 p7 p8 p9 p10 p11 p12 p13 p14 p15 p16 p17 p18 p19:Option V)(kn:KN)(kr:KR)
theorem Yv:rn (n+1) "is_name" [.fz a1]=ifS (orS (unS .Not (κ (.bool (eP a1)))) (unS .Not (b8 (κ (.int 1)) .LtE (ofP (aW a1)) .LtE (κ (.int 8))))) (κ (.bool false)) (rb (aL b7 (aM (ofP (items a1)) (λd1=>.ok true) (λd1=>aV (ofP (cmp .In d1 (.str (so "abcdefghijklmnopqrstuvwxyz"))))))) R.ok):=by kernel_rfl
theorem C0:rn (n+1) "is_whole" [.fz a1]=rb (aI (κ (.bool (iZ a1))) (unS .Not (κ (.bool (i5 a1))))) R.ok:=by kernel_rfl
theorem C1:rn (n+1) "is_row" [.fz a1]=ifS (orS (unS .Not (κ (.bool (cC a1)))) (aC (ofP (aW a1)) .NotEq (κ (.int 3)))) (κ (.bool false)) (rb (aI (aE (rn n "is_name") [ofP (getItem a1 (.int 0))]) (aI (aE (rn n "is_name") [ofP (getItem a1 (.int 1))]) (aE (rn n "is_view") [ofP (getItem a1 (.int 2))]))) R.ok):=by kernel_rfl
theorem C3:rn (n+1) "is_beside" [.fz a1]=ifS (orS (unS .Not (κ (.bool (cC a1)))) (unS .Not (b8 (κ (.int 1)) .LtE (ofP (aW a1)) .LtE (κ (.int 6))))) (κ (.bool false)) (ifS (unS .Not (aL b7 (aM (ofP (items a1)) (λd1=>.ok true) (λd1=>rn n "is_row" [.fz d1])))) (κ (.bool false)) (rb (aM (ofP (items a1)) (λd2=>.ok true) (λd2=>ofP (getItem d2 (.int 0)))) λv3=>rb (aM (ofP (items a1)) (λd4=>.ok true) (λd4=>ofP (getItem d4 (.int 1)))) λv5=>rb (aI (aC (aL dD (ofP (rdv (V.cl v3)))) .Eq (ofP (aW a1))) (aC (aL dD (ofP (rdv (V.cl v5)))) .Eq (ofP (aW a1)))) R.ok)):=by kernel_rfl
theorem C4:rn (n+1) "are_fields" [.fz a1]=ifS (orS (unS .Not (κ (.bool (cC a1)))) (unS .Not (b8 (κ (.int 1)) .LtE (ofP (aW a1)) .LtE (κ (.int 6))))) (κ (.bool false)) (rb (aI (aL b7 (aM (ofP (items a1)) (λd1=>.ok true) (λd1=>rn n "is_name" [.fz d1]))) (aC (aL dD (κ a1)) .Eq (ofP (aW a1)))) R.ok):=by kernel_rfl
theorem C5:rn (n+1) "are_two_names" [.fz a1,.fz a2]=rb (aI (rn n "is_name" [.fz a1]) (aI (rn n "is_name" [.fz a2]) (aV (ofP (cmp .NotEq a1 a2))))) R.ok:=by kernel_rfl
theorem C6:rn (n+1) "is_least" [.fz a1]=rb (aI (rn n "is_whole" [.fz a1]) (aC (ofP (q0 a1)) .Lt (ofP (aD .Pow (.int 10) (.int 30))))) R.ok:=by kernel_rfl
theorem C7:rn (n+1) "is_view" [.fz a1]=ifS (orS (unS .Not (κ (.bool (cC a1)))) (orS (aC (ofP (aW a1)) .Eq (κ (.int 0))) (unS .Not (dF (so "str") (ofP (getItem a1 (.int 0))))))) (κ (.bool false)) (rb (ofP (getItem a1 (.int 0))) λv1=>ifS (aC (ofP (rdv (V.cl v1))) .Eq (κ (.str (so "whole")))) (rb (aC (ofP (aW a1)) .Eq (κ (.int 1))) R.ok) (ifS (aC (ofP (rdv (V.cl (V.cl v1)))) .Eq (κ (.str (so "pick")))) (rb (aI (aC (ofP (aW a1)) .Eq (κ (.int 2))) (aE (rn n "is_name") [ofP (getItem a1 (.int 1))])) R.ok) (ifS (aC (ofP (rdv (V.cl (V.cl (V.cl v1))))) .Eq (κ (.str (so "call")))) (rb (aI (aC (ofP (aW a1)) .Eq (κ (.int 3))) (aE (rn n "are_two_names") [ofP (getItem a1 (.int 1)),ofP (getItem a1 (.int 2))])) R.ok) (ifS (aC (ofP (rdv (V.cl (V.cl (V.cl (V.cl v1)))))) .Eq (κ (.str (so "beside")))) (rb (aI (aC (ofP (aW a1)) .Eq (κ (.int 2))) (aE (rn n "is_beside") [ofP (getItem a1 (.int 1))])) R.ok) (ifS (aC (ofP (rdv (V.cl (V.cl (V.cl (V.cl (V.cl v1))))))) .Eq (κ (.str (so "sift")))) (rb (aI (aC (ofP (aW a1)) .Eq (κ (.int 3))) (aI (aE (rn n "is_name") [ofP (getItem a1 (.int 1))]) (aE (rn n "is_least") [ofP (getItem a1 (.int 2))]))) R.ok) (ifS (aC (ofP (rdv (V.cl (V.cl (V.cl (V.cl (V.cl (V.cl v1)))))))) .Eq (κ (.str (so "join")))) (rb (aI (aC (ofP (aW a1)) .Eq (κ (.int 4))) (aI (aE (rn n "are_two_names") [ofP (getItem a1 (.int 1)),ofP (getItem a1 (.int 2))]) (aE (rn n "are_fields") [ofP (getItem a1 (.int 3))]))) R.ok) (ifS (aC (ofP (rdv (V.cl (V.cl (V.cl (V.cl (V.cl (V.cl (V.cl v1))))))))) .Eq (κ (.str (so "each")))) (rb (aI (aC (ofP (aW a1)) .Eq (κ (.int 2))) (aE (rn n "is_view") [ofP (getItem a1 (.int 1))])) R.ok) (rb (aI (aC (ofP (rdv (V.cl (V.cl (V.cl (V.cl (V.cl (V.cl (V.cl (V.cl v1)))))))))) .Eq (κ (.str (so "then")))) (aI (aC (ofP (aW a1)) .Eq (κ (.int 3))) (aI (aE (rn n "is_view") [ofP (getItem a1 (.int 1))]) (aE (rn n "is_view") [ofP (getItem a1 (.int 2))])))) R.ok)))))))):=by kernel_rfl
def cG(o0 o1 o2 o3 o4:Option V):aA:=[(so "text",o0),(so "at",o1),(so "end",o2),(so "item",o3),(so "items",o4)]
def pE(n:Nat)(σ:aA)(kn:KN)(kr:KR):R V:=stm BB (so "item_at") n 22 (bT (List.drop 1 (dL (aP BB (so "item_at"))))) σ kn kr
def iK(n:Nat)(σ:aA):R Bool:=Cz BB (so "item_at") n (cW (List.drop 1 (dL (aP BB (so "item_at"))))) σ
def C8(n:Nat)(σ:aA)(kn:KN)(kr:KR):R V:=stm BB (so "item_at") n 23 (List.drop 2 (dL (aP BB (so "item_at")))) σ kn kr
def tM:Expr:=tJ (List.drop 1 (aP BB (so "item_at")))
def tN(n:Nat)(σ:aA)(kn:KN)(kr:KR):R V:=stm BB (so "item_at") n 24 (List.drop 2 (aP BB (so "item_at"))) σ kn kr
theorem C9:rn (n+1) "item_at" [.fz a1,.fz a2]=ifS (aC (aR (.ok a1) (some (κ a2)) (some (ofP (aD .Add a2 (.int 1))))) .NotEq (κ (.str (so "(")))) (dE (iK n) (pE n) bX (cG (ζ a1) (ζ a2) (ζ a2) none none) (λσ=>C8 n σ (λσ=>stm BB (so "item_at") n 24 (List.drop 1 (aP BB (so "item_at"))) σ (λ_=>κ .none) R.ok) R.ok) R.ok) (rb (aE (rn n "item_at") [κ a1,ofP (aD .Add a2 (.int 1))]) λv1=>rb (ofP (bA tM (dOf v1) (cG (ζ a1) (ζ a2) none none none))) λσ=>tN n σ (λ_=>κ .none) R.ok):=by kernel_rfl
theorem Da:iK n (cG (ζ x1) (ζ x2) (some w3) none none)=tst (aI (aC (ofP (rdv w3)) .Lt (ofP (aW x1))) (aC (aK (.ok x1) (ofP (rdv w3))) .NotIn (κ (.str (so " ()"))))):=by kernel_rfl
theorem Yw:pE n (cG (ζ x1) (ζ x2) (some w3) none none) kn kr=rb (aB .Add (ofP (rdv (V.cl w3))) (κ (.int 1))) λv1=>kn (cG (ζ x1) (ζ x2) (some v1) none none):=by kernel_rfl
theorem Yx:C8 n (cG (ζ x1) (ζ x2) (some w3) none none) kn kr=ifS (aC (ofP (rdv (V.cl w3))) .Eq (κ x2)) (fO (so "BadText") [κ (.str (so "a word is wanted"))]) (rb (aO [aR (.ok x1) (some (κ x2)) (some (ofP (rdv (V.cl (V.cl w3))))),ofP (rdv (V.cl (V.cl w3)))]) kr):=by kernel_rfl
theorem Yy:bA tM (.tuple [d0,d1]) (cG p0 p1 p2 p3 p4)=.ok (cG p0 (ζ d1) p2 (ζ d0) p4):=by kernel_rfl
def f0(n:Nat)(σ:aA)(kn:KN)(kr:KR):R V:=stm BB (so "item_at") n 23 (bT (List.drop 3 (aP BB (so "item_at")))) σ kn kr
def dU(n:Nat)(σ:aA):R Bool:=Cz BB (so "item_at") n (cW (List.drop 3 (aP BB (so "item_at")))) σ
def tO(n:Nat)(σ:aA)(kn:KN)(kr:KR):R V:=stm BB (so "item_at") n 24 (List.drop 4 (aP BB (so "item_at"))) σ kn kr
theorem Yz:tN n (cG (ζ x1) (ζ d1) none (ζ d0) none) kn kr=rb (b9 [κ d0]) λv1=>dE (dU n) (f0 n) bX (cG (ζ x1) (ζ d1) none (ζ d0) (some v1)) (λσ=>tO n σ kn kr) kr:=by kernel_rfl
theorem Y0:dU n (cG (ζ x1) (some w2) none (some w4) (some w5))=tst (aC (aR (.ok x1) (some (ofP (rdv w2))) (some (aB .Add (ofP (rdv w2)) (κ (.int 1))))) .Eq (κ (.str (so " ")))):=by kernel_rfl
def tP:Expr:=tJ (bT (List.drop 3 (aP BB (so "item_at"))))
def tQ(n:Nat)(σ:aA)(kn:KN)(kr:KR):R V:=stm BB (so "item_at") n 23 (List.drop 1 (bT (List.drop 3 (aP BB (so "item_at"))))) σ kn kr
theorem Y6:f0 n (cG (ζ x1) (some w2) none (some w4) (some w5)) kn kr=rb (aE (rn n "item_at") [κ x1,aB .Add (ofP (rdv (V.cl w2))) (κ (.int 1))]) λv1=>rb (ofP (bA tP (dOf v1) (cG (ζ x1) (some (V.cl w2)) none (some w4) (some w5)))) λσ=>tQ n σ kn kr:=by kernel_rfl
theorem Y7:tO n (cG (ζ x1) (some w2) none (some w4) (some w5)) kn kr=ifS (aC (aR (.ok x1) (some (ofP (rdv (V.cl w2)))) (some (aB .Add (ofP (rdv (V.cl w2))) (κ (.int 1))))) .NotEq (κ (.str (so ")")))) (fO (so "BadText") [κ (.str (so "a bracket is wanted"))]) (rb (aO [ofP (rdv (V.cl w5)),aB .Add (ofP (rdv (V.cl (V.cl w2)))) (κ (.int 1))]) kr):=by kernel_rfl
theorem Y8:bA tP (.tuple [d0,d1]) (cG p0 p1 p2 p3 p4)=.ok (cG p0 (ζ d1) p2 (ζ d0) p4):=by kernel_rfl
theorem Y9:tQ n (cG (ζ x1) (ζ d1) none (ζ d0) (some w5)) kn kr=lL (ofP (jD w5)) (so "append") [κ d0] λo1=>kn (cG (ζ x1) (ζ d1) none (ζ d0) (some (.own o1))):=by kernel_rfl
theorem Db:rn (n+1) "number_of" [.fz a1]=ifS (unS .Not (κ (.bool (eP a1)))) (κ .none) (ifS (aC (aR (.ok a1) none (some (κ (.int 1)))) .Eq (κ (.str (so "-")))) (rb (aR (.ok a1) (some (κ (.int 1))) none) λv1=>ifS (orS (unS .Not (b8 (κ (.int 1)) .LtE (cY (V.cl v1)) .LtE (κ (.int 30)))) (unS .Not (aL b7 (aM (plI (ofP (rdv (V.cl v1)))) (λd2=>.ok true) (λd2=>aV (ofP (cmp .In d2 (.str (so "0123456789"))))))))) (κ .none) (ifS (aI (aC (aK (bH (V.cl v1)) (κ (.int 0))) .Eq (κ (.str (so "0")))) (aV (ofP (cmp .NotEq a1 (.str (so "0")))))) (κ .none) (rb (ofP (cL a1)) R.ok))) (ifS (orS (unS .Not (b8 (κ (.int 1)) .LtE (ofP (aW a1)) .LtE (κ (.int 30)))) (unS .Not (aL b7 (aM (ofP (items a1)) (λd3=>.ok true) (λd3=>aV (ofP (cmp .In d3 (.str (so "0123456789"))))))))) (κ .none) (ifS (aI (aC (ofP (getItem a1 (.int 0))) .Eq (κ (.str (so "0")))) (aV (ofP (cmp .NotEq a1 (.str (so "0")))))) (κ .none) (rb (ofP (cL a1)) R.ok)))):=by kernel_rfl
theorem Dc:rn (n+1) "row_in" [.fz a1]=ifS (orS (unS .Not (κ (.bool (kG a1)))) (aC (ofP (aW a1)) .NotEq (κ (.int 3)))) (fO (so "BadText") [κ (.str (so "a row is wanted"))]) (rb (aO [ofP (getItem a1 (.int 0)),ofP (getItem a1 (.int 1)),aE (rn n "view_in") [ofP (getItem a1 (.int 2))]]) R.ok):=by kernel_rfl
theorem tR:rn (n+1) "view_in" [.fz a1]=ifS (unS .Not (κ (.bool (kG a1)))) (fO (so "BadText") [κ (.str (so "a view is wanted"))]) (rb (ofP (getItem a1 (.int 0))) λv1=>ifS (aC (ofP (rdv (V.cl v1))) .Eq (κ (.str (so "beside")))) (rb (aO [κ (.str (so "beside")),aL bJ (aM (plI (aR (.ok a1) (some (κ (.int 1))) none)) (λd3=>.ok true) (λd3=>rn n "row_in" [.fz d3]))]) R.ok) (ifS (orS (aC (ofP (rdv (V.cl (V.cl v1)))) .Eq (κ (.str (so "each")))) (aC (ofP (rdv (V.cl (V.cl v1)))) .Eq (κ (.str (so "then"))))) (rb (aL bJ (aB .Add (b9 [ofP (rdv (V.cl (V.cl (V.cl v1))))]) (aM (plI (aR (.ok a1) (some (κ (.int 1))) none)) (λd4=>.ok true) (λd4=>rn n "view_in" [.fz d4])))) R.ok) (ifS (aI (aC (ofP (rdv (V.cl (V.cl (V.cl v1))))) .Eq (κ (.str (so "sift")))) (aC (ofP (aW a1)) .Eq (κ (.int 3)))) (rb (aO [κ (.str (so "sift")),ofP (getItem a1 (.int 1)),aE (rn n "number_of") [ofP (getItem a1 (.int 2))]]) R.ok) (ifS (aI (aC (ofP (rdv (V.cl (V.cl (V.cl (V.cl v1)))))) .Eq (κ (.str (so "join")))) (aI (aC (ofP (aW a1)) .Eq (κ (.int 4))) (dF (so "list") (ofP (getItem a1 (.int 3)))))) (rb (aO [κ (.str (so "join")),ofP (getItem a1 (.int 1)),ofP (getItem a1 (.int 2)),aL bJ (ofP (getItem a1 (.int 3)))]) R.ok) (rb (ofP (bJ a1)) R.ok))))):=by kernel_rfl
def pF(o0 o1 o2 o3:Option V):aA:=[(so "text",o0),(so "item",o1),(so "at",o2),(so "view",o3)]
def Dd:Expr:=tJ (List.drop 1 (aP BB (so "read")))
def De(n:Nat)(σ:aA)(kn:KN)(kr:KR):R V:=stm BB (so "read") n 24 (List.drop 2 (aP BB (so "read"))) σ kn kr
theorem tT:rn (n+1) "read" [.fz a1]=ifS (unS .Not (κ (.bool (eP a1)))) (fO (so "BadText") [κ (.str (so "a text is wanted"))]) (rb (rn n "item_at" [.fz a1,.fz (.int 0)]) λv1=>rb (ofP (bA Dd (dOf v1) (pF (ζ a1) none none none))) λσ=>De n σ (λ_=>κ .none) R.ok):=by kernel_rfl
theorem Za:bA Dd (.tuple [d0,d1]) (pF p0 p1 p2 p3)=.ok (pF p0 (ζ d0) (ζ d1) p3):=by kernel_rfl
theorem Zb:De n (pF (ζ x1) (ζ d0) (ζ d1) none) kn kr=ifS (aC (κ d1) .NotEq (ofP (aW x1))) (fO (so "BadText") [κ (.str (so "more than a view"))]) (rb (rn n "view_in" [.fz d0]) λv1=>ifS (unS .Not (aE (rn n "is_view") [bU (V.cl v1)])) (fO (so "BadText") [κ (.str (so "no view"))]) (dM (V.cl v1) kr)):=by kernel_rfl
theorem Zc:rn (n+1) "_law_cell_at" [.fz a1,.fz a2]=ifS (aC (κ a2) .Lt (ofP (aW a1))) (rb (ofP (getItem a1 a2)) R.ok) (κ (.int 0)):=by kernel_rfl
theorem Zd:rn (n+1) "_law_mixed" [.fz a1,.fz a2]=rb (aB .Mod (aB .Add (aB .Add (aB .Mult (aE (rn n "_law_cell_at") [κ a1,aB .Add (κ (.int 2)) (ofP (aD .Mod a2 (.int 24)))]) (κ (.int 48271))) (ofP (aD .Mult (.int 7919) a2))) (κ (.int 12345))) (κ (.int 2147483647))) R.ok:=by kernel_rfl
theorem Ze:rn (n+1) "_law_name" [.fz a1,.fz a2]=rb (aB .Add (κ (.int 1)) (ofP (aD .Mod a1 (.int 8)))) λv1=>rb (aM (rgI (κ (.int 8))) (λd2=>.ok true) (λd2=>aK (.ok (.str (so "abcdefghijklmnopqrstuvwxyz"))) (aB .Mod (aB .Add (ofP (aD .FloorDiv a1 (.int 8))) (ofP (aD .Mult (.int 5) d2))) (κ (.int 26))))) λv3=>ifS (aC (aB .Mod (ofP (aD .FloorDiv a1 (.int 1664))) (κ (.int 3))) .Eq (κ (.int 1))) (cX (aK (.ok (.str (so "abcdefghijklmnopqrstuvwxyz"))) (aB .Mod (aB .Add (ofP (aD .FloorDiv a1 (.int 8))) (ofP (aD .FloorDiv a2 (.int 8)))) (κ (.int 26)))) (ofP (jD v3)) (κ (.int 0)) λo4=>rb (bN (so "join") (κ (.str (so ""))) [aR (.ok o4) none (some (aB .Add (κ (.int 1)) (ofP (aD .Mod a2 (.int 8)))))]) R.ok) (cX (aK (.ok (.str (so "abcdefghijklmnopqrstuvwxyz"))) (aB .Mod (aB .Add (aB .Add (ofP (aD .FloorDiv a1 (.int 8))) (κ (.int 7))) (κ a2)) (κ (.int 26)))) (ofP (jD v3)) (aB .Mod (ofP (aD .FloorDiv a1 (.int 208))) (ofP (rdv v1))) λo5=>rb (bN (so "join") (κ (.str (so ""))) [aR (.ok o5) none (some (ofP (rdv (V.cl v1))))]) R.ok):=by kernel_rfl
theorem Zf:rn (n+1) "_law_names" [.fz a1]=rb (aM (rgI (κ (.int 14))) (λd1=>.ok true) (λd1=>aE (rn n "_law_name") [rn n "_law_cell_at" [.fz a1,.fz (.int 0)],κ d1])) R.ok:=by kernel_rfl
theorem Zg:rn (n+1) "_law_number" [.fz a1]=ifS (aC (ofP (aD .Mod a1 (.int 5))) .Eq (κ (.int 4))) (rb (aB .Add (aK (cR (b9 [ofP (aD .Pow (.int 10) (.int 20)),unS .USub (ofP (aD .Pow (.int 10) (.int 20))),ofP (aD .Pow (.int 10) (.int 12)),κ (.int 0)])) (aB .Mod (ofP (aD .FloorDiv a1 (.int 5))) (κ (.int 4)))) (aB .Mod (ofP (aD .FloorDiv a1 (.int 20))) (κ (.int 3)))) R.ok) (ifS (aC (ofP (aD .Mod a1 (.int 5))) .Eq (κ (.int 3))) (rb (aB .Sub (aB .Mod (aB .Mult (ofP (aD .FloorDiv a1 (.int 5))) (κ (.int 48271))) (κ (.int 2000003))) (κ (.int 1000001))) R.ok) (ifS (aC (ofP (aD .Mod a1 (.int 15))) .Eq (κ (.int 2))) (rb (aB .Mult (aL cL (aB .Mult (κ (.str (so "37"))) (aB .Add (κ (.int 1)) (aB .Mod (ofP (aD .FloorDiv a1 (.int 15))) (κ (.int 14)))))) (aB .Sub (κ (.int 1)) (aB .Mult (aB .Mod (ofP (aD .FloorDiv a1 (.int 210))) (κ (.int 2))) (κ (.int 2))))) R.ok) (rb (aB .Sub (aB .Mod (ofP (aD .FloorDiv a1 (.int 5))) (κ (.int 9))) (κ (.int 4))) R.ok))):=by kernel_rfl
def cN(o0 o1 o2 o3 o4 o5 o6 o7 o8 o9:Option V):aA:=[(so "_law_script",o0),(so "_law_k",o1),(so "_law_names_here",o2),(so "_law_fields",o3),(so "_law_found",o4),(so "_law_j",o5),(so "_law_row",o6),(so "_law_i",o7),(so "_law_field",o8),(so "_law_cell",o9)]
def pG(n:Nat)(σ:aA)(kn:KN)(kr:KR):R V:=stm BB (so "_law_table") n 23 (bT (List.drop 1 (aP BB (so "_law_table")))) σ kn kr
def pH:Expr:=cW (List.drop 1 (aP BB (so "_law_table")))
def Df(n:Nat)(σ:aA)(kn:KN)(kr:KR):R V:=stm BB (so "_law_table") n 24 (List.drop 2 (aP BB (so "_law_table"))) σ kn kr
theorem Zh:rn (n+1) "_law_table" [.fz a1,.fz a2,.fz a3,.fz a4]=rb (rgI (κ (.int 4))) λl1=>a8 (pG n) pH l1 (cN (ζ a1) (ζ a2) (ζ a3) (ζ a4) (some (.own (.dict []))) none none none none none) (λσ=>Df n σ (λ_=>κ .none) R.ok) R.ok:=by kernel_rfl
theorem Zi:bA pH d0 (cN p0 p1 p2 p3 p4 p5 p6 p7 p8 p9)=.ok (cN p0 p1 p2 p3 p4 (ζ d0) p6 p7 p8 p9):=by kernel_rfl
def lM(n:Nat)(σ:aA)(kn:KN)(kr:KR):R V:=stm BB (so "_law_table") n 21 (bT (List.drop 1 (dL (bT (List.drop 1 (aP BB (so "_law_table"))))))) σ kn kr
def lN:Expr:=cW (List.drop 1 (dL (bT (List.drop 1 (aP BB (so "_law_table"))))))
def tU(n:Nat)(σ:aA)(kn:KN)(kr:KR):R V:=stm BB (so "_law_table") n 22 (List.drop 2 (dL (bT (List.drop 1 (aP BB (so "_law_table")))))) σ kn kr
theorem Zj:pG n (cN (ζ x1) (ζ x2) (ζ x3) (ζ x4) (some (.own x5)) (ζ d0) o7 o8 o9 o10) kn kr=ifS (aC (aB .Mod (aE (rn n "_law_mixed") [κ x1,aB .Add (κ x2) (ofP (aD .Mult (.int 10) d0))]) (κ (.int 3))) .Gt (κ (.int 0))) (rb (enI (κ x4)) λl1=>a8 (lM n) lN l1 (cN (ζ x1) (ζ x2) (ζ x3) (ζ x4) (some (.own x5)) (ζ d0) (some (.own (.dict []))) o8 o9 o10) (λσ=>tU n σ (λσ=>stm BB (so "_law_table") n 23 (List.drop 1 (bT (List.drop 1 (aP BB (so "_law_table"))))) σ kn kr) kr) kr) (kn (cN (ζ x1) (ζ x2) (ζ x3) (ζ x4) (some (.own x5)) (ζ d0) o7 o8 o9 o10)):=by kernel_rfl
theorem Zk:Df n (cN (ζ x1) (ζ x2) (ζ x3) (ζ x4) (some (.own x5)) o6 o7 o8 o9 o10) kn kr=kr (.own x5):=by kernel_rfl
theorem Zl:bA lN (.tuple [d0,d1]) (cN p0 p1 p2 p3 p4 p5 p6 p7 p8 p9)=.ok (cN p0 p1 p2 p3 p4 p5 p6 (ζ d0) (ζ d1) p9):=by kernel_rfl
theorem Zm:lM n (cN (ζ x1) (ζ x2) (ζ x3) (ζ x4) (some (.own x5)) (ζ x6) (some (.own x7)) (ζ d0) (ζ d1) o10) kn kr=rb (aE (rn n "_law_mixed") [κ x1,aB .Add (aB .Add (aB .Add (κ x2) (ofP (aD .Mult (.int 10) x6))) (κ d0)) (κ (.int 1))]) λv1=>ifS (aC (aB .Mod (ofP (rdv (V.cl v1))) (κ (.int 4))) .Gt (κ (.int 0))) (cX (aE (rn n "_law_number") [aB .FloorDiv (ofP (rdv (V.cl (V.cl v1)))) (κ (.int 4))]) (.ok x7) (κ d1) λo2=>kn (cN (ζ x1) (ζ x2) (ζ x3) (ζ x4) (some (.own x5)) (ζ x6) (some (.own o2)) (ζ d0) (ζ d1) (some (V.cl (V.cl v1))))) (ifS (aC (aB .Mod (ofP (rdv (V.cl (V.cl v1)))) (κ (.int 12))) .Eq (κ (.int 0))) (cX (gN [(ofP (getItem x3 (.int 0)),aB .Mod (aB .FloorDiv (ofP (rdv (V.cl (V.cl (V.cl v1))))) (κ (.int 12))) (κ (.int 5)))]) (.ok x7) (κ d1) λo3=>kn (cN (ζ x1) (ζ x2) (ζ x3) (ζ x4) (some (.own x5)) (ζ x6) (some (.own o3)) (ζ d0) (ζ d1) (some (V.cl (V.cl (V.cl v1)))))) (kn (cN (ζ x1) (ζ x2) (ζ x3) (ζ x4) (some (.own x5)) (ζ x6) (some (.own x7)) (ζ d0) (ζ d1) (some (V.cl (V.cl v1)))))):=by kernel_rfl
theorem Zn:tU n (cN (ζ x1) (ζ x2) (ζ x3) (ζ x4) (some (.own x5)) (ζ x6) (some (.own x7)) o8 o9 o10) kn kr=cX (κ x7) (.ok x5) (aK (.ok x3) (ofP (aD .Add (.int 9) x6))) λo1=>kn (cN (ζ x1) (ζ x2) (ζ x3) (ζ x4) (some (.own o1)) (ζ x6) (ζ x7) o8 o9 o10):=by kernel_rfl
def dN(o0 o1 o2 o3:Option V):aA:=[(so "_law_script",o0),(so "_law_names_here",o1),(so "_law_found",o2),(so "_law_k",o3)]
def lO(n:Nat)(σ:aA)(kn:KN)(kr:KR):R V:=stm BB (so "_law_house") n 23 (bT (List.drop 5 (aP BB (so "_law_house")))) σ kn kr
def lP:Expr:=cW (List.drop 5 (aP BB (so "_law_house")))
def Dg(n:Nat)(σ:aA)(kn:KN)(kr:KR):R V:=stm BB (so "_law_house") n 24 (List.drop 6 (aP BB (so "_law_house"))) σ kn kr
theorem Zo:rn (n+1) "_law_house" [.fz a1,.fz a2]=rb (gN [(ofP (getItem a2 (.int 0)),aE (rn n "_law_number") [rn n "_law_mixed" [.fz a1,.fz (.int 1)]])]) λv1=>cX (gN [(ofP (getItem a2 (.int 5)),aE (rn n "_law_number") [rn n "_law_mixed" [.fz a1,.fz (.int 2)]]),(ofP (getItem a2 (.int 6)),gN [(ofP (getItem a2 (.int 0)),κ (.int 3))])]) (ofP (jD v1)) (ofP (getItem a2 (.int 1))) λo2=>cX (aE (rn n "_law_table") [κ a1,κ (.int 20),κ a2,aR (.ok a2) (some (κ (.int 5))) (some (κ (.int 7)))]) (.ok o2) (ofP (getItem a2 (.int 2))) λo3=>cX (aE (rn n "_law_table") [κ a1,κ (.int 70),κ a2,aR (.ok a2) (some (κ (.int 7))) (some (κ (.int 9)))]) (.ok o3) (ofP (getItem a2 (.int 3))) λo4=>cX (gN [(ofP (getItem a2 (.int 2)),aE (rn n "_law_table") [κ a1,κ (.int 120),κ a2,aR (.ok a2) (some (κ (.int 5))) (some (κ (.int 9)))]),(ofP (getItem a2 (.int 0)),κ (.int 1))]) (.ok o4) (ofP (getItem a2 (.int 4))) λo5=>rb (rgI (κ (.int 5))) λl6=>a8 (lO n) lP l6 (dN (ζ a1) (ζ a2) (some (.own o5)) none) (λσ=>Dg n σ (λ_=>κ .none) R.ok) R.ok:=by kernel_rfl
theorem Zp:bA lP d0 (dN p0 p1 p2 p3)=.ok (dN p0 p1 p2 (ζ d0)):=by kernel_rfl
theorem Zq:lO n (dN (ζ x1) (ζ x2) (some (.own x3)) (ζ d0)) kn kr=ifS (aC (aB .Mod (aE (rn n "_law_mixed") [κ x1,ofP (aD .Add (.int 200) d0)]) (κ (.int 9))) .Eq (κ (.int 0))) (lL (.ok x3) (so "pop") [ofP (getItem x2 d0)] λo1=>kn (dN (ζ x1) (ζ x2) (some (.own o1)) (ζ d0))) (kn (dN (ζ x1) (ζ x2) (some (.own x3)) (ζ d0))):=by kernel_rfl
theorem Zr:Dg n (dN (ζ x1) (ζ x2) (some (.own x3)) o4) kn kr=rb (aK (cR (b9 [κ x3,bN (so "get") (κ x3) [ofP (getItem x2 (.int 2)),.ok (.own (.dict []))],bN (so "get") (κ x3) [ofP (getItem x2 (.int 4)),κ (.int 5)]])) (aB .Mod (aB .Mod (rn n "_law_cell_at" [.fz x1,.fz (.int 1)]) (κ (.int 5))) (κ (.int 3)))) kr:=by kernel_rfl
theorem pI:rn (n+1) "_law_copy" [.fz a1]=ifS (κ (.bool (dZ a1))) (rb (aL cK (aM (ofP (items a1)) (λd1=>.ok true) (λd1=>aO [κ d1,aE (rn n "_law_copy") [ofP (getItem a1 d1)]]))) R.ok) (κ a1):=by kernel_rfl
theorem tV:rn (n+1) "_law_is_table" [.fz a1]=ifS (unS .Not (κ (.bool (dZ a1)))) (κ (.bool false)) (rb (aC (aM (ofP (items a1)) (λd1=>tst (unS .Not (dF (so "dict") (ofP (getItem a1 d1))))) (λd1=>κ d1)) .Eq (.ok (.own (.list [])))) R.ok):=by kernel_rfl
theorem Zs:rn (n+1) "_law_high" [.fz a1,.fz a2,.fz a3]=rb (aI (dF (so "int") (bN (so "get") (κ a1) [κ a2])) (aC (ofP (getItem a1 a2)) .GtE (κ a3))) R.ok:=by kernel_rfl
def cO(o0 o1 o2 o3 o4 o5:Option V):aA:=[(so "_law_view_here",o0),(so "_law_tree",o1),(so "_law_one",o2),(so "_law_other",o3),(so "_law_key",o4),(so "_law_found",o5)]
def pJ(n:Nat)(σ:aA)(kn:KN)(kr:KR):R V:=stm BB (so "_law_joins") n 23 (bT (List.drop 3 (aP BB (so "_law_joins")))) σ kn kr
def pK:Expr:=cW (List.drop 3 (aP BB (so "_law_joins")))
def tW(n:Nat)(σ:aA)(kn:KN)(kr:KR):R V:=stm BB (so "_law_joins") n 24 (List.drop 4 (aP BB (so "_law_joins"))) σ kn kr
theorem Zt:rn (n+1) "_law_joins" [.fz a1,.fz a2]=rb (bN (so "get") (κ a2) [ofP (getItem a1 (.int 1))]) λv1=>rb (bN (so "get") (κ a2) [ofP (getItem a1 (.int 2))]) λv2=>ifS (orS (unS .Not (aE (rn n "_law_is_table") [bU (V.cl v1)])) (unS .Not (aE (rn n "_law_is_table") [bU (V.cl v2)]))) (κ .none) (rb (plI (ofP (rdv (V.cl (V.cl v1))))) λl3=>a8 (pJ n) pK l3 (cO (ζ a1) (ζ a2) (some (V.cl (V.cl v1))) (some (V.cl v2)) none none) (λσ=>tW n σ (λ_=>κ .none) R.ok) R.ok):=by kernel_rfl
theorem Zu:bA pK d0 (cO p0 p1 p2 p3 p4 p5)=.ok (cO p0 p1 p2 p3 (ζ d0) p5):=by kernel_rfl
theorem Zv:pJ n (cO (ζ x1) (ζ x2) (some w3) (some w4) (ζ d0) none) kn kr=ifS (aC (aM (plI (aK (bH w3) (κ d0))) (λd1=>tst (aC (κ d1) .NotIn (ofP (getItem x1 (.int 3))))) (λd1=>κ d1)) .NotEq (.ok (.own (.list [])))) (kr (.fz .none)) (kn (cO (ζ x1) (ζ x2) (some w3) (some w4) (ζ d0) none)):=by kernel_rfl
def pL(n:Nat)(σ:aA)(kn:KN)(kr:KR):R V:=stm BB (so "_law_joins") n 23 (bT (List.drop 4 (aP BB (so "_law_joins")))) σ kn kr
def pM:Expr:=cW (List.drop 4 (aP BB (so "_law_joins")))
def tX(n:Nat)(σ:aA)(kn:KN)(kr:KR):R V:=stm BB (so "_law_joins") n 24 (List.drop 5 (aP BB (so "_law_joins"))) σ kn kr
theorem Zw:tW n (cO (ζ x1) (ζ x2) (some w3) (some w4) o5 none) kn kr=rb (plI (ofP (rdv (V.cl w4)))) λl1=>a8 (pL n) pM l1 (cO (ζ x1) (ζ x2) (some w3) (some (V.cl w4)) o5 none) (λσ=>tX n σ kn kr) kr:=by kernel_rfl
theorem Zx:bA pM d0 (cO p0 p1 p2 p3 p4 p5)=.ok (cO p0 p1 p2 p3 (ζ d0) p5):=by kernel_rfl
theorem Zy:pL n (cO (ζ x1) (ζ x2) (some w3) (some w4) (ζ d0) none) kn kr=ifS (aC (aM (plI (aK (bH w4) (κ d0))) (λd1=>tst (aC (κ d1) .In (ofP (getItem x1 (.int 3))))) (λd1=>κ d1)) .NotEq (.ok (.own (.list [])))) (kr (.fz .none)) (kn (cO (ζ x1) (ζ x2) (some w3) (some w4) (ζ d0) none)):=by kernel_rfl
def lQ(n:Nat)(σ:aA)(kn:KN)(kr:KR):R V:=stm BB (so "_law_joins") n 23 (bT (List.drop 6 (aP BB (so "_law_joins")))) σ kn kr
def lR:Expr:=cW (List.drop 6 (aP BB (so "_law_joins")))
def tY(n:Nat)(σ:aA)(kn:KN)(kr:KR):R V:=stm BB (so "_law_joins") n 24 (List.drop 7 (aP BB (so "_law_joins"))) σ kn kr
theorem Zz:tX n (cO (ζ x1) (ζ x2) (some w3) (some w4) o5 none) kn kr=rb (plI (ofP (rdv (V.cl w3)))) λl1=>a8 (lQ n) lR l1 (cO (ζ x1) (ζ x2) (some (V.cl w3)) (some w4) o5 (some (.own (.dict [])))) (λσ=>tY n σ kn kr) kr:=by kernel_rfl
theorem Z0:bA lR d0 (cO p0 p1 p2 p3 p4 p5)=.ok (cO p0 p1 p2 p3 (ζ d0) p5):=by kernel_rfl
theorem Z1:lQ n (cO (ζ x1) (ζ x2) (some w3) (some w4) (ζ d0) (some (.own x6))) kn kr=ifS (aC (κ d0) .In (ofP (rdv (V.cl w4)))) (cX (aL cK (aB .Add (aL fW (aK (bH w3) (κ d0))) (aL fW (aK (bH (V.cl w4)) (κ d0))))) (.ok x6) (κ d0) λo1=>kn (cO (ζ x1) (ζ x2) (some w3) (some (V.cl w4)) (ζ d0) (some (.own o1)))) (kn (cO (ζ x1) (ζ x2) (some w3) (some (V.cl w4)) (ζ d0) (some (.own x6)))):=by kernel_rfl
theorem Z2:tY n (cO (ζ x1) (ζ x2) (some w3) (some w4) o5 (some (.own x6))) kn kr=rb (rn n "_law_copy" [.fz x6]) kr:=by kernel_rfl
theorem Z3:rn (n+1) "_law_several" [.fz a1]=ifS (aC (aM (ofP (items a1)) (λd1=>tst (aC (ofP (getItem d1 (.int 1))) .Is (κ .none))) (λd1=>κ d1)) .NotEq (.ok (.own (.list [])))) (κ .none) (rb (ofP (cK a1)) R.ok):=by kernel_rfl
theorem Z4:rn (n+1) "_law_small" [.fz a1,.fz a2,.fz a3]=ifS (orS (unS .Not (κ (.bool (dZ a2)))) (aC (ofP (aD .Mod a1 (.int 4))) .Eq (κ (.int 0)))) (κ (.tuple [.str (so "whole")])) (rb (aL kH (ofP (fT a2))) λv1=>ifS (aI (aC (ofP (rdv (V.cl v1))) .NotEq (.ok (.own (.list [])))) (aC (ofP (aD .Mod a1 (.int 4))) .Lt (κ (.int 3)))) (ifS (aC (ofP (aD .Mod a1 (.int 4))) .Eq (κ (.int 1))) (rb (aO [κ (.str (so "pick")),aK (bH (V.cl v1)) (aB .Mod (ofP (aD .FloorDiv a1 (.int 4))) (cY (V.cl v1)))]) R.ok) (rb (aK (.ok a3) (aB .Mod (ofP (aD .FloorDiv a1 (.int 16))) (κ (.int 14)))) λv2=>ifS (aC (ofP (rdv (V.cl v2))) .NotIn (κ a2)) (rb (aO [κ (.str (so "call")),aK (bH (V.cl v1)) (aB .Mod (ofP (aD .FloorDiv a1 (.int 4))) (cY (V.cl v1))),ofP (rdv (V.cl (V.cl v2)))]) R.ok) (ifS (rn n "_law_is_table" [.fz a2]) (rb (aO [κ (.str (so "sift")),aK (.ok a3) (aB .Add (κ (.int 5)) (aB .Mod (ofP (aD .FloorDiv a1 (.int 4))) (κ (.int 4)))),aB .Sub (aB .Mod (ofP (aD .FloorDiv a1 (.int 16))) (κ (.int 7))) (κ (.int 3))]) R.ok) (κ (.tuple [.str (so "whole")]))))) (ifS (rn n "_law_is_table" [.fz a2]) (rb (aO [κ (.str (so "sift")),aK (.ok a3) (aB .Add (κ (.int 5)) (aB .Mod (ofP (aD .FloorDiv a1 (.int 4))) (κ (.int 4)))),aB .Sub (aB .Mod (ofP (aD .FloorDiv a1 (.int 16))) (κ (.int 7))) (κ (.int 3))]) R.ok) (κ (.tuple [.str (so "whole")])))):=by kernel_rfl
def iL(o0 o1 o2 o3 o4 o5 o6:Option V):aA:=[(so "_law_more",o0),(so "_law_tree",o1),(so "_law_some",o2),(so "_law_names_here",o3),(so "_law_rows",o4),(so "_law_j",o5),(so "_law_part",o6)]
def tZ(n:Nat)(σ:aA)(kn:KN)(kr:KR):R V:=stm BB (so "_law_wide") n 23 (bT (List.drop 1 (aP BB (so "_law_wide")))) σ kn kr
def t0:Expr:=cW (List.drop 1 (aP BB (so "_law_wide")))
def Dh(n:Nat)(σ:aA)(kn:KN)(kr:KR):R V:=stm BB (so "_law_wide") n 24 (List.drop 2 (aP BB (so "_law_wide"))) σ kn kr
theorem Z5:rn (n+1) "_law_wide" [.fz a1,.fz a2,.fz a3,.fz a4]=rb (rgI (lK [ofP (aW a3),aB .Add (κ (.int 1)) (aB .Mod (ofP (aD .FloorDiv a1 (.int 16))) (κ (.int 6)))])) λl1=>a8 (tZ n) t0 l1 (iL (ζ a1) (ζ a2) (ζ a3) (ζ a4) (some (.own (.list []))) none none) (λσ=>Dh n σ (λ_=>κ .none) R.ok) R.ok:=by kernel_rfl
theorem Z6:bA t0 d0 (iL p0 p1 p2 p3 p4 p5 p6)=.ok (iL p0 p1 p2 p3 p4 (ζ d0) p6):=by kernel_rfl
theorem Z7:tZ n (iL (ζ x1) (ζ x2) (ζ x3) (ζ x4) (some (.own x5)) (ζ d0) o7) kn kr=rb (aK (.ok x3) (aB .Mod (ofP (aD .Add x1 d0)) (ofP (aW x3)))) λv1=>lL (.ok x5) (so "append") [aO [aK (.ok x4) (aB .Mod (aB .Add (ofP (aD .FloorDiv x1 (.int 64))) (κ d0)) (κ (.int 14))),ofP (rdv (V.cl v1)),aE (rn n "_law_small") [aB .Add (ofP (aD .FloorDiv x1 (.int 7))) (ofP (aD .Mult (.int 5) d0)),aK (.ok x2) (ofP (rdv (V.cl v1))),κ x4]]] λo2=>kn (iL (ζ x1) (ζ x2) (ζ x3) (ζ x4) (some (.own o2)) (ζ d0) (some (V.cl v1))):=by kernel_rfl
theorem Z8:Dh n (iL (ζ x1) (ζ x2) (ζ x3) (ζ x4) (some (.own x5)) o6 o7) kn kr=rb (aO [κ (.str (so "beside")),ofP (bJ x5)]) kr:=by kernel_rfl
theorem Di:rn (n+1) "_law_piece" [.fz a1,.fz a2,.fz a3]=rb (ofP (aD .Mod a1 (.int 10))) λv1=>rb (ofP (aD .FloorDiv a1 (.int 10))) λv2=>ifS (orS (unS .Not (κ (.bool (dZ a2)))) (aC (ofP (rdv (V.cl v1))) .Eq (κ (.int 0)))) (κ (.tuple [.str (so "whole")])) (rb (aL kH (ofP (fT a2))) λv3=>rb (aO [κ (.str (so "sift")),aK (.ok a3) (aB .Add (κ (.int 5)) (aB .Mod (ofP (rdv (V.cl v2))) (κ (.int 4)))),aB .Sub (aB .Mod (aB .FloorDiv (ofP (rdv (V.cl v2))) (κ (.int 4))) (κ (.int 7))) (κ (.int 3))]) λv4=>ifS (aI (aC (ofP (rdv (V.cl (V.cl v1)))) .Lt (κ (.int 3))) (aC (ofP (rdv (V.cl v3))) .NotEq (.ok (.own (.list []))))) (rb (aO [κ (.str (so "pick")),aK (bH (V.cl v3)) (aB .Mod (ofP (rdv (V.cl (V.cl v2)))) (cY (V.cl v3)))]) λv5=>dM v5 R.ok) (ifS (aI (aC (ofP (rdv (V.cl (V.cl (V.cl v1))))) .Eq (κ (.int 3))) (aI (aC (ofP (rdv (V.cl (V.cl v3)))) .NotEq (.ok (.own (.list [])))) (aC (aK (.ok a3) (aB .Mod (aB .FloorDiv (ofP (rdv (V.cl (V.cl v2)))) (κ (.int 16))) (κ (.int 14)))) .NotIn (ofP (rdv (V.cl (V.cl v3))))))) (rb (aO [κ (.str (so "call")),aK (bH (V.cl (V.cl v3))) (aB .Mod (ofP (rdv (V.cl (V.cl (V.cl v2))))) (cY (V.cl (V.cl v3)))),aK (.ok a3) (aB .Mod (aB .FloorDiv (ofP (rdv (V.cl (V.cl (V.cl v2))))) (κ (.int 16))) (κ (.int 14)))]) λv6=>dM v6 R.ok) (ifS (aI (aC (ofP (rdv (V.cl (V.cl (V.cl (V.cl v1)))))) .Eq (κ (.int 4))) (aC (ofP (rdv (V.cl (V.cl (V.cl v3))))) .NotEq (.ok (.own (.list []))))) (rb (aE (rn n "_law_wide") [bU (V.cl (V.cl (V.cl v2))),κ a2,bU (V.cl (V.cl (V.cl (V.cl v3)))),κ a3]) λv7=>dM v7 R.ok) (ifS (orS (aC (ofP (rdv (V.cl (V.cl (V.cl (V.cl (V.cl v1))))))) .Eq (κ (.int 7))) (aC (ofP (rdv (V.cl (V.cl (V.cl (V.cl (V.cl v1))))))) .Eq (κ (.int 8)))) (rb (aB .Add (κ (.int 5)) (aB .Mult (κ (.int 2)) (aB .Mod (ofP (rdv (V.cl (V.cl (V.cl v2))))) (κ (.int 2))))) λv8=>rb (aR (.ok a3) (some (ofP (rdv (V.cl v8)))) (some (aB .Add (ofP (rdv (V.cl v8))) (κ (.int 2))))) λv9=>ifS (aC (aB .Mod (aB .FloorDiv (ofP (rdv (V.cl (V.cl (V.cl (V.cl v2)))))) (κ (.int 2))) (κ (.int 4))) .Eq (κ (.int 1))) (rb (aB .Add (κ (.int 4)) (aB .Mod (aB .FloorDiv (ofP (rdv (V.cl (V.cl (V.cl (V.cl (V.cl v2))))))) (κ (.int 8))) (κ (.int 4)))) λv10=>rb (aR (.ok a3) (some (ofP (rdv (V.cl v10)))) (some (aB .Add (aB .Add (ofP (rdv (V.cl v10))) (κ (.int 1))) (aB .Mod (aB .FloorDiv (ofP (rdv (V.cl (V.cl (V.cl (V.cl (V.cl (V.cl v2)))))))) (κ (.int 32))) (κ (.int 6)))))) λv11=>rb (aO [κ (.str (so "join")),aK (.ok a3) (aB .Add (κ (.int 2)) (aB .Mod (ofP (rdv (V.cl (V.cl (V.cl (V.cl (V.cl (V.cl (V.cl v2))))))))) (κ (.int 2)))),aK (.ok a3) (aB .Sub (κ (.int 3)) (aB .Mod (ofP (rdv (V.cl (V.cl (V.cl (V.cl (V.cl (V.cl (V.cl v2))))))))) (κ (.int 2)))),aL bJ (ofP (rdv (V.cl v11)))]) λv12=>dM v12 R.ok) (rb (aO [κ (.str (so "join")),aK (.ok a3) (aB .Add (κ (.int 2)) (aB .Mod (ofP (rdv (V.cl (V.cl (V.cl (V.cl (V.cl v2))))))) (κ (.int 2)))),aK (.ok a3) (aB .Sub (κ (.int 3)) (aB .Mod (ofP (rdv (V.cl (V.cl (V.cl (V.cl (V.cl v2))))))) (κ (.int 2)))),aL bJ (ofP (rdv (V.cl v9)))]) λv13=>dM v13 R.ok)) (ifS (aC (ofP (rdv (V.cl (V.cl (V.cl (V.cl (V.cl (V.cl v1)))))))) .Eq (κ (.int 9))) (rb (aO [κ (.str (so "each")),aE (rn n "_law_small") [aB .FloorDiv (ofP (rdv (V.cl (V.cl (V.cl v2))))) (κ (.int 5)),bM (aC (ofP (rdv (V.cl (V.cl (V.cl (V.cl v3)))))) .NotEq (.ok (.own (.list [])))) (aK (.ok a2) (aK (bH (V.cl (V.cl (V.cl (V.cl v3))))) (aB .Mod (ofP (rdv (V.cl (V.cl (V.cl v2))))) (cY (V.cl (V.cl (V.cl (V.cl v3)))))))) (κ (.int 0)),κ a3]]) λv14=>dM v14 R.ok) (dM v4 R.ok)))))):=by kernel_rfl
theorem Z9:rn (n+1) "_law_fitting" [.fz a1,.fz a2,.fz a3]=rb (rn n "_law_piece" [.fz a1,.fz a2,.fz a3]) λv1=>rb (bM (aC (aE (rn n "_law_seen") [bU (V.cl v1),κ a2]) .Is (κ .none)) (κ (.tuple [.str (so "whole")])) (ofP (rdv (V.cl v1)))) R.ok:=by kernel_rfl
def cS(o0 o1 o2 o3 o4 o5 o6 o7 o8:Option V):aA:=[(so "_law_script",o0),(so "_law_first",o1),(so "_law_tree",o2),(so "_law_names_here",o3),(so "_law_pieces",o4),(so "_law_now",o5),(so "_law_k",o6),(so "_law_view_here",o7),(so "_law_piece_here",o8)]
def t6(n:Nat)(σ:aA)(kn:KN)(kr:KR):R V:=stm BB (so "_law_view") n 23 (bT (List.drop 2 (aP BB (so "_law_view")))) σ kn kr
def t7:Expr:=cW (List.drop 2 (aP BB (so "_law_view")))
def t8(n:Nat)(σ:aA)(kn:KN)(kr:KR):R V:=stm BB (so "_law_view") n 24 (List.drop 3 (aP BB (so "_law_view"))) σ kn kr
theorem q0a:rn (n+1) "_law_view" [.fz a1,.fz a2,.fz a3,.fz a4]=rb (rgI (aB .Add (κ (.int 1)) (aB .Mod (rn n "_law_mixed" [.fz a1,.fz a2]) (κ (.int 4))))) λl1=>a8 (t6 n) t7 l1 (cS (ζ a1) (ζ a2) (ζ a3) (ζ a4) (some (.own (.list []))) (ζ a3) none none none) (λσ=>t8 n σ (λ_=>κ .none) R.ok) R.ok:=by kernel_rfl
theorem q0b:bA t7 d0 (cS p0 p1 p2 p3 p4 p5 p6 p7 p8)=.ok (cS p0 p1 p2 p3 p4 p5 (ζ d0) p7 p8):=by kernel_rfl
theorem q0c:t6 n (cS (ζ x1) (ζ x2) (ζ x3) (ζ x4) (some (.own x5)) (some w6) (ζ d0) none none) kn kr=lL (.ok x5) (so "append") [aE (rn n "_law_fitting") [aE (rn n "_law_mixed") [κ x1,aB .Add (ofP (aD .Add x2 (.int 1))) (κ d0)],bU (V.cl w6),κ x4]] λo1=>rb (aE (rn n "_law_seen") [aK (.ok o1) (unS .USub (κ (.int 1))),bU (V.cl (V.cl w6))]) λv2=>kn (cS (ζ x1) (ζ x2) (ζ x3) (ζ x4) (some (.own o1)) (some v2) (ζ d0) none none):=by kernel_rfl
def lT(n:Nat)(σ:aA)(kn:KN)(kr:KR):R V:=stm BB (so "_law_view") n 22 (bT (dL (List.drop 4 (aP BB (so "_law_view"))))) σ kn kr
def lU:Expr:=cW (dL (List.drop 4 (aP BB (so "_law_view"))))
def Dj(n:Nat)(σ:aA)(kn:KN)(kr:KR):R V:=stm BB (so "_law_view") n 23 (List.drop 1 (dL (List.drop 4 (aP BB (so "_law_view"))))) σ kn kr
def lV(n:Nat)(σ:aA)(kn:KN)(kr:KR):R V:=stm BB (so "_law_view") n 23 (bT (List.drop 6 (aP BB (so "_law_view")))) σ kn kr
def lW:Expr:=cW (List.drop 6 (aP BB (so "_law_view")))
def t9(n:Nat)(σ:aA)(kn:KN)(kr:KR):R V:=stm BB (so "_law_view") n 24 (List.drop 7 (aP BB (so "_law_view"))) σ kn kr
theorem q0d:t8 n (cS (ζ x1) (ζ x2) (ζ x3) (ζ x4) (some (.own x5)) (some w6) o7 none none) kn kr=rb (ofP (getItem x5 (.int 0))) λv1=>ifS (aC (aB .Mod (aB .FloorDiv (rn n "_law_mixed" [.fz x1,.fz x2]) (κ (.int 4))) (κ (.int 2))) .Eq (κ (.int 0))) (rb (plI (aR (.ok x5) (some (κ (.int 1))) none)) λl2=>a8 (lT n) lU l2 (cS (ζ x1) (ζ x2) (ζ x3) (ζ x4) (some (.own x5)) (some w6) o7 (some v1) none) (λσ=>Dj n σ (λσ=>stm BB (so "_law_view") n 24 (List.drop 5 (aP BB (so "_law_view"))) σ kn kr) kr) kr) (rb (aK (.ok x5) (unS .USub (κ (.int 1)))) λv3=>rb (rvI (aR (.ok x5) none (some (unS .USub (κ (.int 1)))))) λl4=>a8 (lV n) lW l4 (cS (ζ x1) (ζ x2) (ζ x3) (ζ x4) (some (.own x5)) (some w6) o7 (some v3) none) (λσ=>t9 n σ kn kr) kr):=by kernel_rfl
theorem q0e:bA lU d0 (cS p0 p1 p2 p3 p4 p5 p6 p7 p8)=.ok (cS p0 p1 p2 p3 p4 p5 p6 p7 (ζ d0)):=by kernel_rfl
theorem q0f:lT n (cS (ζ x1) (ζ x2) (ζ x3) (ζ x4) (some (.own x5)) (some w6) o7 (some w8) (ζ d0)) kn kr=rb (aO [κ (.str (so "then")),ofP (rdv (V.cl w8)),κ d0]) λv1=>kn (cS (ζ x1) (ζ x2) (ζ x3) (ζ x4) (some (.own x5)) (some w6) o7 (some v1) (ζ d0)):=by kernel_rfl
theorem q0g:Dj n (cS (ζ x1) (ζ x2) (ζ x3) (ζ x4) (some (.own x5)) (some w6) o7 (some w8) o9) kn kr=dM w8 kr:=by kernel_rfl
theorem q0h:bA lW d0 (cS p0 p1 p2 p3 p4 p5 p6 p7 p8)=.ok (cS p0 p1 p2 p3 p4 p5 p6 p7 (ζ d0)):=by kernel_rfl
theorem q0i:lV n (cS (ζ x1) (ζ x2) (ζ x3) (ζ x4) (some (.own x5)) (some w6) o7 (some w8) (ζ d0)) kn kr=rb (aO [κ (.str (so "then")),κ d0,ofP (rdv (V.cl w8))]) λv1=>kn (cS (ζ x1) (ζ x2) (ζ x3) (ζ x4) (some (.own x5)) (some w6) o7 (some v1) (ζ d0)):=by kernel_rfl
theorem q0j:t9 n (cS (ζ x1) (ζ x2) (ζ x3) (ζ x4) (some (.own x5)) (some w6) o7 (some w8) o9) kn kr=dM w8 kr:=by kernel_rfl
def bG(o0 o1 o2 o3 o4 o5 o6 o7 o8 o9:Option V):aA:=[(so "_law_view_here",o0),(so "_law_text_here",o1),(so "_law_name_here",o2),(so "_law_part",o3),(so "_law_inner",o4),(so "_law_row",o5),(so "_law_k",o6),(so "_law_field",o7),(so "_law_one",o8),(so "_law_more",o9)]
def pN(n:Nat)(σ:aA)(kn:KN)(kr:KR):R V:=stm BB (so "_law_text") n 22 (bT (dL (List.drop 1 (aP BB (so "_law_text"))))) σ kn kr
def lX:Expr:=cW (dL (List.drop 1 (aP BB (so "_law_text"))))
def uA(n:Nat)(σ:aA)(kn:KN)(kr:KR):R V:=stm BB (so "_law_text") n 23 (List.drop 1 (dL (List.drop 1 (aP BB (so "_law_text"))))) σ kn kr
def jQ(n:Nat)(σ:aA)(kn:KN)(kr:KR):R V:=stm BB (so "_law_text") n 21 (bT (List.drop 1 (dL (dT (List.drop 1 (aP BB (so "_law_text"))))))) σ kn kr
def jR:Expr:=cW (List.drop 1 (dL (dT (List.drop 1 (aP BB (so "_law_text"))))))
def uB(n:Nat)(σ:aA)(kn:KN)(kr:KR):R V:=stm BB (so "_law_text") n 22 (List.drop 2 (dL (dT (List.drop 1 (aP BB (so "_law_text")))))) σ kn kr
def uC(n:Nat)(σ:aA)(kn:KN)(kr:KR):R V:=stm BB (so "_law_text") n 21 (bT (dT (dT (List.drop 1 (aP BB (so "_law_text")))))) σ kn kr
def pO:Expr:=cW (dT (dT (List.drop 1 (aP BB (so "_law_text")))))
def uD(n:Nat)(σ:aA)(kn:KN)(kr:KR):R V:=stm BB (so "_law_text") n 22 (List.drop 1 (dT (dT (List.drop 1 (aP BB (so "_law_text")))))) σ kn kr
theorem uE:rn (n+1) "_law_text" [.fz a1]=rb (aB .Add (κ (.str (so "("))) (ofP (getItem a1 (.int 0)))) λv1=>ifS (aC (ofP (getItem a1 (.int 0))) .Eq (κ (.str (so "beside")))) (rb (plI (ofP (getItem a1 (.int 1)))) λl2=>a8 (pN n) lX l2 (bG (ζ a1) (some v1) none none none none none none none none) (λσ=>uA n σ (λσ=>stm BB (so "_law_text") n 24 (List.drop 2 (aP BB (so "_law_text"))) σ (λ_=>κ .none) R.ok) R.ok) R.ok) (ifS (aC (ofP (getItem a1 (.int 0))) .Eq (κ (.str (so "join")))) (rb (aB .Add (aB .Add (aB .Add (aB .Add (aB .Add (ofP (rdv (V.cl v1))) (κ (.str (so " ")))) (ofP (getItem a1 (.int 1)))) (κ (.str (so " ")))) (ofP (getItem a1 (.int 2)))) (κ (.str (so " (")))) λv3=>rb (enI (ofP (getItem a1 (.int 3)))) λl4=>a8 (jQ n) jR l4 (bG (ζ a1) (some v3) none none none none none none none none) (λσ=>uB n σ (λσ=>stm BB (so "_law_text") n 23 (List.drop 1 (dT (List.drop 1 (aP BB (so "_law_text"))))) σ (λσ=>stm BB (so "_law_text") n 24 (List.drop 2 (aP BB (so "_law_text"))) σ (λ_=>κ .none) R.ok) R.ok) R.ok) R.ok) (rb (plI (aR (.ok a1) (some (κ (.int 1))) none)) λl5=>a8 (uC n) pO l5 (bG (ζ a1) (some v1) none none none none none none none none) (λσ=>uD n σ (λσ=>stm BB (so "_law_text") n 23 (List.drop 1 (dT (List.drop 1 (aP BB (so "_law_text"))))) σ (λσ=>stm BB (so "_law_text") n 24 (List.drop 2 (aP BB (so "_law_text"))) σ (λ_=>κ .none) R.ok) R.ok) R.ok) R.ok)):=by kernel_rfl
theorem q0k:bA lX (.tuple [d0,d1,d2]) (bG p0 p1 p2 p3 p4 p5 p6 p7 p8 p9)=.ok (bG p0 p1 (ζ d0) (ζ d1) (ζ d2) p5 p6 p7 p8 p9):=by kernel_rfl
theorem q0l:pN n (bG (ζ x1) (some w2) (ζ d0) (ζ d1) (ζ d2) o6 none none none none) kn kr=rb (aB .Add (aB .Add (aB .Add (ofP (aD .Add d0 (.str (so " ")))) (κ d1)) (κ (.str (so " ")))) (rn n "_law_text" [.fz d2])) λv1=>rb (aB .Add (aB .Add (aB .Add (ofP (rdv (V.cl w2))) (κ (.str (so " (")))) (ofP (rdv (V.cl v1)))) (κ (.str (so ")")))) λv2=>kn (bG (ζ x1) (some v2) (ζ d0) (ζ d1) (ζ d2) (some (V.cl v1)) none none none none):=by kernel_rfl
theorem q0m:uA n (bG (ζ x1) (some w2) o3 o4 o5 o6 none none none none) kn kr=kn (bG (ζ x1) (some w2) o3 o4 o5 o6 none none none none):=by kernel_rfl
theorem q0n:bA jR (.tuple [d0,d1]) (bG p0 p1 p2 p3 p4 p5 p6 p7 p8 p9)=.ok (bG p0 p1 p2 p3 p4 p5 (ζ d0) (ζ d1) p8 p9):=by kernel_rfl
theorem q0o:jQ n (bG (ζ x1) (some w2) none none none none (ζ d0) (ζ d1) none none) kn kr=rb (aB .Add (aB .Add (ofP (rdv (V.cl w2))) (aB .Mult (κ (.str (so " "))) (aL cL (aV (ofP (cmp .Gt d0 (.int 0))))))) (κ d1)) λv1=>kn (bG (ζ x1) (some v1) none none none none (ζ d0) (ζ d1) none none):=by kernel_rfl
theorem q0p:uB n (bG (ζ x1) (some w2) none none none none o7 o8 none none) kn kr=rb (aB .Add (ofP (rdv (V.cl w2))) (κ (.str (so ")")))) λv1=>kn (bG (ζ x1) (some v1) none none none none o7 o8 none none):=by kernel_rfl
theorem q0q:bA pO d0 (bG p0 p1 p2 p3 p4 p5 p6 p7 p8 p9)=.ok (bG p0 p1 p2 p3 p4 p5 p6 p7 (ζ d0) p9):=by kernel_rfl
theorem q0r:uC n (bG (ζ x1) (some w2) none none none none none none (ζ d0) o10) kn kr=rb (bM (κ (.bool (cC d0))) (rn n "_law_text" [.fz d0]) (ofP (hU d0))) λv1=>rb (aB .Add (aB .Add (ofP (rdv (V.cl w2))) (κ (.str (so " ")))) (ofP (rdv (V.cl v1)))) λv2=>kn (bG (ζ x1) (some v2) none none none none none none (ζ d0) (some (V.cl v1))):=by kernel_rfl
theorem q0s:uD n (bG (ζ x1) (some w2) none none none none none none o9 o10) kn kr=kn (bG (ζ x1) (some w2) none none none none none none o9 o10):=by kernel_rfl
theorem uF:rn (n+1) "_law_alike" [.fz a1,.fz a2]=ifS (κ (.bool (cC a2))) (ifS (orS (unS .Not (κ (.bool (cC a1)))) (aC (ofP (aW a1)) .NotEq (ofP (aW a2)))) (κ (.bool false)) (rb (aL b7 (aM (zpI [κ a1,κ a2]) (λd1=>pr2 d1 λd2 d3=>.ok true) (λd1=>pr2 d1 λd2 d3=>rn n "_law_alike" [.fz d2,.fz d3]))) R.ok)) (ifS (κ (.bool (eP a2))) (rb (aI (κ (.bool (eP a1))) (aV (ofP (cmp .Eq a1 a2)))) R.ok) (rb (aI (κ (.bool (iZ a1))) (aI (unS .Not (κ (.bool (i5 a1)))) (aV (ofP (cmp .Eq a1 a2))))) R.ok)):=by kernel_rfl
theorem q0t:rn (n+1) "_law_sifting" [.fz a1,.fz a2]=rb (ofP (aD .FloorDiv a1 (.int 4))) λv1=>rb (aK (cR (b9 [aB .Sub (aB .Mod (ofP (rdv (V.cl v1))) (κ (.int 2001))) (κ (.int 1000)),aB .Sub (aB .Sub (ofP (aD .Pow (.int 10) (.int 30))) (κ (.int 1))) (aB .Mod (ofP (rdv (V.cl v1))) (κ (.int 7))),aB .Add (aB .Sub (aB .Mod (ofP (rdv (V.cl v1))) (κ (.int 7))) (ofP (aD .Pow (.int 10) (.int 30)))) (κ (.int 1)),κ (.int 0)])) (ofP (aD .Mod a1 (.int 4)))) λv2=>rb (aO [κ (.str (so "sift")),κ a2,ofP (rdv (V.cl v2))]) R.ok:=by kernel_rfl
theorem q0u:rn (n+1) "_law_wider" [.fz a1,.fz a2,.fz a3]=rb (aE (rn n "_law_sifting") [ofP (aD .FloorDiv a2 (.int 8)),aK (.ok a3) (aB .Mod (ofP (aD .FloorDiv a2 (.int 7))) (κ (.int 14)))]) λv1=>ifS (aC (ofP (aD .Mod a2 (.int 4))) .Eq (κ (.int 0))) (rb (aO [κ (.str (so "then")),κ a1,ofP (rdv (V.cl v1))]) R.ok) (ifS (aC (ofP (aD .Mod a2 (.int 4))) .Eq (κ (.int 1))) (rb (aO [κ (.str (so "each")),aO [κ (.str (so "then")),ofP (rdv (V.cl v1)),κ a1]]) R.ok) (ifS (aC (ofP (aD .Mod a2 (.int 4))) .Eq (κ (.int 2))) (rb (aO [aK (.ok a3) (aB .Mod (ofP (aD .FloorDiv a2 (.int 8))) (κ (.int 14))),aK (.ok a3) (aB .Mod (ofP (aD .FloorDiv a2 (.int 112))) (κ (.int 14))),κ a1]) λv2=>rb (aO [aK (.ok a3) (aB .Mod (aB .Add (ofP (aD .FloorDiv a2 (.int 8))) (κ (.int 1))) (κ (.int 14))),aK (.ok a3) (aB .Mod (aB .Add (ofP (aD .FloorDiv a2 (.int 112))) (κ (.int 3))) (κ (.int 14))),ofP (rdv (V.cl v1))]) λv3=>rb (aO [κ (.str (so "beside")),aO [ofP (rdv (V.cl v2)),ofP (rdv (V.cl v3))]]) R.ok) (rb (aL bJ (aM (rgI (aB .Add (κ (.int 1)) (aB .Mod (ofP (aD .FloorDiv a2 (.int 112))) (κ (.int 6))))) (λd4=>.ok true) (λd4=>aK (.ok a3) (aB .Mod (aB .Add (ofP (aD .FloorDiv a2 (.int 8))) (κ d4)) (κ (.int 14)))))) λv5=>rb (aO [κ (.str (so "then")),aO [κ (.str (so "join")),aK (.ok a3) (aB .Mod (ofP (aD .FloorDiv a2 (.int 9))) (κ (.int 14))),aK (.ok a3) (aB .Mod (aB .Add (ofP (aD .FloorDiv a2 (.int 9))) (κ (.int 5))) (κ (.int 14))),ofP (rdv (V.cl v5))],κ a1]) R.ok))):=by kernel_rfl
theorem q0v:rn (n+1) "_law_is_name" [.fz a1]=ifS (orS (unS .Not (κ (.bool (eP a1)))) (unS .Not (b8 (κ (.int 1)) .LtE (ofP (aW a1)) .LtE (κ (.int 8))))) (κ (.bool false)) (rb (aC (aM (ofP (items a1)) (λd1=>tst (aV (ofP (cmp .NotIn d1 (.str (so "abcdefghijklmnopqrstuvwxyz")))))) (λd1=>κ d1)) .Eq (.ok (.own (.list [])))) R.ok):=by kernel_rfl
def eU(o0 o1 o2 o3:Option V):aA:=[(so "_law_words",o0),(so "_law_piles",o1),(so "_law_word_here",o2),(so "_law_last",o3)]
def gO(n:Nat)(σ:aA)(kn:KN)(kr:KR):R V:=stm BB (so "_law_nest") n 23 (bT (List.drop 1 (aP BB (so "_law_nest")))) σ kn kr
def gP:Expr:=cW (List.drop 1 (aP BB (so "_law_nest")))
def pP(n:Nat)(σ:aA)(kn:KN)(kr:KR):R V:=stm BB (so "_law_nest") n 24 (List.drop 2 (aP BB (so "_law_nest"))) σ kn kr
theorem q0w:rn (n+1) "_law_nest" [.fz a1]=rb (ofP (items a1)) λl1=>a8 (gO n) gP l1 (eU (ζ a1) (some (.pil [.list []])) none none) (λσ=>pP n σ (λ_=>κ .none) R.ok) R.ok:=by kernel_rfl
theorem q0x:bA gP d0 (eU p0 p1 p2 p3)=.ok (eU p0 p1 (ζ d0) p3):=by kernel_rfl
theorem q0y:gO n (eU (ζ x1) (some (.pil q2)) (ζ d0) o4) kn kr=ifS (aV (ofP (cmp .Eq d0 (.str (so "("))))) (if List.length q2 < aF then (kn (eU (ζ x1) (some (.pil (q2++[.list []]))) (ζ d0) o4)) else R.no) (ifS (aV (ofP (cmp .Eq d0 (.str (so ")"))))) (ifS (aV (ofP (cmp .Lt (.int (List.length q2)) (.int 2)))) (kr (.fz .none)) (rb (ofP (fI q2)) λl1=>rb (ofP (fI (List.dropLast q2))) λl2=>rb (κ (.tuple l1)) λv3=>if List.length l2 < aF then (kn (eU (ζ x1) (some (.pil (List.dropLast (List.dropLast q2)++[.list (l2++[dOf v3])]))) (ζ d0) (ζ (.tuple l1)))) else R.no)) (rb (ofP (fI q2)) λl4=>rb (κ d0) λv5=>if List.length l4 < aF then (kn (eU (ζ x1) (some (.pil (List.dropLast q2++[.list (l4++[dOf v5])]))) (ζ d0) o4)) else R.no)):=by kernel_rfl
theorem q0z:pP n (eU (ζ x1) (some (.pil q2)) o3 o4) kn kr=ifS (orS (aC (ofP (aW (.list q2))) .NotEq (κ (.int 1))) (aC (aL aW (ofP (getItem (.list q2) (.int 0)))) .NotEq (κ (.int 1)))) (kr (.fz .none)) (rb (aK (cR (ofP (getItem (.list q2) (.int 0)))) (κ (.int 0))) kr):=by kernel_rfl
theorem Dl:rn (n+1) "_law_are_unlike" [.fz a1]=rb (aI (b8 (κ (.int 1)) .LtE (ofP (aW a1)) .LtE (κ (.int 6))) (aC (aL dD (κ a1)) .Eq (ofP (aW a1)))) R.ok:=by kernel_rfl
theorem Dm:rn (n+1) "_law_made" [.fz a1]=ifS (orS (unS .Not (κ (.bool (cC a1)))) (orS (aV (ofP (cmp .Eq a1 (.tuple [])))) (unS .Not (dF (so "str") (ofP (getItem a1 (.int 0))))))) (κ .none) (rb (ofP (getItem a1 (.int 0))) λv1=>rb (aL fT (aR (.ok a1) (some (κ (.int 1))) none)) λv2=>ifS (aI (aC (ofP (rdv (V.cl v1))) .In (κ (.tuple [.str (so "each"),.str (so "then")]))) (aC (cY v2) .Eq (aB .Add (bN (so "index") (b9 [κ (.str (so "each")),κ (.str (so "then"))]) [ofP (rdv (V.cl v1))]) (κ (.int 1))))) (rb (aM (plI (ofP (rdv (V.cl v2)))) (λd3=>.ok true) (λd3=>rn n "_law_made" [.fz d3])) λv4=>rb (bM (aC (κ .none) .In (ofP (rdv (V.cl v4)))) (κ .none) (aB .Add (aO [ofP (rdv (V.cl (V.cl v1)))]) (aL bJ (ofP (rdv (V.cl v4)))))) R.ok) (ifS (aI (aC (ofP (rdv (V.cl (V.cl v1)))) .Eq (κ (.str (so "beside")))) (aC (aM (plI (ofP (rdv (V.cl v2)))) (λd5=>tst (orS (unS .Not (κ (.bool (cC d5)))) (aC (ofP (aW d5)) .NotEq (κ (.int 3))))) (λd5=>κ d5)) .Eq (.ok (.own (.list []))))) (rb (aM (plI (ofP (rdv (V.cl (V.cl v2))))) (λd6=>.ok true) (λd6=>aO [ofP (getItem d6 (.int 0)),ofP (getItem d6 (.int 1)),aE (rn n "_law_made") [ofP (getItem d6 (.int 2))]])) λv7=>ifS (aC (aM (plI (ofP (rdv (V.cl v7)))) (λd8=>tst (orS (unS .Not (aE (rn n "_law_is_name") [ofP (getItem d8 (.int 0))])) (orS (unS .Not (aE (rn n "_law_is_name") [ofP (getItem d8 (.int 1))])) (aC (ofP (getItem d8 (.int 2))) .Is (κ .none))))) (λd8=>κ d8)) .NotEq (.ok (.own (.list [])))) (κ .none) (rb (aI (aE (rn n "_law_are_unlike") [aM (plI (ofP (rdv (V.cl (V.cl v7))))) (λd10=>.ok true) (λd10=>ofP (getItem d10 (.int 0)))]) (aE (rn n "_law_are_unlike") [aM (plI (ofP (rdv (V.cl (V.cl v7))))) (λd12=>.ok true) (λd12=>ofP (getItem d12 (.int 1)))])) λv13=>rb (bM (ofP (rdv (V.cl v13))) (aO [κ (.str (so "beside")),aL bJ (ofP (rdv (V.cl (V.cl (V.cl v7)))))]) (κ .none)) R.ok)) (ifS (aC (ofP (rdv (V.cl (V.cl v2)))) .Eq (.ok (.own (.list [])))) (rb (bM (aC (ofP (rdv (V.cl (V.cl (V.cl v1))))) .Eq (κ (.str (so "whole")))) (κ a1) (κ .none)) R.ok) (ifS (unS .Not (aE (rn n "_law_is_name") [aK (bH (V.cl (V.cl v2))) (κ (.int 0))])) (κ .none) (ifS (aI (aC (ofP (rdv (V.cl (V.cl (V.cl v1))))) .Eq (κ (.str (so "pick")))) (aC (cY (V.cl (V.cl v2))) .Eq (κ (.int 1)))) (κ a1) (ifS (aI (aC (ofP (rdv (V.cl (V.cl (V.cl (V.cl v1)))))) .Eq (κ (.str (so "sift")))) (aI (aC (cY (V.cl (V.cl v2))) .Eq (κ (.int 2))) (dF (so "str") (aK (bH (V.cl (V.cl v2))) (κ (.int 1)))))) (rb (aR (cR (aK (bH (V.cl (V.cl v2))) (κ (.int 1)))) (some (aL cL (aC (aR (cR (aK (bH (V.cl (V.cl v2))) (κ (.int 1)))) none (some (κ (.int 1)))) .Eq (κ (.str (so "-")))))) none) λv14=>rb (aI (b8 (κ (.int 1)) .LtE (cY (V.cl v14)) .LtE (κ (.int 30))) (aC (aM (plI (ofP (rdv (V.cl v14)))) (λd15=>tst (aV (ofP (cmp .NotIn d15 (.str (so "0123456789")))))) (λd15=>κ d15)) .Eq (.ok (.own (.list []))))) λv16=>rb (bM (ofP (rdv (V.cl v16))) (aO [ofP (rdv (V.cl (V.cl (V.cl (V.cl (V.cl v1)))))),aK (bH (V.cl (V.cl v2))) (κ (.int 0)),aL cL (aK (bH (V.cl (V.cl v2))) (κ (.int 1)))]) (κ .none)) R.ok) (ifS (aI (aC (ofP (rdv (V.cl (V.cl (V.cl (V.cl (V.cl v1))))))) .Eq (κ (.str (so "call")))) (aI (aC (cY (V.cl (V.cl v2))) .Eq (κ (.int 2))) (aI (aE (rn n "_law_is_name") [aK (bH (V.cl (V.cl v2))) (κ (.int 1))]) (aC (aK (bH (V.cl (V.cl v2))) (κ (.int 0))) .NotEq (aK (bH (V.cl (V.cl v2))) (κ (.int 1))))))) (κ a1) (ifS (orS (aC (ofP (rdv (V.cl (V.cl (V.cl (V.cl (V.cl (V.cl v1)))))))) .NotEq (κ (.str (so "join")))) (orS (aC (cY (V.cl (V.cl v2))) .NotEq (κ (.int 3))) (orS (unS .Not (aE (rn n "_law_is_name") [aK (bH (V.cl (V.cl v2))) (κ (.int 1))])) (aC (aK (bH (V.cl (V.cl v2))) (κ (.int 0))) .Eq (aK (bH (V.cl (V.cl v2))) (κ (.int 1))))))) (κ .none) (rb (aI (dF (so "tuple") (aK (bH (V.cl (V.cl v2))) (κ (.int 2)))) (aC (aM (plI (aK (bH (V.cl (V.cl v2))) (κ (.int 2)))) (λd17=>tst (unS .Not (rn n "_law_is_name" [.fz d17]))) (λd17=>κ d17)) .Eq (.ok (.own (.list []))))) λv18=>rb (bM (aI (ofP (rdv (V.cl v18))) (aE (rn n "_law_are_unlike") [aL fT (aK (bH (V.cl (V.cl v2))) (κ (.int 2)))])) (κ a1) (κ .none)) R.ok))))))))):=by kernel_rfl
theorem q00:rn (n+1) "_law_due" [.fz a1]=rb (aE (rn n "_law_made") [aE (rn n "_law_nest") [bN (so "split") (bN (so "replace") (bN (so "replace") (κ a1) [κ (.str (so "(")),κ (.str (so " ( "))]) [κ (.str (so ")")),κ (.str (so " ) "))]) []]]) λv1=>ifS (orS (aC (ofP (rdv (V.cl v1))) .Is (κ .none)) (aC (aE (rn n "_law_text") [bU (V.cl v1)]) .NotEq (κ a1))) (κ .none) (dM (V.cl v1) R.ok):=by kernel_rfl
theorem q01:rn (n+1) "_law_bent" [.fz a1,.fz a2]=rb (aB .Mod (ofP (aD .FloorDiv a2 (.int 8))) (aB .Add (ofP (aW a1)) (κ (.int 1)))) λv1=>rb (aK (.ok (.str (so " ()-0123456789abcdefghijklmnopqrstuvwxyzAZ.,_"))) (aB .Mod (ofP (aD .FloorDiv a2 (.int 4096))) (ofP (aW (.str (so " ()-0123456789abcdefghijklmnopqrstuvwxyzAZ.,_")))))) λv2=>rb (bN (so "split") (κ a1) [κ (.str (so " "))]) λv3=>rb (aB .Mod (ofP (aD .FloorDiv a2 (.int 8))) (cY v3)) λv4=>ifS (aC (ofP (aD .Mod a2 (.int 8))) .Lt (κ (.int 2))) (rb (aB .Add (aB .Add (aR (.ok a1) none (some (ofP (rdv (V.cl v1))))) (ofP (rdv (V.cl v2)))) (aR (.ok a1) (some (ofP (rdv (V.cl v1)))) none)) R.ok) (ifS (aC (ofP (aD .Mod a2 (.int 8))) .Eq (κ (.int 2))) (rb (aB .Add (aR (.ok a1) none (some (ofP (rdv (V.cl v1))))) (aR (.ok a1) (some (aB .Add (ofP (rdv (V.cl v1))) (κ (.int 1)))) none)) R.ok) (ifS (aC (ofP (aD .Mod a2 (.int 8))) .Eq (κ (.int 3))) (rb (aB .Add (aB .Add (aR (.ok a1) none (some (ofP (rdv (V.cl v1))))) (ofP (rdv (V.cl v2)))) (aR (.ok a1) (some (aB .Add (ofP (rdv (V.cl v1))) (κ (.int 1)))) none)) R.ok) (ifS (aC (ofP (aD .Mod a2 (.int 8))) .Eq (κ (.int 4))) (rb (bN (so "join") (κ (.str (so " "))) [aB .Add (aR (bH v3) none (some (ofP (rdv (V.cl v4))))) (aR (bH v3) (some (aB .Add (ofP (rdv (V.cl v4))) (κ (.int 1)))) none)]) R.ok) (ifS (aC (ofP (aD .Mod a2 (.int 8))) .Eq (κ (.int 5))) (rb (bN (so "join") (κ (.str (so " "))) [aB .Add (aR (bH v3) none (some (aB .Add (ofP (rdv (V.cl v4))) (κ (.int 1))))) (aR (bH v3) (some (ofP (rdv (V.cl v4)))) none)]) R.ok) (ifS (aC (ofP (aD .Mod a2 (.int 8))) .Eq (κ (.int 6))) (rb (b9 [κ (.str (so "")),κ (.str (so "(")),κ (.str (so ")")),κ (.str (so "()")),κ (.str (so "whole")),κ (.str (so "(whole")),κ (.str (so "whole)")),κ (.str (so " (whole)")),κ (.str (so "(whole) ")),κ (.str (so "((whole))")),κ (.str (so "(whole)(whole)"))]) λv5=>rb (aK (cR (aB .Add (ofP (rdv (V.cl v5))) (b9 [κ (.str (so "(each ())")),κ (.str (so "(pick  a)")),κ (.str (so "(sift a 007)")),κ (.str (so "(sift a -0)")),κ (.str (so "(join a b ())"))]))) (aB .Mod (ofP (aD .FloorDiv a2 (.int 8))) (κ (.int 16)))) R.ok) (κ a1)))))):=by kernel_rfl
theorem Dn:rn (n+1) "_law_told" [.fz a1]=Yu BB (so "ViewError") (rn n "read" [.fz a1]) (λy1=>run BB n true (so "_law_word") [.ex y1]) R.ok:=by kernel_rfl
def eC(o0 o1 o2 o3 o4 o5 o6 o7 o8 o9:Option V):aA:=[(so "_law_script",o0),(so "_law_names_here",o1),(so "_law_tree",o2),(so "_law_turn",o3),(so "_law_cell",o4),(so "_law_view_here",o5),(so "_law_more",o6),(so "_law_text_here",o7),(so "_law_due_here",o8),(so "_law_found",o9)]
def lY(n:Nat)(σ:aA)(kn:KN)(kr:KR):R V:=stm BB (so "law") n 23 (bT (List.drop 2 (aP BB (so "law")))) σ kn kr
def lZ:Expr:=cW (List.drop 2 (aP BB (so "law")))
def uG(n:Nat)(σ:aA)(kn:KN)(kr:KR):R V:=stm BB (so "law") n 24 (List.drop 3 (aP BB (so "law"))) σ kn kr
theorem q02:rn (n+1) "law" [.fz a1]=rb (rn n "_law_names" [.fz a1]) λv1=>rb (aE (rn n "_law_house") [κ a1,bU (V.cl v1)]) λv2=>rb (enI (aR (.ok a1) (some (κ (.int 2))) (some (κ (.int 22))))) λl3=>a8 (lY n) lZ l3 (eC (ζ a1) (some (V.cl v1)) (some v2) none none none none none none none) (λσ=>uG n σ (λ_=>κ .none) R.ok) R.ok:=by kernel_rfl
theorem q03:bA lZ (.tuple [d0,d1]) (eC p0 p1 p2 p3 p4 p5 p6 p7 p8 p9)=.ok (eC p0 p1 p2 (ζ d0) (ζ d1) p5 p6 p7 p8 p9):=by kernel_rfl
def uH(n:Nat)(σ:aA)(kn:KN)(kr:KR):R V:=stm BB (so "law") n 22 (bT (List.drop 1 (bT (List.drop 2 (aP BB (so "law")))))) σ kn kr
def pQ:Expr:=cW (List.drop 1 (bT (List.drop 2 (aP BB (so "law")))))
def uI(n:Nat)(σ:aA)(kn:KN)(kr:KR):R V:=stm BB (so "law") n 23 (List.drop 2 (bT (List.drop 2 (aP BB (so "law"))))) σ kn kr
theorem q04:lY n (eC (ζ x1) (some w2) (some w3) (ζ d0) (ζ d1) o6 o7 o8 o9 o10) kn kr=rb (aE (rn n "_law_view") [κ x1,aB .Add (κ (.int 300)) (ofP (aD .Mult (.int 7) d0)),bU (V.cl w3),bU (V.cl w2)]) λv1=>rb (plI (aR (cR (b9 [ofP (aD .FloorDiv d1 (.int 5)),ofP (aD .FloorDiv d1 (.int 64))])) none (some (ofP (aD .Mod d1 (.int 3)))))) λl2=>a8 (uH n) pQ l2 (eC (ζ x1) (some (V.cl w2)) (some (V.cl w3)) (ζ d0) (ζ d1) (some v1) o7 o8 o9 o10) (λσ=>uI n σ kn kr) kr:=by kernel_rfl
theorem q05:uG n (eC (ζ x1) (some w2) (some w3) o4 o5 o6 o7 o8 o9 o10) kn kr=kr (.fz (.bool true)):=by kernel_rfl
theorem q06:bA pQ d0 (eC p0 p1 p2 p3 p4 p5 p6 p7 p8 p9)=.ok (eC p0 p1 p2 p3 p4 p5 (ζ d0) p7 p8 p9):=by kernel_rfl
theorem q07:uH n (eC (ζ x1) (some w2) (some w3) (ζ x4) (ζ x5) (some w6) (ζ d0) o8 o9 o10) kn kr=rb (aE (rn n "_law_wider") [bU (V.cl w6),κ d0,bU (V.cl w2)]) λv1=>kn (eC (ζ x1) (some (V.cl w2)) (some w3) (ζ x4) (ζ x5) (some v1) (ζ d0) o8 o9 o10):=by kernel_rfl
theorem q08:uI n (eC (ζ x1) (some w2) (some w3) (ζ x4) (ζ x5) (some w6) o7 o8 o9 o10) kn kr=rb (aE (rn n "_law_bent") [aE (rn n "_law_text") [bU (V.cl w6)],aB .Add (ofP (aD .FloorDiv x5 (.int 3))) (ofP (aD .Mult (.int 31) x4))]) λv1=>rb (aE (rn n "_law_due") [bU (V.cl v1)]) λv2=>rb (aE (rn n "_law_told") [bU (V.cl (V.cl v1))]) λv3=>ifS (unS .Not (aE (rn n "_law_alike") [bU (V.cl v3),bM (aC (ofP (rdv (V.cl v2))) .Is (κ .none)) (κ (.tuple [.str (so "refused"),.str (so "text")])) (ofP (rdv (V.cl v2)))])) (kr (.fz (.bool false))) (ifS (aC (aE (rn n "_law_told") [aK (cR (b9 [κ .none,κ (.int 5),b9 [κ (.str (so "(whole)"))],κ (.tuple [.str (so "whole")]),κ (.bool true)])) (ofP (aD .Mod x5 (.int 5)))]) .NotEq (κ (.tuple [.str (so "refused"),.str (so "text")]))) (kr (.fz (.bool false))) (kn (eC (ζ x1) (some w2) (some w3) (ζ x4) (ζ x5) (some (V.cl w6)) o7 (some (V.cl (V.cl v1))) (some (V.cl v2)) (some (V.cl v3))))):=by kernel_rfl
set_option genInjectivity false in
inductive W where
 |whole
 |pick (n:Str)
 |call (a b:Str)
 |sift (f:Str) (l:Int)
 |join (a b:Str) (fs:List Str)
 |each (v:W)
 |andThen (a b:W)
 |beside (r:W)
 |bnil
 |bcons (n p:Str) (v r:W)
noncomputable abbrev WW:=W
noncomputable abbrev LP:=List (Str×PyData)
noncomputable def W.isRows:W->Bool
 | .bcons _ _ _ _=>true
 | .bnil=>true
 |_=>false
noncomputable def mkd(l:LP):List (PyData×PyData):=l.map λp=>(.str p.1,p.2)
noncomputable def ks(l:LP):List Str:=l.map (·.1)
noncomputable def lk:LP->Str->Option PyData
 | [],_=>none
 |p::r,x=>if x=p.1 then some p.2 else lk r x
noncomputable def st:LP->Str->PyData->LP
 | [],x,u=>[(x,u)]
 |p::r,x,u=>if x=p.1 then (p.1,u)::r else p::st r x u
def sts:LP->LP->LP
 | [],acc=>acc
 |p::r,acc=>sts r (st acc p.1 p.2)
noncomputable def dl:LP->Str->LP
 | [],_=>[]
 |p::r,x=>if x=p.1 then r else p::dl r x
theorem l0:∀ (l:LP) (x:Str),cH (mkd l) x=lk l x:=by
 intro v0
 induction v0 with
 |nil =>
  intro _;exact rfl
 |cons p r ih =>
  intro x;show(if x=p.1 then some p.2 else cH (mkd r) x)=if x=p.1 then some p.2 else lk r x;rw[ih x]
theorem Do:∀ (l:LP) (x:Str) (u:PyData),eG (mkd l) x u=mkd (st l x u):=by
 intro v0
 induction v0 with
 |nil =>
  intro _ _;exact rfl
 |cons p r ih =>
  intro x u;show(if x=p.1 then (.str p.1,u)::mkd r else (.str p.1,p.2)::eG (mkd r) x u)=mkd (if x=p.1 then (p.1,u)::r else p::st r x u);rw[ih x u]
  split<;>rfl
theorem q09:∀ (l:LP) (x:Str),fE (mkd l) x=mkd (dl l x):=by
 intro v0
 induction v0 with
 |nil =>
  intro _;exact rfl
 |cons p r ih =>
  intro x;show(if x=p.1 then mkd r else (.str p.1,p.2)::fE (mkd r) x)=mkd (if x=p.1 then r else p::dl r x);rw[ih x]
  split<;>rfl
theorem Dq:∀ (ps acc:LP),eH ps (mkd acc)=mkd (sts ps acc):=by
 intro v0
 induction v0 with
 |nil =>
  intro _;exact rfl
 |cons p r ih =>
  intro acc;show eH r (eG (mkd acc) p.1 p.2)=_;simp only[Do,ih];rfl
theorem Dr(l:LP):(mkd l).map (·.1)=(ks l).map PyData.str:=by
 simp[mkd,ks,List.map_map,Function.comp_def]
theorem q1a(l:LP):(mkd l).length=l.length:=by simp[mkd]
theorem mk_keys?:∀ l:LP,keys? (mkd l)=some l
 | []=>rfl
 |p::r=>by
  show(keys? (mkd r)).map ((p.1,p.2)::·)=_;rw[mk_keys? r];rfl
theorem uJ:∀ (l:LP) (x:Str) (u:PyData) (y:Str),lk (st l x u) y=if y=x then some u else lk l y:=by
 intro v0
 induction v0 with
 |nil =>
  intro x u y;exact rfl
 |cons p r ih =>
  intro x u y;show lk (if x=p.1 then (p.1,u)::r else p::st r x u) y=if y=x then some u else if y=p.1 then some p.2 else lk r y
  by_cases h:x=p.1
  ·rw[if_pos h];show(if y=p.1 then some u else lk r y)=_;subst h
   split<;>rfl
  ·rw[if_neg h];show(if y=p.1 then some p.2 else lk (st r x u) y)=_;rw[ih x u y]
   by_cases e:y=x
   ·subst e;rw[if_neg h,if_pos rfl,if_pos rfl]
   ·rw[if_neg e,if_neg e]
theorem uK:∀ {l:LP} {x:Str} , (lk l x).isSome=true↔x∈ks l
 | [],x=>⟨λh=>bft h,λh=>aZ h⟩
 |p::r,x=>by
  show(if x=p.1 then some p.2 else lk r x).isSome=true↔x∈p.1::ks r
  by_cases h:x=p.1
  ·simp[h]
  ·rw[if_neg h,uK (l:=r)];simp[h]
theorem uL{l:LP}(h:lk l x=some d):x∈ks l:=uK.mp (by rw[h];rfl)
theorem q1b:∀ {l:LP} (x:Str) (u:PyData),(ks l).Nodup->(ks (st l x u)).Nodup/\∀ y,y∈ks (st l x u)↔y=x\/y∈ks l:=by
 intro v0
 induction v0 with
 |nil =>
  intro x u _;refine⟨bo.mpr ⟨λh=>aZ h,ec⟩,λy=>⟨λh=>.inl (List.mem_singleton.mp h),λh=>?_⟩⟩;rcases h with rfl | h
  ·exact ac
  ·exact aZ h
 |cons p r ih =>
  intro x u h;have h1:p.1∉ks r/\(ks r).Nodup:=bo.mp h;show(ks (if x=p.1 then (p.1,u)::r else p::st r x u)).Nodup/\∀ y,y∈ks (if x=p.1 then (p.1,u)::r else p::st r x u)↔y=x\/y∈p.1::ks r
  by_cases e:x=p.1
  ·rw[if_pos e];refine⟨h,λy=>?_⟩;show y∈p.1::ks r↔_;rw[e];simp
  ·rw[if_neg e];obtain⟨i1,i2⟩:=ih x u h1.2;refine⟨bo.mpr ⟨λhm=>?_,i1⟩,λy=>?_⟩
   ·rcases(i2 p.1).mp hm with e' | e'
    ·exact e e'.symm
    ·exact h1.1 e'
   ·show y∈p.1::ks (st r x u)↔_;rw[List.mem_cons,i2,List.mem_cons];constructor
    ·rintro(a | a | a)<;>simp[a]
    ·rintro(a | a | a)<;>simp[a]
theorem Ds:∀ {l:LP} (x:Str),(ks l).Nodup->(ks (dl l x)).Nodup/\(∀ y,y∈ks (dl l x)->y∈ks l)/\∀ y,lk (dl l x) y=if y=x then none else lk l y:=by
 intro v0
 induction v0 with
 |nil =>
  intro x _;exact⟨ec,λy hy=>hy,λy=>(ite_self none).symm⟩
 |cons p r ih =>
  intro x h;have h1:p.1∉ks r/\(ks r).Nodup:=bo.mp h;show(ks (if x=p.1 then r else p::dl r x)).Nodup/\(∀ y,y∈ks (if x=p.1 then r else p::dl r x)->y∈p.1::ks r)/\∀ y,lk (if x=p.1 then r else p::dl r x) y=if y=x then none else if y=p.1 then some p.2 else lk r y
  by_cases e:x=p.1
  ·rw[if_pos e];refine⟨h1.2,λy hy=>af _ hy,λy=>?_⟩
   by_cases e':y=x
   ·rw[if_pos e'];refine ocs (lk r y) (λhl=>?_) λd hl=>?_
    ·try rewrite[hl]
     rfl
    ·exact absurd (e▸e'▸uL hl) h1.1
   ·rw[if_neg e',if_neg (e▸e')]
  ·rw[if_neg e];obtain⟨i1,i2,i3⟩:=ih x h1.2;refine⟨bo.mpr ⟨λhm=>h1.1 (i2 _ hm),i1⟩,λy hy=>?_,λy=>?_⟩
   ·rcases List.mem_cons.mp hy with rfl | hy
    ·simp
    ·exact af _ (i2 y hy)
   ·show(if y=p.1 then some p.2 else lk (dl r x) y)=_;rw[i3]
    by_cases e':y=x
    ·subst e';rw[if_neg e,if_pos rfl,if_pos rfl]
    ·rw[if_neg e',if_neg e']
inductive Tr(N:List Str):Nat->PyData->Prop where
 |int {m:Nat} (i:Int):Tr N m (.int i)
 |br {m:Nat} (l:LP) (nd:(ks l).Nodup) (sub:∀ k∈ks l,k∈N) (val:∀ k d,lk l k=some d->Tr N m d):Tr N (m+1) (.dict (mkd l))
structure Dk(N:List Str)(m:Nat)(l:LP):Prop where
 nd:(ks l).Nodup
 sub:∀ k∈ks l,k∈N
 val:∀ k d,lk l k=some d->Tr N m d
variable {N:List Str}{m:Nat}
theorem Dk.tr{l:LP}(B:Dk N m l):Tr N (m+1) (.dict (mkd l)):=.br l B.nd B.sub B.val
@[elab_as_elim] theorem Tr.by{motive:Nat->PyData->Prop}(h:Tr N m d)(h1:∀ (m:Nat) (i:Int),motive m (.int i))(h2:∀ (m:Nat) (l:LP),Dk N m l->motive (m+1) (.dict (mkd l))):motive m d:=by
 cases h with
 |int i=>exact h1 _ i
 |br l a b c=>exact h2 _ l ⟨a,b,c⟩
theorem Tr.mono:∀ {m m':Nat} {d:PyData},Tr N m d->m<=m'->Tr N m' d:=by
 intro m
 induction m with
 |zero =>
  intro m' d s h;cases s with
  |int i=>exact .int i
 |succ m ih =>
  intro m' d s h;cases s with
  |int i=>exact .int i
  |br l a b c =>
   cases m' with
   |zero=>exact absurd h (Nat.not_succ_le_zero _)
   |succ m'=>exact .br l a b λk d h1=>ih (c k d h1) (be h)
theorem Dk.nil:Dk N m []:=⟨ec,λk h=>aZ h,λk d h=>ns h⟩
theorem Dk.set{l:LP}(B:Dk N m l){k:Str}(hk:k∈N)(h:Tr N m d):Dk N m (st l k d):=by
 obtain⟨q1,q2⟩:=q1b k d B.nd;refine⟨q1,λy hy=>?_,λy e h1=>?_⟩
 ·rcases(q2 y).mp hy with rfl | hy
  ·exact hk
  ·exact B.sub y hy
 ·rw[uJ] at h1
  by_cases e:y=k
  ·rw[if_pos e] at h1;obtain rfl:=si h1;exact h
  ·rw[if_neg e] at h1;exact B.val y _ h1
theorem Dk.sts:∀ {acc:LP},Dk N m acc->(∀ p∈ps,p.1∈N/\Tr N m p.2)->Dk N m (sts ps acc):=by
 induction ps with
 |nil=>exact λB _=>B
 |cons p r ih=>exact λB h=>ih (B.set (h p ac).1 (h p ac).2) λq hq=>h q (af _ hq)
theorem Dk.del{l:LP}(B:Dk N m l)(k:Str):Dk N m (dl l k):=by
 obtain⟨q1,q2,q3⟩:=Ds k B.nd;refine⟨q1,λy hy=>B.sub y (q2 y hy),λy e h1=>?_⟩;rw[q3] at h1
 by_cases e:y=k
 ·rw[if_pos e] at h1;exact ns h1
 ·rw[if_neg e] at h1;exact B.val y _ h1
inductive DKey(N:List Str)(m:Nat)(l:LP)(k:Str):Prop where
 |mk (d:PyData) (h:lk l k=some d) (s:Tr N m d):DKey N m l k
theorem Dk.key{l:LP}(B:Dk N m l){k:Str}(h:k∈ks l):DKey N m l k:=by
 have h1:=uK.mpr h;refine ocs (lk l k) (λe=>?_) λd e=>⟨d,e,B.val k d e⟩
 rw[e] at h1;exact bft h1
theorem q1c[DecidableEq α]:∀ {a b:List α},a.Nodup->(∀ x∈a,x∈b)->a.length<=b.length:=by
 intro v0
 induction v0 with
 |nil =>
  intro _ _ _;exact am _
 |cons x r ih =>
  intro b hn hs;obtain⟨h1,h2⟩:=bo.mp hn;have hx:=hs x (by simp);have:=ih (b:=b.erase x) h2 λy hy=>(List.mem_erase_of_ne (λe:y=x=>h1 (e▸hy))).mpr (hs y (by simp[hy]));simp only[List.length_erase_of_mem hx] at this;have hp:0 < b.length:=List.length_pos_of_mem hx;show r.length+1<=b.length;exact H3 this hp
theorem Dk.len{l:LP}(B:Dk N m l):l.length<=N.length:=by
 have:=q1c B.nd B.sub;simpa[ks] using this
inductive Out{α β:Type}(S:α->β->aA)(c:KN->KR->R V)(I:α->Prop)(E:X->Prop)(Q:V->Prop):Prop where
 |kn (a:α) (j:β) (hi:I a) (h:∀ kn kr,c kn kr=kn (S a j)):Out S c I E Q
 |exc (x:X) (hi:E x) (h:∀ kn kr,c kn kr=.exc x):Out S c I E Q
 |kr (v:V) (hi:Q v) (h:∀ kn kr,c kn kr=kr v):Out S c I E Q
theorem jS{β:Type}{S:α->β->aA}{b:aA->KN->KR->R V}{t:Expr}{I:List PyData->α->Prop}{E:X->Prop}{Q:V->Prop}:
  ∀ {l p:List PyData} {a:α} {j:β},(∀ q d r a j,p++l=q++d::r->I q a->Out S (λkn kr=>rb (ofP (bA t d (S a j))) λσ=>b σ kn kr) (I (q++[d])) E Q)->I p a->Out S (a8 b t l (S a j)) (I (p++l)) E Q
 | [],p,a,j,_,hi=>Out.kn a j (by simpa using hi) λ_ _=>rfl
 |d::r,p,a,j,h,hi=>by
  rcases h p d r a j rfl hi with ⟨a',j',hi',e⟩ | ⟨x,hx,e⟩ | ⟨v,hv,e⟩
  ·have e1:p++d::r=(p++[d])++r:=by simp
   have:=jS (S:=S) (b:=b) (t:=t) (l:=r) (p:=p++[d]) (a:=a') (j:=j') (I:=I) (E:=E) (Q:=Q) (λq d' r' a j hq=>h q d' r' a j (e1.trans hq)) hi';rw[<- e1] at this;rcases this with ⟨a2,j2,h2,e2⟩ | ⟨x,hx,e2⟩ | ⟨v,hv,e2⟩
   ·exact Out.kn a2 j2 h2 λkn kr=>(e _ _).trans (e2 kn kr)
   ·exact Out.exc x hx λkn kr=>(e _ _).trans (e2 kn kr)
   ·exact Out.kr v hv λkn kr=>(e _ _).trans (e2 kn kr)
  ·exact Out.exc x hx λkn kr=>e _ _
  ·exact Out.kr v hv λkn kr=>e _ _
section
variable {β:Type}
theorem aJ(a:α)(k:α->R β):rb (.ok a) k=k a:=rfl
theorem uM(x:X)(k:α->R β):rb (.exc x) k=.exc x:=rfl
theorem aT(a:α):ofP (.ok a)=.ok a:=rfl
theorem gQ(a:α):nx (.ok a)=.ok a:=rfl
theorem f8(a:α)(f:α->P β):P.bind (.ok a) f=f a:=rfl
theorem f9(a:α):ofO (some a)=.ok a:=rfl
theorem eD(a b:α):(if true=true then a else b)=a:=rfl
theorem eV(a b:α):(if false=true then a else b)=b:=rfl
end
theorem uN(b:Bool):tst (κ (.bool b))=.ok b:=rfl
theorem uO(b:Bool):c9 (.fz (.bool b))=.ok b:=rfl
theorem gA(d:PyData):dOf (.fz d)=d:=rfl
theorem uP(d:PyData):dOf (.own d)=d:=rfl
theorem dG(d:PyData):V.cl (.fz d)=.fz d:=rfl
theorem iM(d:PyData):V.cl (.own d)=.fz d:=rfl
theorem fP(d:PyData):bU (.fz d)=κ d:=rfl
theorem dB(d:PyData):rdv (.fz d)=.ok (.fz d):=rfl
theorem pR(d:PyData):bH (.fz d)=.ok d:=rfl
theorem uQ(d:PyData):bH (.own d)=.ok d:=rfl
theorem uR(d:PyData)(k:V->R V):dM (.fz d) k=k (.fz d):=rfl
theorem uS(d:PyData)(k:V->R V):dM (.own d) k=k (.own d):=rfl
theorem pS(d:PyData):jD (.own d)=.ok d:=rfl
theorem uT:eB []=.ok []:=rfl
theorem uU(v:V)(r:List (R V)):eB (.ok v::r)=rb (eB r) λvs=>.ok (v.cl::vs):=rfl
theorem uV(b:Bool):fzb (.ok b)=.ok (.fz (.bool b)):=rfl
theorem uW(b:Bool):aV (.ok b)=κ (.bool b):=rfl
theorem uX(d:PyData):iA (.fz d)=.ok d:=rfl
theorem uY:pD none=.ok none:=rfl
theorem uZ(i:Int):pD (some (κ (.int i)))=.ok (some i):=rfl
theorem u0(b:Bool):fF .Not (.fz (.bool b))=.ok (.fz (.bool !b)):=rfl
theorem u5(i:Int):fF .USub (.fz (.int i))=.ok (.fz (.int (-i))):=rfl
theorem u6:(!true)=false:=rfl
theorem u7:(!false)=true:=rfl
theorem Dt(l:LP)(x:Str):getItem (.dict (mkd l)) (.str x)=frz (lk l x):=by
 show frz (cH (mkd l) x)=_;rw[l0]
theorem eW{l:LP}(h:lk l x=some d):getItem (.dict (mkd l)) (.str x)=.ok (.fz d):=by
 simp only[Dt,h];rfl
theorem l7(l:LP)(x:Str):Internal.contains (.str x) (.dict (mkd l))=.ok (lk l x).isSome:=by
 show P.ok (cH (mkd l) x).isSome=_;rw[l0]
theorem gB(l:LP):Internal.items (.dict (mkd l))=.ok ((ks l).map .str):=by
 show P.ok ((mkd l).map (·.1))=_;rw[Dr]
theorem l8{l:LP}(x:Str)(d:PyData)(h:l.length < aF):Internal.setItem (.dict (mkd l)) (.str x) d=.ok (.dict (mkd (st l x d))):=by
 show(if (mkd l).length < aF then P.ok (PyData.dict (eG (mkd l) x d)) else .no)=_;rw[q1a,if_pos h,Do]
theorem u8(l:List (PyData×PyData)):dZ (.dict l)=true:=rfl
theorem u9(i:Int):dZ (.int i)=false:=rfl
theorem vA(l:List (PyData×PyData)):iZ (.dict l)=false:=rfl
theorem vB(i:Int):iZ (.int i)=true:=rfl
theorem vC(i:Int):i5 (.int i)=false:=rfl
theorem vD(l:List (PyData×PyData)):i5 (.dict l)=false:=rfl
theorem Du:∀ bs:List Bool,bools? (bs.map PyData.bool)=some bs
 | []=>rfl
 |b::r=>by
  show(bools? (r.map PyData.bool)).map (b::·)=_;rw[Du r];rfl
theorem jT:∀ xs:List Str,strs? (xs.map PyData.str)=some xs
 | []=>rfl
 |b::r=>by
  show(strs? (r.map PyData.str)).map (b::·)=_;rw[jT r];rfl
theorem vE(bs:List Bool):b7 (.list (bs.map PyData.bool))=.ok (.fz (.bool (bs.all id))):=by
 show fzb ((ofO (bools? (bs.map PyData.bool))).bind λbs=>.ok (bs.all id))=_;rw[Du];rfl
theorem pT{g:PyData->PyData}:∀ {l:List PyData},(∀ d∈l,t d=.ok true/\∃ v,e d=.ok v/\dOf v=g d)->aN t e l=.ok (l.map g):=by
 intro v0
 induction v0 with
 |nil =>
  intro _;exact rfl
 |cons d r ih =>
  intro h;obtain⟨h1,v,h2,h3⟩:=h d (by simp);show rb (nx (t d)) (λb=>if b then rb (e d) λv=>rb (aN t e r) λxs=>.ok (dOf v::xs) else aN t e r)=_;simp only[h1,gQ,aJ,eD,h2,aJ,ih λd hd=>h d (af _ hd),h3];rfl
theorem vF{g:PyData->Bool}(h:∀ x∈l,e x=.ok (.fz (.bool (g x)))):aL b7 (aM (.ok l) (λ_=>.ok true) e)=.ok (.fz (.bool (l.all g))):=by
 have:aN (λ_=>.ok true) e l=.ok ((l.map g).map .bool):=by
  simp only[pT (g:=λd=>.bool (g d)) λd hd=>⟨rfl,_,h d hd,rfl⟩];simp[Function.comp_def]
 show rb (rb (rb (.ok l) λl=>aN (λ_=>.ok true) e l) λr=>ofP (own (.list r))) (λv=>ofP (b7 (dOf v)))=_;simp only[aJ,this];show ofP (b7 (.list ((l.map g).map .bool)))=_;simp only[vE];simp[Function.comp_def,ofP]
theorem Dv{g:Str->Bool}:∀ {xs:List Str},(∀ x∈xs,t (.str x)=.ok (g x))->aN t (λd=>κ d) (xs.map .str)=.ok ((xs.filter g).map .str):=by
 intro v0
 induction v0 with
 |nil =>
  intro _;exact rfl
 |cons x r ih =>
  intro h;show rb (nx (t (.str x))) (λb=>if b then rb (κ (.str x)) λv=>rb (aN t (λd=>κ d) (r.map .str)) λxs=>.ok (dOf v::xs) else aN t (λd=>κ d) (r.map .str))=_;rw[h x (by simp),gQ,aJ,ih λd hd=>h d (af _ hd)];cases hg:g x
  ·rw[eV,List.filter_cons_of_neg (by simp[hg])]
  ·rw[eD,ka hg];rfl
noncomputable def cB(p:Str×PyData):PyData:=.tuple [.str p.1,p.2]
theorem Dw:∀ ps:LP,twos? (ps.map cB)=some (mkd ps)
 | []=>rfl
 |p::r=>by
  show(twos? (r.map cB)).map ((.str p.1,p.2)::·)=_;simp only[Dw r];rfl
theorem pU(h:ps.length < 4096):cK (.list (ps.map cB))=.ok (.own (.dict (mkd (sts ps [])))):=by
 show((ofO (twos? (ps.map cB))).bind λl=>(ofO (keys? l)).bind λl=>if l.length < 4096 then own (.dict (eH l [])) else .no)=_;simp only[Dw,f9,f8,mk_keys?,f9,f8,if_pos h];show P.ok (V.own (.dict (eH ps (mkd []))))=_;simp only[Dq]
inductive CpsR(N:List Str)(Q:PyData->Prop)(k:Nat)(r:R (List PyData)):Prop where
 |mk (ps:LP) (e:r=.ok (ps.map cB)) (l:ps.length<=k) (h:∀ p∈ps,p.1∈N/\Q p.2):CpsR N Q k r
inductive CpEx(x:Str)(Q:PyData->Prop)(r:R V):Prop where
 |mk (v:V) (d:PyData) (e:r=.ok v) (h:dOf v=.tuple [.str x,d]) (q:Q d):CpEx x Q r
theorem vG{Q:PyData->Prop}:∀ {xs:List Str},(∀ x∈xs,x∈N/\(t (.str x)=.ok false\/t (.str x)=.ok true/\CpEx x Q (e (.str x))))->CpsR N Q xs.length (aN t e (xs.map .str)):=by
 intro xs
 induction xs with
 |nil=>exact λ_=>⟨[],rfl,ae _,λp hp=>aZ hp⟩
 |cons x r ih =>
  intro h;obtain⟨ps,e1,e2,e4⟩:=ih λy hy=>h y (af _ hy);have hs:aN t e ((x::r).map .str)=rb (nx (t (.str x))) (λb=>if b then rb (e (.str x)) λv=>rb (aN t e (r.map .str)) λxs=>.ok (dOf v::xs) else aN t e (r.map .str)):=rfl;obtain⟨hN,h1 | ⟨h1,v,d,h2,h3,h5⟩⟩:=h x ac
  ·exact⟨ps,by simp only[hs,h1,gQ,aJ,eV,e1],bn e2,e4⟩
  ·refine⟨(x,d)::ps,?_,ah e2,λp hp=>?_⟩
   ·simp only[hs,h1,gQ,aJ,eD,h2,e1,h3];rfl
   ·rcases List.mem_cons.mp hp with rfl | hp
    ·exact⟨hN,h5⟩
    ·exact e4 p hp
inductive DctR(N:List Str)(m:Nat)(r:R V):Prop where
 |mk (l:LP) (e:r=.ok (.own (.dict (mkd l)))) (B:Dk N m l):DctR N m r
theorem Dx{xs:List Str}(hl:xs.length < 4096)(h:∀ x∈xs,x∈N/\(t (.str x)=.ok false\/t (.str x)=.ok true/\CpEx x (Tr N m) (e (.str x)))):
  DctR N m (aL cK (aM (.ok (xs.map .str)) t e)):=by
 obtain⟨ps,e1,e2,e4⟩:=vG h;refine⟨sts ps [],?_,Dk.nil.sts e4⟩;show rb (rb (rb (.ok (xs.map .str)) λl=>aN t e l) λr=>ofP (own (.list r))) (λv=>ofP (cK (dOf v)))=_;rw[aJ,e1];show ofP (cK (.list (ps.map cB)))=_;rw[pU (aj e2 hl)];rfl
theorem pV(xs:List Str):eqO (.list (xs.map .str)) (.list [])=.ok xs.isEmpty:=by
 cases xs with
 |nil=>rfl
 |cons x r=>rfl
def inL(c:Nat):Bool:=Txt.contains (so "abcdefghijklmnopqrstuvwxyz") ⟨#[c]⟩
def Dy(x:Str):Bool:=(decide (1<=x.cps.size)&&decide (x.cps.size<=8))&&x.cps.toList.all inL
def isN:PyData->Bool
 | .str x=>Dy x
 |_=>false
abbrev okN(x:Str):Prop:=Dy x=true
theorem eL(h:isN d=true):∃ x,d=.str x/\okN x:=by
 cases d with
 |str x=>exact⟨x,rfl,h⟩
 |_=>exact bft h
structure OkN(x:Str):Prop where
 lo:1<=x.cps.size
 hi:x.cps.size<=8
 let_:∀ c∈x.cps.toList,inL c=true
theorem q1d(h:okN x):OkN x:=by
 obtain⟨h,h3⟩:=ax.mp h;obtain⟨h1,h2⟩:=ax.mp h;exact⟨of_decide_eq_true h1,of_decide_eq_true h2,bb.mp h3⟩
theorem q1e(h:OkN x):okN x:=ax.mpr ⟨ax.mpr ⟨decide_eq_true h.lo,decide_eq_true h.hi⟩,bb.mpr h.let_⟩
theorem gR(k:Nat)(b:Nat):b8 (κ (.int 1)) .LtE (κ (.int k)) .LtE (κ (.int b))=κ (.bool (decide (1<=k)&&decide (k<=b))):=by
 show aV (if decide ((1:Int)<=(k:Int))=true then R.ok (decide ((k:Int)<=(b:Int))) else R.ok false)=_;rw[show decide ((1:Int)<=(k:Int))=decide (1<=k) from decide_eq_decide.mpr cg,show decide ((k:Int)<=(b:Int))=decide (k<=b) from decide_eq_decide.mpr cg];cases decide (1<=k)<;>rfl
theorem q1f(l:List Nat):(l.filter λc=>!inL c).isEmpty=l.all inL:=by
 induction l with
 |nil=>rfl
 |cons c l ih =>
  rw[jx,List.all_cons];cases inL c with
  |false=>rfl
  |true=>exact ih
theorem gS(n:Nat)(d:PyData):rn (n+1) "is_name" [.fz d]=κ (.bool (isN d)):=by
 rw[Yv];cases d with
 |str x =>
  have ha:aL b7 (aM (ofP (items (.str x))) (λ_=>.ok true) (λd1=>(aV (ofP (cmp .In d1 (.str (so "abcdefghijklmnopqrstuvwxyz")))))))=κ (.bool (x.cps.toList.all inL)):=by
   refine(vF (l:=x.cps.toList.map bB) (g:=λd=>match d with | .str s=>inL (s.cps.toList.headD 0) | _=>false) λd hd=>?_).trans (by rw[List.all_map];rfl);obtain⟨c,hc,rfl⟩:=bq.mp hd;rfl
  rw[ha,show ofP (aW (.str x))=κ (.int x.cps.size) from rfl,show(.int 8:PyData)=.int ((8:Nat):Int) from rfl,gR];show _=R.ok (V.fz (.bool ((decide (1<=x.cps.size)&&decide (x.cps.size<=8))&&x.cps.toList.all inL)));cases (decide (1<=x.cps.size)&&decide (x.cps.size<=8))<;>rfl
 |_=>rfl
theorem gT(n:Nat)(d:PyData):rn (n+1) "_law_is_name" [.fz d]=κ (.bool (isN d)):=by
 rw[q0v];cases d with
 |str x =>
  have ha:aC (aM (ofP (items (.str x))) (λd1=>(tst (aV (ofP (cmp .NotIn d1 (.str (so "abcdefghijklmnopqrstuvwxyz"))))))) (λd1=>(κ d1))) .Eq (.ok (.own (.list [])))=κ (.bool (x.cps.toList.all inL)):=by
   have key:∀ l:List Nat,aN (λd1=>(tst (aV (ofP (cmp .NotIn d1 (.str (so "abcdefghijklmnopqrstuvwxyz"))))))) (λd1=>(κ d1)) (l.map bB)=.ok ((l.filter λc=>!inL c).map bB):=λl=>by
    induction l with
    |nil=>rfl
    |cons c l ih =>
     show rb (nx (R.ok (!inL c))) (λb=>if b=true then rb (R.ok (V.fz (bB c))) λv=>rb (aN _ _ (l.map bB)) λxs=>.ok (dOf v::xs) else aN _ _ (l.map bB))=_;rw[ih,jx];cases inL c<;>rfl
   show rb (rb (aN _ _ (x.cps.toList.map bB)) λr=>ofP (own (.list r))) _=_;rw[key,<- q1f];show aV (ofP (eqO (.list ((x.cps.toList.filter λc=>!inL c).map bB)) (.list [])))=_;cases x.cps.toList.filter λc=>!inL c<;>rfl
  rw[ha,show ofP (aW (.str x))=κ (.int x.cps.size) from rfl,show(.int 8:PyData)=.int ((8:Nat):Int) from rfl,gR];show _=R.ok (V.fz (.bool ((decide (1<=x.cps.size)&&decide (x.cps.size<=8))&&x.cps.toList.all inL)));cases (decide (1<=x.cps.size)&&decide (x.cps.size<=8))<;>rfl
 |_=>rfl
structure Wld(N:List Str):Prop where
 len:N.length=14
 nd:N.Nodup
 ok:∀ x∈N,okN x
variable {N:List Str}{m:Nat}
theorem Dk.lt(H:Wld N){l:LP}(B:Dk N m l)(hk:14 < k):l.length < k:=by
 have:=B.len;simp only[H.len] at this;exact H4 hk this
@[elab_as_elim] theorem exnE{motive:Nat->Prop}{a c x:Nat}(n:Nat)(h:a+c<=n)(i:x<=n)(g:∀ k,x<=k+c->motive (k+c)):motive n:=by
 have e:=cc (U (ak c a) h);rw[<- e];exact g _ (by rw[e];exact i)
theorem l9(l:LP):(ks l).length=l.length:=by simp[ks]
inductive Gives(r:R V)(P:PyData->Prop):Prop where
 |mk (v:V) (d:PyData) (e:r=.ok v) (c:v.cl=.fz d) (p:P d):Gives r P
theorem Gives.rb{r:R V}{P:PyData->Prop}(h:Gives r P):Gives (rb r R.ok) P:=by
 obtain⟨v,d,e,c,p⟩:=h;exact⟨v,d,by rw[e];rfl,c,p⟩
theorem pW(h:v.cl=.fz d):dOf v=d:=by
 cases v with
 |fz=>cases h;rfl
 |own=>cases h;rfl
 |ex=>cases h
 |pil=>cases h;rfl
variable {N:List Str}{m:Nat}
noncomputable def tl:PyData->List PyData
 | .tuple l=>l
 |_=>[]
def enc:WW->PyData
 | .whole=>.tuple [.str (so "whole")]
 | .pick n=>.tuple [.str (so "pick"),.str n]
 | .call a b=>.tuple [.str (so "call"),.str a,.str b]
 | .sift f l=>.tuple [.str (so "sift"),.str f,.int l]
 | .join a b fs=>.tuple [.str (so "join"),.str a,.str b,.tuple (fs.map .str)]
 | .each v=>.tuple [.str (so "each"),enc v]
 | .andThen a b=>.tuple [.str (so "then"),enc a,enc b]
 | .beside r=>.tuple [.str (so "beside"),enc r]
 | .bnil=>.tuple []
 | .bcons n p v r=>.tuple (.tuple [.str n,.str p,enc v]::tl (enc r))
def aS(r:WW):List PyData:=tl (enc r)
theorem eM{r:WW}(h:r.isRows=true):enc r=.tuple (aS r):=by
 cases r<;>first | rfl | cases h
noncomputable def W.hgt:WW->Nat
 | .each v=>v.hgt+1
 | .andThen a b=>max a.hgt b.hgt+1
 | .beside r=>r.hgt+1
 | .bcons _ _ v r=>max v.hgt r.hgt
 |_=>0
noncomputable def W.nb:WW->Nat
 | .join _ _ _=>2
 | .each v=>v.nb+1
 | .andThen a b=>a.nb+b.nb+1
 | .beside r=>r.nb+1
 | .bcons _ _ v r=>v.nb+r.nb+1
 | .bnil=>0
 |_=>1
def okP(P:Str->Prop):WW->Prop
 | .pick n=>P n
 | .call a b=>P a/\P b
 | .sift f l=>P f/\l.natAbs < 10 ^ 30
 | .join a b fs=>(P a/\P b)/\(1<=fs.length/\fs.length<=6)/\∀ f∈fs,P f
 | .each v=>okP P v/\v.isRows=false
 | .andThen a b=>(okP P a/\a.isRows=false)/\okP P b/\b.isRows=false
 | .beside r=>(okP P r/\r.isRows=true)/\(aS r).length<=6
 | .bcons n p v r=>(P n/\P p)/\(okP P v/\v.isRows=false)/\okP P r/\r.isRows=true
 |_=>True
abbrev okW(N:List Str)(w:WW):Prop:=okP (·∈N) w
theorem okP.mono{P Q:Str->Prop}(h:∀ x,P x->Q x):∀ {w:WW},okP P w->okP Q w:=by
 intro w
 induction w with
 |pick n=>exact λk=>h _ k
 |call a b=>exact λk=>⟨h _ k.1,h _ k.2⟩
 |sift f l=>exact λk=>⟨h _ k.1,k.2⟩
 |join a b fs=>exact λk=>⟨⟨h _ k.1.1,h _ k.1.2⟩,k.2.1,λf hf=>h _ (k.2.2 f hf)⟩
 |each v ih=>exact λk=>⟨ih k.1,k.2⟩
 |andThen a b iha ihb=>exact λk=>⟨⟨iha k.1.1,k.1.2⟩,ihb k.2.1,k.2.2⟩
 |beside r ih=>exact λk=>⟨⟨ih k.1.1,k.1.2⟩,k.2⟩
 |bcons n p v r ihv ihr=>exact λk=>⟨⟨h _ k.1.1,h _ k.1.2⟩,⟨ihv k.2.1.1,k.2.1.2⟩,ihr k.2.2.1,k.2.2.2⟩
 |_=>exact λ_=>trivial
theorem vH(a:PyData){r:R V}(hr:r=.ok v)(hv:v.cl=.fz d):aO [κ a,r]=κ (.tuple [a,d]):=by
 rw[hr];show(if [V.fz a,v.cl].length<=aF then R.ok (V.fz (.tuple (bV [V.fz a,v.cl]))) else .no)=_;rw[hv];rfl
theorem CpEx.of{Q:PyData->Prop}{r:R V}(h:Gives r Q):CpEx x Q (aO [κ (.str x),r]):=by
 obtain⟨v,d,e,c,p⟩:=h;exact⟨_,d,vH (.str x) e c,rfl,p⟩
theorem Dz{f:List V->R V}{l:LP}(h:lk l x=some d):aE f [ofP (getItem (.dict (mkd l)) (.str x))]=f [.fz d]:=by rw[eW h];rfl
theorem mB(H:Wld N):∀ {m n:Nat} {d:PyData},Tr N m d->m<=n->Gives (rn (n+1) "_law_copy" [.fz d]) (Tr N m):=by
 intro m
 induction m with
 |zero =>
  intro n d h hn;cases h with
  |int i=>exact⟨_,_,(pI n _).trans rfl,rfl,.int i⟩
 |succ m ih =>
  intro n d h hn;refine exnE (c:=1) n hn hn λn hn=>?_;cases h with
  |int i=>exact⟨_,_,(pI _ _).trans rfl,rfl,.int i⟩
  |br l a b c =>
   have B:Dk N m l:=⟨a,b,c⟩
   obtain⟨l',e,C⟩:=Dx (N:=N) (m:=m) (t:=λ_=>.ok true) (e:=λd1=>aO [κ d1,aE (rn (n+1) "_law_copy") [ofP (getItem (.dict (mkd l)) d1)]]) (xs:=ks l) (by rw[l9];exact B.lt H (by decide)) λk hk=>by
    obtain⟨d,h1,h3⟩:=B.key hk;refine⟨B.sub k hk,.inr ⟨rfl,CpEx.of ?_⟩⟩;rw[Dz h1];exact ih h3 (be hn)
   refine⟨.own (.dict (mkd l')),_,?_,rfl,C.tr⟩;rw[pI,gB,aT,e];rfl
theorem D0(n:Nat):rn (n+1) "_law_copy" [.fz .none]=κ .none:=(pI n _).trans rfl
theorem q1g{xs:List Str}{g:Str->Bool}(h:∀ x∈xs,t (.str x)=.ok (g x)):aC (aM (.ok (xs.map .str)) t (λd=>κ d)) .NotEq (.ok (.own (.list [])))=κ (.bool (!(xs.filter g).isEmpty)):=by
 show rb (rb (aN t (λd=>κ d) (xs.map .str)) λr=>ofP (own (.list r))) _=_;rw[Dv h];show aV (ofP (cI (eqO (.list ((xs.filter g).map .str)) (.list []))))=_;rw[pV];rfl
inductive BoR(r:R V)(P:Prop):Prop where
 |mk (b:Bool) (e:r=κ (.bool b)) (h:b=true->P):BoR r P
def vI(l:LP):Prop:=∀ k d,lk l k=some d->dZ d=true
theorem vJ(n:Nat){l:LP}(B:Dk N m l):BoR (rn (n+1) "_law_is_table" [.fz (.dict (mkd l))]) (vI l):=by
 rw[tV,gB];have e:aN (λd1=>tst (unS .Not (dF (so "dict") (ofP (getItem (.dict (mkd l)) d1))))) (λd=>κ d) ((ks l).map .str)=.ok (((ks l).filter λx=>match lk l x with | some d=>!dZ d | none=>false).map .str):=Dv λx hx=>by
  obtain⟨d,h1,_⟩:=B.key hx;rw[eW h1,h1];rfl
 refine⟨((ks l).filter λx=>match lk l x with | some d=>!dZ d | none=>false).isEmpty,?_,λh k d hk=>?_⟩
 ·show rb (rb (rb (aN _ _ ((ks l).map .str)) λr=>ofP (own (.list r))) _) R.ok=_;rw[e];show rb (aV (ofP (eqO (.list (_:List PyData)) (.list [])))) R.ok=_;rw[pV];rfl
 ·have:=gh.mp (List.isEmpty_iff.mp h) k (uL hk);rw[hk] at this;refine bcs (dZ d) (λhf=>?_) λht=>ht;replace this:¬ (!dZ d)=true:=this;rw[hf] at this;exact absurd rfl this
theorem D1(n:Nat){l:LP}(B:Dk N m l)(x:Str):rn (n+1) "_law_is_table" [.fz ((lk l x).getD .none)]=κ (.bool false)\/rn (n+1) "_law_is_table" [.fz ((lk l x).getD .none)]=κ (.bool true)/\∃ m' l',m=m'+1/\lk l x=some (.dict (mkd l'))/\Dk N m' l'/\vI l':=by
 refine ocs (lk l x) (λe=>.inl ?_) λd e=>?_
 ·rw[e];exact(tV n _).trans rfl
 ·rw[e];refine(B.val x d e).by (λm i=>.inl ((tV n _).trans rfl)) λm l' B'=>?_
  obtain⟨b,h1,h2⟩:=vJ n B';cases b with
  |false=>exact .inl h1
  |true=>exact .inr ⟨h1,m,l',rfl,rfl,B',h2 rfl⟩
theorem pX(l:LP)(x:Str):bN (so "get") (κ (.dict (mkd l))) [κ (.str x)]=κ ((lk l x).getD .none):=by
 show ofP (fz ((cH (mkd l) x).getD .none))=_;rw[l0];rfl
theorem q1h(n:Nat){l:LP}(B:Dk N m l)(a:Str)(i:Int):BoR (rn (n+1) "_law_high" [.fz (.dict (mkd l)),.fz (.str a),.fz (.int i)]) True:=by
 rw[Zs,pX,Dt];refine ocs (lk l a) (λe=>?_) λd e=>?_
 ·rw[e];exact⟨false,rfl,λ_=>trivial⟩
 ·rw[e];refine(B.val a d e).by (λm j=>⟨decide (i<=j),rfl,λ_=>trivial⟩) λm l' B'=>⟨false,rfl,λ_=>trivial⟩
def NT(N:List Str)(m:Nat)(d:PyData):Prop:=d=.none\/Tr N m d
theorem Tr.notNone(h:Tr N m d):bF d=false:=by cases h<;>rfl
noncomputable def sec:PyData->PyData
 | .tuple [_,d]=>d
 |d=>d
theorem D2{g:PyData->Bool}:∀ {xs:List PyData},(∀ x∈xs,t x=.ok (g x))->aN t (λd=>κ d) xs=.ok (xs.filter g):=by
 intro v0
 induction v0 with
 |nil =>
  intro _;exact rfl
 |cons x r ih =>
  intro h;show rb (nx (t x)) (λb=>if b then rb (κ x) λv=>rb (aN t (λd=>κ d) r) λxs=>.ok (dOf v::xs) else aN t (λd=>κ d) r)=_;rw[h x (by simp),gQ,aJ,ih λd hd=>h d (af _ hd)];cases hg:g x
  ·rw[eV,List.filter_cons_of_neg (by simp[hg])]
  ·rw[eD,ka hg];rfl
theorem jU(xs:List PyData):eqO (.list xs) (.list [])=.ok xs.isEmpty:=by
 cases xs with
 |nil=>rfl
 |cons x r=>rfl
theorem vK{g:PyData->Bool}(h:∀ x∈xs,t x=.ok (g x)):aC (aM (.ok xs) t (λd=>κ d)) .NotEq (.ok (.own (.list [])))=κ (.bool (!(xs.filter g).isEmpty)):=by
 show rb (rb (aN t (λd=>κ d) xs) λr=>ofP (own (.list r))) _=_;rw[D2 h];show aV (ofP (cI (eqO (.list (xs.filter g)) (.list []))))=_;rw[jU];rfl
theorem D3(n:Nat)(h:∀ p∈ps,p.1∈N/\NT N m p.2)(hl:ps.length < 4096):Gives (rn (n+1) "_law_several" [.fz (.list (ps.map cB))]) (NT N (m+1)):=by
 rw[Z3];show Gives (ifS (aC (aM (.ok (ps.map cB)) (λd1=>tst (aC (ofP (getItem d1 (.int 1))) .Is (κ .none))) (λd1=>κ d1)) .NotEq (.ok (.own (.list [])))) _ _) _;rw[vK (g:=λd=>bF (sec d)) λd hd=>by
  obtain⟨p,_,rfl⟩:=bq.mp hd;rfl]
 refine bcs ((ps.map cB).filter λd=>bF (sec d)).isEmpty (λe=>?_) λe=>?_
 ·rw[e];exact⟨_,_,rfl,rfl,.inl rfl⟩
 ·rw[e,pU hl];refine⟨_,_,rfl,rfl,.inr (Dk.nil.sts λp hp=>⟨(h p hp).1,?_⟩).tr⟩;have:=gh.mp (List.isEmpty_iff.mp e) (cB p) (ie hp);rcases(h p hp).2 with e | h
  ·exact absurd (show bF p.2=true by rw[e];rfl) this
  ·exact h
variable {N:List Str}{m:Nat}
theorem D4(l:LP):fW (.dict (mkd l))=.ok (.own (.list (l.map cB))):=by
 show own (.list ((mkd l).map λp=>.tuple [p.1,p.2]))=_;simp only[mkd,List.map_map];rfl
theorem D5(fs:List Str)(y:Str):Internal.contains (.str y) (.tuple (fs.map .str))=.ok (fs.contains y):=by
 show(ofO (strs? (fs.map .str))).bind _=_;rw[jT];rfl
theorem D6{l:LP}{p:Str×PyData}(h:(ks l).Nodup)(hp:p∈l):lk l p.1=some p.2:=by
 induction l with
 |nil=>exact aZ hp
 |cons q r ih =>
  obtain⟨h1,h2⟩:=bo.mp (show(q.1::ks r).Nodup from h);show(if p.1=q.1 then some q.2 else lk r p.1)=_;rcases List.mem_cons.mp hp with rfl | hp
  ·rw[if_pos rfl]
  ·rw[if_neg λe:p.1=q.1=>h1 (e▸ie (f:=(·.1)) hp),ih h2 hp]
def js(vw tr:PyData)(l1 l2:LP)(j:Option V)(fo:Option V):aA:=cO (ζ vw) (ζ tr) (ζ (.dict (mkd l1))) (ζ (.dict (mkd l2))) j fo
theorem mD{l:LP}(B:Dk N m l)(hd:vI l){k:Str}(hk:k∈ks l):∃ m' lr,m=m'+1/\lk l k=some (.dict (mkd lr))/\Dk N m' lr:=by
 obtain⟨d,h1,h2⟩:=B.key hk;have:=hd k d h1
 revert this
 rw[h1];exact h2.by (λm i h=>bft h) λm l' B' _=>⟨m,l',rfl,rfl,B'⟩
theorem D7{l:LP}{S:Option V->aA}{b:aA->KN->KR->R V}{t:Expr}(h:∀ x∈ks l,∀ j,∃ c:Bool,∀ kn kr,(rb (ofP (bA t (.str x) (S j))) λσ=>b σ kn kr)=if c then kr (.fz .none) else kn (S (ζ (.str x))))(j:Option V):
  (∃ j',∀ kn kr,a8 b t ((ks l).map .str) (S j) kn kr=kn (S j'))\/∀ kn kr,a8 b t ((ks l).map .str) (S j) kn kr=kr (.fz .none):=by
 generalize ks l=xs at h
 induction xs generalizing j with
 |nil=>exact .inl ⟨j,λ_ _=>rfl⟩
 |cons x r ih =>
  obtain⟨c,e⟩:=h x ac j;cases c with
  |true=>exact .inr λkn kr=>e _ kr
  |false =>
   rcases ih (ζ (.str x)) (λy hy=>h y (af _ hy)) with ⟨j',e'⟩ | e'
   ·exact .inl ⟨j',λkn kr=>(e _ kr).trans (e' kn kr)⟩
   ·exact .inr λkn kr=>(e _ kr).trans (e' kn kr)
theorem D8{l lr:LP}{T:PyData->R Bool}{c:Str->Bool}(hT:∀ y,T (.str y)=.ok (c y))(h1:lk l x=some (.dict (mkd lr)))(A B:R V):
  ifS (aC (aM (plI (aK (bH (.fz (.dict (mkd l)))) (κ (.str x)))) T (λd=>κ d)) .NotEq (.ok (.own (.list [])))) A B=if (!((ks lr).filter c).isEmpty)=true then A else B:=by
 show ifS (aC (aM (plI (ofP (getItem (.dict (mkd l)) (.str x)))) T _) _ _) _ _=_;rw[eW h1];show ifS (aC (aM (ofP (items (.dict (mkd lr)))) T _) _ _) _ _=_;rw[gB,aT,q1g λy _=>hT y];rfl
theorem q1i(H:Wld N)(n:Nat){a b:Str}{l:LP}(B:Dk N m l)(hn:m<=n):Gives (rn (n+2) "_law_joins" [.fz (enc (.join a b fs)),.fz (.dict (mkd l))]) (NT N (m+1)):=by
 rw[Zt];show Gives (rb (bN (so "get") (κ (.dict (mkd l))) [κ (.str a)]) λv1=>rb (bN (so "get") (κ (.dict (mkd l))) [κ (.str b)]) λv2=>_) _;rw[pX,pX,aJ,aJ];show Gives (ifS (orS (unS .Not (rn (n+1) "_law_is_table" [.fz ((lk l a).getD .none)])) (unS .Not (rn (n+1) "_law_is_table" [.fz ((lk l b).getD .none)]))) _ _) _;rcases D1 n B a with q1 | ⟨q1,m',l1,rfl,e1,B1,d1⟩
 ·rw[q1];exact⟨_,_,rfl,rfl,.inl rfl⟩
 refine hde λ_ θ=>?_;rcases D1 n B b with q2 | ⟨q2,_,l2,em,e2,B2,d2⟩
 ·apply θ;rw[q1,q2];exact⟨_,_,rfl,rfl,.inl rfl⟩
 apply θ;cases em;rw[q1,q2,e1,e2];show Gives (rb (ofP (items (.dict (mkd l1)))) λl3=>a8 (pJ (n+1)) pK l3 (js (enc (.join a b fs)) (.dict (mkd l)) l1 l2 none none) (λσ=>tW (n+1) σ (λ_=>κ .none) R.ok) R.ok) _;rw[gB,aT,aJ];rcases D7 (l:=l1) (S:=λj=>js (enc (.join a b fs)) (.dict (mkd l)) l1 l2 j none) (b:=pJ (n+1)) (t:=pK) (λx hx j=>by
  refine hde λ_ θ=>?_;obtain⟨_,lr,_,h1,_⟩:=mD B1 d1 hx;apply θ;refine⟨!((ks lr).filter λy=>!fs.contains y).isEmpty,λkn kr=>?_⟩;unfold js;rw[Zu,aT,aJ,Zv];exact D8 (c:=λy=>!fs.contains y) (λy=>by
   show tst (aV (ofP (cI (Internal.contains (.str y) (.tuple (fs.map .str))))))=_;rw[D5];rfl) h1 _ _) none with ⟨j,L1⟩ | L1
 case inr=>rw[L1];exact⟨_,_,rfl,rfl,.inl rfl⟩
 rw[L1];unfold js;rw[Zw];show Gives (rb (ofP (items (.dict (mkd l2)))) λl3=>a8 (pL (n+1)) pM l3 (js (enc (.join a b fs)) (.dict (mkd l)) l1 l2 j none) (λσ=>tX (n+1) σ (λ_=>κ .none) R.ok) R.ok) _;rw[gB,aT,aJ];rcases D7 (l:=l2) (S:=λj=>js (enc (.join a b fs)) (.dict (mkd l)) l1 l2 j none) (b:=pL (n+1)) (t:=pM) (λx hx j=>by
  obtain⟨_,lr,_,h1,_⟩:=mD B2 d2 hx;refine⟨!((ks lr).filter λy=>fs.contains y).isEmpty,λkn kr=>?_⟩;unfold js;rw[Zx,aT,aJ,Zy];exact D8 (c:=λy=>fs.contains y) (λy=>by
   show tst (aV (ofP (Internal.contains (.str y) (.tuple (fs.map .str)))))=_;rw[D5];rfl) h1 _ _) j with ⟨j2,L2⟩ | L2
 case inr=>rw[L2];exact⟨_,_,rfl,rfl,.inl rfl⟩
 rw[L2];unfold js;rw[Zz];show Gives (rb (ofP (items (.dict (mkd l1)))) λl3=>a8 (lQ (n+1)) lR l3 (js (enc (.join a b fs)) (.dict (mkd l)) l1 l2 j2 (some (.own (.dict (mkd []))))) (λσ=>tY (n+1) σ (λ_=>κ .none) R.ok) R.ok) _;rw[gB,aT,aJ];have L:∀ xs:List Str,(∀ x∈xs,x∈ks l1)->∀ (c:LP) (j:Option V),Dk N m' c->∃ c' j',Dk N m' c'/\∀ kn kr,a8 (lQ (n+1)) lR (xs.map .str) (js (enc (.join a b fs)) (.dict (mkd l)) l1 l2 j (some (.own (.dict (mkd c))))) kn kr=kn (js (enc (.join a b fs)) (.dict (mkd l)) l1 l2 j' (some (.own (.dict (mkd c'))))):=by
  intro xs
  induction xs with
  |nil=>exact λ_ c j C=>⟨c,j,C,λ_ _=>rfl⟩
  |cons k r ih =>
   intro hx c j C;obtain⟨m2,lr,rfl,h1,Br⟩:=mD B1 d1 (hx k ac);have hb':∀ kn kr,(rb (ofP (bA lR (.str k) (js (enc (.join a b fs)) (.dict (mkd l)) l1 l2 j (some (.own (.dict (mkd c))))))) λσ=>lQ (n+1) σ kn kr)=ifS (κ (.bool (lk l2 k).isSome)) (cX (aL cK (aB .Add (.ok (.own (.list (lr.map cB)))) (aL fW (ofP (getItem (.dict (mkd l2)) (.str k)))))) (.ok (.dict (mkd c))) (κ (.str k)) λo3=>kn (js (enc (.join a b fs)) (.dict (mkd l)) l1 l2 (ζ (.str k)) (some (.own o3)))) (kn (js (enc (.join a b fs)) (.dict (mkd l)) l1 l2 (ζ (.str k)) (some (.own (.dict (mkd c)))))):=λkn kr=>by
    unfold js;rw[Z0,aT,aJ,Z1];show ifS (aV (ofP (Internal.contains (.str k) (.dict (mkd l2))))) (cX (aL cK (aB .Add (aL fW (ofP (getItem (.dict (mkd l1)) (.str k)))) _)) _ _ _) _=_;rw[l7,eW h1];show ifS _ (cX (aL cK (aB .Add (ofP (fW (.dict (mkd lr)))) _)) _ _ _) _=_;rw[D4];rfl
   refine ocs (lk l2 k) (λe=>?_) λd e=>?_
   ·obtain⟨c',j',C',E⟩:=ih (λx h=>hx x (af _ h)) c (ζ (.str k)) C;refine⟨c',j',C',λkn kr=>(hb' _ kr).trans ?_⟩;rw[e];exact E kn kr
   ·obtain⟨_,ls,em,h2,Bs⟩:=mD B2 d2 (uL e);cases em;have hs1:lr.length < 100:=Br.lt H (by decide);have hs2:ls.length < 100:=Bs.lt H (by decide);have C2:Dk N (m2+1) (st c k (.dict (mkd (sts (lr++ls) [])))):=C.set (B1.sub k (hx k ac)) (Dk.nil.sts λp hp=>by
     rcases bv.mp hp with hp | hp
     ·exact⟨Br.sub _ (ie (f:=(·.1)) hp),Br.val _ _ (D6 Br.nd hp)⟩
     ·exact⟨Bs.sub _ (ie (f:=(·.1)) hp),Bs.val _ _ (D6 Bs.nd hp)⟩).tr
    obtain⟨c',j',C',E⟩:=ih (λx h=>hx x (af _ h)) _ (ζ (.str k)) C2;refine⟨c',j',C',λkn kr=>(hb' _ kr).trans (Eq.trans ?_ (E kn kr))⟩;rw[e,eW h2];show cX (aL cK (aB .Add _ (ofP (fW (.dict (mkd ls)))))) _ _ _=_;rw[D4];show rb (rb (ofP (if fB .Add=true/\(lr.map cB).length+(ls.map cB).length<=aF then P.ok (V.own (.list (lr.map cB++ls.map cB))) else .no)) λv=>ofP (cK (dOf v))) (λv=>rb (ofP (Internal.setItem (.dict (mkd c)) (.str k) (dOf v))) _)=_;rw[if_pos ⟨rfl,by rw[List.length_map,List.length_map];have:aF=16777216:=rfl;exact ay0 hs1 hs2 this⟩,<- bu];show rb (ofP (cK (.list ((lr++ls).map cB)))) _=_;rw[pU (by rw[List.length_append];exact ay1 hs1 hs2),aT,aJ];show rb (ofP (Internal.setItem (.dict (mkd c)) (.str k) (.dict (mkd (sts (lr++ls) []))))) _=_;rw[l8 k _ (C.lt H (by decide))];rfl
 refine hde λ_ θ=>?_;obtain⟨c',j',C',E⟩:=L (ks l1) (λ_ h=>h) [] j2 Dk.nil;apply θ;rw[E];unfold js;rw[Z2];obtain⟨v,d,h1,h2,h3⟩:=mB H (m:=m'+1) (n:=n) C'.tr hn;exact⟨v,d,by rw[h1];rfl,h2,.inr (h3.mono (au _))⟩
variable {N:List Str}{m:Nat}
theorem D9(n:Nat)(d:PyData):rn (n+1) "_law_seen" [.fz (enc .whole),.fz d]=rb (rn n "_law_copy" [.fz d]) R.ok:=by kernel_rfl
theorem q1j(n:Nat)(a b:WW)(d:PyData):rn (n+1) "_law_seen" [.fz (enc (.andThen a b)),.fz d]=rb (rn n "_law_seen" [.fz (enc a),.fz d]) λv=>rb (bM (aC (ofP (rdv v.cl)) .Is (κ .none)) (κ .none) (aE (rn n "_law_seen") [κ (enc b),bU v.cl])) R.ok:=by kernel_rfl
theorem q1k(n:Nat)(x:Str)(i:Int):rn (n+1) "_law_seen" [.fz (enc (.pick x)),.fz (.int i)]=κ .none:=by kernel_rfl
theorem q1l(n:Nat)(x y:Str)(i:Int):rn (n+1) "_law_seen" [.fz (enc (.call x y)),.fz (.int i)]=κ .none:=by kernel_rfl
theorem q1m(n:Nat)(x:Str)(y i:Int):rn (n+1) "_law_seen" [.fz (enc (.sift x y)),.fz (.int i)]=κ .none:=by kernel_rfl
theorem q1n(n:Nat)(x y:Str)(fs:List Str)(i:Int):rn (n+1) "_law_seen" [.fz (enc (.join x y fs)),.fz (.int i)]=κ .none:=by kernel_rfl
theorem q1o(n:Nat)(v:WW)(i:Int):rn (n+1) "_law_seen" [.fz (enc (.each v)),.fz (.int i)]=κ .none:=by kernel_rfl
theorem q1p(n:Nat)(v:WW)(i:Int):rn (n+1) "_law_seen" [.fz (enc (.beside v)),.fz (.int i)]=κ .none:=by kernel_rfl
theorem q1q(n:Nat)(x:Str)(l:List (PyData×PyData)):rn (n+1) "_law_seen" [.fz (enc (.pick x)),.fz (.dict l)]=rb (aE (rn n "_law_copy") [bN (so "get") (κ (.dict l)) [κ (.str x)]]) R.ok:=by kernel_rfl
theorem q1r(n:Nat)(x y:Str)(l:List (PyData×PyData)):rn (n+1) "_law_seen" [.fz (enc (.call x y)),.fz (.dict l)]=ifS (orS (aV (ofP (cI (Internal.contains (.str x) (.dict l))))) (aV (ofP (Internal.contains (.str y) (.dict l))))) (κ .none) (rb (aM (ofP (items (.dict l))) (λd3=>tst (aV (ofP (cmp .NotEq d3 (.str x))))) (λd3=>aO [κ d3,aE (rn n "_law_copy") [ofP (getItem (.dict l) d3)]])) λv4=>rb (aL cK (aB .Add (ofP (rdv v4.cl)) (b9 [aO [κ (.str y),aE (rn n "_law_copy") [ofP (getItem (.dict l) (.str x))]]]))) R.ok):=by kernel_rfl
theorem q1s(n:Nat)(r:WW)(l:List (PyData×PyData)):rn (n+1) "_law_seen" [.fz (enc (.beside r)),.fz (.dict l)]=ifS (aC (aM (ofP (items (enc r))) (λd5=>tst (aC (ofP (getItem d5 (.int 1))) .NotIn (κ (.dict l)))) (λd5=>κ d5)) .NotEq (.ok (.own (.list [])))) (κ .none) (rb (aE (rn n "_law_several") [aM (ofP (items (enc r))) (λd7=>.ok true) (λd7=>aO [ofP (getItem d7 (.int 0)),aE (rn n "_law_seen") [ofP (getItem d7 (.int 2)),aK (.ok (.dict l)) (ofP (getItem d7 (.int 1)))]])]) R.ok):=by kernel_rfl
theorem q1t(n:Nat)(v:WW)(l:List (PyData×PyData)):rn (n+1) "_law_seen" [.fz (enc (.each v)),.fz (.dict l)]=rb (aE (rn n "_law_several") [aM (ofP (items (.dict l))) (λd9=>.ok true) (λd9=>aO [κ d9,aE (rn n "_law_seen") [κ (enc v),ofP (getItem (.dict l) d9)]])]) R.ok:=by kernel_rfl
theorem q1u(n:Nat)(x y:Str)(fs:List Str)(l:List (PyData×PyData)):rn (n+1) "_law_seen" [.fz (enc (.join x y fs)),.fz (.dict l)]=rb (rn n "_law_joins" [.fz (enc (.join x y fs)),.fz (.dict l)]) R.ok:=by kernel_rfl
theorem q1v(n:Nat)(x:Str)(i:Int)(l:List (PyData×PyData)):rn (n+1) "_law_seen" [.fz (enc (.sift x i)),.fz (.dict l)]=ifS (unS .Not (rn n "_law_is_table" [.fz (.dict l)])) (κ .none) (rb (aL cK (aM (ofP (items (.dict l))) (λd10=>tst (aE (rn n "_law_high") [ofP (getItem (.dict l) d10),κ (.str x),κ (.int i)])) (λd10=>aO [κ d10,aE (rn n "_law_copy") [ofP (getItem (.dict l) d10)]]))) R.ok):=by kernel_rfl
theorem Gives.none{P:PyData->Prop}(h:P .none):Gives (κ .none) P:=⟨_,_,rfl,rfl,h⟩
theorem Gives.imp{r:R V}{P Q:PyData->Prop}(x:Gives r P)(h:∀ d,P d->Q d):Gives r Q:=by obtain⟨v,d,e,c,p⟩:=x;exact⟨v,d,e,c,h d p⟩
def vL(n:Nat)(l:LP):PyData->R V:=λd7=>aO [ofP (getItem d7 (.int 0)),aE (rn n "_law_seen") [ofP (getItem d7 (.int 2)),aK (.ok (.dict (mkd l))) (ofP (getItem d7 (.int 1)))]]
noncomputable def mE:PyData->Str
 | .tuple (_::.str p::_)=>p
 |_=>Str.empty
def q1w(N:List Str)(w:WW):Prop:=∀ {m n d},w.hgt+m+3<=n->Tr N m d->Gives (rn n "_law_seen" [.fz (enc w),.fz d]) (NT N m)
def q1x(N:List Str)(w:WW):Prop:=∀ {m n l},w.hgt+m+3<=n->Dk N m l->(∀ d∈aS w,(lk l (mE d)).isSome=true)->CpsR N (NT N m) (aS w).length (aN (λ_=>.ok true) (vL n l) (aS w))
structure SeenS(N:List Str)(w:WW):Prop where
 a:w.isRows=false->q1w N w
 b:w.isRows=true->q1x N w
theorem q1y{l:LP}:∀ {r:WW},r.isRows=true->okW N r->∀ d∈aS r,tst (aC (ofP (getItem d (.int 1))) .NotIn (κ (.dict (mkd l))))=.ok (!(lk l (mE d)).isSome):=by
 intro r
 induction r with
 |bnil=>intro _ _ d hd;exact aZ hd
 |bcons n p v r ihv ihr =>
  intro _ ho d hd;rcases List.mem_cons.mp (show d∈.tuple [.str n,.str p,enc v]::aS r from hd) with rfl | hd
  ·show tst (aV (ofP (cI (Internal.contains (.str p) (.dict (mkd l))))))=_;rw[l7];rfl
  ·exact ihr ho.2.2.2 ho.2.2.1 d hd
 |_=>exact λh=>bft h
theorem Ea(H:Wld N):∀ {w:WW},okW N w->SeenS N w:=by
 intro w
 induction w with
 |whole =>
  refine λ_=>⟨λ_ m n d hn hd=>?_,λh=>bft h⟩
  refine exnE (c:=2) n hn hn λn hn=>?_;rw[D9];exact((mB H hd (ay2 hn)).imp λ_ h=>.inr h).rb
 |pick x =>
  refine λ_=>⟨λ_ m n d hn hd=>?_,λh=>bft h⟩
  refine exnE (c:=2) n hn hn λn hn=>?_
  revert hn
  refine hd.by (λm i hn=>by rw[q1k];exact Gives.none (.inl rfl)) λm l B hn=>?_
  rw[q1q,pX];refine Gives.rb ?_;show Gives (rn (n+1) "_law_copy" [.fz ((lk l x).getD .none)]) _;refine ocs (lk l x) (λe=>?_) λu e=>?_
  ·rw[e];exact(D0 n).symm▸Gives.none (.inl rfl)
  ·rw[e];exact(mB H (B.val x u e) (n:=n) (ay3 hn)).imp λ_ h=>.inr (h.mono (au _))
 |call x y =>
  refine λho=>⟨λ_ m n d hn hd=>?_,λh=>bft h⟩
  refine exnE (c:=2) n hn hn λn hn=>?_
  revert hn
  refine hd.by (λm i hn=>by rw[q1l];exact Gives.none (.inl rfl)) λm l B hn=>?_
  rw[q1r,l7,l7];refine ocs (lk l x) (λe=>?_) λdx e=>?_
  ·rw[e];exact Gives.none (.inl rfl)
  rw[e];refine bcs (lk l y).isSome (λe2=>?_) λe2=>by rw[e2];exact Gives.none (.inl rfl)
  rw[e2];have hc:∀ k d,lk l k=some d->Gives (rn (n+1) "_law_copy" [.fz d]) (Tr N m):=λk d h=>mB H (B.val k d h) (n:=n) (ay3 hn);refine hde λ_ θ=>?_;obtain⟨ps,e1,e3,e4⟩:=vG (N:=N) (Q:=Tr N m) (t:=λd3=>tst (aV (ofP (cmp .NotEq d3 (.str x))))) (e:=λd3=>aO [κ d3,aE (rn (n+1) "_law_copy") [ofP (getItem (.dict (mkd l)) d3)]]) (xs:=ks l) λk hk=>by
   obtain⟨d,h1,h3⟩:=B.key hk;refine⟨B.sub k hk,?_⟩;show R.ok (!(k==x))=.ok false\/R.ok (!(k==x))=.ok true/\_;cases k==x with
   |true=>exact .inl rfl
   |false =>
    refine .inr ⟨rfl,CpEx.of ?_⟩;rw[Dz h1];exact hc k d h1
  obtain⟨v,dx',g1,g2,g3⟩:=hc x dx e;apply θ;have hl:=B.lt H (k:=1000) (by decide);rw[l9] at e3;refine⟨.own (.dict (mkd (sts (ps++[(y,dx')]) []))),_,?_,rfl,.inr (Dk.nil.sts λp hp=>?_).tr⟩
  ·rw[gB,eW e];show rb (rb (aN _ _ ((ks l).map .str)) λr=>ofP (own (.list r))) (λv4=>rb (aL cK (aB .Add (ofP (rdv v4.cl)) (b9 [aO [κ (.str y),rn (n+1) "_law_copy" [.fz dx]]]))) R.ok)=_;rw[e1,vH _ g1 g2];show rb (rb (ofP (qZ .Add (ps.map cB) (.list [.tuple [.str y,dx']]))) λv=>ofP (cK (dOf v))) R.ok=_;rw[show qZ .Add (ps.map cB) (.list [.tuple [.str y,dx']])=.ok (.own (.list ((ps++[(y,dx')]).map cB))) from by
    show(if fB .Add=true/\(ps.map cB).length+1<=aF then P.ok (V.own (.list (ps.map cB++[.tuple [.str y,dx']]))) else .no)=_;rw[if_pos ⟨rfl,by have:aF=16777216:=rfl;simp only[List.length_map];exact ay4 e3 hl this⟩,bu];rfl]
   show rb (ofP (cK (.list ((ps++[(y,dx')]).map cB)))) R.ok=_;rw[pU (by rw[List.length_append];simp only[List.length_singleton];exact ay5 e3 hl)];rfl
  ·rcases bv.mp hp with hp | hp
   ·exact e4 p hp
   ·rw[List.mem_singleton.mp hp];exact⟨ho.2,g3⟩
 |sift x i =>
  refine λ_=>⟨λ_ m n d hn hd=>?_,λh=>bft h⟩
  refine exnE (c:=2) n hn hn λn hn=>?_
  revert hn
  refine hd.by (λm i hn=>by rw[q1m];exact Gives.none (.inl rfl)) λm l B hn=>?_
  obtain⟨b,h1,h2⟩:=vJ n B;rw[q1v,h1];cases b with
  |false=>exact Gives.none (.inl rfl)
  |true =>
   obtain⟨l',e,C⟩:=Dx (N:=N) (m:=m) (t:=λd10=>tst (aE (rn (n+1) "_law_high") [ofP (getItem (.dict (mkd l)) d10),κ (.str x),κ (.int i)])) (e:=λd10=>aO [κ d10,aE (rn (n+1) "_law_copy") [ofP (getItem (.dict (mkd l)) d10)]]) (xs:=ks l) (by rw[l9];exact B.lt H (by decide)) λk hk=>by
    obtain⟨_,lr,_,q1,Br⟩:=mD B (h2 rfl) hk;refine⟨B.sub k hk,?_⟩;obtain⟨b,q2,_⟩:=q1h n Br x i;rw[eW q1];show tst (rn (n+1) "_law_high" [.fz (.dict (mkd lr)),.fz (.str x),.fz (.int i)])=_\/tst (rn (n+1) "_law_high" [.fz (.dict (mkd lr)),.fz (.str x),.fz (.int i)])=_/\_;rw[q2];cases b with
    |false=>exact .inl rfl
    |true=>exact .inr ⟨rfl,CpEx.of (mB H (B.val k _ q1) (n:=n) (ay3 hn))⟩
   refine⟨.own (.dict (mkd l')),_,?_,rfl,.inr C.tr⟩;rw[gB,aT,e];rfl
 |join a b fs =>
  refine λ_=>⟨λ_ m n d hn hd=>?_,λh=>bft h⟩
  refine exnE (c:=3) n hn hn λn hn=>?_
  revert hn
  refine hd.by (λm i hn=>by rw[q1n];exact Gives.none (.inl rfl)) λm l B hn=>?_
  rw[q1u];exact(q1i H n B (ay6 hn)).rb
 |each v ih =>
  refine λho=>⟨λ_ m n d hn hd=>?_,λh=>bft h⟩
  have hn:v.hgt+1+m+3<=n:=hn;refine exnE (c:=2) n hn hn λn hn=>?_
  revert hn
  refine hd.by (λm i hn=>by rw[q1o];exact Gives.none (.inl rfl)) λm l B hn=>?_
  obtain⟨ps,e1,e3,e4⟩:=vG (N:=N) (Q:=NT N m) (t:=λ_=>.ok true) (e:=λd9=>aO [κ d9,aE (rn (n+1) "_law_seen") [κ (enc v),ofP (getItem (.dict (mkd l)) d9)]]) (xs:=ks l) λk hk=>by
   obtain⟨d,h1,h3⟩:=B.key hk;refine⟨B.sub k hk,.inr ⟨rfl,CpEx.of ?_⟩⟩;rw[eW h1];exact(ih ho.1).a ho.2 (n:=n+1) (ay7 hn) h3
  rw[q1t,gB];refine Gives.rb ?_;show Gives (aE (rn (n+1) "_law_several") [rb (aN _ _ ((ks l).map .str)) λr=>ofP (own (.list r))]) _;rw[e1];exact D3 n e4 (aj e3 (by rw[l9];exact B.lt H (by decide)))
 |andThen a b iha ihb =>
  refine λho=>⟨λ_ m n d hn hd=>?_,λh=>bft h⟩
  have hn:max a.hgt b.hgt+1+m+3<=n:=hn;refine exnE (c:=1) n hn hn λn hn=>?_;obtain⟨v,d',g1,g2,g3⟩:=(iha ho.1.1).a ho.1.2 (n:=n) (ay8 hn) hd;rw[q1j,g1,aJ,g2];refine Gives.rb ?_;show Gives (bM (κ (.bool (bF d'))) (κ .none) (rn n "_law_seen" [.fz (enc b),.fz d'])) _;rcases g3 with rfl | g3
  ·exact Gives.none (.inl rfl)
  ·rw[g3.notNone];exact(ihb ho.2.1).a ho.2.2 (n:=n) (ay9 hn) g3
 |beside r ih =>
  refine λho=>⟨λ_ m n d hn hd=>?_,λh=>bft h⟩
  have hn:r.hgt+1+m+3<=n:=hn;refine exnE (c:=2) n hn hn λn hn=>?_
  revert hn
  refine hd.by (λm i hn=>by rw[q1p];exact Gives.none (.inl rfl)) λm l B hn=>?_
  rw[q1s,eM ho.1.2];show Gives (ifS (aC (aM (.ok (aS r)) _ _) _ _) _ _) _;rw[vK (q1y ho.1.2 ho.1.1)];refine bcs ((aS r).filter λd=>!(lk l (mE d)).isSome).isEmpty (λe=>by rw[e];exact Gives.none (.inl rfl)) λe=>?_;rw[e];obtain⟨ps,e1,e3,e4⟩:=(ih ho.1.1).b ho.1.2 (n:=n+1) (ay7 hn) B λd hd=>by
   have:=gh.mp (List.isEmpty_iff.mp e) d hd
   revert this
   cases (lk l (mE d)).isSome with
   |true=>exact λ_=>rfl
   |false=>exact λh=>(h rfl).elim
  refine Gives.rb ?_;show Gives (aE (rn (n+1) "_law_several") [rb (aN (λ_=>.ok true) (vL (n+1) l) (aS r)) λr=>ofP (own (.list r))]) _;rw[e1];exact D3 n e4 (aj (U e3 ho.2) (by decide))
 |bnil=>exact λ_=>⟨λh=>btf h,λ_ m n l hn B hp=>⟨[],rfl,ae _,λp hp=>aZ hp⟩⟩
 |bcons x p v r ihv ihr =>
  refine λho=>⟨λh=>btf h,λ_ m n l hn B hp=>?_⟩
  have hn:max v.hgt r.hgt+m+3<=n:=hn;have hr:∀ d∈aS r,(lk l (mE d)).isSome=true:=λd hd=>hp d (af _ hd);obtain⟨ps,e1,e3,e4⟩:=(ihr ho.2.2.1).b ho.2.2.2 (n:=n) (Jp hn) B hr;have h0:(lk l p).isSome=true:=hp (.tuple [.str x,.str p,enc v]) ac;refine ocs (lk l p) (λe=>by rw[e] at h0;exact bft h0) λd e=>?_;obtain⟨w,d',g1,g2,g3⟩:=(ihv ho.2.1.1).a ho.2.1.2 (n:=n) (Jq hn) (B.val p d e);refine⟨(x,d')::ps,?_,ah e3,λq hq=>?_⟩
  ·show rb (aO [κ (.str x),aE (rn n "_law_seen") [κ (enc v),ofP (getItem (.dict (mkd l)) (.str p))]]) (λv=>rb (aN (λ_=>.ok true) (vL n l) (aS r)) λxs=>.ok (dOf v::xs))=_;rw[eW e,vH (.str x) (show aE (rn n "_law_seen") [.ok (.fz (enc v)),ofP (.ok (.fz d))]=.ok w from g1) g2,e1];rfl
  ·rcases List.mem_cons.mp hq with rfl | hq
   ·exact⟨ho.1.1,g3⟩
   ·exact e4 q hq
theorem aX(a:Int){n:Int}(h:0 < n):0<=a.fmod n/\a.fmod n < n:=by
 rw[Int.fmod_eq_emod_of_nonneg a (H5 h)];exact⟨Int.emod_nonneg a (H6 h),Int.emod_lt_of_pos a h⟩
theorem dH(x:Int)(h:y≠0):aD .Mod (.int x) (.int y)=.ok (.fz (.int (x.fmod y))):=if_pos h
theorem iN(x:Int)(h:y.natAbs < 2 ^ 63):aD .Mult (.int x) (.int y)=.ok (.fz (.int (x*y))):=if_pos (.inr h)
theorem pY(l:List PyData)(t:PyData->R Bool)(e:PyData->R V):aM (.ok l) t e=rb (aN t e l) λr=>ofP (own (.list r)):=rfl
theorem jV{x:Int}(y:Int)(h:x.natAbs < 2 ^ 63):aD .Mult (.int x) (.int y)=.ok (.fz (.int (x*y))):=if_pos (.inl h)
theorem fQ{k:Int}(h0:0<=k)(h:l[k.toNat]?=some d):getItem (.list l) (.int k)=.ok (.fz d):=by
 have hk:k.toNat < l.length:=(cr.mp h).1;show(if 0<=k then (if 0<=k/\k < l.length then frz l[k.toNat]? else .no) else atN l k)=_;rw[if_pos h0,if_pos ⟨h0,by exact H7 hk⟩,h];rfl
noncomputable def Li(s:List Int):PyData:=.list (s.map .int)
noncomputable def eE(s:List Int)(k:Int):Int:=if k < s.length then (s[k.toNat]?).getD 0 else 0
def bI(s:List Int)(k:Int):Int:=(eE s (2+k.fmod 24)*48271+7919*k+12345).fmod 2147483647
theorem vM(n:Nat)(s:List Int){k:Int}(hk:0<=k):rn (n+1) "_law_cell_at" [.fz (Li s),.fz (.int k)]=.ok (.fz (.int (eE s k))):=by
 rw[Zc];show(if decide (k < ((s.map PyData.int).length:Int))=true then rb (ofP (getItem (.list (s.map .int)) (.int k))) R.ok else κ (.int 0))=_;rw[List.length_map];unfold eE
 by_cases h:k < s.length
 ·have hl:k.toNat < s.length:=H8 hk h;rw[if_pos (decide_eq_true h),if_pos h,fQ hk (by rw[List.getElem?_map,bg hl];rfl),bg hl];rfl
 ·rw[if_neg (by simpa using h),if_neg h]
theorem gU(n:Nat)(s:List Int)(k:Int):rn (n+2) "_law_mixed" [.fz (Li s),.fz (.int k)]=.ok (.fz (.int (bI s k))):=by
 rw[Zd];have h:=(aX k (n:=24) (by decide)).1;refine Eq.trans (b:=rb (aB .Mod (aB .Add (aB .Add (aB .Mult (rn (n+1) "_law_cell_at" [.fz (Li s),.fz (.int (2+k.fmod 24))]) (κ (.int 48271))) (ofP (aD .Mult (.int 7919) (.int k)))) (κ (.int 12345))) (κ (.int 2147483647))) R.ok) (by kernel_rfl) ?_;rw[vM n s (H9 h),show aB .Mult (κ (.int (eE s (2+k.fmod 24)))) (κ (.int 48271))=κ (.int (eE s (2+k.fmod 24)*48271)) from congrArg ofP (iN _ (by decide)),jV _ (by decide)];rfl
theorem Eb{n:Nat}{m:Int}(h0:0<=m)(h1:m < n):∃ k:Nat,k∈List.range n/\m=k:=by
 obtain⟨k,rfl⟩:=iq h0;exact⟨k,List.mem_range.mpr (ci.mp h1),rfl⟩
theorem q1z{m:Int}(h:0<=m/\m < 14):∃ i:Int,aL cL (aB .Mult (κ (.str (so "37"))) (κ (.int (1+m))))=κ (.int i)/\0<=i/\i < 10 ^ 28:=by
 have all:∀ k∈List.range 14,∃ i:Int,aL cL (aB .Mult (κ (.str (so "37"))) (κ (.int (1+(k:Int)))))=κ (.int i)/\0<=i/\i < 10 ^ 28:=by
  rw[show List.range 14=[0,1,2,3,4,5,6,7,8,9,10,11,12,13] from rfl]
  repeat rw[de]
  exact⟨⟨37,by kernel_rfl,by decide⟩,⟨3737,by kernel_rfl,by decide⟩,⟨373737,by kernel_rfl,by decide⟩,⟨37373737,by kernel_rfl,by decide⟩,⟨3737373737,by kernel_rfl,by decide⟩,⟨373737373737,by kernel_rfl,by decide⟩,⟨37373737373737,by kernel_rfl,by decide⟩,⟨3737373737373737,by kernel_rfl,by decide⟩,⟨373737373737373737,by kernel_rfl,by decide⟩,⟨37373737373737373737,by kernel_rfl,by decide⟩,⟨3737373737373737373737,by kernel_rfl,by decide⟩,⟨373737373737373737373737,by kernel_rfl,by decide⟩,⟨37373737373737373737373737,by kernel_rfl,by decide⟩,⟨3737373737373737373737373737,by kernel_rfl,by decide⟩,λ_ h=>nomatch h⟩
 obtain⟨k,hk,rfl⟩:=Eb h.1 h.2;exact all k hk
inductive RInt(r:R V)(b:Nat):Prop where
 |mk (i:Int) (e:r=κ (.int i)) (h:i.natAbs < b):RInt r b
theorem RInt.of{r r':R V}{b:Nat}(h:r=r')(x:RInt r' b):RInt r b:=h▸x
theorem nb4{m q:Int}(hm:0<=m/\m < 4)(hq:0<=q/\q < 3):RInt (rb (aB .Add (aK (cR (b9 [(ofP (aD .Pow (.int 10) (.int 20))),(unS .USub (ofP (aD .Pow (.int 10) (.int 20)))),(ofP (aD .Pow (.int 10) (.int 12))),(κ (.int 0))])) (κ (.int m))) (κ (.int q))) R.ok) (10 ^ 29):=by
 have all:∀ k∈List.range 4,∃ i:Int,rb (aB .Add (aK (cR (b9 [(ofP (aD .Pow (.int 10) (.int 20))),(unS .USub (ofP (aD .Pow (.int 10) (.int 20)))),(ofP (aD .Pow (.int 10) (.int 12))),(κ (.int 0))])) (κ (.int (k:Int)))) (κ (.int q))) R.ok=κ (.int (i+q))/\i.natAbs<=10 ^ 20:=by
  rw[show List.range 4=[0,1,2,3] from rfl]
  repeat rw[de]
  exact⟨⟨10 ^ 20,by kernel_rfl,by decide⟩,⟨-10 ^ 20,by kernel_rfl,by decide⟩,⟨10 ^ 12,by kernel_rfl,by decide⟩,⟨0,by kernel_rfl,by decide⟩,λ_ h=>nomatch h⟩
 obtain⟨k,hk,rfl⟩:=Eb hm.1 hm.2;obtain⟨i,e,hi⟩:=all k hk;exact⟨i+q,e,aj (Int.natAbs_add_le i q) (bw (Nat.add_lt_add_of_le_of_lt hi (nb0 hq (ae _))) (by decide))⟩
theorem vN(n:Nat)(c:Int):RInt (rn (n+1) "_law_number" [.fz (.int c)]) (10 ^ 29):=by
 rw[Zg];refine RInt.of (r':=(if (c.fmod 5==4)=true then rb (aB .Add (aK (cR (b9 [(ofP (aD .Pow (.int 10) (.int 20))),(unS .USub (ofP (aD .Pow (.int 10) (.int 20)))),(ofP (aD .Pow (.int 10) (.int 12))),(.ok (.fz (.int 0)))])) (κ (.int ((c.fdiv 5).fmod 4)))) (κ (.int ((c.fdiv 20).fmod 3)))) R.ok else if (c.fmod 5==3)=true then rb (aB .Sub (aB .Mod (ofP (aD .Mult (.int (c.fdiv 5)) (.int 48271))) (κ (.int 2000003))) (κ (.int 1000001))) R.ok else if (c.fmod 15==2)=true then rb (aB .Mult (aL cL (aB .Mult (κ (.str (so "37"))) (κ (.int (1+(c.fdiv 15).fmod 14))))) (aB .Sub (κ (.int 1)) (ofP (aD .Mult (.int ((c.fdiv 210).fmod 2)) (.int 2))))) R.ok else κ (.int ((c.fdiv 5).fmod 9 - 4)))) (by kernel_rfl) ?_
 split
 ·exact nb4 (aX _ (by decide)) (aX _ (by decide))
 split
 ·rw[iN _ (by decide)];refine⟨(c.fdiv 5*48271).fmod 2000003 - 1000001,rfl,?_⟩;exact nbs (aX (c.fdiv 5*48271) (n:=2000003) (by decide)) (by decide)
 split
 ·obtain⟨i,hi,hb⟩:=q1z (aX (c.fdiv 15) (n:=14) (by decide));have hq:=aX (c.fdiv 210) (n:=2) (by decide);rw[hi,iN _ (by decide)];have hs:(1 - (c.fdiv 210).fmod 2*2).natAbs=1:=by rcases Ia hq with h | h<;>rw[h]<;>rfl
  refine⟨i*(1 - (c.fdiv 210).fmod 2*2),?_,?_⟩
  ·show rb (ofP (aD .Mult (.int i) (.int (1 - (c.fdiv 210).fmod 2*2)))) R.ok=_;rw[iN _ (by rw[hs];decide)];rfl
  ·rw[Int.natAbs_mul,hs,Nat.mul_one];exact nb0 hb (by decide)
 ·refine⟨_,rfl,?_⟩;exact nbs (aX (c.fdiv 5) (n:=9) (by decide)) (by decide)
theorem q11:∀ (r:List Nat) (acc:Array Nat),(r.map λc=>(⟨#[c]⟩:Str)).foldl (λacc p=>acc++(so "").cps++p.cps) acc=acc++r.toArray:=by
 intro v0
 induction v0 with
 |nil =>
  intro acc;simp
 |cons c r ih =>
  intro acc;simp only[List.map_cons,List.foldl_cons];rw[ih];have:(so "").cps=#[]:=rfl;rw[this];simp
theorem q12(cs:List Nat):Txt.join (so "") (cs.map λc=>⟨#[c]⟩)=⟨cs.toArray⟩:=by
 show Builtin.Str.glued _ _=_;unfold Builtin.Str.glued;cases cs with
 |nil=>rfl
 |cons c r =>
  simp only[List.map_cons,List.drop_succ_cons,List.drop_zero,List.headD_cons];rw[q11];simp
theorem Ec:∀ cs:List Nat,strs? (cs.map bB)=some (cs.map λc=>⟨#[c]⟩)
 | []=>rfl
 |c::r=>by
  show(strs? (r.map bB)).map (_::·)=_;rw[Ec r];rfl
theorem q13:∀ (cs:List Nat) (a:Nat),(cs.map λc=>(⟨#[c]⟩:Str)).foldl (λx y=>x+y.length+(so "").length) a=a+cs.length:=by
 intro v0
 induction v0 with
 |nil =>
  intro a;simp
 |cons c r ih =>
  intro a;simp only[List.map_cons,List.foldl_cons];rw[ih];have:(so "").length=0:=rfl;have h1:(⟨#[c]⟩:Str).length=1:=rfl;rw[this,h1];simp;exact Ib
theorem Ed(h:cs.length<=1000):fU (.str (so "")) [.list (cs.map bB)]=.ok (.fz (.str ⟨cs.toArray⟩)):=by
 have e:fU (.str (so "")) [.list (cs.map bB)]=(ofO (strs? (cs.map bB))).bind λl=>if JoinOk (so "") l then fz (.str (Txt.join (so "") l)) else .no:=rfl;rw[e,Ec,f9,f8];have hj:JoinOk (so "") (cs.map λc=>⟨#[c]⟩)=true:=by
  unfold JoinOk Builtin.Str.tooLong;rw[List.foldl_toArray',q13]<;>simp[sizeLine];exact Ic h
 rw[if_pos hj,q12];rfl
theorem mF{n:Nat}{a:Int}(h0:0<=a)(h1:a<=n):clipAt n a=a.toNat:=by
 unfold clipAt;rw[if_neg (fw.mpr h0),Int.min_eq_left h1,Int.max_eq_right h0]
theorem Ee{n:Nat}{a:Int}(h0:0<=a)(h1:(n:Int)<=a):clipAt n a=n:=by
 unfold clipAt;rw[if_neg (fw.mpr h0),Int.min_eq_right h1,Int.max_eq_right (cm n),Int.toNat_natCast]
theorem mG(l:List α){k:Int}(h:0<=k):slice l none (some k)=l.take k.toNat:=by
 show(l.drop 0).take (clipAt l.length k - 0)=_;rw[List.drop_zero,Nat.sub_zero];rcases Int.le_total k l.length with hk | hk
 ·rw[mF h hk]
 ·rw[Ee h hk,ic (ae _),ic];have:=Int.toNat_le_toNat hk
  rwa [Int.toNat_natCast] at this
def LET:Str:=so "abcdefghijklmnopqrstuvwxyz"
def ltr(m:Int):Nat:=(LET.cps[m.toNat]?).getD 0
theorem Ef:∀ i:_root_.Fin 26,(LET.cps[i.val]?).isSome=true/\inL ((LET.cps[i.val]?).getD 0)=true:=by decide +kernel
theorem vO(x:Int):getItem (.str (so "abcdefghijklmnopqrstuvwxyz")) (.int (x.fmod 26))=.ok (.fz (bB (ltr (x.fmod 26)))):=by
 have h:=aX x (n:=26) (by decide);show(if 0<=x.fmod 26/\x.fmod 26 < LET.cps.size then frz (LET.cps[(x.fmod 26).toNat]?.map bB) else .no)=_;rw[if_pos ⟨h.1,by show _ < ((26:Nat):Int);exact Id h⟩];have hs:(LET.cps[(x.fmod 26).toNat]?).isSome=true:=(Ef ⟨(x.fmod 26).toNat,by exact mV h⟩).1;unfold ltr;cases e:LET.cps[(x.fmod 26).toNat]? with
 |none=>rw[e] at hs;exact bft hs
 |some c=>rfl
theorem vP{a:Int}(ha:0<=a/\a < 26):inL (ltr a)=true:=(Ef ⟨a.toNat,by exact mV ha⟩).2
theorem Eg{a b:Int}(ha:0<=a/\a < 26)(hb:0<=b/\b < 26)(h:ltr a=ltr b):a=b:=by
 have key:∀ i j:_root_.Fin 26,(LET.cps[i.val]?).getD 0=(LET.cps[j.val]?).getD 0->i=j:=by decide +kernel
 have:=key ⟨a.toNat,by exact mV ha⟩ ⟨b.toNat,by exact mV hb⟩ h;have:=congrArg _root_.Fin.val this;simp at this;exact Ie ha hb this
def eX(c:Int):List Nat:=[0,1,2,3,4,5,6,7].map λj:Int=>ltr ((c.fdiv 8+5*j).fmod 26)
def nm(c k:Int):List Nat :=
 if (c.fdiv 1664).fmod 3=1 then ((eX c).set 0 (ltr ((c.fdiv 8+k.fdiv 8).fmod 26))).take (1+k.fmod 8).toNat
 else ((eX c).set ((c.fdiv 208).fmod (1+c.fmod 8)).toNat (ltr ((c.fdiv 8+7+k).fmod 26))).take (1+c.fmod 8).toNat
theorem Eh{k:Int}(h:0<=k/\k < cs.length)(x:Nat):Internal.setItem (.list (cs.map bB)) (.int k) (bB x)=.ok (.list ((cs.set k.toNat x).map bB)):=by
 show(if 0<=k/\k < (cs.map bB).length then P.ok (PyData.list ((cs.map bB).set k.toNat (bB x))) else .no)=_;rw[if_pos (by simpa using h),List.map_set]
theorem q14(c:Int):aM (rgI (κ (.int 8))) (λd2=>(.ok true)) (λd2=>(aK (.ok (.str (so "abcdefghijklmnopqrstuvwxyz"))) (aB .Mod (aB .Add (ofP (aD .FloorDiv (.int c) (.int 8))) (ofP (aD .Mult (.int 5) d2))) (κ (.int 26)))))=.ok (.own (.list ((eX c).map bB))):=by
 rw[show rgI (κ (.int 8))=.ok ([0,1,2,3,4,5,6,7].map PyData.int) from by kernel_rfl,pY,pT (g:=λd=>match d with | .int j=>bB (ltr ((c.fdiv 8+5*j).fmod 26)) | d=>d)]
 ·rfl
 ·intro d hd;obtain⟨j,_,rfl⟩:=bq.mp hd;refine⟨rfl,.fz (bB (ltr ((c.fdiv 8+5*j).fmod 26))),?_,rfl⟩;refine Eq.trans (b:=ofP (getItem (.str (so "abcdefghijklmnopqrstuvwxyz")) (.int ((c.fdiv 8+5*j).fmod 26)))) (by kernel_rfl) ?_;rw[vO];rfl
theorem iO(c:Int):(eX c).length=8:=rfl
theorem q15(n:Nat)(c k:Int):rn (n+1) "_law_name" [.fz (.int c),.fz (.int k)]=κ (.str ⟨(nm c k).toArray⟩):=by
 rw[Ze];have h8:=aX c (n:=8) (by decide);have k8:=aX k (n:=8) (by decide);have hp:=aX (c.fdiv 208) (n:=1+c.fmod 8) (Ig h8);rw[q14 c];refine Eq.trans (b:=if ((c.fdiv 1664).fmod 3==1)=true then rb (ofP (getItem (.str (so "abcdefghijklmnopqrstuvwxyz")) (.int ((c.fdiv 8+k.fdiv 8).fmod 26)))) (λv=>rb (ofP (Internal.setItem (.list ((eX c).map bB)) (.int 0) (dOf v))) λo=>rb (rb (rb (ofP (iY o none (some (1+k.fmod 8)))) λv=>.ok [v.cl]) λas=>ofP (fU (.str (so "")) (bV as))) R.ok) else rb (ofP (getItem (.str (so "abcdefghijklmnopqrstuvwxyz")) (.int ((c.fdiv 8+7+k).fmod 26)))) (λv=>rb (ofP (aD .Mod (.int (c.fdiv 208)) (.int (1+c.fmod 8)))) λi=>rb (ofP (Internal.setItem (.list ((eX c).map bB)) (dOf i) (dOf v))) λo=>rb (rb (rb (ofP (iY o none (some (1+c.fmod 8)))) λv=>.ok [v.cl]) λas=>ofP (fU (.str (so "")) (bV as))) R.ok)) (by kernel_rfl) ?_;unfold nm
 by_cases h:(c.fdiv 1664).fmod 3=1
 ·rw[if_pos (by simpa using h),if_pos h,vO,aT,aJ,gA,Eh (by simp[iO]),aT,aJ];show rb (ofP (fU (.str (so "")) [.list (slice (((eX c).set 0 _).map bB) none (some (1+k.fmod 8)))])) R.ok=_;rw[mG _ (xM k8),<- je,Ed (by simp[iO];exact xN)];rfl
 ·rw[if_neg (by simpa using h),if_neg h,vO,aT,aJ,gA,dH _ (Ih h8),aT,aJ,gA,Eh (by simp[iO];exact Ii h8 hp),aT,aJ];show rb (ofP (fU (.str (so "")) [.list (slice (((eX c).set _ _).map bB) none (some (1+c.fmod 8)))])) R.ok=_;rw[mG _ (xM h8),<- je,Ed (by simp[iO];exact xN)];rfl
theorem q16(c k:Int):okN ⟨(nm c k).toArray⟩:=q1e <| by
 have base:∀ x∈eX c,inL x=true:=by
  intro x hx;obtain⟨j,_,rfl⟩:=bq.mp hx;exact vP (aX _ (by decide))
 have h8:=aX c (n:=8) (by decide);have k8:=aX k (n:=8) (by decide);refine⟨?_,?_,λx hx=>?_⟩
 ·show 1<=(nm c k).toArray.size;rw[cw];unfold nm
  split<;>rw[List.length_take,List.length_set,iO]
  ·exact Nat.le_min.mpr ⟨xF k8.1,by decide⟩
  ·exact Nat.le_min.mpr ⟨xF h8.1,by decide⟩
 ·show(nm c k).toArray.size<=8;rw[cw];unfold nm
  split<;>rw[List.length_take,List.length_set,iO]<;>exact fc _ _
 ·have hx:x∈nm c k:=by simpa using hx
  unfold nm at hx
  split at hx
  ·rcases List.mem_or_eq_of_mem_set (jf hx) with h | h
   ·exact base x h
   ·rw[h];exact vP (aX _ (by decide))
  ·rcases List.mem_or_eq_of_mem_set (jf hx) with h | h
   ·exact base x h
   ·rw[h];exact vP (aX _ (by decide))
theorem Ei{x a b:Int}(ha:0<=a/\a < 26)(hb:0<=b/\b < 26)(h:(x+a).fmod 26=(x+b).fmod 26):a=b:=by
 rw[Int.fmod_eq_emod_of_nonneg _ (by decide),Int.fmod_eq_emod_of_nonneg _ (by decide)] at h;exact Ij ha hb h
theorem fd8{k:Int}(hk:0<=k/\k < 14):0<=k.fdiv 8/\k.fdiv 8 < 26:=by
 rw[Int.fdiv_eq_ediv_of_nonneg _ (by decide)];exact Ik hk
theorem ml8{a b:Int}(ha:0<=a/\a < 8)(hb:0<=b/\b < 8)(h:min (1+a).toNat 8=min (1+b).toNat 8):a=b:=Il ha hb h
theorem po8{a:Int}(ha:0<=a/\a < 8):0 < (1+a).toNat:=Io ha
theorem lt8{a b:Int}(ha:0<=a/\a < 8)(hb:0<=b/\b < 1+a):b.toNat < 8/\b.toNat < (1+a).toNat:=Ip ha hb
theorem q17{c k k':Int}(hk:0<=k/\k < 14)(hk':0<=k'/\k' < 14)(h:nm c k=nm c k'):k=k':=by
 unfold nm at h
 by_cases hc:(c.fdiv 1664).fmod 3=1
 ·rw[if_pos hc,if_pos hc] at h;have hl:=congrArg List.length h;simp only[List.length_take,List.length_set,iO] at hl;have h8:=ml8 (aX k (by decide)) (aX k' (by decide)) hl;have he:=congrArg (λl=>l[0]?) h;simp only[List.getElem?_take,List.getElem?_set,if_pos (po8 (aX k (n:=8) (by decide))),if_pos (po8 (aX k' (n:=8) (by decide))),if_pos (show 0 < (eX c).length from cy 7),if_true] at he;have hl2:=Ei (fd8 hk) (fd8 hk') (Eg (aX _ (by decide)) (aX _ (by decide)) (si he));rw[<- Int.mul_fdiv_add_fmod k 8,<- Int.mul_fdiv_add_fmod k' 8,hl2,h8]
 ·rw[if_neg hc,if_neg hc] at h;have h8:=aX c (n:=8) (by decide);obtain⟨h1,h2⟩:=lt8 h8 (aX (c.fdiv 208) (n:=1+c.fmod 8) (Int.lt_add_one_of_le h8.1 |> λh=>by rw[dm];exact h));have he:=congrArg (λl=>l[((c.fdiv 208).fmod (1+c.fmod 8)).toNat]?) h;simp only[List.getElem?_take,List.getElem?_set,if_pos h2,if_pos (show _ < (eX c).length from h1),if_true] at he;exact Ei ⟨hk.1,fe hk.2 (by decide)⟩ ⟨hk'.1,fe hk'.2 (by decide)⟩ (Eg (aX _ (by decide)) (aX _ (by decide)) (si he))
noncomputable def nsI:List Int:=[0,1,2,3,4,5,6,7,8,9,10,11,12,13]
def nms(c:Int):List Str:=nsI.map λk=>⟨(nm c k).toArray⟩
theorem q18(c:Int):Wld (nms c):=by
 refine⟨rfl,?_,λx hx=>?_⟩
 ·refine List.Pairwise.map _ (R:=λa b=>(0<=a/\a < 14)/\(0<=b/\b < 14)/\a≠b) (λa b h e=>?_) (by unfold nsI;decide);have:(nm c a).toArray=(nm c b).toArray:=Str.mk.inj e;exact h.2.2 (q17 h.1 h.2.1 (by simpa using congrArg Array.toList this))
 ·obtain⟨k,_,rfl⟩:=bq.mp hx;exact q16 c k
noncomputable def NL(N:List Str):PyData:=.list (N.map .str)
theorem q19(n:Nat)(s:List Int):rn (n+2) "_law_names" [.fz (Li s)]=.ok (.own (NL (nms (eE s 0)))):=by
 rw[Zf];rw[show rgI (κ (.int 14))=.ok (nsI.map PyData.int) from by kernel_rfl,pY,pT (g:=λd=>match d with | .int k=>.str ⟨(nm (eE s 0) k).toArray⟩ | d=>d)]
 ·rfl
 ·intro d hd;obtain⟨j,_,rfl⟩:=bq.mp hd;refine⟨rfl,.fz (.str ⟨(nm (eE s 0) j).toArray⟩),?_,rfl⟩;rw[vM n s (by decide)];exact q15 n _ _
theorem vQ(x y:Int):aD .Add (.int x) (.int y)=.ok (.fz (.int (x+y))):=rfl
theorem vR(x y:Int):aD .Sub (.int x) (.int y)=.ok (.fz (.int (x - y))):=rfl
theorem eF(x:Int)(h:y≠0/\y.natAbs < 2 ^ 63):aD .FloorDiv (.int x) (.int y)=.ok (.fz (.int (x.fdiv y))):=if_pos h
theorem vT(x y:Int):cmp .Lt (.int x) (.int y)=.ok (decide (x < y)):=rfl
theorem vU(x y:Int):cmp .Gt (.int x) (.int y)=.ok (decide (y < x)):=rfl
theorem vV(x y:Int):cmp .Eq (.int x) (.int y)=.ok (x==y):=rfl
variable {N:List Str}{m:Nat}
inductive NlA(N:List Str)(i:Int)(r:P V):Prop where
 |mk (x:Str) (h:x∈N) (g:N[i.toNat]?=some x) (e:r=.ok (.fz (.str x))):NlA N i r
theorem dO(H:Wld N)(h:0<=i/\i < 14):NlA N i (getItem (NL N) (.int i)):=by
 have hl:i.toNat < N.length:=by rw[H.len];exact Iq h
 refine⟨N[i.toNat],ge hl,bg hl,fQ h.1 ?_⟩;rw[List.getElem?_map,bg hl];rfl
theorem q2a:∀ {fs:List Str} {i:Int} {d:PyData},d∈cU i (fs.map .str)->∃ j f,d=.tuple [.int j,.str f]/\f∈fs:=by
 intro v0
 induction v0 with
 |nil =>
  intro _ _ h;exact aZ h
 |cons x r ih =>
  intro i d h;rcases List.mem_cons.mp (show d∈.tuple [.int i,.str x]::cU (i+1) (r.map .str) from h) with rfl | h
  ·exact⟨i,x,rfl,by simp⟩
  ·obtain⟨j,f,e,hf⟩:=ih h;exact⟨j,f,e,by simp[hf]⟩
theorem Ej{q r:List PyData}{x:PyData}(h:[]++l=q++x::r):x∈l:=by
 have:x∈q++x::r:=by simp
 rw[<- h] at this;simpa using this
def tS(s:List Int)(k:Int)(N fs:List Str)(c:LP)(j:PyData)(row:Option V)(o:Option V×Option V×Option V):aA:=cN (ζ (Li s)) (ζ (.int k)) (ζ (NL N)) (ζ (.list (fs.map .str))) (some (.own (.dict (mkd c)))) (ζ j) row o.1 o.2.1 o.2.2
theorem q2b(H:Wld N)(n:Nat)(s:List Int)(k j:Int)(hf:∀ x∈fs,x∈N)(c:LP)(o:Option V×Option V×Option V):∃ r o',Dk N 1 r/\∀ kn kr,a8 (lM (n+2)) lN (cU 0 (fs.map .str)) (tS s k N fs c (.int j) (some (.own (.dict []))) o) kn kr=kn (tS s k N fs c (.int j) (some (.own (.dict (mkd r)))) o'):=by
 have L:=jS (S:=λ(r:LP) (o:Option V×Option V×Option V)=>tS s k N fs c (.int j) (some (.own (.dict (mkd r)))) o) (b:=lM (n+2)) (t:=lN) (l:=cU 0 (fs.map .str)) (p:=[]) (a:=[]) (j:=o) (I:=λ_ r=>Dk N 1 r) (E:=λ_=>False) (Q:=λ_=>False) (λq d r a o hq hi=>by
  refine hde λ_ θ=>?_;obtain⟨i,f,rfl,hff⟩:=q2a (Ej hq);obtain⟨x0,hx0,_,hg0⟩:=dO H (i:=0) (by decide);have hb:∀ kn kr,(rb (ofP (bA lN (.tuple [.int i,.str f]) (tS s k N fs c (.int j) (some (.own (.dict (mkd a)))) o))) λσ=>lM (n+2) σ kn kr)=if decide (0 < (bI s (k+10*j+i+1)).fmod 4)=true then rb (rn (n+2) "_law_number" [.fz (.int ((bI s (k+10*j+i+1)).fdiv 4))]) (λv=>rb (ofP (Internal.setItem (.dict (mkd a)) (.str f) (dOf v))) λo2=>kn (tS s k N fs c (.int j) (some (.own o2)) (some (.fz (.int i)),some (.fz (.str f)),some (.fz (.int (bI s (k+10*j+i+1))))))) else if ((bI s (k+10*j+i+1)).fmod 12==0)=true then rb (ofP (Internal.setItem (.dict (mkd a)) (.str f) (.dict (mkd [(x0,.int (((bI s (k+10*j+i+1)).fdiv 12).fmod 5))])))) λo2=>kn (tS s k N fs c (.int j) (some (.own o2)) (some (.fz (.int i)),some (.fz (.str f)),some (.fz (.int (bI s (k+10*j+i+1)))))) else kn (tS s k N fs c (.int j) (some (.own (.dict (mkd a)))) (some (.fz (.int i)),some (.fz (.str f)),some (.fz (.int (bI s (k+10*j+i+1)))))):=λkn kr=>by
   unfold tS;rw[Zl,aT,aJ,Zm,hg0];simp(decide:=true) only [aB,unS,aI,orS,ifS,bM,aC,b8,aK,aR,dF,aL,lK,aE,plI,rgI,enI,rvI,cR,cX,tL,fO,
  aJ,uM,aT,gQ,f8,f9,eD,eV,uN,uO,gA,uP,dG,iM,fP,dB,pR,uQ,uR,uS,pS,uT,uU,uV,uW,uX,uY,uZ,u0,u5,u6,u7,u8,u9,vA,vB,vC,vD,vQ,vR,iN,jV,eF,dH,vT,vU,vV,gU,gN,tK]
   rfl
  have h0:0<=((bI s (k+10*j+i+1)).fdiv 12).fmod 5/\((bI s (k+10*j+i+1)).fdiv 12).fmod 5 < 5:=aX _ (by decide);obtain⟨v,hv1,hv2⟩:=vN (n+1) ((bI s (k+10*j+i+1)).fdiv 4);apply θ;cases c1:decide (0 < (bI s (k+10*j+i+1)).fmod 4) with
  |true =>
   refine Out.kn (st a f (.int v)) (some (.fz (.int i)),some (.fz (.str f)),some (.fz (.int (bI s (k+10*j+i+1))))) (hi.set (hf f hff) (.int v)) λkn kr=>(hb kn kr).trans ?_;rw[c1,eD,hv1,aJ,gA,l8 f _ (hi.lt H (by decide))];rfl
  |false =>
   cases c2:((bI s (k+10*j+i+1)).fmod 12==0) with
   |true =>
    refine Out.kn (st a f (.dict (mkd [(x0,.int (((bI s (k+10*j+i+1)).fdiv 12).fmod 5))]))) (some (.fz (.int i)),some (.fz (.str f)),some (.fz (.int (bI s (k+10*j+i+1))))) (hi.set (hf f hff) ((Dk.nil (m:=0)).set hx0 (.int _)).tr) λkn kr=>(hb kn kr).trans ?_;rw[c1,eV,c2,eD,l8 f _ (hi.lt H (by decide))];rfl
   |false =>
    refine Out.kn a (some (.fz (.int i)),some (.fz (.str f)),some (.fz (.int (bI s (k+10*j+i+1))))) hi λkn kr=>(hb kn kr).trans ?_;rw[c1,eV,c2,eV]) Dk.nil
 obtain⟨r,o',h1,h2⟩ | ⟨_,hx,_⟩ | ⟨_,hv,_⟩:=L
 ·exact⟨r,o',h1,h2⟩
 ·exact hx.elim
 ·exact hv.elim
inductive TabR(N:List Str)(r:R V):Prop where
 |mk (l:LP) (B:Dk N 2 l) (e:r=.ok (.own (.dict (mkd l)))):TabR N r
theorem vW(H:Wld N)(n:Nat)(s:List Int)(k:Int)(hf:∀ x∈fs,x∈N):TabR N (rn (n+3) "_law_table" [.fz (Li s),.fz (.int k),.fz (NL N),.fz (.list (fs.map .str))]):=by
 have L:=jS (S:=λ(c:LP) (o:Option V×Option V×Option V×Option V×Option V)=>cN (ζ (Li s)) (ζ (.int k)) (ζ (NL N)) (ζ (.list (fs.map .str))) (some (.own (.dict (mkd c)))) o.1 o.2.1 o.2.2.1 o.2.2.2.1 o.2.2.2.2) (b:=pG (n+2)) (t:=pH) (l:=[.int 0,.int 1,.int 2,.int 3]) (p:=[]) (a:=[]) (j:=(none,none,none,none,none)) (I:=λ_ r=>Dk N 2 r) (E:=λ_=>False) (Q:=λ_=>False) (λq d r c o hq hi=>by
  have hd:=Ej hq;obtain⟨j,hj,rfl⟩:∃ j:Int,(0<=j/\j < 4)/\d=.int j:=by
   simp only[List.mem_cons,List.not_mem_nil,or_false] at hd;rcases hd with rfl | rfl | rfl | rfl
   ·exact⟨0,by decide,rfl⟩
   ·exact⟨1,by decide,rfl⟩
   ·exact⟨2,by decide,rfl⟩
   ·exact⟨3,by decide,rfl⟩
  obtain⟨x,hx,_,hg⟩:=dO H (i:=9+j) (Ir hj);obtain⟨r',o',hr,L2⟩:=q2b H n s k j hf c (o.2.2.1,o.2.2.2.1,o.2.2.2.2);have hb:∀ kn kr,(rb (ofP (bA pH (.int j) (cN (ζ (Li s)) (ζ (.int k)) (ζ (NL N)) (ζ (.list (fs.map .str))) (some (.own (.dict (mkd c)))) o.1 o.2.1 o.2.2.1 o.2.2.2.1 o.2.2.2.2))) λσ=>pG (n+2) σ kn kr)=if decide (0 < (bI s (k+10*j)).fmod 3)=true then rb (ofP (Internal.setItem (.dict (mkd c)) (.str x) (.dict (mkd r')))) (λo1=>kn (cN (ζ (Li s)) (ζ (.int k)) (ζ (NL N)) (ζ (.list (fs.map .str))) (some (.own o1)) (ζ (.int j)) (ζ (.dict (mkd r'))) o'.1 o'.2.1 o'.2.2)) else kn (cN (ζ (Li s)) (ζ (.int k)) (ζ (NL N)) (ζ (.list (fs.map .str))) (some (.own (.dict (mkd c)))) (ζ (.int j)) o.2.1 o.2.2.1 o.2.2.2.1 o.2.2.2.2):=λkn kr=>by
   rw[Zi,aT,aJ,Zj,show enI (κ (.list (fs.map .str)))=.ok (cU 0 (fs.map .str)) from rfl,aJ];have:=L2 (λσ=>tU (n+2) σ (λσ=>stm BB (so "_law_table") (n+2) 23 (List.drop 1 (bT (List.drop 1 (aP BB (so "_law_table"))))) σ kn kr) kr) kr;unfold tS at this;rw[this,Zn];simp(decide:=true) only [aB,unS,aI,orS,ifS,bM,aC,b8,aK,aR,dF,aL,lK,aE,plI,rgI,enI,rvI,cR,cX,tL,fO,
  aJ,uM,aT,gQ,f8,f9,eD,eV,uN,uO,gA,uP,dG,iM,fP,dB,pR,uQ,uR,uS,pS,uT,uU,uV,uW,uX,uY,uZ,u0,u5,u6,u7,u8,u9,vA,vB,vC,vD,vQ,vR,iN,jV,eF,dH,vT,vU,vV,gU,hg]
   rfl
  cases c1:decide (0 < (bI s (k+10*j)).fmod 3) with
  |true =>
   refine Out.kn (st c x (.dict (mkd r'))) (some (.fz (.int j)),some (.fz (.dict (mkd r'))),o'.1,o'.2.1,o'.2.2) (hi.set hx hr.tr) λkn kr=>(hb kn kr).trans ?_;rw[c1,eD,l8 x _ (hi.lt H (by decide))];rfl
  |false =>
   refine Out.kn c (some (.fz (.int j)),o.2.1,o.2.2.1,o.2.2.2.1,o.2.2.2.2) hi λkn kr=>(hb kn kr).trans ?_;rw[c1,eV]) Dk.nil
 obtain⟨l,o',h1,h2⟩ | ⟨_,hx,_⟩ | ⟨_,hv,_⟩:=L
 ·refine⟨l,h1,?_⟩;rw[Zh,show rgI (κ (.int 4))=.ok [.int 0,.int 1,.int 2,.int 3] from by kernel_rfl];exact(h2 _ _).trans (Zk ..)
 ·exact hx.elim
 ·exact hv.elim
variable {N:List Str}{m:Nat}
theorem Ek(ps:LP):kL (mkd ps)=.ok (.own (.dict (mkd (sts ps [])))):=by
 show((ofO (keys? (mkd ps))).bind λl=>own (.dict (eH l (mkd []))))=_;rw[mk_keys?,f9,f8,Dq];rfl
theorem El(a:Str){r:R V}(hr:r=.ok v)(hv:v.cl=.fz d):gN [(κ (.str a),r)]=.ok (.own (.dict (mkd (sts [(a,d)] [])))):=by
 rw[hr,<- pW hv];exact congrArg ofP (Ek [(a,dOf v)])
theorem Em(a b:Str){r1 r2:R V}{v1 v2:V}{d1 d2:PyData}(hr1:r1=.ok v1)(hv1:v1.cl=.fz d1)(hr2:r2=.ok v2)(hv2:v2.cl=.fz d2):gN [(κ (.str a),r1),(κ (.str b),r2)]=.ok (.own (.dict (mkd (sts [(a,d1),(b,d2)] [])))):=by
 rw[hr1,hr2,<- pW hv1,<- pW hv2];exact congrArg ofP (Ek [(a,dOf v1),(b,dOf v2)])
theorem En(lo hi:Option Int):iY (NL N) lo hi=.ok (.own (.list ((slice N lo hi).map .str))):=by
 show P.ok (V.own (.list (slice (N.map PyData.str) lo hi)))=_;unfold slice;rw[List.length_map,je,List.map_drop]
theorem pZ{l:List α}{lo hi:Option Int}{x:α}(h:x∈slice l lo hi):x∈l:=io (jf h)
theorem q2c{a b c:PyData}(h:0<=i/\i < 3):∃ d,getItem (.list [a,b,c]) (.int i)=.ok (.fz d)/\(d=a\/d=b\/d=c):=by
 have:i=0\/i=1\/i=2:=Iu h;rcases this with rfl | rfl | rfl
 ·exact⟨a,rfl,.inl rfl⟩
 ·exact⟨b,rfl,.inr (.inl rfl)⟩
 ·exact⟨c,rfl,.inr (.inr rfl)⟩
theorem Eo(l:LP)(x:Str)(d:PyData):fU (.dict (mkd l)) [.str x,d]=.ok (.fz ((lk l x).getD d)):=by
 show fz ((cH (mkd l) x).getD d)=_;rw[l0];rfl
theorem Dk.get{l:LP}(B:Dk N m l)(hd:Tr N m d):Tr N m ((lk l x).getD d):=by
 refine ocs (lk l x) (λe=>?_) λu e=>?_
 ·rw[e];exact hd
 ·rw[e];exact B.val x u e
theorem q2d{o:Option α}(h:o.isSome=true):∃ x,o=some x:=by
 cases o with
 |none=>exact bft h
 |some x=>exact⟨x,rfl⟩
theorem q2e(H:Wld N)(n:Nat)(s:List Int){l:LP}(B:Dk N m l)(hl:∀ i x,i < 5->N[i]?=some x->(lk l x).isSome=true):
  ∃ l' o,Dk N m l'/\∀ kn kr,a8 (lO (n+2)) lP [.int 0,.int 1,.int 2,.int 3,.int 4] (dN (ζ (Li s)) (ζ (NL N)) (some (.own (.dict (mkd l)))) none) kn kr=kn (dN (ζ (Li s)) (ζ (NL N)) (some (.own (.dict (mkd l')))) o):=by
 have L:=jS (S:=λ(c:LP) (o:Option V)=>dN (ζ (Li s)) (ζ (NL N)) (some (.own (.dict (mkd c)))) o) (b:=lO (n+2)) (t:=lP) (l:=[.int 0,.int 1,.int 2,.int 3,.int 4]) (p:=[]) (a:=l) (j:=none) (I:=λp c=>Dk N m c/\∀ i x,p.length<=i->i < 5->N[i]?=some x->(lk c x).isSome=true) (E:=λ_=>False) (Q:=λ_=>False) (λq d r c o hq hi=>by
  have hg:([.int 0,.int 1,.int 2,.int 3,.int 4]:List PyData)[q.length]?=some d:=by
   rw[show([.int 0,.int 1,.int 2,.int 3,.int 4]:List PyData)=q++d::r from hq];simp
  have hlt:q.length < 5:=(cr.mp hg).1;have hd:d=.int q.length:=by
   generalize q.length=k at hg hlt;have:k=0\/k=1\/k=2\/k=3\/k=4:=xO hlt;rcases this with rfl | rfl | rfl | rfl | rfl<;>simpa using hg.symm
  subst hd;obtain⟨x,hx,hN,hgx⟩:=dO H (i:=(q.length:Int)) (Iv hlt);have hN:N[q.length]?=some x:=by simpa using hN
  obtain⟨dx,hdx⟩:=q2d (hi.2 q.length x (ae _) hlt hN);have hb:∀ kn kr,(rb (ofP (bA lP (.int q.length) (dN (ζ (Li s)) (ζ (NL N)) (some (.own (.dict (mkd c)))) o))) λσ=>lO (n+2) σ kn kr)=if ((bI s (200+q.length)).fmod 9==0)=true then kn (dN (ζ (Li s)) (ζ (NL N)) (some (.own (.dict (mkd (dl c x))))) (ζ (.int q.length))) else kn (dN (ζ (Li s)) (ζ (NL N)) (some (.own (.dict (mkd c)))) (ζ (.int q.length))):=λkn kr=>by
   rw[Zp,aT,aJ,Zq,hgx];have e:lL (.ok (.dict (mkd c))) (so "pop") [ofP (.ok (.fz (.str x)))] (λo1=>kn (dN (ζ (Li s)) (ζ (NL N)) (some (.own o1)) (ζ (.int q.length))))=kn (dN (ζ (Li s)) (ζ (NL N)) (some (.own (.dict (mkd (dl c x))))) (ζ (.int q.length))):=by
    show rb (ofP (if (cH (mkd c) x).isSome then P.ok (PyData.dict (fE (mkd c) x)) else .no)) _=_;rw[l0,hdx,q09];rfl
   rw[e];simp(decide:=true) only [aB,unS,aI,orS,ifS,bM,aC,b8,aK,aR,dF,aL,lK,aE,plI,rgI,enI,rvI,cR,cX,tL,fO,
  aJ,uM,aT,gQ,f8,f9,eD,eV,uN,uO,gA,uP,dG,iM,fP,dB,pR,uQ,uR,uS,pS,uT,uU,uV,uW,uX,uY,uZ,u0,u5,u6,u7,u8,u9,vA,vB,vC,vD,vQ,vR,iN,jV,eF,dH,vT,vU,vV,gU]
  cases c1:((bI s (200+q.length)).fmod 9==0) with
  |true =>
   obtain⟨Bf,h2⟩:=hi;refine Out.kn (dl c x) (ζ (.int q.length)) ⟨Bf.del x,λi y h3 h4 h5=>?_⟩ λkn kr=>(hb kn kr).trans (by rw[c1,eD]);rw[List.length_append,List.length_singleton] at h3;rw[(Ds x Bf.nd).2.2,if_neg]
   ·exact h2 i y (xP h3) h4 h5
   ·intro e;subst e;have h6:=cr.mp h5;have h7:=cr.mp hN;have:=(List.getElem_inj (h₀:=h6.1) (h₁:=h7.1) H.nd).mp (h6.2.trans h7.2.symm);exact bp h3 this
  |false =>
   refine Out.kn c (ζ (.int q.length)) ⟨hi.1,λi y h3 h4 h5=>?_⟩ λkn kr=>(hb kn kr).trans (by rw[c1,eV]);rw[List.length_append,List.length_singleton] at h3;exact hi.2 i y (xP h3) h4 h5) ⟨B,λi x _ h1 h2=>hl i x h1 h2⟩
 obtain⟨l',o',h1,h2⟩ | ⟨_,hx,_⟩ | ⟨_,hv,_⟩:=L
 ·exact⟨l',o',h1.1,h2⟩
 ·exact hx.elim
 ·exact hv.elim
theorem q2f(H:Wld N)(n:Nat)(s:List Int):Gives (rn (n+4) "_law_house" [.fz (Li s),.fz (NL N)]) λd=>Tr N 5 d:=by
 refine hde λ_ θ=>?_;obtain⟨x0,m0,i0,g0⟩:=dO H (i:=0) (by decide);obtain⟨x1,m1,i1,g1⟩:=dO H (i:=1) (by decide);obtain⟨x2,m2,i2,g2⟩:=dO H (i:=2) (by decide);obtain⟨x3,m3,i3,g3⟩:=dO H (i:=3) (by decide);obtain⟨x4,m4,i4,g4⟩:=dO H (i:=4) (by decide);obtain⟨x5,m5,_,g5⟩:=dO H (i:=5) (by decide);obtain⟨x6,m6,_,g6⟩:=dO H (i:=6) (by decide);obtain⟨v1,a1,b1⟩:=vN (n+2) (bI s 1);obtain⟨v2,a2,b2⟩:=vN (n+2) (bI s 2);obtain⟨l2,t2,e2⟩:=vW H n s 20 (fs:=slice N (some 5) (some 7)) λx hx=>pZ hx;obtain⟨l3,t3,e3⟩:=vW H n s 70 (fs:=slice N (some 7) (some 9)) λx hx=>pZ hx;obtain⟨l4,t4,e4⟩:=vW H n s 120 (fs:=slice N (some 5) (some 9)) λx hx=>pZ hx;have q1:aE (rn (n+3) "_law_number") [rn (n+3) "_law_mixed" [.fz (Li s),.fz (.int 1)]]=κ (.int v1):=by rw[gU (n+1)];exact a1
 have q2:aE (rn (n+3) "_law_number") [rn (n+3) "_law_mixed" [.fz (Li s),.fz (.int 2)]]=κ (.int v2):=by rw[gU (n+1)];exact a2
 have tt:∀ (k:Int) lo hi {l:LP},rn (n+3) "_law_table" [.fz (Li s),.fz (.int k),.fz (NL N),.fz (.list ((slice N (some lo) (some hi)).map .str))]=.ok (.own (.dict (mkd l)))->aE (rn (n+3) "_law_table") [κ (Li s),κ (.int k),κ (NL N),aR (.ok (NL N)) (some (κ (.int lo))) (some (κ (.int hi)))]=.ok (.own (.dict (mkd l))):=λk lo hi l h=>by
  rw[show aR (.ok (NL N)) (some (κ (.int lo))) (some (κ (.int hi)))=.ok (.own (.list ((slice N (some lo) (some hi)).map .str))) from congrArg ofP (En _ _)];exact h
 have sl:∀ (l:LP) (x:Str) (r:R V) (v:V) (d:PyData) (k:PyData->R V),r=.ok v->v.cl=.fz d->l.length < aF->cX r (.ok (.dict (mkd l))) (κ (.str x)) k=k (.dict (mkd (st l x d))):=λl x r v d k h1 h2 h3=>by
  rw[h1];show rb (ofP (Internal.setItem (.dict (mkd l)) (.str x) (dOf v))) k=_;rw[pW h2,l8 x d h3];rfl
 have B0:Dk N 4 (sts [(x0,.int v1)] []):=Dk.nil.set m0 (.int _);have T1:Tr N 4 (.dict (mkd (sts [(x5,.int v2),(x6,.dict (mkd (sts [(x0,.int 3)] [])))] []))) :=
  Tr.mono (Dk.tr (m:=1) ((Dk.nil.set m5 (.int _)).set m6 (Dk.tr (m:=0) (Dk.nil.set m0 (.int _))))) (by decide)
 have B1:=B0.set m1 T1;have B2:=B1.set m2 (t2.tr.mono (by decide));have B3:=B2.set m3 (t3.tr.mono (by decide));have T4:Tr N 4 (.dict (mkd (sts [(x2,.dict (mkd l4)),(x0,.int 1)] []))):=Dk.tr (m:=3) ((Dk.nil.set m2 t4.tr).set m0 (.int _));have B4:=B3.set m4 T4;obtain⟨l',o,hB,hL⟩:=q2e H (n+1) s B4 λi x hi hx=>by
  have h1:∀ {y z:Str} {d:PyData} {l:LP},(lk l y).isSome=true->(lk (st l z d) y).isSome=true:=λ{y z d l} h=>by
   rw[uJ];split
   ·rfl
   ·exact h
  have h2:∀ {y:Str} {d:PyData} {l:LP},(lk (st l y d) y).isSome=true:=λ{y d l}=>by rw[uJ,if_pos rfl];rfl
  have:i=0\/i=1\/i=2\/i=3\/i=4:=xO hi;rcases this with rfl | rfl | rfl | rfl | rfl
  ·rw[show N[0]?=some x0 from i0] at hx;obtain rfl:=si hx;exact h1 (h1 (h1 (h1 h2)))
  ·rw[show N[1]?=some x1 from i1] at hx;obtain rfl:=si hx;exact h1 (h1 (h1 h2))
  ·rw[show N[2]?=some x2 from i2] at hx;obtain rfl:=si hx;exact h1 (h1 h2)
  ·rw[show N[3]?=some x3 from i3] at hx;obtain rfl:=si hx;exact h1 h2
  ·rw[show N[4]?=some x4 from i4] at hx;obtain rfl:=si hx;exact h2
 obtain⟨d,hd1,hd2⟩:=q2c (a:=.dict (mkd l')) (b:=(lk l' x2).getD (.dict [])) (c:=(lk l' x4).getD (.int 5)) (aX ((eE s 1).fmod 5) (n:=3) (by decide));apply θ;refine⟨.fz d,d,?_,rfl,?_⟩
 ·rw[Zo,g0,g1,g2,g3,g4,g5,g6];simp only[aT];rw[El x0 q1 rfl,aJ,El x0 (r:=κ (.int 3)) rfl rfl,Em x5 x6 q2 rfl rfl rfl,pS,aT,sl _ _ _ _ _ _ rfl rfl (B0.lt H (by decide)),
   sl _ _ _ _ _ _ (tt 20 5 7 e2) rfl (B1.lt H (by decide)),sl _ _ _ _ _ _ (tt 70 7 9 e3) rfl (B2.lt H (by decide)),Em x2 x0 (tt 120 5 9 e4) rfl rfl rfl,sl _ _ _ _ _ _ rfl rfl (B3.lt H (by decide)),
   show rgI (κ (.int 5))=.ok [.int 0,.int 1,.int 2,.int 3,.int 4] from by kernel_rfl,aJ]
  refine(hL _ _).trans ((Zr ..).trans ?_);rw[g2,g4,aT,aT,vM (n+2) s (by decide)];have h1:bN (so "get") (κ (.dict (mkd l'))) [κ (.str x2),.ok (.own (.dict []))]=κ ((lk l' x2).getD (.dict [])):=congrArg ofP (Eo l' x2 (.dict []));have h2:bN (so "get") (κ (.dict (mkd l'))) [κ (.str x4),κ (.int 5)]=κ ((lk l' x4).getD (.int 5)):=congrArg ofP (Eo l' x4 (.int 5));rw[h1,h2];refine Eq.trans (b:=rb (ofP (getItem (.list [.dict (mkd l'),(lk l' x2).getD (.dict []),(lk l' x4).getD (.int 5)]) (.int (((eE s 1).fmod 5).fmod 3)))) R.ok) (by kernel_rfl) ?_;rw[hd1];rfl
 ·rcases hd2 with rfl | rfl | rfl
  ·exact hB.tr
  ·exact Tr.mono (hB.get ((Dk.nil (m:=3)).tr)) (by decide)
  ·exact Tr.mono (hB.get (.int _)) (by decide)
variable {N:List Str}{m:Nat}
theorem Ep{a:Str}:∀ {l:List Str},x∈fD a l↔x=a\/x∈l
 | []=>by simp[fD]
 |b::r=>by
  show x∈(if b.cps.toList < a.cps.toList then b::fD a r else a::b::r)↔_
  split
  ·rw[List.mem_cons,Ep (l:=r),List.mem_cons];constructor
   ·rintro(h | h | h)<;>simp[h]
   ·rintro(h | h | h)<;>simp[h]
  ·simp
theorem qA:∀ {l:List Str},x∈cQ l↔x∈l
 | []=>by simp[cQ]
 |a::r=>by
  show x∈fD a (cQ r)↔_;rw[Ep,qA (l:=r),List.mem_cons]
theorem list_dict(l:LP):fT (.dict (mkd l))=.ok (.own (.list ((ks l).map .str))):=by
 show own (.list ((mkd l).map (·.1)))=_;simp only[Dr];rfl
theorem Er(H:Wld N){l:LP}(B:Dk N m l):aL kH (ofP (fT (.dict (mkd l))))=.ok (.own (.list ((cQ (ks l)).map .str))):=by
 rw[list_dict];show ofP ((ofO (strs? ((ks l).map .str))).bind λl=>if l.length < 64 then own (.list ((cQ l).map .str)) else .no)=_;rw[jT,f9,f8,if_pos (by rw[l9];exact B.lt H (by decide))];rfl
theorem q2g(h:xs≠[])(a:Int):∃ x,x∈xs/\rb (ofP (aD .Mod (.int a) (.int xs.length))) (λi=>ofP (getItem (.list xs) (dOf i)))=κ x:=by
 have hl:0 < xs.length:=List.length_pos_iff.mpr h;have hr:=aX a (n:=(xs.length:Int)) (xQ hl);have hk:(a.fmod xs.length).toNat < xs.length:=Iw hr;refine⟨xs[(a.fmod xs.length).toNat],ge hk,?_⟩;rw[dH _ (xR hl),aT,aJ,gA,fQ hr.1 (bg hk)];rfl
theorem Es(h:S≠[])(a:Int):∃ x,x∈S/\rb (ofP (aD .Mod (.int a) (.int (S.map PyData.str).length))) (λi=>ofP (getItem (.list (S.map .str)) (dOf i)))=κ (.str x):=by
 obtain⟨d,hd,e⟩:=q2g (xs:=S.map PyData.str) (by simpa using h) a;obtain⟨x,hx,rfl⟩:=bq.mp hd;exact⟨x,hx,e⟩
inductive IsV(N:List Str)(h g:Nat)(r:R V):Prop where
 |mk (w:WW) (e:r=κ (enc w)) (o:okW N w) (i:w.isRows=false) (a:w.hgt<=h) (b:w.nb<=g):IsV N h g r
theorem IsV.whole{h:Nat}:IsV N h (g+1) (κ (.tuple [.str (so "whole")])):=⟨.whole,rfl,trivial,rfl,am _,ah (am _)⟩
theorem IsV.ite{h:Nat}{t:Bool}(hc:c=κ (.bool t))(ha:t=true->IsV N h g a)(hb:t=false->IsV N h g b):IsV N h g (ifS c a b):=by
 rw[hc];cases t with
 |true=>exact ha rfl
 |false=>exact hb rfl
theorem vX(a b c:PyData):aO [κ a,κ b,κ c]=κ (.tuple [a,b,c]):=rfl
theorem q2h{l:List Str}{a b:Int}(h0:0<=a)(h1:a<=b)(h2:b<=l.length):(slice l (some a) (some b)).length=b.toNat - a.toNat:=by
 show((l.drop (clipAt l.length a)).take (clipAt l.length b - clipAt l.length a)).length=_;rw[mF h0 (bf h1 h2),mF (bf h0 h1) h2,List.length_take,List.length_drop,Nat.min_eq_left];have:=Int.toNat_le_toNat h2;rw[Int.toNat_natCast] at this;exact Nat.sub_le_sub_right this _
theorem Et(H:Wld N){a b:Str}(ha:a∈N)(hb:b∈N){lo hi:Int}(h0:0<=lo)(h1:lo < hi)(h2:hi<=lo+6)(h3:hi<=14):okW N (.join a b (slice N (some lo) (some hi))):=by
 have hl:=q2h (l:=N) h0 (ej h1) (by rw[H.len];exact h3);exact⟨⟨ha,hb⟩,⟨by exact Ix h0 h1 hl,by exact Iy h2 hl⟩,λf hf=>pZ hf⟩
theorem Eu(a b:WW):aO [κ (.str (so "then")),κ (enc a),κ (enc b)]=κ (enc (.andThen a b)):=rfl
theorem q2i(a:WW):aO [κ (.str (so "each")),κ (enc a)]=κ (enc (.each a)):=rfl
theorem Ev(a b:Str)(fs:List Str):aO [κ (.str (so "join")),κ (.str a),κ (.str b),κ (.tuple (fs.map .str))]=κ (enc (.join a b fs)):=rfl
theorem q2j(a:Str):aO [κ (.str (so "pick")),κ (.str a)]=κ (enc (.pick a)):=rfl
theorem q2k(a b:Str):aO [κ (.str (so "call")),κ (.str a),κ (.str b)]=κ (enc (.call a b)):=rfl
theorem q2l(a:Str)(i:Int):aO [κ (.str (so "sift")),κ (.str a),κ (.int i)]=κ (enc (.sift a i)):=rfl
theorem Ew(H:Wld N)(n:Nat)(c:Int){l:LP}(B:Dk N m l):IsV N 0 1 (ifS (rn (n+1) "_law_is_table" [.fz (.dict (mkd l))]) (rb (aO [(κ (.str (so "sift"))),(aK (.ok (NL N)) (aB .Add (κ (.int 5)) (aB .Mod (ofP (aD .FloorDiv (.int c) (.int 4))) (κ (.int 4))))),(aB .Sub (aB .Mod (ofP (aD .FloorDiv (.int c) (.int 16))) (κ (.int 7))) (κ (.int 3)))]) R.ok) (κ (.tuple [(.str (so "whole"))]))):=by
 obtain⟨tb,te,_⟩:=vJ n B;refine IsV.ite te (λ_=>?_) λ_=>IsV.whole;have hr:=aX (c.fdiv 4) (n:=4) (by decide);have h7:=aX (c.fdiv 16) (n:=7) (by decide);obtain⟨x,hx,_,hg⟩:=dO H (i:=5+(c.fdiv 4).fmod 4) (xS hr);rw[show aK (.ok (NL N)) (aB .Add (κ (.int 5)) (aB .Mod (ofP (aD .FloorDiv (.int c) (.int 4))) (κ (.int 4))))=κ (.str x) from (by kernel_rfl:_=ofP (getItem (NL N) (.int (5+(c.fdiv 4).fmod 4)))).trans (by rw[hg];rfl),
  show aB .Sub (aB .Mod (ofP (aD .FloorDiv (.int c) (.int 16))) (κ (.int 7))) (κ (.int 3))=κ (.int ((c.fdiv 16).fmod 7 - 3)) from by kernel_rfl]
 exact⟨.sift x ((c.fdiv 16).fmod 7 - 3),rfl,⟨hx,by omega⟩,rfl,ae _,ae _⟩
theorem Ex(H:Wld N)(n:Nat)(c:Int)(hd:Tr N m d):IsV N 0 1 (rn (n+2) "_law_small" [.fz (.int c),.fz d,.fz (NL N)]):=by
 rw[Z4];refine hd.by (λm i=>IsV.whole) λm l B=>?_
 refine IsV.ite (t:=c.fmod 4==0) (by kernel_rfl) (λ_=>IsV.whole) λ_=>?_;rw[Er H B,aJ];have hmem:∀ x∈cQ (ks l),x∈ks l:=λx hx=>qA.mp hx;generalize cQ (ks l)=S at hmem;have hc:aI (aC (ofP (rdv (V.cl (.own (.list (S.map .str)))))) .NotEq (.ok (.own (.list [])))) (aC (ofP (aD .Mod (.int c) (.int 4))) .Lt (κ (.int 3)))=κ (.bool (!S.isEmpty&&decide (c.fmod 4 < 3))):=by
  rw[show aC (ofP (rdv (V.cl (.own (.list (S.map .str)))))) .NotEq (.ok (.own (.list [])))=κ (.bool (!S.isEmpty)) from (congrArg (λp=>aV (ofP (cI p))) (pV S)).trans rfl];cases S.isEmpty<;>kernel_rfl
 refine IsV.ite hc (λht=>?_) λ_=>Ew H n c B;have hS:S≠[]:=λe=>by rw[e] at ht;simp at ht
 obtain⟨x,hx,hix⟩:=Es hS (c.fdiv 4);have hix':aK (bH (V.cl (.own (.list (S.map .str))))) (aB .Mod (ofP (aD .FloorDiv (.int c) (.int 4))) (cY (V.cl (.own (.list (S.map .str))))))  = κ (.str x):=(by kernel_rfl:_=rb (ofP (aD .Mod (.int (c.fdiv 4)) (.int (S.map PyData.str).length))) (λi=>ofP (getItem (.list (S.map .str)) (dOf i)))).trans hix;rw[hix'];refine IsV.ite (t:=c.fmod 4==1) (by kernel_rfl) (λ_=>⟨.pick x,rfl,B.sub x (hmem x hx),rfl,ae _,ae _⟩) λ_=>?_;have hr:=aX (c.fdiv 16) (n:=14) (by decide);obtain⟨y,hy,_,hg⟩:=dO H (i:=(c.fdiv 16).fmod 14) hr;rw[show aK (.ok (NL N)) (aB .Mod (ofP (aD .FloorDiv (.int c) (.int 16))) (κ (.int 14)))=κ (.str y) from (by kernel_rfl:_=ofP (getItem (NL N) (.int ((c.fdiv 16).fmod 14)))).trans (by rw[hg];rfl),aJ];refine IsV.ite (t:=!(lk l y).isSome) ((congrArg (λp=>aV (ofP (cI p))) (l7 l y)).trans rfl) (λhn=>?_) λ_=>Ew H n c B;exact⟨.call x y,rfl,⟨B.sub x (hmem x hx),hy⟩,rfl,ae _,ae _⟩
variable {N:List Str}{m:Nat}
noncomputable def eY:List (Str×Str×WW)->WW
 | []=>.bnil
 |x::r=>.bcons x.1 x.2.1 x.2.2 (eY r)
def gD(x:Str×Str×WW):PyData:=.tuple [.str x.1,.str x.2.1,enc x.2.2]
theorem vY:∀ L:List (Str×Str×WW),(eY L).isRows=true
 | []=>rfl
 |_::_=>rfl
theorem vZ:∀ L:List (Str×Str×WW),aS (eY L)=L.map gD
 | []=>rfl
 |x::r=>by
  show .tuple [.str x.1,.str x.2.1,enc x.2.2]::aS (eY r)=_;rw[vZ r];rfl
theorem q2m{h:Nat}:∀ {L:List (Str×Str×WW)},(∀ x∈L,(x.1∈N/\x.2.1∈N)/\(okW N x.2.2/\x.2.2.isRows=false)/\x.2.2.hgt<=h/\x.2.2.nb<=g)->okW N (eY L)/\(eY L).hgt<=h/\(eY L).nb<=(g+1)*L.length:=by
 intro v0
 induction v0 with
 |nil =>
  intro _;exact⟨trivial,am _,am _⟩
 |cons x r ih =>
  intro hx;refine hde λ_ θ=>?_;obtain⟨i1,i2,i3⟩:=ih λy hy=>hx y (af _ hy);obtain⟨c1,c3,c5,c6⟩:=hx x ac;apply θ;refine⟨⟨c1,c3,i1,vY r⟩,fh.mpr ⟨c5,i2⟩,?_⟩;show x.2.2.nb+(eY r).nb+1<=(g+1)*(r.length+1);rw[gm];exact Jr i3 c6
theorem wA:∀ {k:Nat} {i:Int} {q r:List PyData} {d:PyData},cJ i k=q++d::r->d=.int (i+q.length)/\q.length < k
 |0,i,q,r,d,h=>by cases q<;>cases h
 |k+1,i,[],r,d,h=>by
  have h:PyData.int i::cJ (i+1) k=d::r:=h;cases h;exact⟨by simp,by simp⟩
 |k+1,i,x::q,r,d,h=>by
  have h:PyData.int i::cJ (i+1) k=x::(q++d::r):=h;obtain⟨h1,h2⟩:=wA (List.cons.inj h).2;refine⟨?_,by simpa using h2⟩;rw[h1,List.length_cons];congr 1;exact Iz
theorem Ey:∀ (k:Nat) (i:Int),(cJ i k).length=k:=by
 intro v0
 induction v0 with
 |zero =>
  intro _;exact rfl
 |succ k ih =>
  intro i;exact congrArg (·+1) (ih (i+1))
theorem Ez{xs:List Str}{a:Int}{n:Int}(hn:n=xs.length)(h:0 < n):∃ x,x∈xs/\xs[(a.fmod n).toNat]?=some x/\getItem (.list (xs.map .str)) (.int (a.fmod n))=.ok (.fz (.str x)):=by
 have hr:=aX a h;have hk:(a.fmod n).toNat < xs.length:=I0 hn hr;refine⟨xs[(a.fmod n).toNat],ge hk,bg hk,fQ hr.1 ?_⟩;rw[List.getElem?_map,bg hk];rfl
theorem q2n(H:Wld N)(n:Nat)(c:Int){l:LP}(B:Dk N m l)(hS:cQ (ks l)≠[]):IsV N 1 13 (rn (n+3) "_law_wide" [.fz (.int c),.fz (.dict (mkd l)),.fz (.list ((cQ (ks l)).map .str)),.fz (NL N)]):=by
 have hmem:∀ x∈cQ (ks l),x∈ks l:=λx hx=>qA.mp hx;generalize cQ (ks l)=S at hS hmem;have hpos:0 < S.length:=List.length_pos_iff.mpr hS;have hr6:=aX (c.fdiv 16) (n:=6) (by decide);rw[Z5];refine hde λ_ θ=>?_;obtain⟨K,hK1,hK2,hK3,hK⟩:∃ K:Nat,1<=K/\K<=6/\K<=S.length/\rgI (lK [ofP (aW (.list (S.map .str))),aB .Add (κ (.int 1)) (aB .Mod (ofP (aD .FloorDiv (.int c) (.int 16))) (κ (.int 6)))])=.ok (cJ 0 K):=by
  obtain⟨z1,z2,z3⟩:=ayz hr6 hpos;refine⟨(if 1+(c.fdiv 16).fmod 6 < (S.length:Int) then 1+(c.fdiv 16).fmod 6 else (S.length:Int)).toNat,z1,z2,z3,?_⟩
  ·refine Eq.trans (b:=ofP (nC (.int (if 1+(c.fdiv 16).fmod 6 < ((S.map PyData.str).length:Int) then 1+(c.fdiv 16).fmod 6 else ((S.map PyData.str).length:Int))))) (by kernel_rfl) ?_;rw[List.length_map];show ofP (if _ then _ else _)=_;rw[if_pos]
   ·rfl
   ·split<;>lia
 apply θ;rw[hK,aJ];have L:=jS (S:=λ(a:List (Str×Str×WW)) (o:Option V×Option V)=>iL (ζ (.int c)) (ζ (.dict (mkd l))) (ζ (.list (S.map .str))) (ζ (NL N)) (some (.own (.list (a.map gD)))) o.1 o.2) (b:=tZ (n+2)) (t:=t0) (l:=cJ 0 K) (p:=[]) (a:=[]) (j:=(none,none))
  (I:=λp a=>a.length=p.length/\∀ x∈a,(x.1∈N/\x.2.1∈N)/\(okW N x.2.2/\x.2.2.isRows=false)/\x.2.2.hgt<=0/\x.2.2.nb<=1) (E:=λ_=>False) (Q:=λ_=>False) (λq d r a o hq hi=>by
   refine hde λ_ θ=>?_;obtain⟨hd,hqk⟩:=wA (show cJ 0 K=q++d::r from hq);rw[Int.zero_add] at hd;subst hd;obtain⟨h1,h2⟩:=hi;obtain⟨x,hx,ix,gx⟩:=Ez (xs:=S) (a:=c+q.length) (n:=S.length) rfl (xQ hpos);obtain⟨y,hy,iy,gy⟩:=Ez (xs:=N) (a:=c.fdiv 64+q.length) (n:=14) (by rw[H.len];rfl) (by decide);obtain⟨dx,q1,q3⟩:=B.key (hmem x hx);obtain⟨w,e,ow,rw',hw,gw⟩:=Ex H n (c.fdiv 7+5*q.length) q3;apply θ;refine Out.kn (a++[(y,x,w)]) (some (.fz (.int q.length)),some (.fz (.str x))) ⟨by simp[h1],λz hz=>?_⟩ λkn kr=>?_
   ·rcases bv.mp hz with hz | hz
    ·exact h2 z hz
    ·rw[List.mem_singleton.mp hz];exact⟨⟨hy,B.sub x (hmem x hx)⟩,⟨ow,rw'⟩,hw,gw⟩
   ·rw[Z6,aT,aJ,Z7];have z1:aK (.ok (.list (S.map .str))) (aB .Mod (ofP (aD .Add (.int c) (.int q.length))) (ofP (aW (.list (S.map .str)))))=κ (.str x):=by
     refine Eq.trans (b:=rb (ofP (aD .Mod (.int (c+q.length)) (.int (S.map PyData.str).length))) (λi=>ofP (getItem (.list (S.map .str)) (dOf i)))) (by kernel_rfl) ?_;rw[List.length_map,dH _ (xR hpos),aT,aJ,gA,gx];rfl
    have z2:aK (.ok (NL N)) (aB .Mod (aB .Add (ofP (aD .FloorDiv (.int c) (.int 64))) (κ (.int q.length))) (κ (.int 14)))=κ (.str y):=by
     refine Eq.trans (b:=ofP (getItem (NL N) (.int ((c.fdiv 64+q.length).fmod 14)))) (by kernel_rfl) ?_;rw[show getItem (NL N) (.int ((c.fdiv 64+q.length).fmod 14))=_ from gy];rfl
    have z3:aE (rn (n+2) "_law_small") [(aB .Add (ofP (aD .FloorDiv (.int c) (.int 7))) (ofP (aD .Mult (.int 5) (.int q.length)))),(aK (.ok (.dict (mkd l))) (κ (.str x))),(κ (NL N))]=κ (enc w):=by
     rw[show aK (.ok (.dict (mkd l))) (κ (.str x))=κ dx from congrArg ofP (eW q1)];exact(by kernel_rfl:_=rn (n+2) "_law_small" [.fz (.int (c.fdiv 7+5*q.length)),.fz dx,.fz (NL N)]).trans e
    rw[z1,aJ,dG,dB,aT,z2,z3,vX];show rb (ofP (if (a.map gD).length < aF then P.ok (PyData.list (a.map gD++[gD (y,x,w)])) else .no)) _=_;rw[if_pos (by rw[List.length_map,h1];have:aF=16777216:=rfl;exact I4 hK2 hqk this),show a.map gD++[gD (y,x,w)]=(a++[(y,x,w)]).map gD from by simp];rfl) ⟨rfl,λx hx=>aZ hx⟩
 obtain⟨a,o,⟨h1,h2⟩,e⟩ | ⟨_,hx,_⟩ | ⟨_,hv,_⟩:=L
 ·rw[jd,Ey] at h1;refine hde λ_ θ=>?_;obtain⟨k1,k2,k3⟩:=q2m h2;apply θ;refine⟨.beside (eY a),?_,⟨⟨k1,vY a⟩,?_⟩,rfl,ah k2,by show(eY a).nb+1<=13;exact Jt hK2 h1 k3⟩
  ·refine(e _ _).trans ((Z8 ..).trans ?_);show R.ok (V.fz (.tuple [.str (so "beside"),.tuple (a.map gD)]))=R.ok (V.fz (.tuple [.str (so "beside"),enc (eY a)]));rw[eM (vY a),vZ]
  ·rw[vZ,List.length_map];exact Ju hK2 h1
 ·exact hx.elim
 ·exact hv.elim
variable {N:List Str}{m:Nat}
theorem q2o(S:List Str):aC (κ (.list (S.map .str))) .NotEq (.ok (.own (.list [])))=κ (.bool (!S.isEmpty)):=(congrArg (λp=>aV (ofP (cI p))) (pV S)).trans rfl
inductive NlR(N:List Str)(i:Int)(r:R V):Prop where
 |mk (x:Str) (h:x∈N) (g:N[i.toNat]?=some x) (e:r=κ (.str x)):NlR N i r
theorem qB(H:Wld N){e:R V}(he:e=κ (.int i))(h:0<=i/\i < 14):NlR N i (aK (.ok (NL N)) e):=by
 obtain⟨x,hx,ix,gx⟩:=dO H h;exact⟨x,hx,ix,by rw[he];exact congrArg ofP gx⟩
theorem wB(h:S≠[])(M:Int):∃ x,x∈S/\aK (.ok (.list (S.map .str))) (aB .Mod (κ (.int M)) (cY (.fz (.list (S.map .str)))))=κ (.str x):=by
 obtain⟨x,hx,e⟩:=Es h M;exact⟨x,hx,(by kernel_rfl:_=rb (ofP (aD .Mod (.int M) (.int (S.map PyData.str).length))) (λi=>ofP (getItem (.list (S.map .str)) (dOf i)))).trans e⟩
theorem E0{lo hi:R V}{a b:Int}(h1:lo=κ (.int a))(h2:hi=κ (.int b)):aR (.ok (NL N)) (some lo) (some hi)=.ok (.own (.list ((slice N (some a) (some b)).map .str))):=by
 rw[h1,h2];exact congrArg ofP (En _ _)
theorem mH:1<=13:=by decide
theorem E1:2<=13:=by decide
set_option maxHeartbeats 1000000 in
theorem q2p(H:Wld N)(n:Nat)(c:Int)(hd:Tr N m d):IsV N 1 13 (rn (n+4) "_law_piece" [.fz (.int c),.fz d,.fz (NL N)]):=by
 rw[Di,show aD .Mod (.int c) (.int 10)=.ok (.fz (.int (c.fmod 10))) from dH _ (by decide),show aD .FloorDiv (.int c) (.int 10)=.ok (.fz (.int (c.fdiv 10))) from eF _ (by decide)];simp only[aT,aJ,dG,dB,fP];generalize c.fmod 10=K;generalize c.fdiv 10=M;refine hd.by (λm i=>IsV.whole) λm l B=>?_
 refine IsV.ite (t:=K==0) (by kernel_rfl) (λ_=>IsV.whole) λ_=>?_;rw[Er H B];simp only[aJ,iM,dG,dB,aT,fP,pR];have hwide:=q2n H n M B;have hmem:∀ x∈cQ (ks l),x∈ks l:=λx hx=>qA.mp hx;generalize cQ (ks l)=S at hmem hwide;have r4:=aX M (n:=4) (by decide);obtain⟨x4,m4,_,g4⟩:=qB H (e:=aB .Add (.ok (.fz (.int 5))) (aB .Mod (.ok (.fz (.int M))) (κ (.int 4)))) (i:=5+M.fmod 4) (by kernel_rfl) (xS r4);have r7:=aX (M.fdiv 4) (n:=7) (by decide);rw[g4];rw[show aB .Sub (aB .Mod (aB .FloorDiv (R.ok (V.fz (.int M))) (.ok (.fz (.int 4)))) (.ok (.fz (.int 7)))) (κ (.int 3))=κ (.int ((M.fdiv 4).fmod 7 - 3)) from by kernel_rfl,q2l,q2o];simp only[aJ];refine IsV.ite (t:=decide (K < 3)&&!S.isEmpty) (by
  rw[show aC (R.ok (V.fz (.int K))) .Lt (.ok (.fz (.int 3)))=.ok (.fz (.bool (decide (K < 3)))) from by kernel_rfl];cases decide (K < 3)<;>rfl) (λht=>?_) λ_=>?_
 ·have hS:S≠[]:=λe=>by rw[e] at ht;simp at ht
  obtain⟨x,hx,e⟩:=wB hS M;rw[e,q2j];exact⟨.pick x,rfl,B.sub x (hmem x hx),rfl,am _,mH⟩
 have r14:=aX (M.fdiv 16) (n:=14) (by decide);obtain⟨y,hy,_,gy⟩:=qB H (e:=aB .Mod (aB .FloorDiv (.ok (.fz (.int M))) (.ok (.fz (.int 16)))) (κ (.int 14))) (i:=(M.fdiv 16).fmod 14) (by kernel_rfl) r14;rw[gy,show aC (R.ok (V.fz (.str y))) .NotIn (R.ok (V.fz (.list (S.map .str))))=.ok (.fz (.bool !(S.contains y))) from by
  show aV (ofP (cI ((ofO (strs? (S.map .str))).bind λss=>P.ok (ss.contains y))))=_;rw[jT];rfl]
 refine IsV.ite (t:=K==3&&(!S.isEmpty&&!(S.contains y))) (by
  rw[show aC (R.ok (V.fz (.int K))) .Eq (.ok (.fz (.int 3)))=.ok (.fz (.bool (K==3))) from by kernel_rfl];cases (K==3)<;>cases S.isEmpty<;>rfl) (λht=>?_) λ_=>?_
 ·have hS:S≠[]:=λe=>by rw[e] at ht;simp at ht
  obtain⟨x,hx,e⟩:=wB hS M;rw[e,q2k];exact⟨.call x y,rfl,⟨B.sub x (hmem x hx),hy⟩,rfl,am _,mH⟩
 refine IsV.ite (t:=K==4&&!S.isEmpty) (by
  rw[show aC (R.ok (V.fz (.int K))) .Eq (.ok (.fz (.int 4)))=.ok (.fz (.bool (K==4))) from by kernel_rfl];cases (K==4)<;>rfl) (λht=>?_) λ_=>?_
 ·have hS:S≠[]:=λe=>by rw[e] at ht;simp at ht
  obtain⟨w,e,a1,a2,a3,a4⟩:=hwide hS;rw[show aE (rn (n+3) "_law_wide") [.ok (.fz (.int M)),(.ok (.fz (.dict (mkd l)))),κ (.list (S.map .str)),(κ (NL N))]=κ (enc w) from e];exact⟨w,rfl,a1,a2,a3,a4⟩
 refine IsV.ite (t:=K==7||K==8) (by
  rw[show aC (R.ok (V.fz (.int K))) .Eq (.ok (.fz (.int 7)))=.ok (.fz (.bool (K==7))) from by kernel_rfl];cases (K==7)<;>kernel_rfl) (λ_=>?_) λ_=>?_
 ·have r2:=aX M (n:=2) (by decide);have r8:=aX (M.fdiv 8) (n:=4) (by decide);have r32:=aX (M.fdiv 32) (n:=6) (by decide);obtain⟨a,ma,ia,ga⟩:=qB H (e:=aB .Add (.ok (.fz (.int 2))) (aB .Mod (.ok (.fz (.int M))) (κ (.int 2)))) (i:=2+M.fmod 2) (by kernel_rfl) (I5 r2);obtain⟨b,mb,ib,gb⟩:=qB H (e:=aB .Sub (.ok (.fz (.int 3))) (aB .Mod (.ok (.fz (.int M))) (κ (.int 2)))) (i:=3 - M.fmod 2) (by kernel_rfl) (I6 r2);rw[ga,gb,show aB .Add (R.ok (V.fz (.int 5))) (aB .Mult (.ok (.fz (.int 2))) (aB .Mod (.ok (.fz (.int M))) (κ (.int 2))))=κ (.int (5+2*M.fmod 2)) from by kernel_rfl];simp only[aJ,dG,dB,aT];rw[E0 (a:=5+2*M.fmod 2) (b:=5+2*M.fmod 2+2) rfl (by kernel_rfl)];simp only[aJ,iM,dB,aT];refine IsV.ite (t:=(M.fdiv 2).fmod 4==1) (by kernel_rfl) (λ_=>?_) λ_=>?_
  ·rw[show aB .Add (R.ok (V.fz (.int 4))) (aB .Mod (aB .FloorDiv (.ok (.fz (.int M))) (.ok (.fz (.int 8)))) (κ (.int 4)))=κ (.int (4+(M.fdiv 8).fmod 4)) from by kernel_rfl];simp only[aJ,dG,dB,aT];rw[E0 (a:=4+(M.fdiv 8).fmod 4) (b:=4+(M.fdiv 8).fmod 4+1+(M.fdiv 32).fmod 6) rfl (by kernel_rfl)];simp only[aJ,iM,dB,aT];rw[show aL bJ (R.ok (V.fz (.list ((slice N (some (4+(M.fdiv 8).fmod 4)) (some (4+(M.fdiv 8).fmod 4+1+(M.fdiv 32).fmod 6))).map .str))))=.ok (.fz (.tuple ((slice N (some (4+(M.fdiv 8).fmod 4)) (some (4+(M.fdiv 8).fmod 4+1+(M.fdiv 32).fmod 6))).map .str))) from rfl,Ev];exact⟨.join a b _,rfl,Et H ma mb (I7 r8) (I8 r32) (I9 r32) (Ja r8 r32),rfl,am _,E1⟩
  ·rw[show aL bJ (R.ok (V.fz (.list ((slice N (some (5+2*M.fmod 2)) (some (5+2*M.fmod 2+2))).map .str))))=.ok (.fz (.tuple ((slice N (some (5+2*M.fmod 2)) (some (5+2*M.fmod 2+2))).map .str))) from rfl,Ev];exact⟨.join a b _,rfl,Et H ma mb (Jb r2) Jc Jd (Je r2),rfl,am _,E1⟩
 refine IsV.ite (t:=K==9) (by kernel_rfl) (λ_=>?_) λ_=>⟨.sift x4 _,rfl,⟨m4,by omega⟩,rfl,am _,mH⟩
 obtain⟨dx,hdx,hx⟩:∃ dx,bM (.ok (.fz (.bool (!S.isEmpty)))) (aK (.ok (.dict (mkd l))) (aK (.ok (.list (S.map .str))) (aB .Mod (.ok (.fz (.int M))) (cY (.fz (.list (S.map .str))))))) (κ (.int 0))=κ dx/\Tr N m dx:=by
  cases hE:S.isEmpty with
  |true=>exact⟨.int 0,rfl,.int 0⟩
  |false =>
   have hS:S≠[]:=λe=>by rw[e] at hE;exact btf hE
   obtain⟨x,hx,e⟩:=wB hS M;obtain⟨dx,q1,q3⟩:=B.key (hmem x hx);refine⟨dx,?_,q3⟩;rw[e];exact congrArg ofP (eW q1)
 obtain⟨w,e,ow,rw',hw,gw⟩:=Ex H (n+1) (M.fdiv 5) hx;rw[hdx,show aE (rn (n+3) "_law_small") [(aB .FloorDiv (.ok (.fz (.int M))) (.ok (.fz (.int 5)))),κ dx,(κ (NL N))]=κ (enc w) from (by kernel_rfl:_=rn (n+3) "_law_small" [.fz (.int (M.fdiv 5)),.fz dx,.fz (NL N)]).trans e,q2i];exact⟨.each w,rfl,⟨ow,rw'⟩,rfl,ah hw,U (ah gw) (by decide)⟩
inductive FitV(N:List Str)(m h g:Nat)(d:PyData)(r:R V):Prop where
 |mk (w:WW) (e:r=κ (enc w)) (o:okW N w/\w.isRows=false) (a:w.hgt<=h/\w.nb<=g) (s:∀ n,w.hgt+m+3<=n->Gives (rn n "_law_seen" [.fz (enc w),.fz d]) (NT N m)):FitV N m h g d r
theorem E2(H:Wld N)(hd:NT N m d){n:Nat}(hn:m+3<=n):Gives (rn n "_law_seen" [.fz (enc .whole),.fz d]) (NT N m):=by
 rcases hd with rfl | hd
 ·refine exnE (c:=2) n hn hn λn _=>?_;rw[D9,D0];exact Gives.none (.inl rfl)
 ·exact(Ea H (w:=.whole) trivial).a rfl (by show 0+m+3<=n;exact Jv hn) hd
theorem q2q(n:Nat)(c:Int):rn (n+1) "_law_piece" [.fz (.int c),.fz .none,.fz (NL N)]=.ok (.fz (enc .whole)):=by
 rw[Di,show aD .Mod (.int c) (.int 10)=.ok (.fz (.int (c.fmod 10))) from dH _ (by decide),show aD .FloorDiv (.int c) (.int 10)=.ok (.fz (.int (c.fdiv 10))) from eF _ (by decide)];rfl
theorem q2r(H:Wld N)(n:Nat)(c:Int)(hd:NT N m d)(hn:m+4<=n):FitV N m 1 13 d (rn (n+5) "_law_fitting" [.fz (.int c),.fz d,.fz (NL N)]):=by
 have hw:FitV N m 1 13 d (κ (enc .whole)):=⟨.whole,rfl,⟨trivial,rfl⟩,⟨am _,mH⟩,λk hk=>E2 H hd (by have:0+m+3<=k:=hk;exact xW hk)⟩
 have key:∀ w:WW,(okW N w/\w.isRows=false)->(w.hgt<=1/\w.nb<=13)->(∀ n,w.hgt+m+3<=n->Gives (rn n "_law_seen" [.fz (enc w),.fz d]) (NT N m))->rn (n+4) "_law_piece" [.fz (.int c),.fz d,.fz (NL N)]=κ (enc w)->FitV N m 1 13 d (rn (n+5) "_law_fitting" [.fz (.int c),.fz d,.fz (NL N)]):=λw ow hw' hs e=>by
  obtain⟨v,d',s1,s2,s3⟩:=hs (n+4) (Jw hn hw');rw[Z9,e];simp only[aJ,dG,fP,dB,aT];rw[show aE (rn (n+4) "_law_seen") [κ (enc w),κ d]=.ok v from s1];show FitV N m 1 13 d (rb (if bF (dOf v)=true then _ else _) R.ok);cases bF (dOf v) with
  |true=>exact hw
  |false=>exact⟨w,rfl,ow,hw',hs⟩
 rcases id hd with rfl | h
 ·exact key .whole ⟨trivial,rfl⟩ ⟨am _,mH⟩ (λk hk=>E2 H hd (by have:0+m+3<=k:=hk;exact xW hk)) (q2q _ _)
 ·obtain⟨w,e,ow,rw',hw,gw⟩:=q2p H n c h;exact key w ⟨ow,rw'⟩ ⟨hw,gw⟩ (λk hk=>(Ea H ow).a rw' hk h) e
variable {N:List Str}{m:Nat}
def gw(N:List Str)(h g:Nat)(w:WW):Prop:=(okW N w/\w.isRows=false)/\w.hgt<=h/\w.nb<=g
theorem E3{h:Nat}{a b:WW}(ha:gw N h g a)(hb:gw N h' g' b):gw N (max h h'+1) (g+g'+1) (.andThen a b):=by
 refine⟨⟨⟨ha.1,hb.1⟩,rfl⟩,?_,ah (ay ha.2.2 hb.2.2)⟩;exact Jx ha.2.1 hb.2.1
theorem gw.le{h:Nat}{w:WW}(x:gw N h g w)(a:h<=h')(b:g<=g'):gw N h' g' w:=⟨x.1,U x.2.1 a,U x.2.2 b⟩
theorem q2s{r:List WW}:∀ {a:WW} {h g:Nat},2<=h->gw N h g a->(∀ w∈r,gw N 2 13 w)->gw N (h+r.length) (g+14*r.length) (r.foldl .andThen a):=by
 induction r with
 |nil=>exact λ_ ha _=>ha
 |cons w r ih =>
  intro a h g h2 ha hr;have hw:=E3 ha (hr w ac);rw[Nat.max_eq_left h2] at hw;refine(ih (bn h2) hw λx hx=>hr x (af _ hx)).le ?_ ?_
  ·rw[List.length_cons];exact Jy
  ·rw[List.length_cons];exact Jz
theorem q2t{r:List WW}{a:WW}(ha:gw N 2 13 a):(∀ w∈r,gw N 2 13 w)->gw N (2+r.length) (13+14*r.length) (r.foldr .andThen a):=by
 induction r with
 |nil=>exact λ_=>ha
 |cons w r ih =>
  intro hr;have hw:=E3 (hr w ac) (ih λx hx=>hr x (af _ hx));rw[Nat.max_eq_right (al _ _)] at hw;refine hw.le ?_ ?_
  ·rw[List.length_cons];exact J0
  ·rw[List.length_cons];exact J1
def vS(s:List Int)(f:Int)(tr:PyData)(N:List Str)(ws:List WW)(v:V)(k x p:Option V):aA:=cS (ζ (Li s)) (ζ (.int f)) (ζ tr) (ζ (NL N)) (some (.own (.list (ws.map enc)))) (some v) k x p
theorem q2u(n:Nat){s:List Int}{tr:PyData}{ws:List WW}{k:Option V}:∀ (r:List WW) (a:WW) (p:Option V),∃ p',∀ kn kr,a8 (lT n) lU (r.map enc) (vS s f tr N ws v k (ζ (enc a)) p) kn kr=kn (vS s f tr N ws v k (ζ (enc (r.foldl .andThen a))) p'):=by
 intro v0
 induction v0 with
 |nil =>
  intro a p;exact⟨p,λ_ _=>rfl⟩
 |cons w r ih =>
  intro a p;obtain⟨p',e⟩:=ih (.andThen a w) (ζ (enc w));refine⟨p',λkn kr=>(?_:_=_).trans (e kn kr)⟩;show rb (ofP (bA lU (enc w) (vS s f tr N ws v k (ζ (enc a)) p))) (λσ=>lT n σ (λσ=>a8 (lT n) lU (r.map enc) σ kn kr) kr)=_;unfold vS;rw[q0e,aT,aJ,q0f,dG,dB,aT,Eu];rfl
theorem q2v(n:Nat){s:List Int}{tr:PyData}{ws:List WW}{k:Option V}:∀ (r:List WW) (a:WW) (p:Option V),∃ p',∀ kn kr,a8 (lV n) lW (r.map enc) (vS s f tr N ws v k (ζ (enc a)) p) kn kr=kn (vS s f tr N ws v k (ζ (enc (r.foldl (λa w=>.andThen w a) a))) p'):=by
 intro v0
 induction v0 with
 |nil =>
  intro a p;exact⟨p,λ_ _=>rfl⟩
 |cons w r ih =>
  intro a p;obtain⟨p',e⟩:=ih (.andThen w a) (ζ (enc w));refine⟨p',λkn kr=>(?_:_=_).trans (e kn kr)⟩;show rb (ofP (bA lW (enc w) (vS s f tr N ws v k (ζ (enc a)) p))) (λσ=>lV n σ (λσ=>a8 (lV n) lW (r.map enc) σ kn kr) kr)=_;unfold vS;rw[q0h,aT,aJ,q0i,dG,dB,aT,Eu];rfl
theorem E4(a:List PyData)(d:PyData):aK (.ok (.list (a++[d]))) (unS .USub (κ (.int 1)))=κ d:=by
 refine Eq.trans (b:=ofP (if (-1:Int) < 0/\-((a++[d]).length:Int)<=-1 then frz (a++[d])[(-1+((a++[d]).length:Int)).toNat]? else .no)) (by kernel_rfl) ?_;rw[if_pos ⟨by decide,by rw[List.length_append,List.length_singleton];exact Jf⟩,show(-1+((a++[d]).length:Int)).toNat=a.length from by rw[List.length_append,List.length_singleton];exact Jg];simp[frz,ofP]
theorem q2w(x:PyData)(r:List PyData):slice (x::r) (some 1) none=r:=by
 unfold slice;simp only[Option.elim];rw[mF (by decide) (by rw[List.length_cons];exact Jh)];simp
theorem q2x(a:List PyData)(d:PyData):slice (a++[d]) none (some (-1))=a:=by
 unfold slice clipAt;simp only[Option.elim,List.drop_zero,Nat.sub_zero];rw[if_pos (by decide),show(max 0 (min (-1+((a++[d]).length:Int)) ((a++[d]).length:Int))).toNat=a.length from by simp;exact Ji];simp
theorem q2y(H:Wld N)(n:Nat)(s:List Int)(fi:Int)(hd:Tr N m d)(hn:m+4<=n):IsV N 5 55 (rn (n+6) "_law_view" [.fz (Li s),.fz (.int fi),.fz d,.fz (NL N)]):=by
 rw[q0a,gU (n+3) s fi];have r4:=aX (bI s fi) (n:=4) (by decide);refine hde λ_ θ=>?_;obtain⟨K,hK1,hK2,hK⟩:∃ K:Nat,1<=K/\K<=4/\rgI (aB .Add (κ (.int 1)) (aB .Mod (κ (.int (bI s fi))) (κ (.int 4))))=.ok (cJ 0 K):=by
  refine⟨(1+(bI s fi).fmod 4).toNat,by exact Jj r4,by exact Jk r4,?_⟩;refine Eq.trans (b:=ofP (nC (.int (1+(bI s fi).fmod 4)))) (by kernel_rfl) ?_;show ofP (if _ then _ else _)=_;rw[if_pos (Jl r4)];rfl
 apply θ;rw[hK,aJ];have L:=jS (S:=λ(a:List WW×V) (o:Option V)=>vS s fi d N a.1 a.2 o none none) (b:=t6 (n+5)) (t:=t7) (l:=cJ 0 K) (p:=[]) (a:=([],.fz d)) (j:=none)
  (I:=λp a=>a.1.length=p.length/\(∀ w∈a.1,gw N 2 13 w)/\∃ dn,a.2.cl=.fz dn/\NT N m dn) (E:=λ_=>False) (Q:=λ_=>False) (λq x r a o hq hi=>by
   refine hde λ_ θ=>?_;obtain⟨hx,hqk⟩:=wA (show cJ 0 K=q++x::r from hq);rw[Int.zero_add] at hx;subst hx;obtain⟨h1,h2,dn,h3,h4⟩:=hi;obtain⟨w,e,ow,hw,hs⟩:=q2r H n (bI s (fi+1+q.length)) h4 hn;obtain⟨v,d',g1,g2,g3⟩:=hs (n+5) (J2 hn hw);apply θ;refine Out.kn (a.1++[w],v) (ζ (.int q.length)) ⟨by simp[h1],λz hz=>?_,d',g2,g3⟩ λkn kr=>?_
   ·rcases bv.mp hz with hz | hz
    ·exact h2 z hz
    ·rw[List.mem_singleton.mp hz];exact⟨ow,U hw.1 (by decide),hw.2⟩
   ·unfold vS;rw[q0b,aT,aJ,q0c,h3,dG,fP,
     show aE (rn (n+5) "_law_mixed") [(κ (Li s)),(aB .Add (ofP (aD .Add (.int fi) (.int 1))) (κ (.int q.length)))]=κ (.int (bI s (fi+1+q.length))) from gU (n+3) s (fi+1+q.length),
     show aE (rn (n+5) "_law_fitting") [κ (.int (bI s (fi+1+q.length))),κ dn,κ (NL N)]=κ (enc w) from e]
    show rb (ofP (if (a.1.map enc).length < aF then P.ok (PyData.list (a.1.map enc++[enc w])) else .no)) _=_;rw[if_pos (by rw[List.length_map,h1];have:aF=16777216:=rfl;exact Jm hK2 hqk this),aT,aJ,E4,show aE (rn (n+5) "_law_seen") [κ (enc w),κ dn]=.ok v from g1,aJ,show a.1.map enc++[enc w]=(a.1++[w]).map enc from by simp]) ⟨rfl,λw hw=>aZ hw,d,rfl,.inr hd⟩
 obtain⟨⟨ws,v⟩,o,⟨h1,h2,_⟩,e⟩ | ⟨_,hx,_⟩ | ⟨_,hv,_⟩:=L
 ·rw[jd,Ey] at h1;have h1:ws.length=K:=h1;refine(e _ _).symm▸?_;show IsV N 5 55 (t8 (n+5) (vS s fi d N ws v o none none) _ _);cases ws with
  |nil=>simp at h1;omega
  |cons w0 r =>
   have hl:r.length<=3:=by simp at h1;exact Jn hK2 h1
   unfold vS;rw[q0d,gU (n+3) s fi,show getItem (.list ((w0::r).map enc)) (.int 0)=.ok (.fz (enc w0)) from fQ (by decide) rfl,aT,aJ];refine bcs (((bI s fi).fdiv 4).fmod 2==0) (λhc=>?_) λhc=>?_
   ·try rewrite[hc]
    rw[show aC (aB .Mod (aB .FloorDiv (κ (.int (bI s fi))) (κ (.int 4))) (κ (.int 2))) .Eq (κ (.int 0))=κ (.bool false) from hc▸by kernel_rfl];refine hde λ_ θ=>?_;obtain⟨ini,la,hil⟩:∃ ini la,w0::r=ini++[la]:=⟨(w0::r).dropLast,(w0::r).getLast (by simp),(List.dropLast_concat_getLast (by simp)).symm⟩
    apply θ;rw[hil] at h2 ⊢;have hli:ini.length<=3:=by
     have:=congrArg List.length hil;rw[List.length_append,List.length_cons,List.length_singleton] at this;exact Jo hl this
    rw[bu,show[la].map enc=[enc la] from rfl,E4,
     show rvI (aR (.ok (.list (ini.map enc++[enc la]))) none (some (unS .USub (κ (.int 1)))))=.ok (slice (ini.map enc++[enc la]) none (some (-1))).reverse from rfl,q2x,<- List.map_reverse]
    obtain⟨p,e3⟩:=q2v (N:=N) (n+5) (s:=s) (f:=fi) (tr:=d) (ws:=ini++[la]) (v:=v) (k:=o) ini.reverse la none;rw[List.foldl_reverse] at e3;have i1:=q2t (h2 la (by simp)) λx hx=>h2 x (gg _ hx);refine⟨ini.foldr .andThen la,?_,i1.1.1,i1.1.2,U i1.2.1 (xT hli),U i1.2.2 (xX hli)⟩;have:=e3 (λσ=>t9 (n+5) σ (λ_=>κ .none) R.ok) R.ok;unfold vS at this;rw[bu,show[la].map enc=[enc la] from rfl] at this;refine Eq.trans this ?_;exact q0j ..
   ·try rewrite[hc]
    rw[show aC (aB .Mod (aB .FloorDiv (κ (.int (bI s fi))) (κ (.int 4))) (κ (.int 2))) .Eq (κ (.int 0))=κ (.bool true) from hc▸by kernel_rfl,
     show plI (aR (.ok (.list ((w0::r).map enc))) (some (κ (.int 1))) none)=.ok (slice ((w0::r).map enc) (some 1) none) from rfl,List.map_cons,q2w]
    obtain⟨p,e2⟩:=q2u (N:=N) (n+5) (s:=s) (f:=fi) (tr:=d) (ws:=w0::r) (v:=v) (k:=o) r w0 none;have i1:=q2s (ae 2) (h2 w0 (by simp)) λx hx=>h2 x (af _ hx);refine⟨r.foldl .andThen w0,?_,i1.1.1,i1.1.2,U i1.2.1 (xT hl),U i1.2.2 (xX hl)⟩;refine(e2 _ _).trans ?_;unfold vS;exact q0g ..
 ·exact hx.elim
 ·exact hv.elim
variable {N:List Str}{m:Nat}
inductive SftR(x:Str)(r:R V):Prop where
 |mk (l:Int) (h:l.natAbs < 10 ^ 30) (e:r=κ (enc (.sift x l))):SftR x r
theorem q2z(n:Nat)(c:Int)(x:Str):SftR x (rn (n+1) "_law_sifting" [.fz (.int c),.fz (.str x)]):=by
 rw[q0t,show aD .FloorDiv (.int c) (.int 4)=.ok (.fz (.int (c.fdiv 4))) from eF _ (by decide),show aD .Mod (.int c) (.int 4)=.ok (.fz (.int (c.fmod 4))) from dH _ (by decide)];simp only[aT,aJ,dG,dB];have r4:=aX c (n:=4) (by decide);have r2:=aX (c.fdiv 4) (n:=2001) (by decide);have r7:=aX (c.fdiv 4) (n:=7) (by decide);rw[show b9 [(aB .Sub (aB .Mod (.ok (.fz (.int (c.fdiv 4)))) (.ok (.fz (.int 2001)))) (κ (.int 1000))),(aB .Sub (aB .Sub (ofP (aD .Pow (.int 10) (.int 30))) (κ (.int 1))) (aB .Mod (κ (.int (c.fdiv 4))) (κ (.int 7)))),(aB .Add (aB .Sub (aB .Mod (κ (.int (c.fdiv 4))) (κ (.int 7))) (ofP (aD .Pow (.int 10) (.int 30)))) (.ok (.fz (.int 1)))),(.ok (.fz (.int 0)))]=.ok (.own (.list [.int ((c.fdiv 4).fmod 2001 - 1000),.int (10 ^ 30 - 1 - (c.fdiv 4).fmod 7),.int ((c.fdiv 4).fmod 7 - 10 ^ 30+1),.int 0])) from by kernel_rfl];rcases(show c.fmod 4=0\/c.fmod 4=1\/c.fmod 4=2\/c.fmod 4=3 by exact J3 r4) with h | h | h | h<;>rw[h]
 ·exact⟨(c.fdiv 4).fmod 2001 - 1000,by omega,rfl⟩
 ·exact⟨10 ^ 30 - 1 - (c.fdiv 4).fmod 7,by omega,rfl⟩
 ·exact⟨(c.fdiv 4).fmod 7 - 10 ^ 30+1,by omega,rfl⟩
 ·exact⟨0,by decide,rfl⟩
inductive FldR(N:List Str)(e:PyData->R V)(i:Int)(p:Nat):Prop where
 |mk (ys:List Str) (h:aN (λ_=>.ok true) e (cJ i p)=.ok (ys.map .str)) (l:ys.length=p) (g:∀ y∈ys,y∈N):FldR N e i p
theorem q20(H:Wld N)(q:Int):∀ (p:Nat) (i:Int),FldR N (λd=>aK (.ok (NL N)) (aB .Mod (aB .Add (κ (.int q)) (κ d)) (κ (.int 14)))) i p:=by
 intro p
 induction p with
 |zero=>exact λi=>⟨[],rfl,rfl,λy h=>aZ h⟩
 |succ p ih =>
  intro i;obtain⟨ys,e,l,h⟩:=ih (i+1);obtain⟨x,h1,h2,h3⟩:=dO H (i:=(q+i).fmod 14) (aX _ (by decide));refine⟨x::ys,?_,congrArg Nat.succ l,λy hy=>?_⟩
  ·show rb (ofP (getItem (NL N) (.int ((q+i).fmod 14)))) (λv=>rb (aN _ _ (cJ (i+1) p)) λxs=>.ok (dOf v::xs))=_;rw[h3,e];rfl
  ·rcases List.mem_cons.mp hy with rfl | hy
   ·exact h1
   ·exact h y hy
theorem q21(H:Wld N)(n:Nat)(c:Int){w:WW}(ho:okW N w)(hr:w.isRows=false){h:Nat}(hh:w.hgt<=h)(hg:w.nb<=g):IsV N (h+2) (g+4) (rn (n+2) "_law_wider" [.fz (enc w),.fz (.int c),.fz (NL N)]):=by
 rw[q0u];have at14:∀ (a:Int),∃ x,x∈N/\aK (.ok (NL N)) (aB .Mod (.ok (.fz (.int a))) (κ (.int 14)))=κ (.str x):=λa=>by
  refine hde λ_ θ=>?_;obtain⟨x,h1,h2,h3⟩:=dO H (i:=a.fmod 14) (aX _ (by decide));apply θ;exact⟨x,h1,congrArg ofP h3⟩
 have dv:∀ k:Int,k≠0/\k.natAbs < 2 ^ 63->aD .FloorDiv (.int c) (.int k)=.ok (.fz (.int (c.fdiv k))):=λk hk=>if_pos hk;rw[dv 8 (by decide),dv 7 (by decide),dv 112 (by decide),dv 9 (by decide),show aD .Mod (.int c) (.int 4)=.ok (.fz (.int (c.fmod 4))) from dH _ (by decide)];simp only[aT];refine hde λ_ θ=>?_;obtain⟨x7,m7,e7⟩:=at14 (c.fdiv 7);obtain⟨l,hl,el⟩:=q2z n (c.fdiv 8) x7;apply θ;rw[e7,show aE (rn (n+1) "_law_sifting") [.ok (.fz (.int (c.fdiv 8))),κ (.str x7)]=κ (enc (.sift x7 l)) from el,aJ];simp only[dG,dB,aT];have q:∀ p:Int,aC (.ok (.fz (.int (c.fmod 4)))) .Eq (κ (.int p))=κ (.bool (c.fmod 4==p)):=λp=>rfl;have os:okW N (.sift x7 l):=⟨m7,hl⟩
 refine IsV.ite (q 0) (λ_=>?_) λ_=>IsV.ite (q 1) (λ_=>?_) λ_=>IsV.ite (q 2) (λ_=>?_) λ_=>?_
 ·exact⟨.andThen w (.sift x7 l),rfl,⟨⟨ho,hr⟩,os,rfl⟩,rfl,by show max w.hgt 0+1<=h+2;exact J4 hh,by show w.nb+1+1<=g+4;exact J5 hg⟩
 ·exact⟨.each (.andThen (.sift x7 l) w),rfl,⟨⟨⟨os,rfl⟩,ho,hr⟩,rfl⟩,rfl,by show max 0 w.hgt+1+1<=h+2;exact J6 hh,by show 1+w.nb+1+1<=g+4;exact J7 hg⟩
 ·obtain⟨y1,a1,e1⟩:=at14 (c.fdiv 8);refine hde λ_ θ=>?_;obtain⟨p1,a2,e2⟩:=at14 (c.fdiv 112);obtain⟨y2,a3,e3⟩:=at14 (c.fdiv 8+1);obtain⟨p2,a4,e4⟩:=at14 (c.fdiv 112+3);apply θ;rw[e1,e2,show aB .Add (.ok (.fz (.int (c.fdiv 8)))) (κ (.int 1))=κ (.int (c.fdiv 8+1)) from rfl,e3,show aB .Add (κ (.int (c.fdiv 112))) (κ (.int 3))=κ (.int (c.fdiv 112+3)) from rfl,e4,vX,vX];exact⟨.beside (.bcons y1 p1 w (.bcons y2 p2 (.sift x7 l) .bnil)),rfl,⟨⟨⟨⟨a1,a2⟩,⟨ho,hr⟩,⟨⟨a3,a4⟩,⟨os,rfl⟩,trivial,rfl⟩,rfl⟩,rfl⟩,by show 2<=6;decide⟩,rfl,by show max w.hgt (max 0 0)+1<=h+2;exact J8 hh,by show w.nb+(1+0+1)+1+1<=g+4;exact J9 hg⟩
 ·obtain⟨a,a1,e1⟩:=at14 (c.fdiv 9);refine hde λ_ θ=>?_;obtain⟨b,a2,e2⟩:=at14 (c.fdiv 9+5);have r6:=aX (c.fdiv 112) (n:=6) (by decide);obtain⟨fs,e3,lf,gf⟩:=q20 H (c.fdiv 8) (1+(c.fdiv 112).fmod 6).toNat 0;apply θ;have lf6:1<=fs.length/\fs.length<=6:=by rw[lf];exact Ka r6
  have hrg:rgI (aB .Add (.ok (.fz (.int 1))) (aB .Mod (κ (.int (c.fdiv 112))) (κ (.int 6))))=.ok (cJ 0 (1+(c.fdiv 112).fmod 6).toNat):=by
   show ofP (if -4096<=1+(c.fdiv 112).fmod 6/\1+(c.fdiv 112).fmod 6<=4096 then P.ok (cJ 0 (1+(c.fdiv 112).fmod 6).toNat) else .no)=_;rw[if_pos (Js r6)];rfl
  rw[e1,show aB .Add (.ok (.fz (.int (c.fdiv 9)))) (κ (.int 5))=κ (.int (c.fdiv 9+5)) from rfl,e2,hrg,pY,e3];exact⟨.andThen (.join a b fs) w,rfl,⟨⟨⟨⟨a1,a2⟩,lf6,gf⟩,rfl⟩,ho,hr⟩,rfl,by show max 0 w.hgt+1<=h+2;exact Kb hh,by show 2+w.nb+1<=g+4;exact Kc hg⟩
noncomputable def sS(l:List Nat):Str:=⟨l.toArray⟩
theorem E5{a b:Str}(h:a.cps.toList=b.cps.toList):a=b:=by
 cases a;cases b;simp only[Str.mk.injEq];exact Array.toList_inj.mp h
theorem gV(x:Str):sS x.cps.toList=x:=E5 rfl
theorem qC{a b:List Nat}(h:sS a=sS b):a=b:=congrArg (λx:Str=>x.cps.toList) h
inductive It where
 |nil
 |word (s:List Nat) (r:It)
 |sub (h r:It)
noncomputable def tlI:It->List Nat
 | .nil=>[]
 | .word s r=>32::(s++tlI r)
 | .sub h r=>32::40::((tlI h).drop 1++41::tlI r)
def aG:It->List PyData
 | .nil=>[]
 | .word s r=>.str (sS s)::aG r
 | .sub h r=>.list (aG h)::aG r
noncomputable def dP:It->Bool
 | .nil=>true
 |_=>false
noncomputable def It.dep:It->Nat
 | .nil=>0
 | .word _ r=>r.dep
 | .sub h r=>max (h.dep+1) r.dep
noncomputable def okB(c:Nat):Bool:=!(c==32||(c==40||c==41))
structure okWd(s:List Nat):Prop where
 ne:s≠[]
 ch:∀ c∈s,okB c=true
def okI:It->Prop
 | .nil=>True
 | .word s r=>okWd s/\okI r
 | .sub h r=>dP h=false/\okI h/\okI r
inductive Im where
 |w (s:List Nat)
 |b (h:It)
noncomputable def Im.cons:Im->It->It
 | .w s,r=>.word s r
 | .b h,r=>.sub h r
def Im.dat:Im->PyData
 | .w s=>.str (sS s)
 | .b h=>.list (aG h)
noncomputable abbrev RD:=List Nat->Option (It×List Nat)
def rd1(rec:RD)(l:List Nat):Option (Im×List Nat) :=
 if l.head?=some 40 then (rec l.tail).bind λq=>if q.2.head?=some 41 then some (.b q.1,q.2.tail) else none
 else if (l.takeWhile okB).isEmpty=true then none else some (.w (l.takeWhile okB),l.dropWhile okB)
noncomputable def rdL(rec:RD)(l:List Nat):Option (It×List Nat):=if l.head?=some 32 then rec l.tail else some (.nil,l)
def rdS:Nat->RD
 |0,_=>none
 |k+1,l=>(rd1 (rdS k) l).bind λq=>(rdL (rdS k) q.2).map λy=>(q.1.cons y.1,y.2)
theorem wC(rec:RD)(r:List Nat):rd1 rec (40::r)=(rec r).bind λq=>if q.2.head?=some 41 then some (.b q.1,q.2.tail) else none:=if_pos rfl
theorem wE(rec:RD)(r:List Nat):rdL rec (32::r)=rec r:=if_pos rfl
theorem eZ{l:List Nat}{c:Nat}(h:l.head?=some c):l=c::l.tail:=by
 cases l with
 |nil=>exact ns h
 |cons x r=>rw[si h];rfl
theorem q22{r:List Nat}(hs:∀ c∈s,okB c=true)(hr:r.head?.all (λc=>!okB c)=true):(s++r).takeWhile okB=s/\(s++r).dropWhile okB=r:=by
 induction s with
 |nil =>
  cases r with
  |nil=>exact⟨rfl,rfl⟩
  |cons c r =>
   have:okB c=false:=by
    have h:(!okB c)=true:=hr;cases e:okB c with
    |false=>rfl
    |true=>rw[e] at h;exact bft h
   exact⟨by rw[jd,List.takeWhile_cons_of_neg (by rw[this];exact dj)],by rw[jd,List.dropWhile_cons_of_neg (by rw[this];exact dj)]⟩
 |cons c s ih =>
  obtain⟨h1,h2⟩:=ih λx hx=>hs x (af _ hx);have hc:=hs c ac;exact⟨by rw[List.cons_append,List.takeWhile_cons_of_pos hc,h1],by rw[List.cons_append,List.dropWhile_cons_of_pos hc,h2]⟩
theorem gW(hn:dP h=false):tlI h=32::(tlI h).drop 1:=by
 cases h with
 |nil=>exact btf hn
 |word=>rfl
 |sub=>rfl
theorem q23(h:It){r:List Nat}(hr:r.head?.all (λc=>!okB c)=true):(tlI h++r).head?.all (λc=>!okB c)=true:=by
 cases h with
 |nil=>exact hr
 |word=>rfl
 |sub=>rfl
structure Stp(r:List Nat):Prop where
 a:r.head?.all (λc=>!okB c)=true
 b:r.head?≠some 32
theorem q24:∀ {k:Nat} {r:List Nat},okI h->dP h=false->Stp r->((tlI h).drop 1++r).length < k->rdS k ((tlI h).drop 1++r)=some (h,r):=by
 induction h with
 |nil=>exact λ_ h=>btf h
 |word s r' ih =>
  intro k r ho _ hr hk;obtain⟨k,rfl⟩:∃ j,k=j+1:=⟨k - 1,by exact iX hk⟩
  have e:(tlI (.word s r')).drop 1++r=s++(tlI r'++r):=cv ..;obtain⟨t1,t2⟩:=q22 ho.1.ch (q23 r' hr.a);rw[e] at hk ⊢;have hne:=ho.1.ne;have e1:rd1 (rdS k) (s++(tlI r'++r))=some (.w s,tlI r'++r):=by
   unfold rd1;rw[if_neg,t1,t2,if_neg]
   ·rw[List.isEmpty_iff];exact hne
   ·cases s with
    |nil=>exact absurd rfl hne
    |cons c s=>exact λe=>by have:=ho.1.ch c ac;rw[si e] at this;exact bft this
  show(rd1 (rdS k) (s++(tlI r'++r))).bind _=_;rw[e1];show(rdL (rdS k) (tlI r'++r)).map _=_;cases hn:dP r' with
  |true =>
   cases r' with
   |nil =>
    unfold rdL;rw[if_neg (by exact hr.b)];rfl
   |_=>exact bft hn
  |false =>
   have hh:=gW hn;have hl:((tlI r').drop 1++r).length < k:=by
    have h1:=congrArg List.length hh;have h2:0 < s.length:=List.length_pos_iff.mpr hne;simp only[List.length_append,List.length_cons] at hk h1 ⊢;exact Kd h1 hk
   have:=ih ho.2 hn hr hl;rw[hh,List.cons_append,wE,this];rfl
 |sub h r' ih1 ih2 =>
  intro k r ho _ hr hk;obtain⟨k,rfl⟩:∃ j,k=j+1:=⟨k - 1,by exact iX hk⟩
  have e:(tlI (.sub h r')).drop 1++r=40::((tlI h).drop 1++41::(tlI r'++r)):=by
   show 40::(((tlI h).drop 1++41::tlI r')++r)=_;rw[cv];rfl
  rw[e] at hk ⊢;have i1:=ih1 (k:=k) (r:=41::(tlI r'++r)) ho.2.1 ho.1 ⟨rfl,by intro h;exact absurd (si h) (by decide)⟩ (by simp only[List.length_cons] at hk ⊢;exact xY hk);have e1:rd1 (rdS k) (40::((tlI h).drop 1++41::(tlI r'++r)))=some (.b h,tlI r'++r):=by
   rw[wC,i1];rfl
  show(rd1 (rdS k) (40::((tlI h).drop 1++41::(tlI r'++r)))).bind _=_;rw[e1];show(rdL (rdS k) (tlI r'++r)).map _=_;cases hn:dP r' with
  |true =>
   cases r' with
   |nil =>
    unfold rdL;rw[if_neg (by exact hr.b)];rfl
   |_=>exact bft hn
  |false =>
   have hh:=gW hn;have hl:((tlI r').drop 1++r).length < k:=by
    have h1:=congrArg List.length hh;simp only[List.length_append,List.length_cons] at hk h1 ⊢;exact Ke h1 hk
   have:=ih2 ho.2.2 hn hr hl;rw[hh,List.cons_append,wE,this];rfl
structure PsR(l:List Nat)(h:It)(r:List Nat):Prop where
 n:dP h=false
 o:okI h
 e:l=(tlI h).drop 1++r
theorem q25:∀ {k:Nat} {l r:List Nat} {h:It},rdS k l=some (h,r)->PsR l h r:=by
 intro k
 induction k with
 |zero=>exact λh=>ns h
 |succ k ih =>
  intro l r h e;obtain⟨q,e1,e2⟩:=im.mp e;obtain⟨y,e3,e4⟩:=bj.mp e2;have hL:okI y.1/\q.2=tlI y.1++y.2:=by
   unfold rdL at e3
   by_cases hc:q.2.head?=some 32
   ·rw[if_pos hc] at e3;obtain⟨a,b,c⟩:=ih (r:=y.2) (h:=y.1) e3;exact⟨b,by rw[eZ hc,c,gW a];rfl⟩
   ·rw[if_neg hc] at e3;obtain rfl:=si e3;exact⟨trivial,rfl⟩
  obtain⟨rfl,rfl⟩:=Prod.mk.inj e4;unfold rd1 at e1
  by_cases hc:l.head?=some 40
  ·rw[if_pos hc] at e1;obtain⟨z,f1,f2⟩:=im.mp e1
   by_cases hc2:z.2.head?=some 41
   ·rw[if_pos hc2] at f2;obtain⟨a,b,c⟩:=ih (r:=z.2) (h:=z.1) f1;obtain rfl:=si f2;refine⟨rfl,⟨a,b,hL.1⟩,?_⟩;rw[eZ hc,c,eZ hc2];show 40::((tlI z.1).drop 1++41::z.2.tail)=40::(((tlI z.1).drop 1++41::tlI y.1)++y.2);rw[show z.2.tail=tlI y.1++y.2 from hL.2,cv];rfl
   ·rw[if_neg hc2] at f2;exact ns f2
  ·rw[if_neg hc] at e1
   by_cases hc2:(l.takeWhile okB).isEmpty=true
   ·rw[if_pos hc2] at e1;exact ns e1
   ·rw[if_neg hc2] at e1;obtain rfl:=si e1;refine⟨rfl,⟨⟨λe=>hc2 (by rw[e];rfl),λc h=>bb.mp (List.all_takeWhile (p:=okB) (l:=l)) c h⟩,hL.1⟩,?_⟩;show l=(l.takeWhile okB++tlI y.1)++y.2;rw[cv,<- show l.dropWhile okB=tlI y.1++y.2 from hL.2,List.takeWhile_append_dropWhile]
theorem sz(l:List Nat):(sS l).cps.size=l.length:=cw
theorem gX(l:List Nat):(sS l).length=l.length:=sz l
theorem wF(n k:Nat):clipAt n (k:Int)=min k n:=by
 rcases gr k n with h | h
 ·simp only[mF (cm k) (cg.mpr h),Int.toNat_natCast,Nat.min_eq_left h]
 ·simp only[Ee (cm k) (cg.mpr h),Nat.min_eq_right h]
theorem q26(T:List α)(p m:Nat):slice T (some (p:Int)) (some ((p+m:Nat):Int))=(T.drop p).take m:=by
 unfold slice;show(T.drop (clipAt T.length (p:Int))).take (clipAt T.length ((p+m:Nat):Int) - clipAt T.length (p:Int))=_;rw[wF,wF];rcases gr p T.length with h | h
 ·rw[Nat.min_eq_left h];rcases gr (p+m) T.length with h' | h'
  ·rw[Nat.min_eq_left h',Nat.add_sub_cancel_left]
  ·rw[Nat.min_eq_right h',ic (by rw[List.length_drop];exact ae _),ic (by rw[List.length_drop];exact Nat.sub_le_iff_le_add'.mpr h')]
 ·rw[Nat.min_eq_right h,List.drop_length,List.drop_of_length_le h,List.take_nil,List.take_nil]
theorem E6(T:List Nat)(p m:Nat):aR (.ok (.str (sS T))) (some (κ (.int p))) (some (κ (.int (p+m:Nat))))=κ (.str (sS ((T.drop p).take m))):=by
 show R.ok (V.fz (.str ⟨(slice T (some (p:Int)) (some ((p+m:Nat):Int))).toArray⟩))=_;rw[q26];rfl
theorem qD(T:List Nat)(p:Nat):aR (.ok (.str (sS T))) (some (κ (.int p))) (some (ofP (aD .Add (.int p) (.int 1))))=κ (.str (sS ((T.drop p).take 1))):=E6 T p 1
theorem iP(l:List Nat)(c:Nat):(sS (l.take 1)==sS [c])=decide (l.head?=some c):=by
 cases l with
 |nil=>rw[show decide (([]:List Nat).head?=some c)=false from decide_eq_false λh=>ns h];rfl
 |cons x r =>
  by_cases h:x=c
  ·rw[h,decide_eq_true (show(c::r).head?=some c from rfl)];exact beq_self_eq_true (sS [c])
  ·rw[show decide ((x::r).head?=some c)=false from decide_eq_false λe=>h (si e)];exact beq_false_of_ne λe=>h (List.cons.inj (qC (show sS [x]=sS [c] from e))).1
theorem mI(a b:List Nat):aC (κ (.str (sS a))) .NotEq (κ (.str (sS b)))=κ (.bool (!(sS a==sS b))):=rfl
theorem qE(a b:List Nat):aC (κ (.str (sS a))) .Eq (κ (.str (sS b)))=κ (.bool (sS a==sS b)):=rfl
def iS(T:List Nat)(at_:Nat)(e it its:Option V):aA:=cG (ζ (.str (sS T))) (ζ (.int at_)) e it its
theorem mJ{c:Nat}(h:T.drop q=c::s):T[q]?=some c/\q < T.length/\T.drop (q+1)=s:=by
 have h1:T[q]?=some c:=by
  have:=congrArg (·[0]?) h;simpa[jm] using this
 obtain⟨hl,_⟩:=cr.mp h1;refine⟨h1,hl,?_⟩;rw[<- List.drop_drop,h];rfl
theorem E7(T:List Nat){c:Nat}(h:T[q]?=some c)(hq:q < T.length):aC (aK (.ok (.str (sS T))) (κ (.int q))) .NotIn (κ (.str (so " ()")))=κ (.bool (okB c)):=by
 have hg:getItem (.str (sS T)) (.int q)=.ok (.fz (bB c)):=by
  show(if 0<=(q:Int)/\(q:Int) < ((sS T).cps.size:Int) then frz ((sS T).cps[(q:Int).toNat]?.map bB) else .no)=_;rw[if_pos ⟨cm q,ci.mpr (by rw[show(sS T).cps.size=T.length from sz T];exact hq)⟩,Int.toNat_natCast,show(sS T).cps[q]?=some c from by rw[<- h];exact List.getElem?_toArray];rfl
 show rb (ofP (getItem (.str (sS T)) (.int q))) (λa=>aV (ofP (cI (Internal.contains (dOf a) (.str (so " ()"))))))=_;rw[hg];show R.ok (V.fz (.bool (!(Txt.contains (so " ()") ⟨#[c]⟩))))=_;rw[show Txt.contains (so " ()") ⟨#[c]⟩=decide (c∈[32,40,41]) from StrLaws.found_one _ c];refine congrArg (λb=>R.ok (V.fz (.bool (!b)))) ?_;rw[show decide (c∈[32,40,41])=[32,40,41].contains c from (List.elem_eq_mem c _).symm];show(c==32||(c==40||(c==41||false)))=(c==32||(c==40||c==41));rw[Bool.or_false]
theorem E8(T:List Nat)(q:Nat):aC (κ (.int q)) .Lt (ofP (aW (.str (sS T))))=κ (.bool (decide (q < T.length))):=by
 show R.ok (V.fz (.bool (decide ((q:Int) < ((sS T).cps.size:Int)))))=_;rw[show(sS T).cps.size=T.length from sz T];congr 3;exact decide_eq_decide.mpr ci
theorem q27(n:Nat){rest:List Nat}(p:Nat)(hr:rest.head?.all (λc=>!okB c)=true)(kn:KN)(kr:KR):∀ (s:List Nat) (k q:Nat),(∀ c∈s,okB c=true)->T.drop q=s++rest->s.length < k ->
  dE (iK n) (pE n) k (iS T p (ζ (.int q)) none none) kn kr=kn (iS T p (ζ (.int (q+s.length:Nat))) none none):=by
 intro s
 induction s with
 |nil =>
  intro k q _ hd hk;obtain⟨k,rfl⟩:∃ j,k=j+1:=⟨k - 1,(Nat.succ_pred_eq_of_pos hk).symm⟩
  show rb (iK n (iS T p (ζ (.int q)) none none)) _=_;unfold iS;rw[Da,show rdv (.fz (.int q))=.ok (.fz (.int q)) from rfl,aT,E8];cases rest with
  |nil=>rw[decide_eq_false (Nat.not_lt.mpr (List.drop_eq_nil_iff.mp hd))];rfl
  |cons c rest =>
   obtain⟨h1,h2,_⟩:=mJ hd;replace hr:(!okB c)=true:=hr;rw[decide_eq_true h2,E7 T h1 h2];cases hb:okB c with
   |true=>rw[hb] at hr;exact bft hr
   |false=>rfl
 |cons c s ih =>
  intro k q hs hd hk;obtain⟨k,rfl⟩:∃ j,k=j+1:=⟨k - 1,(Nat.succ_pred_eq_of_pos (aj (am _) hk)).symm⟩
  obtain⟨h1,h2,h3⟩:=mJ (s:=s++rest) hd;have hw:iK n (iS T p (ζ (.int q)) none none)=.ok true:=by
   unfold iS;rw[Da,show rdv (.fz (.int q))=.ok (.fz (.int q)) from rfl,aT,E8,decide_eq_true h2,E7 T h1 h2,hs c ac];rfl
  show rb (iK n (iS T p (ζ (.int q)) none none)) _=_;rw[hw,aJ,eD];have:=ih k (q+1) (λx hx=>hs x (af _ hx)) h3 (jj hk);unfold iS at this ⊢;rw[Yw];refine Eq.trans this ?_;rw[List.length_cons,show q+1+s.length=q+(s.length+1) from by rw[ei,aw 1]]
def BT:X:=⟨so "BadText", []⟩
inductive ItmR(n:Nat)(T:List Nat)(p:Nat):Option (Im×List Nat)->Prop where
 |bad (e:rn n "item_at" [.fz (.str (sS T)),.fz (.int p)]=.exc BT):ItmR n T p none
 |ok (x:Im) (r:List Nat) (q:Nat) (v:V) (e:rn n "item_at" [.fz (.str (sS T)),.fz (.int p)]=.ok v) (hv:dOf v=.tuple [x.dat,.int q]) (hd:T.drop q=r) (hq:q+r.length=T.length) (hp:p < q):ItmR n T p (some (x,r))
inductive LopR(n k:Nat)(T:List Nat)(q:Nat)(L:List PyData)(w4:V):Option (It×List Nat)->Prop where
 |bad (e:∀ kn kr,dE (dU n) (f0 n) k (iS T q none (some w4) (some (.own (.list L)))) kn kr=.exc BT):LopR n k T q L w4 none
 |ok (h:It) (r:List Nat) (q':Nat) (w:V) (e:∀ kn kr,dE (dU n) (f0 n) k (iS T q none (some w4) (some (.own (.list L)))) kn kr=kn (iS T q' none (some w) (some (.own (.list (L++aG h)))))) (hd:T.drop q'=r) (hq:q'+r.length=T.length) (hp:q<=q'):LopR n k T q L w4 (some (h,r))
theorem wG(n:Nat)(q:Nat)(w4 w5:V):dU n (iS T q none (some w4) (some w5))=.ok (decide ((T.drop q).head?=some 32)):=by
 unfold iS;rw[Y0];show tst (aC (aR (.ok (.str (sS T))) (some (κ (.int q))) (some (ofP (aD .Add (.int q) (.int 1))))) .Eq (κ (.str (sS [32]))))=_;rw[qD,qE,iP];rfl
structure ItmS(k:Nat):Prop where
 a:∀ {n:Nat} {T:List Nat} {p:Nat},(T.drop p).length<=k->p<=T.length->T.length < bX->(T.drop p).count 40 < n->ItmR n T p (rd1 (rdS k) (T.drop p))
 b:∀ {n f:Nat} {T:List Nat} {q:Nat} {L:List PyData} {w4:V},(T.drop q).length<=k->q<=T.length->T.length < bX->(T.drop q).count 40 < n->(T.drop q).length < f->L.length+(T.drop q).length < aF->LopR n f T q L w4 (rdL (rdS k) (T.drop q))
theorem E9{n:Nat}(hp:p<=T.length)(hT:T.length < bX)(h:¬ (T.drop p).head?=some 40):ItmR (n+1) T p (if ((T.drop p).takeWhile okB).isEmpty=true then none else some (.w ((T.drop p).takeWhile okB),(T.drop p).dropWhile okB)):=by
 have hs:(T.drop p).takeWhile okB++(T.drop p).dropWhile okB=T.drop p:=List.takeWhile_append_dropWhile;have hok:∀ c∈(T.drop p).takeWhile okB,okB c=true:=λc h=>bb.mp (List.all_takeWhile (p:=okB) (l:=T.drop p)) c h;have hst:((T.drop p).dropWhile okB).head?.all (λc=>!okB c)=true:=by
  refine ocs ((T.drop p).dropWhile okB).head? (λe=>by rw[e];rfl) λc e=>?_;rw[e];have:=List.head?_dropWhile_not okB (T.drop p);rw[e] at this;show(!okB c)=true;rw[Bool.not_eq_true'];exact this
 generalize (T.drop p).takeWhile okB=s at hs hok ⊢;generalize (T.drop p).dropWhile okB=r at hs hst ⊢;have hlen:p+(s.length+r.length)=T.length:=by
  have:=congrArg List.length hs;rw[List.length_append,List.length_drop] at this;exact Kf hp this
 have e0:rn (n+1) "item_at" [.fz (.str (sS T)),.fz (.int p)]=ifS (κ (.bool ((p+s.length:Nat)==(p:Int)))) (.exc BT) (rb (aO [κ (.str (sS ((T.drop p).take s.length))),κ (.int (p+s.length:Nat))]) R.ok):=by
  rw[C9,qD,show so "(" = sS [40] from rfl,mI,iP,decide_eq_false h];show dE (iK n) (pE n) bX (iS T p (ζ (.int p)) none none) _ _=_;rw[q27 n p hst _ _ s bX p hok hs.symm (Kg hT hlen)];unfold iS;rw[Yx];show ifS (κ (.bool ((p+s.length:Nat)==(p:Int)))) _ (rb (aO [aR (.ok (.str (sS T))) (some (κ (.int p))) (some (κ (.int (p+s.length:Nat)))),κ (.int (p+s.length:Nat))]) R.ok)=_;rw[E6];rfl
 cases hse:s with
 |nil =>
  rw[if_pos (show([]:List Nat).isEmpty=true from rfl)];refine .bad (e0.trans ?_);rw[hse,show(((p+([]:List Nat).length:Nat):Int)==(p:Int))=true from beq_self_eq_true _];rfl
 |cons c s' =>
  rw[if_neg (show ¬ (c::s').isEmpty=true from dj)];rw[<- hse];refine .ok (.w s) r (p+s.length) (.fz (.tuple [.str (sS s),.int (p+s.length:Nat)])) (e0.trans ?_) rfl ?_ (Kh hlen) (by rw[hse,List.length_cons];exact Ki)
  ·rw[show(((p+s.length:Nat):Int)==(p:Int))=false from beq_false_of_ne λe=>by rw[hse,List.length_cons] at e;omega,<- hs,List.take_left];rfl
  ·rw[<- List.drop_drop,<- hs,List.drop_left]
theorem wH(h:p<=q):(T.drop q).count 40<=(T.drop p).count 40:=by
 obtain⟨d,rfl⟩:=Nat.le.dest h;rw[<- List.drop_drop];exact(List.drop_sublist _ _).count_le _
theorem Fa:∀ k,ItmS k:=by
 intro k
 induction k with
 |zero =>
  refine⟨λ{n T p} h hp hT hn=>?_,λ{n f T q L w4} h hp hT hn hf hL=>?_⟩
  ·obtain⟨n,rfl⟩:∃ j,n=j+1:=⟨n - 1,by exact iX hn⟩
   have e:T.drop p=[]:=co.mp (Nat.le_zero.mp h);have:=E9 (n:=n) hp hT (by rw[e];exact λh=>ns h);rw[e] at this ⊢;exact this
  ·obtain⟨f,rfl⟩:∃ j,f=j+1:=⟨f - 1,by exact iX hf⟩
   have e:T.drop q=[]:=co.mp (Nat.le_zero.mp h);rw[e];refine .ok .nil [] q w4 (λkn kr=>?_) e (by rw[List.drop_eq_nil_iff] at e;show q=T.length;exact Kj hp e) (ae _);show rb (dU n _) _=_;rw[wG,e,show decide (([]:List Nat).head?=some 32)=false from rfl];show kn _=kn _;rw[show L++aG .nil=L from bz L]
 |succ k ih =>
  have B:∀ {n f:Nat} {T:List Nat} {q:Nat} {L:List PyData} {w4:V},(T.drop q).length<=k+1->q<=T.length->T.length < bX->(T.drop q).count 40 < n->(T.drop q).length < f->L.length+(T.drop q).length < aF->LopR n f T q L w4 (rdL (rdS (k+1)) (T.drop q)):=by
   intro n f T q L w4 h hp hT hn hf hL;obtain⟨f,rfl⟩:∃ j,f=j+1:=⟨f - 1,by exact iX hf⟩
   by_cases hc:(T.drop q).head?=some 32
   ·have ht:=eZ hc;obtain⟨_,hlt,h3⟩:=mJ ht;have hl3:(T.drop (q+1)).length+1=(T.drop q).length:=by rw[List.length_drop,List.length_drop];exact xZ hlt
    have I:=ih.a (n:=n) (T:=T) (p:=q+1) (yA h hl3) hlt hT (aj (wH (au q)) hn);rw[ht,wE,<- h3];show LopR n (f+1) T q L w4 ((rd1 (rdS k) (T.drop (q+1))).bind λq=>(rdL (rdS k) q.2).map λy=>(q.1.cons y.1,y.2));have hw:∀ w5:V,dU n (iS T q none (some w4) (some w5))=.ok true:=λw5=>by rw[wG,hc];rfl
    have eb:∀ kn kr,dE (dU n) (f0 n) (f+1) (iS T q none (some w4) (some (.own (.list L)))) kn kr=rb (rn n "item_at" [.fz (.str (sS T)),.fz (.int (q+1:Nat))]) λv1=>rb (ofP (bA tP (dOf v1) (cG (ζ (.str (sS T))) (ζ (.int q)) none (some w4) (some (.own (.list L)))))) λσ=>tQ n σ (λσ=>dE (dU n) (f0 n) f σ kn kr) kr:=λkn kr=>by
     show rb (dU n _) _=_;rw[hw,aJ,eD];unfold iS;rw[Y6];rfl
    generalize rd1 (rdS k) (T.drop (q+1))=o at I;cases I with
    |bad e=>exact .bad λkn kr=>(eb kn kr).trans (by rw[e];rfl)
    |ok x r q' v e hv hd hq hp' =>
     have es:∀ kn kr,dE (dU n) (f0 n) (f+1) (iS T q none (some w4) (some (.own (.list L)))) kn kr=dE (dU n) (f0 n) f (iS T q' none (ζ x.dat) (some (.own (.list (L++[x.dat]))))) kn kr:=λkn kr=>by
      rw[eb,e,aJ,hv,Y8,aT,aJ,Y9];show(if jE (so "append") (.list L)=true then rb (ofP (if L.length < aF then P.ok (PyData.list (L++[x.dat])) else .no)) _ else .no)=_;rw[show jE (so "append") (.list L)=true from by kernel_rfl,if_pos rfl,if_pos (Kk hL)];rfl
     have hl':(T.drop q').length=r.length:=by rw[hd]
     have J:=ih.b (n:=n) (f:=f) (T:=T) (q:=q') (L:=L++[x.dat]) (w4:=.fz x.dat) (by rw[hl'];rw[List.length_drop] at h;exact yB h hq hp') (yC hq) hT (aj (wH (Kl hp')) hn) (by rw[hl'];rw[List.length_drop] at hf;exact Km hf hq hp') (by rw[hl',List.length_append,List.length_singleton];rw[List.length_drop] at hL;exact Kn hL hq hp');rw[hd] at J;show LopR n (f+1) T q L w4 ((rdL (rdS k) r).map λy=>(x.cons y.1,y.2));generalize rdL (rdS k) r=o at J;cases J with
     |bad e'=>exact .bad λkn kr=>(es kn kr).trans (e' kn kr)
     |ok h r' q'' w e' hd' hq' hp'' =>
      refine .ok (x.cons h) r' q'' w (λkn kr=>(es kn kr).trans ((e' kn kr).trans ?_)) hd' hq' (Ko hp' hp'');rw[cv,show[x.dat]++aG h=aG (x.cons h) from by cases x<;>rfl]
   ·unfold rdL;rw[if_neg hc];refine .ok .nil _ q w4 (λkn kr=>?_) rfl (by rw[List.length_drop];exact Kq hp) (ae _);show rb (dU n _) _=_;rw[wG,decide_eq_false hc];show kn _=kn _;rw[show L++aG .nil=L from bz L]
  refine⟨λ{n T p} h hp hT hn=>?_,B⟩;obtain⟨n,rfl⟩:∃ j,n=j+1:=⟨n - 1,by exact iX hn⟩
  by_cases hc:(T.drop p).head?=some 40
  ·have ht:=eZ hc;obtain⟨_,hlt,h3⟩:=mJ ht;have hl3:(T.drop (p+1)).length+1=(T.drop p).length:=by rw[List.length_drop,List.length_drop];exact xZ hlt
   have hcnt:(T.drop (p+1)).count 40 < n:=by
    rw[ht,fb] at hn;rw[h3];exact xY hn
   have I:=ih.a (n:=n) (T:=T) (p:=p+1) (yA h hl3) hlt hT hcnt;have e0:rn (n+1) "item_at" [.fz (.str (sS T)),.fz (.int p)]=rb (rn n "item_at" [.fz (.str (sS T)),.fz (.int (p+1:Nat))]) λv1=>rb (ofP (bA tM (dOf v1) (cG (ζ (.str (sS T))) (ζ (.int p)) none none none))) λσ=>tN n σ (λ_=>κ .none) R.ok:=by
    rw[C9,qD,show so "(" = sS [40] from rfl,mI,iP,decide_eq_true hc];rfl
   rw[ht,wC,<- h3];show ItmR (n+1) T p (((rd1 (rdS k) (T.drop (p+1))).bind λq=>(rdL (rdS k) q.2).map λy=>(q.1.cons y.1,y.2)).bind λq=>if q.2.head?=some 41 then some (.b q.1,q.2.tail) else none);generalize rd1 (rdS k) (T.drop (p+1))=o at I;cases I with
   |bad e=>exact .bad (e0.trans (by rw[e];rfl))
   |ok x r q v e hv hd hq hp' =>
    have hl':(T.drop q).length=r.length:=by rw[hd]
    have J:=ih.b (n:=n) (f:=bX) (T:=T) (q:=q) (L:=[x.dat]) (w4:=.fz x.dat) (by rw[hl'];rw[List.length_drop] at h;exact yB h hq hp') (yC hq) hT (aj (wH (Kr hp')) hcnt) (by rw[hl'];exact Ks hT hq) (by rw[hl',List.length_singleton];exact Kt hT hq rfl rfl);rw[hd] at J;have e1:rn (n+1) "item_at" [.fz (.str (sS T)),.fz (.int p)]=dE (dU n) (f0 n) bX (iS T q none (ζ x.dat) (some (.own (.list [x.dat])))) (λσ=>tO n σ (λ_=>κ .none) R.ok) R.ok:=by
     rw[e0,e,aJ,hv,Yy,aT,aJ,Yz];rfl
    show ItmR (n+1) T p (((rdL (rdS k) r).map λy=>(x.cons y.1,y.2)).bind λq=>if q.2.head?=some 41 then some (.b q.1,q.2.tail) else none);generalize rdL (rdS k) r=o at J;cases J with
    |bad e'=>exact .bad (e1.trans (e' _ _))
    |ok h r' q' w e' hd' hq' hp'' =>
     have hx:[x.dat]++aG h=aG (x.cons h):=by cases x<;>rfl
     have e2:rn (n+1) "item_at" [.fz (.str (sS T)),.fz (.int p)]=ifS (κ (.bool (!decide (r'.head?=some 41)))) (.exc BT) (κ (.tuple [.list (aG (x.cons h)),.int (q'+1:Nat)])):=by
      rw[e1,e',hx];unfold iS;rw[Y7];show ifS (aC (aR (.ok (.str (sS T))) (some (κ (.int q'))) (some (ofP (aD .Add (.int q') (.int 1))))) .NotEq (κ (.str (sS [41])))) _ _=_;rw[qD,mI,iP,hd'];rfl
     show ItmR (n+1) T p (if r'.head?=some 41 then some (.b (x.cons h),r'.tail) else none)
     by_cases hc2:r'.head?=some 41
     ·rw[if_pos hc2];rw[decide_eq_true hc2] at e2;rw[eZ hc2] at hd' hq';refine .ok (.b (x.cons h)) r'.tail (q'+1) _ e2 rfl (mJ hd').2.2 (by rw[List.length_cons] at hq';exact kC hq') (Ku hp' hp'')
     ·rw[if_neg hc2];rw[decide_eq_false hc2] at e2;exact .bad e2
  ·unfold rd1;rw[if_neg hc];exact E9 hp hT hc
noncomputable def W.names:W->List Str
 | .bcons n _ _ r=>n::r.names
 |_=>[]
noncomputable def W.parts:W->List Str
 | .bcons _ p _ r=>p::r.parts
 |_=>[]
def gd:WW->Prop
 | .pick n=>okN n
 | .call a b=>(okN a/\okN b)/\a≠b
 | .sift f l=>okN f/\l.natAbs < 10 ^ 30
 | .join a b fs=>((okN a/\okN b)/\a≠b)/\(1<=fs.length/\fs.length<=6)/\fs.Nodup/\∀ f∈fs,okN f
 | .each v=>gd v/\v.isRows=false
 | .andThen a b=>(gd a/\a.isRows=false)/\gd b/\b.isRows=false
 | .beside r=>(gd r/\r.isRows=true)/\(1<=(aS r).length/\(aS r).length<=6)/\r.names.Nodup/\r.parts.Nodup
 | .bcons n p v r=>(okN n/\okN p)/\(gd v/\v.isRows=false)/\gd r/\r.isRows=true
 |_=>True
theorem gd.ok:∀ {w:WW},gd w->okP okN w:=by
 intro w
 induction w with
 |pick n=>exact λk=>k
 |call a b=>exact λk=>k.1
 |sift f l=>exact λk=>k
 |join a b fs=>exact λk=>⟨k.1.1,k.2.1,k.2.2.2⟩
 |each v ih=>exact λk=>⟨ih k.1,k.2⟩
 |andThen a b iha ihb=>exact λk=>⟨⟨iha k.1.1,k.1.2⟩,ihb k.2.1,k.2.2⟩
 |beside r ih=>exact λk=>⟨⟨ih k.1.1,k.1.2⟩,k.2.1.2⟩
 |bcons n p v r ihv ihr=>exact λk=>⟨k.1,⟨ihv k.2.1.1,k.2.1.2⟩,ihr k.2.2.1,k.2.2.2⟩
 |_=>exact λ_=>trivial
theorem q28(l:List Str):(bO l).length<=l.length:=by
 induction l with
 |nil=>exact ae _
 |cons a r ih =>
  show(if r.contains a then bO r else a::bO r).length<=r.length+1;cases r.contains a with
  |true=>exact bn ih
  |false=>exact ah ih
theorem q29(l:List Str):(bO l).length=l.length↔l.Nodup:=by
 induction l with
 |nil=>exact⟨λ_=>ec,λ_=>rfl⟩
 |cons a r ih =>
  show(if r.contains a then bO r else a::bO r).length=r.length+1↔_;rw[bo];refine bcs (r.contains a) (λh=>?_) λh=>?_
  ·rw[h];show(bO r).length+1=r.length+1↔_;rw[Nat.succ_inj,ih];exact⟨λx=>⟨λhm=>by rw[List.contains_iff_mem.mpr hm] at h;exact btf h,x⟩,λx=>x.2⟩
  ·rw[h];show(bO r).length=r.length+1↔_;have:=q28 r;exact⟨λx=>by omega,λx=>absurd (List.contains_iff_mem.mp h) x.1⟩
theorem gY{l:List Str}(hd:d=.tuple (l.map .str)\/d=.list (l.map .str))(hl:l.length < 64)(k:Nat)(hk:k=l.length):aC (aL dD (κ d)) .Eq (κ (.int k))=κ (.bool (decide l.Nodup)):=by
 have e:dD d=.ok (.fz (.int (bO l.reverse).length)):=by
  have:(ofO (strs? (l.map .str))).bind (λss=>if ss.length < 64 then fz (.int (bO ss.reverse).length) else .no)=.ok (.fz (.int (bO l.reverse).length)):=by rw[jT,f9,f8,if_pos hl];rfl
  rcases hd with rfl | rfl<;>exact this
 show rb (ofP (dD d)) (λa=>aV (ofP (cmp .Eq (dOf a) (.int k))))=_;rw[e];show R.ok (V.fz (.bool (((bO l.reverse).length:Int)==(k:Int))))=_;refine congrArg (λb=>R.ok (V.fz (.bool b))) ?_;rw[eq,beq_iff_eq,decide_eq_true_iff,ip,hk,<- List.length_reverse (as:=l),q29];exact⟨λh=>by simpa[List.Nodup,List.pairwise_reverse,ne_comm] using h,λh=>by simpa[List.Nodup,List.pairwise_reverse,ne_comm] using h⟩
theorem qF(j:Nat)(k:Nat):aC (κ (.int j)) .Eq (κ (.int k))=κ (.bool (decide (j=k))):=by
 show R.ok (V.fz (.bool ((j:Int)==(k:Int))))=_;refine congrArg (λb=>R.ok (V.fz (.bool b))) ?_;rw[eq,beq_iff_eq,decide_eq_true_iff,ip]
theorem BoR.and{P:Prop}(ha:BoR a P)(hb:P->BoR b Q):BoR (aI a b) (P/\Q):=by
 obtain⟨x,e,h⟩:=ha;cases x with
 |false=>exact⟨false,by rw[e];rfl,λh=>bft h⟩
 |true =>
  obtain⟨y,e',h'⟩:=hb (h rfl);exact⟨y,by rw[e];exact e',λk=>⟨h rfl,h' k⟩⟩
theorem BoR.rb{P:Prop}(h:BoR a P):BoR (Internal.rb a R.ok) P:=by
 obtain⟨b,e,h⟩:=h;exact⟨b,by rw[e];rfl,h⟩
theorem BoR.imp{P:Prop}(h:BoR a P)(f:P->Q):BoR a Q:=by
 obtain⟨b,e,h⟩:=h;exact⟨b,e,λk=>f (h k)⟩
theorem BoR.dec(b:Bool){P:Prop}(h:b=true->P):BoR (κ (.bool b)) P:=⟨b,rfl,h⟩
theorem BoR.ff{P:Prop}:BoR (κ (.bool false)) P:=⟨false,rfl,λh=>bft h⟩
theorem BoR.iff{P:Prop}(hc:BoR c P)(ha:BoR a Q)(hb:BoR b Q):BoR (ifS c a b) Q:=by
 obtain⟨x,e,_⟩:=hc;rw[e];cases x with
 |false=>exact hb
 |true=>exact ha
theorem Fb{Q:PyData->Prop}(h:∀ d∈l,BoR (e d) (Q d)):BoR (aL b7 (aM (.ok l) (λ_=>.ok true) e)) (∀ d∈l,Q d):=by
 have key:∃ bs:List Bool,aN (λ_=>.ok true) e l=.ok (bs.map .bool)/\(bs.all id=true->∀ d∈l,Q d):=by
  induction l with
  |nil=>exact⟨[],rfl,λ_ d hd=>aZ hd⟩
  |cons d r ih =>
   obtain⟨bs,e1,h1⟩:=ih λx hx=>h x (af _ hx);obtain⟨b,e2,h2⟩:=h d ac;refine⟨b::bs,?_,λhb x hx=>?_⟩
   ·show Internal.rb (e d) (λv=>Internal.rb (aN _ e r) λxs=>.ok (dOf v::xs))=_;rw[e2,e1];rfl
   ·obtain⟨k1,k2⟩:=ax.mp (show(b&&bs.all id)=true from hb);rcases List.mem_cons.mp hx with rfl | hx
    ·exact h2 k1
    ·exact h1 k2 x hx
 obtain⟨bs,e1,h1⟩:=key;refine⟨bs.all id,?_,h1⟩;show Internal.rb (Internal.rb (aN _ e l) λr=>ofP (own (.list r))) (λv=>ofP (b7 (dOf v)))=_;rw[e1];show ofP (b7 (.list (bs.map .bool)))=_;rw[vE];rfl
theorem Fc(n:Nat)(a b:PyData):BoR (rn (n+2) "are_two_names" [.fz a,.fz b]) (∃ x y,a=.str x/\b=.str y/\(okN x/\okN y)/\x≠y):=by
 rw[C5,gS,gS];refine(BoR.imp (BoR.and (BoR.dec (isN a) id) λha=>BoR.and (P:=isN b=true) (Q:=∃ x y,a=.str x/\b=.str y/\(okN x/\okN y)/\x≠y) (BoR.dec (isN b) id) λhb=>?_) λk=>k.2.2).rb;obtain⟨x,rfl,hx⟩:=eL ha;obtain⟨y,rfl,hy⟩:=eL hb;exact BoR.dec (!(x==y)) λh=>⟨x,y,rfl,rfl,⟨hx,hy⟩,λe=>by rw[e,beq_self_eq_true] at h;exact bft h⟩
theorem q3a(n:Nat)(d:PyData):BoR (rn (n+2) "is_least" [.fz d]) (∃ l:Int,d=.int l/\l.natAbs < 10 ^ 30):=by
 rw[C6,C0];cases d with
 |int l =>
  refine BoR.dec (decide ((if l < 0 then -l else l) < (10 ^ 30:Int))) λh=>⟨l,rfl,?_⟩
  have h:=of_decide_eq_true h
  split at h<;>omega
 |_=>exact BoR.ff
theorem Fd(h:∀ d∈l,isN d=true):∃ fs:List Str,l=fs.map .str/\∀ f∈fs,okN f:=by
 induction l with
 |nil=>exact⟨[],rfl,λf h=>aZ h⟩
 |cons d r ih =>
  obtain⟨fs,rfl,h1⟩:=ih λx hx=>h x (af _ hx);obtain⟨x,rfl,hx⟩:=eL (h d ac);refine⟨x::fs,rfl,λf hf=>?_⟩;rcases List.mem_cons.mp hf with rfl | hf
  ·exact hx
  ·exact h1 f hf
theorem wI(k b:Nat):BoR (b8 (κ (.int 1)) .LtE (κ (.int k)) .LtE (κ (.int b))) (1<=k/\k<=b):=by
 rw[gR];exact BoR.dec _ λh=>by obtain⟨h1,h2⟩:=ax.mp h;exact⟨of_decide_eq_true h1,of_decide_eq_true h2⟩
theorem BoR.nif{P:Prop}(hc:BoR c P)(ha:BoR a Q)(hb:P->BoR b Q):BoR (ifS (unS .Not c) a b) Q:=by
 obtain⟨x,e,h⟩:=hc;rw[e];cases x with
 |false=>exact ha
 |true=>exact hb (h rfl)
theorem q3b(n:Nat)(d:PyData):BoR (rn (n+2) "are_fields" [.fz d]) (∃ fs:List Str,d=.tuple (fs.map .str)/\(1<=fs.length/\fs.length<=6)/\fs.Nodup/\∀ f∈fs,okN f):=by
 rw[C4];cases d with
 |tuple l =>
  show BoR (ifS (unS .Not (b8 (κ (.int 1)) .LtE (κ (.int l.length)) .LtE (κ (.int (6:Nat))))) _ _) _;refine BoR.nif (wI l.length 6) BoR.ff λhl=>BoR.rb (BoR.imp (BoR.and (Q:=∃ fs:List Str,PyData.tuple l=.tuple (fs.map .str)/\(1<=fs.length/\fs.length<=6)/\fs.Nodup/\∀ f∈fs,okN f) (Fb (l:=l) (Q:=λd=>isN d=true) λd _=>by rw[gS];exact BoR.dec _ id) λh=>?_) λk=>k.2);obtain⟨fs,rfl,hf⟩:=Fd h;rw[List.length_map] at hl;rw[show ofP (aW (.tuple (fs.map .str)))=κ (.int ((fs.map PyData.str).length:Nat)) from rfl,gY (.inl rfl) (yD hl) _ (by rw[List.length_map])];exact BoR.dec _ λh=>⟨fs,rfl,hl,of_decide_eq_true h,hf⟩
 |_=>exact BoR.ff
inductive Dp:Nat->PyData->Prop where
 |any {m:Nat} {d:PyData} (h:cC d=false):Dp m d
 |tup {m:Nat} {l:List PyData} (h:∀ x∈l,Dp m x):Dp (m+1) (.tuple l)
theorem Dp.mono{m':Nat}(x:Dp m d):m<=m'->Dp m' d:=by
 induction x generalizing m' with
 |any h=>exact λ_=>.any h
 |tup h ih =>
  intro k;cases m' with
  |zero=>exact absurd k (Nat.not_succ_le_zero _)
  |succ m'=>exact .tup λx hx=>ih x hx (be k)
theorem Dp.inv(x:Dp m (.tuple l)):∃ k,m=k+1/\∀ y∈l,Dp k y:=by
 cases x with
 |any h=>exact btf h
 |tup h=>exact⟨_,rfl,h⟩
theorem iQ{l:List α}(h:l.length=2):∃ a b,l=[a,b]:=by
 cases l with
 |nil=>cases h
 |cons a l =>
  obtain⟨b,rfl⟩:=gi.mp (Nat.succ.inj h);exact⟨a,b,rfl⟩
theorem mK{l:List α}(h:l.length=3):∃ a b c,l=[a,b,c]:=by
 cases l with
 |nil=>cases h
 |cons a l =>
  obtain⟨b,c,rfl⟩:=iQ (Nat.succ.inj h);exact⟨a,b,c,rfl⟩
def VQ(d:PyData):Prop:=∃ w,(gd w/\w.isRows=false)/\d=enc w
def RQ(d:PyData):Prop:=∃ n p v,d=.tuple [.str n,.str p,enc v]/\(okN n/\okN p)/\gd v/\v.isRows=false
theorem q3c{rs:List PyData}(h:∀ d∈rs,RQ d):∃ r:WW,(gd r/\r.isRows=true)/\rs=aS r:=by
 induction rs with
 |nil=>exact⟨.bnil,⟨trivial,rfl⟩,rfl⟩
 |cons d rs ih =>
  obtain⟨r,h1,rfl⟩:=ih λx hx=>h x (af _ hx);obtain⟨n,p,v,rfl,h2,h3⟩:=h d ac;exact⟨.bcons n p v r,⟨⟨h2,h3,h1⟩,rfl⟩,rfl⟩
structure RowN(r:WW):Prop where
 a:aN (λ_=>.ok true) (λd=>ofP (getItem d (.int 0))) (aS r)=.ok (r.names.map .str)
 b:aN (λ_=>.ok true) (λd=>ofP (getItem d (.int 1))) (aS r)=.ok (r.parts.map .str)
 c:r.names.length=(aS r).length
 d:r.parts.length=(aS r).length
theorem qG:∀ {r:WW},r.isRows=true->gd r->RowN r:=by
 intro r
 induction r with
 |bnil=>exact λ_ _=>⟨rfl,rfl,rfl,rfl⟩
 |bcons n p v r ihv ihr =>
  intro _ h;obtain⟨i1,i2,i3,i4⟩:=ihr h.2.2.2 h.2.2.1;refine⟨?_,?_,congrArg Nat.succ i3,congrArg Nat.succ i4⟩
  ·show rb (aN (λ_=>.ok true) (λd=>ofP (getItem d (.int 0))) (aS r)) (λxs=>.ok (.str n::xs))=_;rw[i1];rfl
  ·show rb (aN (λ_=>.ok true) (λd=>ofP (getItem d (.int 1))) (aS r)) (λxs=>.ok (.str p::xs))=_;rw[i2];rfl
 |_=>exact λh=>bft h
theorem q3d(n:Nat)(d:PyData)(ih:∀ a b c,d=.tuple [a,b,c]->BoR (rn (n+1) "is_view" [.fz c]) (VQ c)):BoR (rn (n+2) "is_row" [.fz d]) (RQ d):=by
 rw[C1];cases d with
 |tuple l =>
  show BoR (ifS (R.ok (V.fz (.bool (!((l.length:Int)==(3:Nat)))))) _ _) _;rw[show((l.length:Int)==((3:Nat):Int))=decide (l.length=3) from by rw[eq,beq_iff_eq,decide_eq_true_iff,ip]]
  by_cases hl:l.length=3
  ·rw[decide_eq_true hl];obtain⟨a,b,c,rfl⟩:=mK hl;show BoR (rb (aI (rn (n+1) "is_name" [.fz a]) (aI (rn (n+1) "is_name" [.fz b]) (rn (n+1) "is_view" [.fz c]))) R.ok) _;rw[gS,gS];refine BoR.rb (BoR.imp (BoR.and (BoR.dec (isN a) id) λha=>BoR.and (BoR.dec (isN b) id) λhb=>ih a b c rfl) λk=>?_);obtain⟨k1,k2,w,k3,rfl⟩:=k;obtain⟨x,rfl,hx⟩:=eL k1;obtain⟨y,rfl,hy⟩:=eL k2;exact⟨x,y,w,rfl,⟨hx,hy⟩,k3⟩
  ·rw[decide_eq_false hl];exact BoR.ff
 |_=>exact BoR.ff
theorem q3e(n:Nat)(d:PyData)(ih:∀ l,d=.tuple l->∀ x∈l,BoR (rn n "is_row" [.fz x]) (RQ x)):BoR (rn (n+1) "is_beside" [.fz d]) (∃ r,(gd (.beside r))/\d=enc r):=by
 rw[C3];cases d with
 |tuple l =>
  show BoR (ifS (unS .Not (b8 (κ (.int 1)) .LtE (κ (.int l.length)) .LtE (κ (.int (6:Nat))))) _ _) _;refine BoR.nif (wI l.length 6) BoR.ff λhl=>BoR.nif (Fb (l:=l) (Q:=RQ) (ih l rfl)) BoR.ff λhr=>?_;refine hde λ_ θ=>?_;obtain⟨r,⟨g,h1⟩,rfl⟩:=q3c hr;obtain⟨i1,i2,i3,i4⟩:=qG h1 g;apply θ;have e2:aM (ofP (items (.tuple (aS r)))) (λ_=>.ok true) (λd=>ofP (getItem d (.int 0)))=.ok (.own (.list (r.names.map .str))):=by
   show rb (aN (λ_=>.ok true) (λd=>ofP (getItem d (.int 0))) (aS r)) (λr=>ofP (own (.list r)))=_;rw[i1];rfl
  have e3:aM (ofP (items (.tuple (aS r)))) (λ_=>.ok true) (λd=>ofP (getItem d (.int 1)))=.ok (.own (.list (r.parts.map .str))):=by
   show rb (aN (λ_=>.ok true) (λd=>ofP (getItem d (.int 1))) (aS r)) (λr=>ofP (own (.list r)))=_;rw[i2];rfl
  rw[e2,e3];show BoR (rb (aI (aC (aL dD (κ (.list (r.names.map .str)))) .Eq (κ (.int (aS r).length))) (aC (aL dD (κ (.list (r.parts.map .str)))) .Eq (κ (.int (aS r).length)))) R.ok) _;rw[gY (.inr rfl) (yE hl i3) _ i3.symm,gY (.inr rfl) (yE hl i4) _ i4.symm];exact BoR.rb (BoR.imp (BoR.and (BoR.dec _ id) λ_=>BoR.dec _ id) λk=>⟨r,⟨⟨g,h1⟩,hl,of_decide_eq_true k.1,of_decide_eq_true k.2⟩,(eM h1).symm⟩)
 |_=>exact BoR.ff
noncomputable abbrev tw(s:String)(l:List PyData):PyData:=.tuple (.str (so s)::l)
def lnE(l:List PyData)(k:Nat):R V:=aC (κ (.int ((l.length+1:Nat):Int))) .Eq (κ (.int (k:Int)))
theorem qH(h:l[k]?=some d):getItem (.tuple l) (.int (k:Int))=.ok (.fz d):=by
 have hk:k < l.length:=(cr.mp h).1;show(if 0<=(k:Int)/\(k:Int) < (l.length:Int) then frz l[(k:Int).toNat]? else .no)=_;rw[if_pos ⟨cm k,ci.mpr hk⟩,Int.toNat_natCast,h];rfl
theorem ne0(k:Nat):(((k+1:Nat):Int)==0)=false:=beq_false_of_ne λh=>by omega
def kqS(s:Str)(k:String)(a b:R V):R V:=ifS (κ (.bool (s==so k))) a b
def ivC(n:Nat)(s:Str)(l:List PyData):R V:=kqS s "whole" (rb (lnE l 1) R.ok) (kqS s "pick" (rb (aI (lnE l 2) (aE (rn n "is_name") [ofP (getItem (.tuple (.str s::l)) (.int 1))])) R.ok) (kqS s "call" (rb (aI (lnE l 3) (aE (rn n "are_two_names") [ofP (getItem (.tuple (.str s::l)) (.int 1)),ofP (getItem (.tuple (.str s::l)) (.int 2))])) R.ok) (kqS s "beside" (rb (aI (lnE l 2) (aE (rn n "is_beside") [ofP (getItem (.tuple (.str s::l)) (.int 1))])) R.ok) (kqS s "sift" (rb (aI (lnE l 3) (aI (aE (rn n "is_name") [ofP (getItem (.tuple (.str s::l)) (.int 1))]) (aE (rn n "is_least") [ofP (getItem (.tuple (.str s::l)) (.int 2))]))) R.ok) (kqS s "join" (rb (aI (lnE l 4) (aI (aE (rn n "are_two_names") [ofP (getItem (.tuple (.str s::l)) (.int 1)),ofP (getItem (.tuple (.str s::l)) (.int 2))]) (aE (rn n "are_fields") [ofP (getItem (.tuple (.str s::l)) (.int 3))]))) R.ok) (kqS s "each" (rb (aI (lnE l 2) (aE (rn n "is_view") [ofP (getItem (.tuple (.str s::l)) (.int 1))])) R.ok) (rb (aI (κ (.bool (s==so "then"))) (aI (lnE l 3) (aI (aE (rn n "is_view") [ofP (getItem (.tuple (.str s::l)) (.int 1))]) (aE (rn n "is_view") [ofP (getItem (.tuple (.str s::l)) (.int 2))])))) R.ok)))))))
theorem q3f(n:Nat)(s:Str)(l:List PyData):rn (n+1) "is_view" [.fz (.tuple (.str s::l))]=ivC n s l:=by
 rw[C7,show getItem (.tuple (.str s::l)) (.int 0)=.ok (.fz (.str s)) from qH (k:=0) rfl];show ifS (orS (.ok (.fz (.bool false))) (orS (.ok (.fz (.bool (((l.length+1:Nat):Int)==0)))) _)) _ _=_;rw[ne0];rfl
theorem Fe(k:String)(a b:R V):kqS (so k) k a b=a:=by unfold kqS;rw[beq_self_eq_true];rfl
theorem gZ{s:Str}{k:String}(h:(s==so k)=false)(a b:R V):kqS s k a b=b:=by unfold kqS;rw[h];rfl
noncomputable def KWs:List String:=["whole", "pick", "call", "beside", "sift", "join", "each", "then"]
theorem q3g(n:Nat)(s:Str)(l:List PyData)(h:∀ k∈KWs,(s==so k)=false):ivC n s l=κ (.bool false):=by
 unfold ivC;rw[gZ (h _ (by decide)),gZ (h _ (by decide)),gZ (h _ (by decide)),gZ (h _ (by decide)),gZ (h _ (by decide)),gZ (h _ (by decide)),gZ (h _ (by decide)),h "then" (by decide)];rfl
theorem wJ(l:List PyData)(k:Nat):BoR (lnE l k) (l.length+1=k):=by
 unfold lnE;rw[qF];exact BoR.dec _ of_decide_eq_true
theorem q3h(s:Str):(∃ k∈KWs,s=so k)\/∀ k∈KWs,(s==so k)=false:=by
 by_cases h:∃ k∈KWs,s=so k
 ·exact .inl h
 ·exact .inr λk hk=>beq_false_of_ne λe=>h ⟨k,hk,e⟩
theorem BoR.kt{k:String}(h:BoR a Q):BoR (kqS (so k) k a b) Q:=(Fe k a b).symm▸h
theorem BoR.kf{s:Str}{k:String}(e:(s==so k)=false)(h:BoR b Q):BoR (kqS s k a b) Q:=(gZ e a b).symm▸h
theorem q3i{P:String->Prop}(a:P "whole")(b:P "pick")(c:P "call")(d:P "beside")(e:P "sift")(f:P "join")(g:P "each")(h:P "then"):∀ k∈KWs,P k :=
 de.mpr ⟨a,de.mpr ⟨b,de.mpr ⟨c,de.mpr ⟨d,de.mpr ⟨e,de.mpr ⟨f,de.mpr ⟨g,de.mpr ⟨h,λ_ k=>nomatch k⟩⟩⟩⟩⟩⟩⟩⟩
theorem q3j{P:List PyData->Prop}(h:l.length+1=2)(k:∀ x,P [x]):P l:=by
 obtain⟨x,rfl⟩:=gi.mp (Nat.succ.inj h);exact k x
theorem jW{r:R V}(h:l.length+1=k->BoR r Q):BoR (rb (aI (lnE l k) r) R.ok) Q:=BoR.rb (BoR.imp (BoR.and (wJ l k) h) λk=>k.2)
def IvP(n:Nat)(s:String)(l:List PyData):Prop:=BoR (ivC n (so s) l) (VQ (tw s l))
theorem q3k(n:Nat)(l:List PyData):IvP n "whole" l:=by
 refine BoR.kt (BoR.rb (BoR.imp (wJ l 1) λh=>⟨.whole,⟨trivial,rfl⟩,?_⟩));obtain rfl:=co.mp (Nat.succ.inj h);rfl
theorem q3l(n:Nat)(l:List PyData):IvP (n+1) "pick" l:=by
 refine BoR.kf (by decide) (BoR.kt (jW λh=>?_));obtain⟨x,rfl⟩:=gi.mp (Nat.succ.inj h);show BoR (rn (n+1) "is_name" [.fz x]) _;rw[gS];refine BoR.dec _ λh=>?_;obtain⟨y,rfl,hy⟩:=eL h;exact⟨.pick y,⟨hy,rfl⟩,rfl⟩
theorem q3m(n:Nat)(l:List PyData):IvP (n+2) "call" l:=by
 refine BoR.kf (by decide) (BoR.kf (by decide) (BoR.kt (jW λh=>?_)));obtain⟨x,y,rfl⟩:=iQ (Nat.succ.inj h);refine BoR.imp (Fc n x y) λk=>?_;obtain⟨a,b,rfl,rfl,k⟩:=k;exact⟨.call a b,⟨k,rfl⟩,rfl⟩
theorem q3n(n:Nat)(l:List PyData)(ih:∀ q,.tuple q∈l->∀ a b c,.tuple [a,b,c]∈q->BoR (rn (n+1) "is_view" [.fz c]) (VQ c)):IvP (n+3) "beside" l:=by
 refine BoR.kf (by decide) (BoR.kf (by decide) (BoR.kf (by decide) (BoR.kt (jW λh=>?_))));refine q3j (P:=λl=>(∀ q,.tuple q∈l->∀ a b c,.tuple [a,b,c]∈q->BoR (rn (n+1) "is_view" [.fz c]) (VQ c))->BoR (aE (rn (n+3) "is_beside") [ofP (getItem (.tuple (.str (so "beside")::l)) (.int 1))]) (VQ (tw "beside" l))) h (λx ih=>?_) ih;refine BoR.imp (q3e (n+2) x λl hl y hy=>q3d n y λa b c e=>ih l (hl▸ac) a b c (e▸hy)) λk=>?_;obtain⟨r,k1,rfl⟩:=k;exact⟨.beside r,⟨k1,rfl⟩,rfl⟩
theorem q3o(n:Nat)(l:List PyData):IvP (n+2) "sift" l:=by
 refine BoR.kf (by decide) (BoR.kf (by decide) (BoR.kf (by decide) (BoR.kf (by decide) (BoR.kt (jW λh=>?_)))));obtain⟨x,y,rfl⟩:=iQ (Nat.succ.inj h);show BoR (aI (rn (n+2) "is_name" [.fz x]) (rn (n+2) "is_least" [.fz y])) _;rw[gS];refine BoR.imp (BoR.and (BoR.dec _ id) λ_=>q3a n y) λk=>?_;obtain⟨k1,i,rfl,k2⟩:=k;obtain⟨a,rfl,ha⟩:=eL k1;exact⟨.sift a i,⟨⟨ha,k2⟩,rfl⟩,rfl⟩
theorem q3p(n:Nat)(l:List PyData):IvP (n+2) "join" l:=by
 refine BoR.kf (by decide) (BoR.kf (by decide) (BoR.kf (by decide) (BoR.kf (by decide) (BoR.kf (by decide) (BoR.kt (jW λh=>?_))))));obtain⟨x,y,z,rfl⟩:=mK (Nat.succ.inj h);refine BoR.imp (BoR.and (Fc n x y) λ_=>q3b n z) λk=>?_;obtain⟨⟨a,b,rfl,rfl,k⟩,fs,rfl,k2⟩:=k;exact⟨.join a b fs,⟨⟨k,k2⟩,rfl⟩,rfl⟩
theorem q3q(n:Nat)(l:List PyData)(hv:∀ x∈l,BoR (rn n "is_view" [.fz x]) (VQ x)):IvP n "each" l:=by
 refine BoR.kf (by decide) (BoR.kf (by decide) (BoR.kf (by decide) (BoR.kf (by decide) (BoR.kf (by decide) (BoR.kf (by decide) (BoR.kt (jW λh=>?_)))))));obtain⟨x,rfl⟩:=gi.mp (Nat.succ.inj h);refine BoR.imp (hv x ac) λk=>?_;obtain⟨w,k,rfl⟩:=k;exact⟨.each w,⟨k,rfl⟩,rfl⟩
theorem q3r(n:Nat)(l:List PyData)(hv:∀ x∈l,BoR (rn n "is_view" [.fz x]) (VQ x)):IvP n "then" l:=by
 refine BoR.kf (by decide) (BoR.kf (by decide) (BoR.kf (by decide) (BoR.kf (by decide) (BoR.kf (by decide) (BoR.kf (by decide) (BoR.kf (by decide) ?_))))));rw[beq_self_eq_true];refine BoR.rb ?_;show BoR (aI (lnE l 3) _) _;refine(BoR.imp (BoR.and (Q:=VQ (tw "then" l)) (wJ l 3) λh=>?_) λk=>k.2);obtain⟨x,y,rfl⟩:=iQ (Nat.succ.inj h);refine BoR.imp (BoR.and (hv x ac) λ_=>hv y (af _ ac)) λk=>?_;obtain⟨⟨w,k,rfl⟩,w',k',rfl⟩:=k;exact⟨.andThen w w',⟨⟨k,k'⟩,rfl⟩,rfl⟩
theorem Ff(h:c=κ (.bool true)):ifS c a b=a:=by rw[h];rfl
theorem q3s{n:Nat}(ht:¬ ∃ s l,d=.tuple (.str s::l)):rn (n+1) "is_view" [.fz d]=κ (.bool false):=by
 rw[C7];refine(Ff ?_).trans rfl;cases d with
 |tuple l =>
  cases l with
  |nil=>rfl
  |cons x l =>
   rw[show getItem (.tuple (x::l)) (.int 0)=.ok (.fz x) from qH (k:=0) rfl];show orS (κ (.bool false)) (orS (κ (.bool (((l.length+1:Nat):Int)==0))) _)=_;rw[ne0];cases x with
   |str s=>exact absurd ⟨s,l,rfl⟩ ht
   |_=>rfl
 |_=>rfl
theorem q3t:∀ (m:Nat) (d:PyData),Dp m d->∀ n,m+3<=n->BoR (rn n "is_view" [.fz d]) (VQ d):=by
 intro m
 induction m using Nat.strongRecOn with
 |ind m ih =>
  intro d hd n hn;obtain⟨n,rfl⟩:∃ j,n=j+1:=⟨n - 1,by exact Kv hn⟩
  by_cases ht:∃ s l,d=.tuple (.str s::l)
  ·obtain⟨s,l,rfl⟩:=ht;obtain⟨j,rfl,hd'⟩:=hd.inv;obtain⟨n,rfl⟩:∃ j,n=j+3:=⟨n - 3,by exact Kw hn⟩
   have hv:∀ x∈l,BoR (rn (n+3) "is_view" [.fz x]) (VQ x):=λx hx=>ih j (cz j) x (hd' x (af _ hx)) _ (Kx hn);rw[q3f];rcases q3h s with ⟨k,hk,rfl⟩ | h
   ·refine q3i (P:=λk=>IvP (n+3) k l) (q3k _ l) (q3l _ l) (q3m _ l) (q3n n l λq hq a b c h=>?_) (q3o _ l) (q3p _ l) (q3q _ l hv) (q3r _ l hv) k hk;refine hde λ_ θ=>?_;obtain⟨j1,rfl,q1⟩:=(hd' _ (af _ hq)).inv;obtain⟨j2,rfl,q2⟩:=(q1 _ h).inv;apply θ;exact ih j2 Ky c (q2 c (by simp)) _ (Kz hn)
   ·rw[q3g _ s l h];exact BoR.ff
  ·rw[q3s ht];exact BoR.ff
noncomputable def dig(m:Nat):List Nat:=(Nat.toDigits 10 m).map Char.toNat
theorem gE(h:m < 10):dig m=[(Nat.digitChar m).toNat]:=by unfold dig;rw[Nat.toDigits_of_lt_base h];rfl
theorem mM(h:¬ m < 10):dig m=dig (m / 10)++[(Nat.digitChar (m % 10)).toNat]:=by
 have hm:m % 10 < 10:=Nat.mod_lt m (by decide);have t:Nat.toDigits 10 (m / 10)++Nat.toDigits 10 (m % 10)=Nat.toDigits 10 (10*(m / 10)+m % 10):=Nat.toDigits_append_toDigits (by decide) (Mr h) hm;rw[Nat.div_add_mod] at t;unfold dig;rw[<- t,bu,Nat.toDigits_of_lt_base hm];rfl
theorem wK:∀ d:Nat,d < 10->48<=(Nat.digitChar d).toNat/\(Nat.digitChar d).toNat<=57:=by decide
theorem Fg:∀ d:Nat,d < 10->d≠0->(Nat.digitChar d).toNat≠48:=by decide
structure DigF(m k:Nat):Prop where
 a:∀ c∈dig m,48<=c/\c<=57
 l:1<=(dig m).length
 u:(dig m).length<=k+1
 h:m≠0->∃ c r,dig m=c::r/\c≠48
theorem Fh:∀ (k m:Nat),m < 10 ^ (k+1)->DigF m k:=by
 intro k
 induction k with
 |zero =>
  intro m h;have h:m < 10:=h;refine⟨λc hc=>?_,by rw[gE h];exact ae _,by rw[gE h];exact ae _,λh0=>⟨_,[],gE h,Fg m h h0⟩⟩;rw[gE h] at hc;rw[List.mem_singleton.mp hc];exact wK m h
 |succ k ih =>
  intro m h
  by_cases hs:m < 10
  ·refine⟨λc hc=>?_,by rw[gE hs];exact ae _,by rw[gE hs];exact ah (am _),λh0=>⟨_,[],gE hs,Fg m hs h0⟩⟩;rw[gE hs] at hc;rw[List.mem_singleton.mp hc];exact wK m hs
  ·have hd:m / 10 < 10 ^ (k+1):=Nat.div_lt_of_lt_mul (by rw[Nat.mul_comm];exact h);obtain⟨a,l,u,hh⟩:=ih (m / 10) hd;have hm:=Nat.mod_lt m (show 10 > 0 by decide);refine⟨λc hc=>?_,?_,?_,λh0=>?_⟩
   ·rw[mM hs] at hc;rcases bv.mp hc with hc | hc
    ·exact a c hc
    ·rw[List.mem_singleton.mp hc];exact wK _ hm
   ·rw[mM hs,List.length_append];exact U l (al _ _)
   ·rw[mM hs,List.length_append];exact ah u
   ·obtain⟨c,r,e,hc⟩:=hh (Ms hs);exact⟨c,r++[(Nat.digitChar (m % 10)).toNat],by rw[mM hs,e];rfl,hc⟩
theorem Fi(m:Nat):NumText.digitsVal (dig m)=m:=PySem.W.KIN.val_back m
def bZ(l:Int):List Nat:=(kF l).cps.toList
theorem Fj(m:Nat):bZ (m:Int)=dig m:=PySem.W.KIN.signs_num m
theorem Fk(k:Nat):bZ (Int.negSucc k)=45::dig (k+1):=by
 unfold bZ kF;rw[PyProof.Rows.signs_ofString];show("-" ++ Nat.repr (k+1)).toList.map Char.toNat=_;rw[String.toList_append,Nat.toList_repr];rfl
inductive NumF(l:Int):Prop where
 |nat (m:Nat) (e:l=m) (s:bZ l=dig m) (f:DigF m 29):NumF l
 |neg (m:Nat) (e:l=-(m:Int)) (h:m≠0) (s:bZ l=45::dig m) (f:DigF m 29):NumF l
theorem Fl{l:Int}(h:l.natAbs < 10 ^ 30):NumF l:=by
 cases l with
 |ofNat m=>exact .nat m rfl (Fj m) (Fh 29 m h)
 |negSucc k=>exact .neg (k+1) rfl (Nat.succ_ne_zero k) (Fk k) (Fh 29 (k+1) h)
def isF(c:Nat):Bool:=Txt.contains (so "0123456789") ⟨#[c]⟩
theorem q3u:∀ c < 58,48<=c->c∈[48,49,50,51,52,53,54,55,56,57]:=by decide
theorem Fm(c:Nat):isF c=true↔48<=c/\c<=57:=by
 unfold isF;rw[show Txt.contains (so "0123456789") ⟨#[c]⟩=decide (c∈[48,49,50,51,52,53,54,55,56,57]) from StrLaws.found_one _ c,decide_eq_true_iff];refine⟨λh=>?_,λh=>q3u c (Nat.lt_succ_of_le h.2) h.1⟩;have:∀ x∈[48,49,50,51,52,53,54,55,56,57],48<=x/\x<=57:=by decide
 exact this c h
def fg(cs:List Nat):Bool:=(decide (1<=cs.length)&&decide (cs.length<=30))&&cs.all isF
structure FgO(cs:List Nat):Prop where
 lo:1<=cs.length
 hi:cs.length<=30
 a:∀ c∈cs,48<=c/\c<=57
theorem qI(h:fg cs=true):FgO cs:=by
 obtain⟨h,h3⟩:=ax.mp h;obtain⟨h1,h2⟩:=ax.mp h;exact⟨of_decide_eq_true h1,of_decide_eq_true h2,λc hc=>(Fm c).mp (bb.mp h3 c hc)⟩
theorem Fn(h:FgO cs):fg cs=true:=ax.mpr ⟨ax.mpr ⟨decide_eq_true h.lo,decide_eq_true h.hi⟩,bb.mpr λc hc=>(Fm c).mpr (h.a c hc)⟩
theorem Fo(cs:List Nat)(c:Nat):NumText.digitsVal (cs++[c])=NumText.digitsVal cs*10+(c - 48):=by
 unfold NumText.digitsVal;rw[List.foldl_append];rfl
@[elab_as_elim] theorem snocE{motive:List Nat->Prop}(h0:motive [])(h1:∀ l c,motive l->motive (l++[c]))(l:List Nat):motive l:=by
 have:∀ r:List Nat,motive r.reverse:=λr=>by
  induction r with
  |nil=>exact h0
  |cons c r ih=>rw[List.reverse_cons];exact h1 _ c ih
 have:=this l.reverse
 rwa [List.reverse_reverse] at this
theorem q3v(cs:List Nat):(∀ c∈cs,48<=c/\c<=57)->NumText.digitsVal cs < 10 ^ cs.length:=by
 refine snocE (motive:=λcs=>(∀ c∈cs,48<=c/\c<=57)->NumText.digitsVal cs < 10 ^ cs.length) (λ_=>(by decide:(0:Nat) < 1)) (λl c ih h=>?_) cs;have i:=ih λx hx=>h x (gg _ hx);have hc:=h c (jy _ ac);rw[Fo,List.length_append,List.length_singleton,Nat.pow_succ];exact Mt i hc
theorem Fp:∀ c < 58,48<=c->(Nat.digitChar (c - 48)).toNat=c:=by decide
theorem Fq(cs:List Nat):(∀ c∈cs,48<=c/\c<=57)->cs≠[]->(cs.head?=some 48->cs=[48])->dig (NumText.digitsVal cs)=cs/\(cs.head?≠some 48->NumText.digitsVal cs≠0):=by
 refine snocE (motive:=λcs=>(∀ c∈cs,48<=c/\c<=57)->cs≠[]->(cs.head?=some 48->cs=[48])->dig (NumText.digitsVal cs)=cs/\(cs.head?≠some 48->NumText.digitsVal cs≠0)) (λ_ h=>absurd rfl h) (λl c ih h _ hz=>?_) cs;have hc:=h c (jy _ ac);cases l with
 |nil =>
  have e:NumText.digitsVal [c]=c - 48:=by show 0*10+(c - 48)=_;exact Mu
  show dig (NumText.digitsVal [c])=[c]/\([c].head?≠some 48->NumText.digitsVal [c]≠0);rw[e];exact⟨by rw[gE (ayr hc),Fp c (yP hc) hc.1],λhn h0=>hn (by show some c=some 48;rw[show c=48 by exact Mv hc h0])⟩
 |cons a l =>
  have hh:(a::l).head?≠some 48:=λe=>by
   have:=congrArg List.length (hz e);rw[List.length_append,List.length_cons,List.length_singleton] at this;exact absurd this (by simp)
  obtain⟨i1,i2⟩:=ih (λx hx=>h x (gg _ hx)) (List.cons_ne_nil _ _) λe=>absurd e hh;have i2:=i2 hh;rw[Fo];generalize NumText.digitsVal (a::l)=v at i1 i2;refine⟨?_,λ_=>by exact Mw i2⟩;rw[mM (Mx i2),show(v*10+(c - 48)) / 10=v by exact My hc,show(v*10+(c - 48)) % 10=c - 48 by exact Mz hc,i1,Fp c (yP hc) hc.1]
noncomputable def bE(T:List Nat):List Nat:=if T.head?=some 45 then T.tail else T
noncomputable def dW(T:List Nat):Int:=if T.head?=some 45 then -(NumText.digitsVal T.tail:Int) else (NumText.digitsVal T:Int)
def hF(T:List Nat):Option Int:=if (fg (bE T)&&!(decide ((bE T).head?=some 48)&&!decide (T=[48])))=true then some (dW T) else none
theorem Fs(h:fg (bE T)=true):(dW T).natAbs < 10 ^ 30:=by
 have f:=qI h;have h1:=q3v _ f.a;have h2:10 ^ (bE T).length<=10 ^ 30:=Nat.pow_le_pow_right (by decide) f.hi;unfold dW;unfold bE at h1 h2
 by_cases hc:T.head?=some 45
 ·rw[if_pos hc] at h1 h2 ⊢;exact M0 h1 h2
 ·rw[if_neg hc] at h1 h2 ⊢;exact M1 h1 h2
theorem q3w{l:Int}(h:hF T=some l):T=bZ l/\l.natAbs < 10 ^ 30:=by
 unfold hF at h
 split at h
 ·rename_i hc;obtain rfl:=si h;obtain⟨hf,hz⟩:=ax.mp hc;refine⟨?_,Fs hf⟩;have f:=qI hf;have ne:bE T≠[]:=λe=>by have:=f.lo;rw[e] at this;exact absurd this (by decide)
  have hz:(bE T).head?=some 48->T=[48]:=λe=>by
   rw[decide_eq_true e] at hz
   by_cases ht:T=[48]
   ·exact ht
   ·rw[decide_eq_false ht] at hz;exact bft hz
  by_cases hc:T.head?=some 45
  ·have ht:=eZ hc;have e1:bE T=T.tail:=if_pos hc;rw[e1] at f ne hz;have hnz:T.tail.head?≠some 48:=λe=>by rw[hz e] at hc;exact absurd (si hc) (by decide)
   obtain⟨d1,d2⟩:=Fq _ f.a ne λe=>absurd e hnz;have d2:=d2 hnz;unfold dW;rw[if_pos hc];generalize NumText.digitsVal T.tail=v at d1 d2;obtain⟨k,rfl⟩:∃ k,v=k+1:=⟨v - 1,by exact M2 d2⟩
   rw[show -((k+1:Nat):Int)=Int.negSucc k from rfl,Fk,d1];exact ht
  ·have e1:bE T=T:=if_neg hc;rw[e1] at f ne hz;obtain⟨d1,_⟩:=Fq _ f.a ne hz;unfold dW;rw[if_neg hc,Fj,d1]
 ·exact ns h
theorem q3x(f:DigF m 29):(dig m).head?≠some 45/\((dig m).head?=some 48->dig m=[48]):=by
 refine⟨λe=>?_,λe=>?_⟩
 ·have:=f.a 45 (List.mem_of_mem_head? e);omega
 ·by_cases h0:m=0
  ·subst h0;rfl
  ·obtain⟨c,r,h1,h2⟩:=f.h h0;rw[h1] at e;exact absurd (si e) h2
theorem Ft{l:Int}(h:l.natAbs < 10 ^ 30):hF (bZ l)=some l/\fg (bE (bZ l))=true/\dW (bZ l)=l:=by
 have key:fg (bE (bZ l))=true/\dW (bZ l)=l/\((bE (bZ l)).head?=some 48->bZ l=[48]):=by
  rcases Fl h with ⟨m,rfl,s,f⟩ | ⟨m,rfl,h0,s,f⟩
  ·obtain⟨k1,k2⟩:=q3x f;unfold bE dW;rw[s,if_neg k1,if_neg k1,Fi];exact⟨Fn ⟨f.l,f.u,f.a⟩,rfl,k2⟩
  ·unfold bE dW;have hh:(45::dig m).head?=some 45:=rfl;rw[s,if_pos hh,if_pos hh];show fg (dig m)=true/\-(NumText.digitsVal (dig m):Int)=_/\_;rw[Fi];refine⟨Fn ⟨f.l,f.u,f.a⟩,rfl,λe=>?_⟩;obtain⟨c,r,h1,h2⟩:=f.h h0;replace e:(dig m).head?=some 48:=e;rw[h1] at e;exact absurd (si e) h2
 obtain⟨k1,k2,k3⟩:=key;refine⟨?_,k1,k2⟩;unfold hF;rw[if_pos,k2];rw[k1]
 by_cases hc:(bE (bZ l)).head?=some 48
 ·rw[decide_eq_true hc,decide_eq_true (k3 hc)];rfl
 ·rw[decide_eq_false hc];rfl
theorem Fu(T:List Nat):aR (.ok (.str (sS T))) none (some (κ (.int 1)))=κ (.str (sS (T.take 1))):=by
 show R.ok (V.fz (.str ⟨(slice T none (some 1)).toArray⟩))=_;rw[mG T (by decide)];rfl
theorem wL(T:List α)(k:Nat):slice T (some (k:Int)) none=T.drop k:=by
 unfold slice;show(T.drop (clipAt T.length (k:Int))).take (T.length - clipAt T.length (k:Int))=_;rw[wF];rcases gr k T.length with h | h
 ·rw[Nat.min_eq_left h,ic (by rw[List.length_drop];exact ae _)]
 ·rw[Nat.min_eq_right h,List.drop_length,List.drop_of_length_le h,List.take_nil]
theorem mO(T:List Nat)(k:Nat):aR (.ok (.str (sS T))) (some (κ (.int k))) none=κ (.str (sS (T.drop k))):=by
 show R.ok (V.fz (.str ⟨(slice T (some (k:Int)) none).toArray⟩))=_;rw[wL];rfl
theorem jX(T:List Nat):aW (.str (sS T))=.ok (.fz (.int T.length)):=by
 show P.ok (V.fz (.int ((sS T).cps.size:Int)))=_;rw[sz]
theorem q3y(cs:List Nat):aL b7 (aM (.ok (cs.map bB)) (λ_=>.ok true) (λd=>aV (ofP (cmp .In d (.str (so "0123456789"))))))=κ (.bool (cs.all isF)):=by
 refine(vF (l:=cs.map bB) (g:=λd=>match d with | .str s=>isF (s.cps.toList.headD 0) | _=>false) λd hd=>?_).trans (by rw[List.all_map];rfl);obtain⟨c,_,rfl⟩:=bq.mp hd;rfl
theorem Fv(cs:List Nat):orS (unS .Not (b8 (κ (.int 1)) .LtE (κ (.int cs.length)) .LtE (κ (.int 30)))) (unS .Not (aL b7 (aM (.ok (cs.map bB)) (λ_=>.ok true) (λd=>aV (ofP (cmp .In d (.str (so "0123456789"))))))))=κ (.bool (!fg cs)):=by
 rw[q3y,show(.int 30:PyData)=.int ((30:Nat):Int) from rfl,gR];unfold fg;cases (decide (1<=cs.length)&&decide (cs.length<=30))<;>rfl
theorem q3z(h:1<=cs.length):aK (.ok (.str (sS cs))) (κ (.int 0))=κ (.str (sS (cs.take 1))):=by
 cases cs with
 |nil=>exact absurd h (by decide)
 |cons c r =>
  show ofP (if 0<=(0:Int)/\(0:Int) < ((sS (c::r)).cps.size:Int) then frz ((sS (c::r)).cps[(0:Int).toNat]?.map bB) else .no)=_;rw[if_pos ⟨Int.le_refl _,by rw[sz];simp only[List.length_cons];exact M3⟩];rfl
theorem Fw(h:fg (bE T)=true):cL (.str (sS T))=.ok (.fz (.int (dW T))):=by
 have f:=qI h;have ne:bE T≠[]:=λe=>by have:=f.lo;rw[e] at this;exact absurd this (by decide)
 have hl:T.length<=31:=by
  have:=f.hi;unfold bE at this
  by_cases hc:T.head?=some 45
  ·rw[if_pos hc] at this;rw[eZ hc,List.length_cons];exact M4 this
  ·rw[if_neg hc] at this;exact M5 this
 have e:PySem.intText? (sS T)=some (dW T):=by
  unfold dW;unfold bE at f ne
  by_cases hc:T.head?=some 45
  ·rw[if_pos hc] at f ne ⊢;exact intText_neg (x:=sS T) (cs:=T.tail) (eZ hc) f.a ne (by rw[gX];exact yQ hl)
  ·rw[if_neg hc] at f ne ⊢;exact intText_digits (x:=sS T) f.a ne (by rw[gX];exact yQ hl)
 show(if (sS T).length<=640 then (ofO (PySem.intText? (sS T))).bind λi=>fz (.int i) else .no)=_;rw[if_pos (by rw[gX];exact M6 hl),e];rfl
noncomputable def qJ:Option Int->PyData
 |none=>.none
 |some l=>.int l
theorem q30:aI (aC (κ (.str (sS (cs.take 1)))) .Eq (κ (.str (so "0")))) (aV (ofP (cmp .NotEq (.str (sS T)) (.str (so "0")))))=κ (.bool (decide (cs.head?=some 48)&&!decide (T=[48]))):=by
 rw[show so "0" = sS [48] from rfl,qE,iP];show aI _ (κ (.bool (!(sS T==sS [48]))))=_;rw[show(sS T==sS [48])=decide (T=[48]) from by rw[eq,beq_iff_eq,decide_eq_true_iff];exact⟨qC,λh=>by rw[h]⟩];cases decide (cs.head?=some 48)<;>rfl
theorem Fx(n:Nat)(T:List Nat):rn (n+1) "number_of" [.fz (.str (sS T))]=κ (qJ (hF T)):=by
 have fin:∀ {z:R V},z=ifS (κ (.bool (!fg (bE T)))) (κ .none) (ifS (aI (aC (aK (.ok (.str (sS (bE T)))) (κ (.int 0))) .Eq (κ (.str (so "0")))) (aV (ofP (cmp .NotEq (.str (sS T)) (.str (so "0")))))) (κ .none) (rb (ofP (cL (.str (sS T)))) R.ok))->z=κ (qJ (hF T)):=λ{z} hz=>by
  rw[hz];unfold hF;refine bcs (fg (bE T)) (λh=>by rw[h];rfl) λh=>?_;rw[h,q3z (qI h).lo,q30,Fw h];cases (decide ((bE T).head?=some 48)&&!decide (T=[48]))<;>rfl
 rw[Db,Fu,show so "-" = sS [45] from rfl,qE,iP];refine fin ?_;unfold bE
 by_cases hc:T.head?=some 45
 ·rw[if_pos hc,decide_eq_true hc,show aR (.ok (.str (sS T))) (some (κ (.int 1))) none=κ (.str (sS T.tail)) from (mO T 1).trans (by rw[List.drop_one])];show ifS (orS (unS .Not (b8 (κ (.int 1)) .LtE (ofP (aW (.str (sS T.tail)))) .LtE (κ (.int 30)))) (unS .Not (aL b7 (aM (.ok (T.tail.map bB)) _ _)))) _ _=_;rw[jX,aT,Fv];rfl
 ·rw[if_neg hc,decide_eq_false hc];show ifS (orS (unS .Not (b8 (κ (.int 1)) .LtE (ofP (aW (.str (sS T)))) .LtE (κ (.int 30)))) (unS .Not (aL b7 (aM (.ok (T.map bB)) _ _)))) _ _=_;rw[jX,aT,Fv];rfl
def kw(s:String):List Nat:=(so s).cps.toList
noncomputable def nmL(x:Str):List Nat:=x.cps.toList
def fsI:List Str->It
 | []=>.nil
 |x::r=>.word (nmL x) (fsI r)
def itW:WW->It
 | .whole=>.word (kw "whole") .nil
 | .pick n=>.word (kw "pick") (.word (nmL n) .nil)
 | .call a b=>.word (kw "call") (.word (nmL a) (.word (nmL b) .nil))
 | .sift f l=>.word (kw "sift") (.word (nmL f) (.word (bZ l) .nil))
 | .join a b fs=>.word (kw "join") (.word (nmL a) (.word (nmL b) (.sub (fsI fs) .nil)))
 | .each v=>.word (kw "each") (.sub (itW v) .nil)
 | .andThen a b=>.word (kw "then") (.sub (itW a) (.sub (itW b) .nil))
 | .beside r=>.word (kw "beside") (itW r)
 | .bnil=>.nil
 | .bcons n p v r=>.sub (.word (nmL n) (.word (nmL p) (.sub (itW v) .nil))) (itW r)
theorem mP{k:String}(h:sS s=so k):s=kw k:=by
 rw[show kw k=(so k).cps.toList from rfl,<- h];rfl
theorem q31(h:sS s=x):s=nmL x:=by subst h;rfl
theorem hJ(h:aG r=[]):r=.nil:=by
 cases r with
 |nil=>rfl
 |word=>cases h
 |sub=>cases h
theorem dX(h:aG r=.str x::l):∃ r',r=.word (nmL x) r'/\aG r'=l:=by
 cases r with
 |nil=>cases h
 |word s r' =>
  obtain⟨h1,h2⟩:=List.cons.inj (show .str (sS s)::aG r'=.str x::l from h);exact⟨r',by rw[q31 (PyData.str.inj h1)],h2⟩
 |sub a b=>exact absurd (List.cons.inj (show .list (aG a)::aG b=.str x::l from h)).1 nofun
theorem mQ(h:aG r=d::l)(hs:eP d=false)(hl:kG d=false):False:=by
 cases r with
 |nil=>cases h
 |word s r'=>rw[<- (List.cons.inj (show .str (sS s)::aG r'=d::l from h)).1] at hs;exact btf hs
 |sub a b=>rw[<- (List.cons.inj (show .list (aG a)::aG b=d::l from h)).1] at hl;exact btf hl
theorem q32:∀ {r:It},aG r=fs.map .str->r=fsI fs:=by
 induction fs with
 |nil=>exact λh=>hJ h
 |cons x fs ih =>
  intro r h;obtain⟨r',rfl,h'⟩:=dX h;rw[ih h'];rfl
theorem q33:∀ {a b:It},aG a=aG b->a=b:=by
 intro a
 induction a with
 |nil=>exact λh=>(hJ h.symm).symm
 |word s r ih =>
  intro b h;obtain⟨r',rfl,h'⟩:=dX (r:=b) (x:=sS s) (l:=aG r) h.symm;rw[ih h'.symm];rfl
 |sub p q ihp ihq =>
  intro b h;cases b with
  |nil=>cases h
  |word s r=>exact absurd (List.cons.inj (show .list (aG p)::aG q=.str (sS s)::aG r from h)).1 nofun
  |sub p' q' =>
   obtain⟨h1,h2⟩:=List.cons.inj (show .list (aG p)::aG q=.list (aG p')::aG q' from h);rw[ihp (PyData.list.inj h1),ihq h2]
theorem Fy(e:aG r=.list (aG h)::l):∃ r',r=.sub h r'/\aG r'=l:=by
 cases r with
 |nil=>cases e
 |word s r=>exact absurd (List.cons.inj (show .str (sS s)::aG r=.list (aG h)::l from e)).1 nofun
 |sub p q =>
  obtain⟨h1,h2⟩:=List.cons.inj (show .list (aG p)::aG q=.list (aG h)::l from e);exact⟨q,by rw[q33 (PyData.list.inj h1)],h2⟩
theorem iR(r:It):∀ d∈aG r,Dp m d:=by
 induction r with
 |nil=>exact λd h=>aZ h
 |word s r ih =>
  intro d h;rcases List.mem_cons.mp (show d∈.str (sS s)::aG r from h) with rfl | h
  ·exact .any rfl
  ·exact ih d h
 |sub a b _ ih =>
  intro d h;rcases List.mem_cons.mp (show d∈.list (aG a)::aG b from h) with rfl | h
  ·exact .any rfl
  ·exact ih d h
theorem q34(fs:List Str):aG (fsI fs)=fs.map .str:=by
 induction fs with
 |nil=>rfl
 |cons x r ih=>show PyData.str (sS (nmL x))::aG (fsI r)=_;rw[show sS (nmL x)=x from gV x,ih];rfl
theorem q35(x:PyData)(l:List PyData):slice (x::l) (some 1) none=l:=wL (x::l) 1
def gt(s:Str)(l:List PyData)(k:Nat):R V:=ofP (getItem (.list (.str s::l)) (.int (k:Int)))
def viC(n:Nat)(s:Str)(l:List PyData):R V:=kqS s "beside" (rb (aO [κ (.str (so "beside")),aL bJ (aM (.ok l) (λ_=>.ok true) (λd=>rn n "row_in" [.fz d]))]) R.ok)
 (ifS (orS (κ (.bool (s==so "each"))) (κ (.bool (s==so "then")))) (rb (aL bJ (aB .Add (b9 [κ (.str s)]) (aM (.ok l) (λ_=>.ok true) (λd=>rn n "view_in" [.fz d])))) R.ok)
 (ifS (aI (κ (.bool (s==so "sift"))) (lnE l 3)) (rb (aO [κ (.str (so "sift")),gt s l 1,aE (rn n "number_of") [gt s l 2]]) R.ok)
 (ifS (aI (κ (.bool (s==so "join"))) (aI (lnE l 4) (dF (so "list") (gt s l 3)))) (rb (aO [κ (.str (so "join")),gt s l 1,gt s l 2,aL bJ (gt s l 3)]) R.ok)
 (κ (.tuple (.str s::l))))))
theorem Fz(n:Nat)(s:Str)(l:List PyData):rn (n+1) "view_in" [.fz (.list (.str s::l))]=viC n s l:=by
 rw[tR,show getItem (.list (.str s::l)) (.int 0)=.ok (.fz (.str s)) from fQ (by decide) rfl,show aR (.ok (.list (.str s::l))) (some (.ok (.fz (.int 1)))) none=.ok (.own (.list l)) from by
  show R.ok (V.own (.list (slice (.str s::l) (some 1) none)))=_;rw[q35]]
 rfl
theorem q36(n:Nat)(a l:List PyData):rn (n+1) "view_in" [.fz (.list (.list a::l))]=.ok (.fz (.tuple (.list a::l))):=by
 rw[tR,show getItem (.list (.list a::l)) (.int 0)=.ok (.fz (.list a)) from fQ (by decide) rfl];rfl
theorem wM(n:Nat)(x:Str):rn (n+1) "view_in" [.fz (.str x)]=.exc BT:=by rw[tR];rfl
theorem mR{s:Str}(h:l[k]?=some d):gt s l (k+1)=κ d:=congrArg ofP (fQ (l:=.str s::l) (k:=((k+1:Nat):Int)) (cm _) h)
inductive ViR(n:Nat)(h:It):Prop where
 |bad (e:rn n "view_in" [.fz (.list (aG h))]=.exc BT):ViR n h
 |ok (d:PyData) (e:rn n "view_in" [.fz (.list (aG h))]=κ d) (p:Dp (2*h.dep+3) d) (b:∀ w,(gd w/\w.isRows=false)->d=enc w->h=itW w):ViR n h
noncomputable def dQ:It->List It
 | .nil=>[]
 | .word _ r=>dQ r
 | .sub h r=>h::dQ r
theorem qK(x:h∈dQ r):h.dep+1<=r.dep:=by
 induction r with
 |nil=>exact aZ x
 |word s r ih=>exact ih x
 |sub a b _ ih =>
  show h.dep+1<=max (a.dep+1) b.dep;rcases List.mem_cons.mp (show h∈a::dQ b from x) with rfl | x
  ·exact O5
  ·have:=ih x;exact O6 this
theorem F0(o:okI r)(x:h∈dQ r):dP h=false/\okI h:=by
 induction r with
 |nil=>exact aZ x
 |word s r ih=>exact ih o.2 x
 |sub a b _ ih =>
  rcases List.mem_cons.mp (show h∈a::dQ b from x) with rfl | x
  ·exact⟨o.1,o.2.1⟩
  ·exact ih o.2.2 x
theorem wN(a b:It):(tlI (.sub a b)).length=3+((tlI a).length - 1)+(tlI b).length:=by
 show(32::40::((tlI a).drop 1++41::tlI b)).length=_;rw[List.length_cons,List.length_cons,List.length_append,List.length_cons,List.length_drop];exact O7
theorem F1(x:h∈dQ r):(tlI h).length<=(tlI r).length:=by
 induction r with
 |nil=>exact aZ x
 |word s r ih =>
  have:=ih x;show _<=(32::(s++tlI r)).length;rw[List.length_cons,List.length_append];exact O8 this
 |sub a b _ ih =>
  rw[wN];rcases List.mem_cons.mp (show h∈a::dQ b from x) with rfl | x
  ·exact O9
  ·have:=ih x;exact Pa this
theorem q37(r:It):(aG r).length<=(tlI r).length:=by
 induction r with
 |nil=>exact ae _
 |word s r ih =>
  show(aG r).length+1<=(32::(s++tlI r)).length;rw[List.length_cons,List.length_append];exact Pb ih
 |sub a b _ ih =>
  rw[wN];show(aG b).length+1<=_;exact Pc ih
def vsI:List WW->It
 | []=>.nil
 |w::ws=>.sub (itW w) (vsI ws)
inductive CvR(m:Nat)(r:It)(z:R (List PyData)):Prop where
 |bad (e:z=.exc BT):CvR m r z
 |ok (ds:List PyData) (e:z=.ok ds) (l:ds.length=(aG r).length) (p:∀ d∈ds,Dp m d) (b:∀ ws:List WW,(∀ w∈ws,gd w/\w.isRows=false)->ds=ws.map enc->r=vsI ws):CvR m r z
theorem q38{n:Nat}:(∀ h∈dQ r,ViR (n+1) h/\2*h.dep+3<=m)->CvR m r (aN (λ_=>.ok true) (λd=>rn (n+1) "view_in" [.fz d]) (aG r)):=by
 induction r with
 |nil=>exact λ_=>.ok [] rfl rfl (λd h=>aZ h) λws _ e=>by cases ws with | nil=>rfl | cons=>cases e
 |word s r ih =>
  refine λ_=>.bad ?_;show rb (rn (n+1) "view_in" [.fz (.str (sS s))]) (λv=>rb (aN (λ_=>.ok true) (λd=>rn (n+1) "view_in" [.fz d]) (aG r)) λxs=>.ok (dOf v::xs))=_;rw[wM];rfl
 |sub a b _ ih =>
  intro h;obtain⟨ha,hm⟩:=h a ac;have hs:aN (λ_=>.ok true) (λd=>rn (n+1) "view_in" [.fz d]) (aG (.sub a b))=rb (rn (n+1) "view_in" [.fz (.list (aG a))]) (λv=>rb (aN (λ_=>.ok true) (λd=>rn (n+1) "view_in" [.fz d]) (aG b)) λxs=>.ok (dOf v::xs)):=rfl;rw[hs];rcases ha with e | ⟨d,e,p,q⟩
  ·exact .bad (by rw[e];rfl)
  ·rw[e];rcases ih λh' x=>h h' (af _ x) with e' | ⟨ds,e',l',p',q'⟩
   ·exact .bad (by rw[e'];rfl)
   ·refine .ok (d::ds) (by rw[e'];rfl) (congrArg Nat.succ l') (λx hx=>?_) λws hw hd=>?_
    ·rcases List.mem_cons.mp hx with rfl | hx
     ·exact p.mono hm
     ·exact p' x hx
    ·cases ws with
     |nil=>cases hd
     |cons w ws =>
      obtain⟨h1,h2⟩:=List.cons.inj (show d::ds=enc w::ws.map enc from hd);rw[q w (hw w ac) h1,q' ws (λx hx=>hw x (af _ hx)) h2];rfl
inductive CrR(m:Nat)(r:It)(z:R (List PyData)):Prop where
 |bad (e:z=.exc BT):CrR m r z
 |ok (ds:List PyData) (e:z=.ok ds) (p:∀ d∈ds,Dp m d) (b:∀ w:WW,(gd w/\w.isRows=true)->ds=aS w->r=itW w):CrR m r z
theorem q39(n:Nat)(ih:∀ h'∈dQ h,ViR (n+1) h'/\2*h'.dep+3<=m):rn (n+2) "row_in" [.fz (.list (aG h))]=.exc BT\/∃ d,rn (n+2) "row_in" [.fz (.list (aG h))]=κ d/\Dp (m+1) d/\∀ x p v,(gd v/\v.isRows=false)->d=.tuple [.str x,.str p,enc v]->h=.word (nmL x) (.word (nmL p) (.sub (itW v) .nil)):=by
 rw[Dc];show ifS (R.ok (V.fz (.bool (!(((aG h).length:Int)==(3:Nat)))))) _ _=_\/∃ d,ifS (R.ok (V.fz (.bool (!(((aG h).length:Int)==(3:Nat)))))) _ _=_/\_;rw[show(((aG h).length:Int)==((3:Nat):Int))=decide ((aG h).length=3) from by rw[eq,beq_iff_eq,decide_eq_true_iff,ip]]
 by_cases hl:(aG h).length=3
 ·rw[decide_eq_true hl];obtain⟨a,b,c,e⟩:=mK hl;have hdp:=iR h (m:=m);rw[e] at hdp ⊢;show rb (aO [κ a,κ b,rn (n+1) "view_in" [.fz c]]) R.ok=_\/∃ d,rb (aO [κ a,κ b,rn (n+1) "view_in" [.fz c]]) R.ok=_/\_;have h3:rn (n+1) "view_in" [.fz c]=.exc BT\/∃ d,rn (n+1) "view_in" [.fz c]=κ d/\Dp m d/\∃ h3,c=.list (aG h3)/\h3∈dQ h/\∀ w,(gd w/\w.isRows=false)->d=enc w->h3=itW w:=by
   have hc:c∈aG h:=by rw[e];simp
   have:(∃ s,c=.str (sS s))\/∃ h3∈dQ h,c=.list (aG h3):=by
    clear e hl hdp ih
    induction h with
    |nil=>exact aZ hc
    |word s r ih =>
     rcases List.mem_cons.mp (show c∈.str (sS s)::aG r from hc) with rfl | hc
     ·exact .inl ⟨s,rfl⟩
     ·exact ih hc
    |sub p q _ ih =>
     rcases List.mem_cons.mp (show c∈.list (aG p)::aG q from hc) with rfl | hc
     ·exact .inr ⟨p,ac,rfl⟩
     ·rcases ih hc with x | ⟨h3,x,y⟩
      ·exact .inl x
      ·exact .inr ⟨h3,af _ x,y⟩
   rcases this with ⟨s,rfl⟩ | ⟨h3,hx,rfl⟩
   ·exact .inl (wM n _)
   ·obtain⟨k,hm⟩:=ih h3 hx;rcases k with e | ⟨d,e,p,q⟩
    ·exact .inl e
    ·exact .inr ⟨d,e,p.mono hm,h3,rfl,hx,q⟩
  rcases h3 with e3 | ⟨d,e3,p3,h3,rfl,_,q3⟩
  ·rw[e3];exact .inl rfl
  ·rw[e3];refine .inr ⟨.tuple [a,b,d],rfl,.tup λx hx=>?_,λx p v hv hd=>?_⟩
   ·rcases List.mem_cons.mp hx with rfl | hx
    ·exact hdp _ ac
    rcases List.mem_cons.mp hx with rfl | hx
    ·exact hdp _ (by simp)
    ·rw[List.mem_singleton.mp hx];exact p3
   ·injection hd with hd
    obtain⟨h1,h2⟩:=List.cons.inj hd;obtain⟨h2,h4⟩:=List.cons.inj h2;obtain⟨h4,_⟩:=List.cons.inj h4;rw[h1,h2] at e;obtain⟨r1,rfl,e1⟩:=dX e;obtain⟨r2,rfl,e2⟩:=dX e1;obtain⟨r3,rfl,e3⟩:=Fy e2;rw[hJ e3,q3 v hv h4]
 ·rw[decide_eq_false hl];exact .inl rfl
theorem q4a{n:Nat}:(∀ h∈dQ r,∀ h'∈dQ h,ViR (n+1) h'/\2*h'.dep+3<=m)->CrR (m+1) r (aN (λ_=>.ok true) (λd=>rn (n+2) "row_in" [.fz d]) (aG r)):=by
 induction r with
 |nil =>
  refine λ_=>.ok [] rfl (λd h=>aZ h) λw hw e=>?_;cases w with
  |bnil=>rfl
  |bcons=>cases e
  |_=>exact bft hw.2
 |word s r ih =>
  refine λ_=>.bad ?_;show rb (rn (n+2) "row_in" [.fz (.str (sS s))]) (λv=>rb (aN (λ_=>.ok true) (λd=>rn (n+2) "row_in" [.fz d]) (aG r)) λxs=>.ok (dOf v::xs))=_;rw[Dc];rfl
 |sub a b _ ih =>
  intro h;have hs:aN (λ_=>.ok true) (λd=>rn (n+2) "row_in" [.fz d]) (aG (.sub a b))=rb (rn (n+2) "row_in" [.fz (.list (aG a))]) (λv=>rb (aN (λ_=>.ok true) (λd=>rn (n+2) "row_in" [.fz d]) (aG b)) λxs=>.ok (dOf v::xs)):=rfl;rw[hs];rcases q39 n (h a ac) with e | ⟨d,e,p,q⟩
  ·exact .bad (by rw[e];rfl)
  ·rw[e];rcases ih λh' x=>h h' (af _ x) with e' | ⟨ds,e',p',q'⟩
   ·exact .bad (by rw[e'];rfl)
   ·refine .ok (d::ds) (by rw[e'];rfl) (λx hx=>?_) λw hw hd=>?_
    ·rcases List.mem_cons.mp hx with rfl | hx
     ·exact p
     ·exact p' x hx
    ·cases w with
     |bnil=>cases hd
     |bcons x pp v r' =>
      obtain⟨h1,h2⟩:=List.cons.inj (show d::ds=.tuple [.str x,.str pp,enc v]::aS r' from hd);rw[q x pp v hw.1.2.1 h1,q' r' ⟨hw.1.2.2.1,hw.1.2.2.2⟩ h2];rfl
     |_=>exact bft hw.2
noncomputable def hdw:WW->String
 | .whole => "whole"
 | .pick _ => "pick"
 | .call _ _ => "call"
 | .sift _ _ => "sift"
 | .join _ _ _ => "join"
 | .each _ => "each"
 | .andThen _ _ => "then"
 |_ => "beside"
def ags:WW->List PyData
 | .pick n=>[.str n]
 | .call a b=>[.str a,.str b]
 | .sift f l=>[.str f,.int l]
 | .join a b fs=>[.str a,.str b,.tuple (fs.map .str)]
 | .each v=>[enc v]
 | .andThen a b=>[enc a,enc b]
 | .beside r=>[enc r]
 |_=>[]
theorem fA{w:WW}(h:w.isRows=false):enc w=.tuple (.str (so (hdw w))::ags w):=by
 cases w with
 |bnil=>exact btf h
 |bcons=>exact btf h
 |_=>rfl
theorem jY{s:Str}{w:WW}(hr:w.isRows=false)(h:.tuple (.str s::l)=enc w):s=so (hdw w)/\l=ags w:=by
 rw[fA hr] at h;injection h with h
 obtain⟨h1,h2⟩:=List.cons.inj h;exact⟨PyData.str.inj h1,h2⟩
theorem qL{s:Str}{k:String}(h:(s==so k)=true):s=so k:=beq_iff_eq.mp h
theorem wO{s:Str}{w:WW}{k:String}(hr:w.isRows=false)(h:.tuple (.str s::l)=enc w)(hs:s=so k)(hk:(so k==so (hdw w))=false):False:=by
 have:=(jY hr h).1;rw[hs] at this;rw[beq_iff_eq.mpr this] at hk;exact btf hk
theorem F2(hn:l.length+1≠k):lnE l k=κ (.bool false):=by unfold lnE;rw[qF,decide_eq_false hn]
theorem F3(hn:l.length+1=k):lnE l k=κ (.bool true):=by unfold lnE;rw[qF,decide_eq_true hn]
theorem Dp.tw{s:Str}(h:∀ x∈l,Dp m x):Dp (m+1) (.tuple (.str s::l)):=.tup λx hx=>by
 rcases List.mem_cons.mp hx with rfl | hx
 ·exact .any rfl
 ·exact h x hx
inductive ViX(r:R V)(h:It):Prop where
 |bad (e:r=.exc BT):ViX r h
 |ok (d:PyData) (e:r=κ d) (p:Dp (2*h.dep+3) d) (b:∀ w,(gd w/\w.isRows=false)->d=enc w->h=itW w):ViX r h
theorem ViX.of{n:Nat}{r:R V}(e:rn n "view_in" [.fz (.list (aG h))]=r)(x:ViX r h):ViR n h:=by
 cases x with
 |bad a=>exact .bad (e.trans a)
 |ok d a p b=>exact .ok d (e.trans a) p b
theorem ViX.kt{s:Str}{k:String}(e:(s==so k)=true)(x:ViX a h):ViX (kqS s k a b) h:=by unfold kqS;rw[e];exact x
theorem ViX.kf{s:Str}{k:String}(e:(s==so k)=false)(x:ViX b h):ViX (kqS s k a b) h:=by unfold kqS;rw[e];exact x
theorem ViX.it(e:c=κ (.bool true))(x:ViX a h):ViX (ifS c a b) h:=by rw[e];exact x
theorem ViX.fi(e:c=κ (.bool false))(x:ViX b h):ViX (ifS c a b) h:=by rw[e];exact x
theorem F4{a b:Bool}:orS (κ (.bool a)) (κ (.bool b))=κ (.bool (a||b)):=by cases a<;>rfl
theorem qM:ViX (κ (.tuple (.str (sS s)::aG r))) (.word s r):=by
 refine .ok _ rfl ((Dp.tw (m:=0) (iR r)).mono qX) λw hw hd=>?_;obtain⟨h1,h2⟩:=jY hw.2 hd;have hs:=mP h1;cases w with
 |whole=>rw[hs,hJ h2];rfl
 |pick x =>
  refine hde λ_ θ=>?_;obtain⟨r1,rfl,h3⟩:=dX h2;apply θ;rw[hs,hJ h3];rfl
 |call x y =>
  obtain⟨r1,rfl,h3⟩:=dX h2;obtain⟨r2,rfl,h4⟩:=dX h3;rw[hs,hJ h4];rfl
 |sift f l =>
  obtain⟨r1,rfl,h3⟩:=dX h2;exact(mQ h3 rfl rfl).elim
 |join a b fs =>
  obtain⟨r1,rfl,h3⟩:=dX h2;obtain⟨r2,rfl,h4⟩:=dX h3;exact(mQ h4 rfl rfl).elim
 |each v=>exact(mQ h2 (by rw[fA hw.1.2];rfl) (by rw[fA hw.1.2];rfl)).elim
 |andThen a b=>exact(mQ h2 (by rw[fA hw.1.1.2];rfl) (by rw[fA hw.1.1.2];rfl)).elim
 |beside r'=>exact(mQ h2 (by rw[eM hw.1.1.2];rfl) (by rw[eM hw.1.1.2];rfl)).elim
 |bnil=>exact btf hw.2
 |bcons=>exact btf hw.2
def viD(n:Nat)(s:Str)(l:List PyData):R V :=
 ifS (aI (κ (.bool (s==so "sift"))) (lnE l 3)) (rb (aO [κ (.str (so "sift")),gt s l 1,aE (rn n "number_of") [gt s l 2]]) R.ok)
 (ifS (aI (κ (.bool (s==so "join"))) (aI (lnE l 4) (dF (so "list") (gt s l 3)))) (rb (aO [κ (.str (so "join")),gt s l 1,gt s l 2,aL bJ (gt s l 3)]) R.ok)
 (κ (.tuple (.str s::l))))
theorem q4b{w:WW}{s:Str}(hr:w.isRows=false)(h:.tuple (.str s::l)=enc w)(hs:s=so "beside"):∃ r,w=.beside r:=by
 cases w with
 |beside r=>exact⟨r,rfl⟩
 |bnil=>exact btf hr
 |bcons=>exact btf hr
 |_=>exact(wO hr h hs rfl).elim
theorem q4c{w:WW}{s:Str}(hr:w.isRows=false)(h:.tuple (.str s::l)=enc w)(hs:s=so "sift"):∃ f k,w=.sift f k:=by
 cases w with
 |sift f k=>exact⟨f,k,rfl⟩
 |bnil=>exact btf hr
 |bcons=>exact btf hr
 |_=>exact(wO hr h hs rfl).elim
theorem q4d{w:WW}{s:Str}(hr:w.isRows=false)(h:.tuple (.str s::l)=enc w)(hs:s=so "join"):∃ a b fs,w=.join a b fs:=by
 cases w with
 |join a b fs=>exact⟨a,b,fs,rfl⟩
 |bnil=>exact btf hr
 |bcons=>exact btf hr
 |_=>exact(wO hr h hs rfl).elim
theorem q4e{w:WW}(hr:w.isRows=false)(hb:(so (hdw w)==so "beside")=false)(he:(so (hdw w)==so "each" || so (hdw w)==so "then")=true):(∃ v,w=.each v)\/∃ a b,w=.andThen a b:=by
 cases w with
 |each v=>exact .inl ⟨v,rfl⟩
 |andThen a b=>exact .inr ⟨a,b,rfl⟩
 |bnil=>exact btf hr
 |bcons=>exact btf hr
 |beside r'=>exact btf hb
 |_=>exact bft he
theorem q4f{n:Nat}(hs:sS s=so "beside")(C:CrR (2*r.dep - 1+1) r (aN (λ_=>.ok true) (λd=>rn (n+2) "row_in" [.fz d]) (aG r))):
  ViX (rb (aO [κ (.str (so "beside")),aL bJ (aM (.ok (aG r)) (λ_=>.ok true) (λd=>rn (n+2) "row_in" [.fz d]))]) R.ok) (.word s r):=by
 rcases C with e | ⟨ds,e,p,q⟩
 ·refine .bad ?_;show rb (aO [_,aL bJ (rb (aN _ _ (aG r)) _)]) R.ok=_;rw[e];rfl
 ·refine .ok (.tuple [.str (so "beside"),.tuple ds]) ?_ ?_ λw hw hd=>?_
  ·show rb (aO [_,aL bJ (rb (aN _ _ (aG r)) _)]) R.ok=_;rw[e];rfl
  ·refine(Dp.tw (m:=2*r.dep - 1+1+1) λx hx=>?_).mono (Pj rfl);rw[List.mem_singleton.mp hx];exact .tup p
  ·obtain⟨r',rfl⟩:=q4b hw.2 hd rfl;have h3:PyData.tuple ds=enc r':=(List.cons.inj (jY hw.2 hd).2).1;rw[eM hw.1.1.2] at h3;rw[mP hs,q r' hw.1.1 (PyData.tuple.inj h3)];rfl
theorem q4g{n:Nat}(hb:(sS s==so "beside")=false)(he:(sS s==so "each" || sS s==so "then")=true)(hz2:(tlI r).length < aF)(C:CvR (2*r.dep+1) r (aN (λ_=>.ok true) (λd=>rn (n+2) "view_in" [.fz d]) (aG r))):
  ViX (rb (aL bJ (aB .Add (b9 [κ (.str (sS s))]) (aM (.ok (aG r)) (λ_=>.ok true) (λd=>rn (n+2) "view_in" [.fz d])))) R.ok) (.word s r):=by
 rcases C with e | ⟨ds,e,hl,p,q⟩
 ·refine .bad ?_;show rb (aL bJ (aB .Add _ (rb (aN _ _ (aG r)) _))) R.ok=_;rw[e];rfl
 ·have hl:1+ds.length<=aF:=Pm hz2 hl (q37 r);refine .ok (.tuple (.str (sS s)::ds)) ?_ ((Dp.tw p).mono (Pn rfl)) λw hw hd=>?_
  ·show rb (aL bJ (aB .Add _ (rb (aN _ _ (aG r)) _))) R.ok=_;rw[e];show rb (rb (ofP (if fB .Add=true/\[PyData.str (sS s)].length+ds.length<=aF then P.ok (V.own (.list ([PyData.str (sS s)]++ds))) else .no)) λv=>ofP (bJ (dOf v))) R.ok=_;rw[if_pos ⟨rfl,hl⟩];rfl
  ·obtain⟨h1,h2⟩:=jY hw.2 hd;have hs:=mP h1;rw[h1] at hb he;rcases q4e hw.2 hb he with ⟨v,rfl⟩ | ⟨a,b,rfl⟩
   ·rw[hs,q [v] (λx hx=>by rw[List.mem_singleton.mp hx];exact hw.1) h2];rfl
   ·rw[hs,q [a,b] (λx hx=>by
     rcases List.mem_cons.mp hx with rfl | hx
     ·exact hw.1.1
     ·rw[List.mem_singleton.mp hx];exact hw.1.2) h2];rfl
theorem q4h(n:Nat)(y:PyData):∃ o,rn (n+2) "number_of" [.fz y]=κ (qJ o)/\∀ l,o=some l->y=.str (sS (bZ l)):=by
 by_cases hs:∃ T,y=.str (sS T)
 ·obtain⟨T,rfl⟩:=hs;exact⟨hF T,Fx _ T,λl h=>by rw[<- (q3w h).1]⟩
 ·refine⟨none,?_,λl h=>ns h⟩;rw[Db];refine(Ff ?_).trans rfl;cases y with
  |str t=>exact absurd ⟨nmL t,by rw[show sS (nmL t)=t from gV t]⟩ hs
  |_=>rfl
theorem q4i{n:Nat}(hs:sS s=so "sift")(hl:(aG r).length+1=3):ViX (rb (aO [κ (.str (so "sift")),gt (sS s) (aG r) 1,aE (rn (n+2) "number_of") [gt (sS s) (aG r) 2]]) R.ok) (.word s r):=by
 obtain⟨x,y,exy⟩:=iQ (Nat.succ.inj hl);rw[mR (k:=0) (d:=x) (by rw[exy];rfl),mR (k:=1) (d:=y) (by rw[exy];rfl)];have hx:Dp 0 x:=iR r x (by rw[exy];simp);obtain⟨o,h1,h2⟩:=q4h n y;refine .ok (.tuple [.str (so "sift"),x,qJ o]) ?_ ?_ λw hw hd=>?_
 ·show rb (aO [_,_,rn (n+2) "number_of" [.fz y]]) R.ok=_;rw[h1];rfl
 ·refine(Dp.tw (m:=0) λz hz=>?_).mono qX;rcases List.mem_cons.mp hz with rfl | hz
  ·exact hx
  ·rw[List.mem_singleton.mp hz];cases o<;>exact .any rfl
 ·obtain⟨f,l,rfl⟩:=q4c hw.2 hd rfl;obtain⟨h3,h4⟩:=List.cons.inj (jY hw.2 hd).2;have h5:=(List.cons.inj h4).1;have h6:o=some l:=by
   cases o with
   |none=>cases h5
   |some l'=>cases h5;rfl
  rw[h3,h2 l h6] at exy;obtain⟨r1,rfl,h7⟩:=dX exy;obtain⟨r2,rfl,h8⟩:=dX h7;rw[mP hs,hJ h8];rfl
theorem q4j:PyData.list l∈aG r->∃ r3,l=aG r3:=by
 induction r with
 |nil=>exact λh=>aZ h
 |word s r ih =>
  intro h;rcases List.mem_cons.mp (show _∈.str (sS s)::aG r from h) with h | h
  ·cases h
  ·exact ih h
 |sub p q _ ih =>
  intro h;rcases List.mem_cons.mp (show _∈.list (aG p)::aG q from h) with h | h
  ·exact⟨p,PyData.list.inj h⟩
  ·exact ih h
theorem q4k{x y:PyData}{r3:It}(hs:sS s=so "join")(exy:aG r=[x,y,.list (aG r3)]):ViX (κ (.tuple [.str (so "join"),x,y,.tuple (aG r3)])) (.word s r):=by
 refine .ok _ rfl ?_ λw hw hd=>?_
 ·refine(Dp.tw (m:=1) λz hz=>?_).mono Po;rcases List.mem_cons.mp hz with rfl | hz
  ·exact iR r z (by rw[exy];simp)
  rcases List.mem_cons.mp hz with rfl | hz
  ·exact iR r z (by rw[exy];simp)
  ·rw[List.mem_singleton.mp hz];exact .tup (iR r3)
 ·obtain⟨a,b,fs,rfl⟩:=q4d hw.2 hd rfl;obtain⟨h3,h4⟩:=List.cons.inj (jY hw.2 hd).2;obtain⟨h5,h6⟩:=List.cons.inj h4;have h7:=PyData.tuple.inj (List.cons.inj h6).1;rw[h3,h5] at exy;obtain⟨r1,rfl,h8⟩:=dX exy;obtain⟨r2,rfl,h9⟩:=dX h8;obtain⟨r4,rfl,h10⟩:=Fy h9;rw[mP hs,hJ h10,q32 h7];rfl
theorem q4l{n:Nat}:ViX (viD (n+2) (sS s) (aG r)) (.word s r):=by
 refine bcs (sS s==so "sift") (λhf=>?_) λhf=>?_
 ·refine .fi (by rw[hf];rfl) ?_;refine bcs (sS s==so "join") (λhj=>.fi (by rw[hj];rfl) qM) λhj=>?_
  by_cases hl:(aG r).length+1=4
  ·obtain⟨x,y,z,exy⟩:=mK (Nat.succ.inj hl);rw[F3 hl,mR (k:=0) (d:=x) (by rw[exy];rfl),mR (k:=1) (d:=y) (by rw[exy];rfl),mR (k:=2) (d:=z) (by rw[exy];rfl)]
   by_cases hz:∃ l,z=.list l
   ·obtain⟨l,rfl⟩:=hz;obtain⟨r3,rfl⟩:=q4j (r:=r) (l:=l) (by rw[exy];simp);exact .it (by rw[hj];rfl) (q4k (qL hj) exy)
   ·refine .fi ?_ qM;rw[hj];cases z with
    |list l=>exact absurd ⟨l,rfl⟩ hz
    |_=>rfl
  ·exact .fi (by rw[hj,F2 hl];rfl) qM
 ·by_cases hl:(aG r).length+1=3
  ·exact .it (by rw[hf,F3 hl];rfl) (q4i (qL hf) hl)
  ·exact .fi (by rw[hf,F2 hl];rfl) (.fi (by rw[qL hf];rfl) qM)
theorem q4m:∀ (k:Nat) (h:It),h.dep<=k->dP h=false->okI h->(tlI h).length < aF->∀ n,k+3<=n->ViR n h:=by
 intro k
 induction k using Nat.strongRecOn with
 |ind k ih =>
  intro h hk h0 ho hz n hn;obtain⟨n,rfl⟩:∃ j,n=j+3:=⟨n - 3,by exact Pd hn⟩
  cases h with
  |nil=>exact btf h0
  |sub a b =>
   refine .ok _ (q36 (n+2) _ _) ?_ λw hw hd=>?_
   ·exact(Dp.tup (m:=0) λx hx=>iR (.sub a b) x hx).mono qX
   ·rw[fA hw.2] at hd;injection hd with hd
    exact absurd (List.cons.inj hd).1 nofun
  |word s r =>
   have hr:r.dep<=k:=hk;have hsub:∀ {h' r':It},okI r'->r'.dep<=k->(tlI r').length < aF->h'∈dQ r'->∀ j,h'.dep+3<=j->ViR j h':=λ{h' r'} o hd hz hx j hj=>by
    have:=qK hx;obtain⟨o1,o2⟩:=F0 o hx;exact ih h'.dep (Pe hd this) h' (ae _) o1 o2 (aj (F1 hx) hz) j hj
   have hz2:(tlI r).length < aF:=by
    have:(32::(s++tlI r)).length < aF:=hz;rw[List.length_cons,List.length_append] at this;exact Pf this
   refine ViX.of (Fz _ _ _) ?_;refine bcs (sS s==so "beside") (λhb=>.kf hb ?_) λhb=>.kt hb (q4f (qL hb) (q4a λh hx h' hx'=>?_))
   ·refine bcs (sS s==so "each" || sS s==so "then") (λhe=>.fi (F4.trans (by rw[he])) q4l) λhe=>.it (F4.trans (by rw[he])) (q4g hb he hz2 (q38 λh hx=>?_));have h1:=qK hx;exact⟨hsub ho.2 hr hz2 hx _ (Pk hn hr h1),Pl h1⟩
   ·have h1:=qK hx;have h2:=qK hx';exact⟨hsub (F0 ho.2 hx).2 (Pg hr h1) (aj (F1 hx) hz2) hx' _ (Ph hn hr h1 h2),Pi h1 h2⟩
theorem iT(n:Nat)(h:okN x):rn (n+1) "is_name" [.fz (.str x)]=κ (.bool true):=by
 rw[gS,show isN (.str x)=true from h]
theorem F5(n:Nat){a b:Str}(h:(okN a/\okN b)/\a≠b):rn (n+2) "are_two_names" [.fz (.str a),.fz (.str b)]=κ (.bool true):=by
 rw[C5,iT n h.1.1,iT n h.1.2];show R.ok (V.fz (.bool !(a==b)))=_;rw[beq_false_of_ne h.2];rfl
theorem q4n(n:Nat){l:Int}(hl:l.natAbs < 10 ^ 30):rn (n+2) "is_least" [.fz (.int l)]=κ (.bool true):=by
 rw[C6,C0];show R.ok (V.fz (.bool (decide ((if l < 0 then -l else l) < (10 ^ 30:Int)))))=_;rw[decide_eq_true (by split<;>omega)]
theorem F6(h:∀ x∈l,e x=κ (.bool true)):aL b7 (aM (.ok l) (λ_=>.ok true) e)=κ (.bool true):=by
 rw[vF (g:=λ_=>true) h,bb.mpr λ_ _=>rfl]
theorem q4o(n:Nat)(h:(1<=fs.length/\fs.length<=6)/\fs.Nodup/\∀ f∈fs,okN f):rn (n+2) "are_fields" [.fz (.tuple (fs.map .str))]=κ (.bool true):=by
 rw[C4];show ifS (unS .Not (b8 (κ (.int 1)) .LtE (κ (.int ((fs.map PyData.str).length:Nat))) .LtE (κ (.int (6:Nat))))) _ (rb (aI (aL b7 (aM (.ok (fs.map .str)) _ _)) (aC (aL dD (κ (.tuple (fs.map .str)))) .Eq (κ (.int ((fs.map PyData.str).length:Nat))))) R.ok)=_;rw[gR,List.length_map,decide_eq_true h.1.1,decide_eq_true h.1.2,F6 λx hx=>by
  obtain⟨y,hy,rfl⟩:=bq.mp hx;exact iT n (h.2.2 y hy),gY (.inl rfl) (by omega) _ rfl,decide_eq_true h.2.1];rfl
theorem q4p(n:Nat){r:WW}(h:gd (.beside r))(hr:∀ d∈aS r,rn n "is_row" [.fz d]=κ (.bool true)):rn (n+1) "is_beside" [.fz (enc r)]=κ (.bool true):=by
 obtain⟨i1,i2,i3,i4⟩:=qG h.1.2 h.1.1;rw[eM h.1.2,C3];have e2:aM (ofP (items (.tuple (aS r)))) (λ_=>.ok true) (λd=>ofP (getItem d (.int 0)))=.ok (.own (.list (r.names.map .str))):=by
  show rb (aN (λ_=>.ok true) (λd=>ofP (getItem d (.int 0))) (aS r)) (λr=>ofP (own (.list r)))=_;rw[i1];rfl
 have e3:aM (ofP (items (.tuple (aS r)))) (λ_=>.ok true) (λd=>ofP (getItem d (.int 1)))=.ok (.own (.list (r.parts.map .str))):=by
  show rb (aN (λ_=>.ok true) (λd=>ofP (getItem d (.int 1))) (aS r)) (λr=>ofP (own (.list r)))=_;rw[i2];rfl
 rw[e2,e3];show ifS (unS .Not (b8 (κ (.int 1)) .LtE (κ (.int (aS r).length)) .LtE (κ (.int (6:Nat))))) _ (ifS (unS .Not (aL b7 (aM (.ok (aS r)) _ _))) _ (rb (aI (aC (aL dD (κ (.list (r.names.map .str)))) .Eq (κ (.int (aS r).length))) (aC (aL dD (κ (.list (r.parts.map .str)))) .Eq (κ (.int (aS r).length)))) R.ok))=_;have h2:=h.2.1.2;rw[gR,decide_eq_true h.2.1.1,decide_eq_true h2,F6 hr,gY (.inr rfl) (yT i3 h2) _ i3.symm,gY (.inr rfl) (yT i4 h2) _ i4.symm,decide_eq_true h.2.2.1,decide_eq_true h.2.2.2];rfl
theorem q4q(n:Nat){p:Str}{v:WW}(h:okN x/\okN p)(hv:rn (n+1) "is_view" [.fz (enc v)]=κ (.bool true)):rn (n+2) "is_row" [.fz (.tuple [.str x,.str p,enc v])]=κ (.bool true):=by
 rw[C1];show rb (aI (rn (n+1) "is_name" [.fz (.str x)]) (aI (rn (n+1) "is_name" [.fz (.str p)]) (rn (n+1) "is_view" [.fz (enc v)]))) R.ok=_;rw[iT n h.1,iT n h.2,hv];rfl
theorem jZ{w:WW}(h:w.isRows=false):1<=w.nb:=by
 cases w with
 |bnil=>exact btf h
 |bcons=>exact btf h
 |join=>exact au _
 |each v=>exact ah (am _)
 |andThen a b=>exact ah (am _)
 |beside r=>exact ah (am _)
 |_=>exact ae _
theorem cZ(x:Str):sS (nmL x)=x:=gV x
def VkA(w:WW):Prop:=(∀ n,w.nb+2<=n->rn n "view_in" [.fz (.list (aG (itW w)))]=κ (enc w))/\∀ n,2*w.nb+2<=n->rn n "is_view" [.fz (enc w)]=κ (.bool true)
def VkB(w:WW):Prop:=(∀ n,w.nb+2<=n->aN (λ_=>.ok true) (λd=>rn n "row_in" [.fz d]) (aG (itW w))=.ok (aS w))/\∀ n,2*w.nb+1<=n->∀ d∈aS w,rn n "is_row" [.fz d]=κ (.bool true)
structure VkS(w:WW):Prop where
 a:w.isRows=false->VkA w
 b:w.isRows=true->VkB w
theorem F7:∀ {w:WW},gd w->VkS w:=by
 intro w
 induction w with
 |whole=>exact λ_=>⟨λ_=>⟨λn hn=>exnE (c:=1) n hn hn λn _=>by kernel_rfl,λn hn=>exnE (c:=1) n hn hn λn _=>by kernel_rfl⟩,λh=>bft h⟩
 |pick x =>
  refine λh=>⟨λ_=>⟨λn hn=>exnE (c:=1) n hn hn λn _=>?_,λn hn=>exnE (c:=2) n hn hn λn _=>?_⟩,λh=>bft h⟩
  ·show rn (n+1) "view_in" [.fz (.list [.str (so "pick"),.str (sS (nmL x))])]=_;rw[cZ];kernel_rfl
  ·refine Eq.trans (b:=rb (rn (n+1) "is_name" [.fz (.str x)]) R.ok) (by kernel_rfl) ?_;rw[iT n h];rfl
 |call a b =>
  refine λh=>⟨λ_=>⟨λn hn=>exnE (c:=1) n hn hn λn _=>?_,λn hn=>exnE (c:=3) n hn hn λn _=>?_⟩,λh=>bft h⟩
  ·show rn (n+1) "view_in" [.fz (.list [.str (so "call"),.str (sS (nmL a)),.str (sS (nmL b))])]=_;rw[cZ,cZ];kernel_rfl
  ·refine Eq.trans (b:=rb (rn (n+2) "are_two_names" [.fz (.str a),.fz (.str b)]) R.ok) (by kernel_rfl) ?_;rw[F5 n h];rfl
 |sift f l =>
  refine λh=>⟨λ_=>⟨λn hn=>exnE (c:=2) n hn hn λn _=>?_,λn hn=>exnE (c:=3) n hn hn λn _=>?_⟩,λh=>bft h⟩
  ·show rn (n+2) "view_in" [.fz (.list [.str (so "sift"),.str (sS (nmL f)),.str (sS (bZ l))])]=_;rw[cZ];refine Eq.trans (b:=rb (aO [κ (.str (so "sift")),κ (.str f),rn (n+1) "number_of" [.fz (.str (sS (bZ l)))]]) R.ok) (by kernel_rfl) ?_;rw[Fx,(Ft h.2).1];rfl
  ·refine Eq.trans (b:=rb (aI (rn (n+2) "is_name" [.fz (.str f)]) (rn (n+2) "is_least" [.fz (.int l)])) R.ok) (by kernel_rfl) ?_;rw[iT _ h.1,q4n n h.2];rfl
 |join a b fs =>
  refine λh=>⟨λ_=>⟨λn hn=>exnE (c:=1) n hn hn λn _=>?_,λn hn=>exnE (c:=3) n hn hn λn _=>?_⟩,λh=>bft h⟩
  ·show rn (n+1) "view_in" [.fz (.list [.str (so "join"),.str (sS (nmL a)),.str (sS (nmL b)),.list (aG (fsI fs))])]=_;rw[cZ,cZ,q34];kernel_rfl
  ·refine Eq.trans (b:=rb (aI (rn (n+2) "are_two_names" [.fz (.str a),.fz (.str b)]) (rn (n+2) "are_fields" [.fz (.tuple (fs.map .str))])) R.ok) (by kernel_rfl) ?_;rw[F5 n h.1,q4o n h.2];rfl
 |each v ih =>
  refine λh=>⟨λ_=>⟨λn hn=>?_,λn hn=>?_⟩,λh=>bft h⟩
  ·have hn:v.nb+1+2<=n:=hn;refine exnE (c:=1) n hn hn λn hn=>?_;refine Eq.trans (b:=rb (aL bJ (aB .Add (b9 [κ (.str (so "each"))]) (aM (.ok [.list (aG (itW v))]) (λ_=>.ok true) (λd=>rn n "view_in" [.fz d])))) R.ok) (by kernel_rfl) ?_;show rb (aL bJ (aB .Add _ (rb (rb (rn n "view_in" [.fz (.list (aG (itW v)))]) λv=>_) _))) R.ok=_;rw[((ih h.1).a h.2).1 n (qU hn)];rfl
  ·have hn:2*(v.nb+1)+2<=n:=hn;refine exnE (c:=1) n hn hn λn hn=>?_;refine Eq.trans (b:=rb (rn n "is_view" [.fz (enc v)]) R.ok) (by kernel_rfl) ?_;rw[((ih h.1).a h.2).2 n (qW hn)];rfl
 |andThen a b iha ihb =>
  refine λh=>⟨λ_=>⟨λn hn=>?_,λn hn=>?_⟩,λh=>bft h⟩
  ·have hn:a.nb+b.nb+1+2<=n:=hn;refine exnE (c:=1) n hn hn λn hn=>?_;refine Eq.trans (b:=rb (aL bJ (aB .Add (b9 [κ (.str (so "then"))]) (aM (.ok [.list (aG (itW a)),.list (aG (itW b))]) (λ_=>.ok true) (λd=>rn n "view_in" [.fz d])))) R.ok) (by kernel_rfl) ?_;show rb (aL bJ (aB .Add _ (rb (rb (rn n "view_in" [.fz (.list (aG (itW a)))]) λv=>rb (rb (rn n "view_in" [.fz (.list (aG (itW b)))]) λv=>_) _) _))) R.ok=_;rw[((iha h.1.1).a h.1.2).1 n (qV hn),((ihb h.2.1).a h.2.2).1 n (yK hn)];rfl
  ·have hn:2*(a.nb+b.nb+1)+2<=n:=hn;refine exnE (c:=1) n hn hn λn hn=>?_;refine Eq.trans (b:=rb (aI (rn n "is_view" [.fz (enc a)]) (rn n "is_view" [.fz (enc b)])) R.ok) (by kernel_rfl) ?_;rw[((iha h.1.1).a h.1.2).2 n (Pp hn),((ihb h.2.1).a h.2.2).2 n (Pq hn)];rfl
 |beside r ih =>
  refine λh=>⟨λ_=>⟨λn hn=>?_,λn hn=>?_⟩,λh=>bft h⟩
  ·have hn:r.nb+1+2<=n:=hn;refine exnE (c:=1) n hn hn λn hn=>?_;show rn (n+1) "view_in" [.fz (.list (.str (so "beside")::aG (itW r)))]=_;rw[Fz];unfold viC;rw[Fe];show rb (aO [_,aL bJ (rb (aN _ _ (aG (itW r))) _)]) R.ok=_;rw[((ih h.1.1).b h.1.2).1 n (qU hn)];show R.ok (V.fz (.tuple [.str (so "beside"),.tuple (aS r)]))=_;rw[<- eM h.1.2];rfl
  ·have hn:2*(r.nb+1)+2<=n:=hn;refine exnE (c:=2) n hn hn λn hn=>?_;refine Eq.trans (b:=rb (rn (n+1) "is_beside" [.fz (enc r)]) R.ok) (by kernel_rfl) ?_;rw[q4p n h (((ih h.1.1).b h.1.2).2 n (Pr hn))];rfl
 |bnil=>exact λ_=>⟨λh=>btf h,λ_=>⟨λn hn=>rfl,λn hn d hd=>aZ hd⟩⟩
 |bcons x p v r ihv ihr =>
  refine λh=>⟨λh=>btf h,λ_=>⟨λn hn=>?_,λn hn d hd=>?_⟩⟩
  ·have hn:v.nb+r.nb+1+2<=n:=hn;have e1:rn n "row_in" [.fz (.list [.str (sS (nmL x)),.str (sS (nmL p)),.list (aG (itW v))])]=κ (.tuple [.str x,.str p,enc v]):=by
    refine exnE (c:=1) n hn hn λn hn=>?_;refine Eq.trans (b:=rb (aO [κ (.str (sS (nmL x))),κ (.str (sS (nmL p))),rn n "view_in" [.fz (.list (aG (itW v)))]]) R.ok) (by kernel_rfl) ?_;rw[((ihv h.2.1.1).a h.2.1.2).1 n (qV hn),cZ,cZ];rfl
   show rb (rn n "row_in" [.fz (.list [.str (sS (nmL x)),.str (sS (nmL p)),.list (aG (itW v))])]) (λv=>rb (aN _ _ (aG (itW r))) λxs=>.ok (dOf v::xs))=_;rw[e1,((ihr h.2.2.1).b h.2.2.2).1 n (yL hn)];rfl
  ·have hn:2*(v.nb+r.nb+1)+1<=n:=hn;have hp:=jZ h.2.1.2;rcases List.mem_cons.mp (show d∈.tuple [.str x,.str p,enc v]::aS r from hd) with rfl | hd
   ·refine exnE (c:=2) n hn hn λn hn=>?_;exact q4q n h.1 (((ihv h.2.1.1).a h.2.1.2).2 (n+1) (Ps hn))
   ·exact((ihr h.2.2.1).b h.2.2.2).2 n (Pt hn) d hd
def brI(h:It):List Nat:=40::((tlI h).drop 1++[41])
def txt(w:WW):List Nat:=brI (itW w)
theorem F8{c:Nat}(h:inL c=true):okB c=true/\(97<=c/\c<=122):=by
 have e:c∈[97,98,99,100,101,102,103,104,105,106,107,108,109,110,111,112,113,114,115,116,117,118,119,120,121,122]:=by
  unfold inL at h;rw[show Txt.contains (so "abcdefghijklmnopqrstuvwxyz") ⟨#[c]⟩=decide (c∈[97,98,99,100,101,102,103,104,105,106,107,108,109,110,111,112,113,114,115,116,117,118,119,120,121,122]) from StrLaws.found_one _ c] at h;exact of_decide_eq_true h
 have:∀ x∈[97,98,99,100,101,102,103,104,105,106,107,108,109,110,111,112,113,114,115,116,117,118,119,120,121,122],okB x=true/\(97<=x/\x<=122):=by decide
 exact this c e
structure WdF(s:List Nat)(k:Nat):Prop where
 o:okWd s
 l:s.length<=k
 p:∀ c∈s,bW c=true
theorem wP{c:Nat}(h1:32<=c)(h2:c < 127):bW c=true:=decide_eq_true ⟨h1,h2⟩
theorem gF(h:okN x):WdF (nmL x) 8:=by
 obtain⟨lo,hi,lt⟩:=q1d h;have e:(nmL x).length=x.cps.size:=Array.length_toList;exact⟨⟨λh=>by rw[h] at e;rw[<- e] at lo;exact absurd lo (by decide),λc hc=>(F8 (lt c hc)).1⟩,by rw[e];exact hi,λc hc=>by have:=(F8 (lt c hc)).2;exact wP (M7 this) (M8 this)⟩
theorem q4r{l:Int}(h:l.natAbs < 10 ^ 30):WdF (bZ l) 31:=by
 have dg:∀ c:Nat,48<=c/\c<=57->okB c=true:=λc h=>by
  unfold okB;rw[show(c==32)=false from beq_false_of_ne (M9 h),show(c==40)=false from beq_false_of_ne (Na h),show(c==41)=false from beq_false_of_ne (Nb h)];rfl
 rcases Fl h with ⟨k,_,s,f⟩ | ⟨k,_,_,s,f⟩
 ·rw[s];exact⟨⟨λe=>by have:=f.l;rw[e] at this;exact absurd this (by decide),λc hc=>dg c (f.a c hc)⟩,by have:=f.u;exact Nc this,λc hc=>by have:=f.a c hc;exact wP (yR this) (yS this)⟩
 ·rw[s];refine⟨⟨λe=>(by cases e),λc hc=>?_⟩,by have:=f.u;rw[List.length_cons];exact Nd this,λc hc=>?_⟩
  ·rcases List.mem_cons.mp hc with rfl | hc
   ·rfl
   ·exact dg c (f.a c hc)
  ·rcases List.mem_cons.mp hc with rfl | hc
   ·rfl
   ·have:=f.a c hc;exact wP (yR this) (yS this)
theorem q4s{s:String}(h:(!(kw s).isEmpty&&(kw s).all λc=>okB c&&bW c)=true)(h3:(kw s).length<=8):WdF (kw s) 8:=by
 obtain⟨h1,h2⟩:=ax.mp h;have h2:=bb.mp h2;exact⟨⟨λe=>by rw[e] at h1;exact bft h1,λc hc=>(ax.mp (h2 c hc)).1⟩,h3,λc hc=>(ax.mp (h2 c hc)).2⟩
theorem q4t(h:WdF s k):s.count 40=0/\s.count 41=0 :=
 ⟨List.count_eq_zero.mpr λhm=>bft (h.o.ch 40 hm),List.count_eq_zero.mpr λhm=>bft (h.o.ch 41 hm)⟩
structure TxG(h:It)(l b:Nat):Prop where
 o:okI h
 l:(tlI h).length<=l
 c:(tlI h).count 40=(tlI h).count 41
 b:(tlI h).count 40=b
 p:∀ c∈tlI h,bW c=true
theorem TxG.nil:TxG .nil 0 0:=⟨trivial,ae _,rfl,rfl,λc h=>aZ h⟩
theorem TxG.le{l b:Nat}(x:TxG h l b)(hl:l<=l')(hb:b=b'):TxG h l' b':=⟨x.o,U x.l hl,x.c,x.b.trans hb,x.p⟩
theorem TxG.word{l b:Nat}(hs:WdF s k)(x:TxG r l b):TxG (.word s r) (k+1+l) b:=by
 obtain⟨c1,c2⟩:=q4t hs;have e1:(tlI (.word s r)).count 40=(tlI r).count 40:=by
  show(32::(s++tlI r)).count 40=_;rw[cb (by decide),cx,c1,ce]
 have e2:(tlI (.word s r)).count 41=(tlI r).count 41:=by
  show(32::(s++tlI r)).count 41=_;rw[cb (by decide),cx,c2,ce]
 refine⟨⟨hs.o,x.o⟩,?_,by rw[e1,e2,x.c],by rw[e1];exact x.b,λc hc=>?_⟩
 ·show(32::(s++tlI r)).length<=_;rw[List.length_cons,List.length_append];exact Nf hs.l x.l
 ·rcases List.mem_cons.mp (show c∈32::(s++tlI r) from hc) with rfl | hc
  ·rfl
  rcases bv.mp hc with hc | hc
  ·exact hs.p c hc
  ·exact x.p c hc
theorem j0(hn:dP h=false)(c:Nat)(hc:c≠32):((tlI h).drop 1).count c=(tlI h).count c:=by
 rw[gW hn,cb (Ne.symm hc)];rfl
theorem TxG.sub{l b:Nat}(hn:dP h=false)(x:TxG h l b)(y:TxG r l' b'):TxG (.sub h r) (l+2+l') (b+1+b'):=by
 have e1:(tlI (.sub h r)).count 40=(tlI h).count 40+1+(tlI r).count 40:=by
  show(32::40::((tlI h).drop 1++41::tlI r)).count 40=_;rw[cb (by decide),fb,cx,cb (by decide),j0 hn 40 (by decide)];exact Ng
 have e2:(tlI (.sub h r)).count 41=(tlI h).count 41+1+(tlI r).count 41:=by
  show(32::40::((tlI h).drop 1++41::tlI r)).count 41=_;rw[cb (by decide),cb (by decide),cx,fb,j0 hn 41 (by decide)];exact Nh
 have hl:=congrArg List.length (gW hn);rw[List.length_cons] at hl;refine⟨⟨hn,x.o,y.o⟩,?_,by rw[e1,e2,x.c,y.c],by rw[e1,x.b,y.b],λc hc=>?_⟩
 ·rw[wN];exact Ni hl x.l y.l
 ·rcases List.mem_cons.mp (show c∈32::40::((tlI h).drop 1++41::tlI r) from hc) with rfl | hc
  ·rfl
  rcases List.mem_cons.mp hc with rfl | hc
  ·rfl
  rcases bv.mp hc with hc | hc
  ·exact x.p c (io hc)
  rcases List.mem_cons.mp hc with rfl | hc
  ·rfl
  ·exact y.p c hc
theorem q4u(h:∀ f∈fs,okN f):TxG (fsI fs) (9*fs.length) 0:=by
 induction fs with
 |nil=>exact .nil
 |cons x r ih=>exact(TxG.word (gF (h x ac)) (ih λf hf=>h f (af _ hf))).le (by rw[List.length_cons];exact Nj) rfl
theorem iU{w:WW}(h:w.isRows=false):dP (itW w)=false:=by
 cases w with
 |bnil=>exact btf h
 |bcons=>exact btf h
 |_=>rfl
structure TxS(w:WW):Prop where
 a:w.isRows=false->TxG (itW w) (64*w.nb - 2) (w.nb - 1)
 b:w.isRows=true->TxG (itW w) (64*w.nb) w.nb
theorem wQ:∀ {w:WW},okP okN w->TxS w:=by
 have k:∀ s∈KWs,WdF (kw s) 8:=by
  intro s hs;simp only[KWs,List.mem_cons,List.not_mem_nil,or_false] at hs;rcases hs with rfl | rfl | rfl | rfl | rfl | rfl | rfl | rfl<;>exact q4s (by decide) (by decide)
 intro w
 induction w with
 |whole=>exact λ_=>⟨λ_=>(TxG.nil.word (k "whole" (by decide))).le (by decide) rfl,λh=>bft h⟩
 |pick x=>exact λh=>⟨λ_=>((TxG.nil.word (gF h)).word (k "pick" (by decide))).le (by show _<=62;exact Nk) rfl,λh=>bft h⟩
 |call a b=>exact λh=>⟨λ_=>(((TxG.nil.word (gF h.2)).word (gF h.1)).word (k "call" (by decide))).le (by show _<=62;exact Nl) rfl,λh=>bft h⟩
 |sift f l=>exact λh=>⟨λ_=>(((TxG.nil.word (q4r h.2)).word (gF h.1)).word (k "sift" (by decide))).le (by show _<=62;exact Nm) rfl,λh=>bft h⟩
 |join a b fs =>
  refine λh=>⟨λ_=>?_,λh=>bft h⟩
  have hn:dP (fsI fs)=false:=by
   have:=h.2.1.1;cases fs with
   |nil=>exact absurd this (by decide)
   |cons=>rfl
  have:=h.2.1.2;exact((((q4u h.2.2).sub hn TxG.nil).word (gF h.1.2)).word (gF h.1.1)).word (k "join" (by decide)) |>.le (by show _<=126;exact Nn this) rfl
 |each v ih =>
  refine λh=>⟨λ_=>?_,λh=>bft h⟩
  have hp:=jZ h.2;exact((((ih h.1).a h.2).sub (iU h.2) TxG.nil).word (k "each" (by decide))).le (by show _<=64*(v.nb+1) - 2;exact No) (by show _=v.nb+1 - 1;exact Np hp)
 |andThen a b iha ihb =>
  refine λh=>⟨λ_=>?_,λh=>bft h⟩
  have hp:=jZ h.1.2;have hq:=jZ h.2.2;exact((((iha h.1.1).a h.1.2).sub (iU h.1.2) (((ihb h.2.1).a h.2.2).sub (iU h.2.2) TxG.nil)).word (k "then" (by decide))).le (by show _<=64*(a.nb+b.nb+1) - 2;exact Nq) (by show _=a.nb+b.nb+1 - 1;exact Nr hp hq)
 |beside r ih=>exact λh=>⟨λ_=>(((ih h.1.1).b h.1.2).word (k "beside" (by decide))).le (by show _<=64*(r.nb+1) - 2;exact Nt) (by show _=r.nb+1 - 1;rfl),λh=>bft h⟩
 |bnil=>exact λ_=>⟨λh=>btf h,λ_=>TxG.nil⟩
 |bcons n p v r ihv ihr =>
  refine λh=>⟨λh=>btf h,λ_=>?_⟩
  have hp:=jZ h.2.1.2;exact(((((ihv h.2.1.1).a h.2.1.2).sub (iU h.2.1.2) TxG.nil).word (gF h.1.2)).word (gF h.1.1) |>.sub rfl ((ihr h.2.2.1).b h.2.2.2)).le (by show _<=64*(v.nb+r.nb+1);exact Nu) (by show _=v.nb+r.nb+1;exact Nv hp)
structure TxtF(T:List Nat)(b:Nat):Prop where
 l:T.length<=64*b
 c0:T.count 40=b
 c1:T.count 41=b
 p:∀ c∈T,bW c=true
theorem mS{w:WW}(h:okP okN w)(hr:w.isRows=false):TxtF (txt w) w.nb:=by
 obtain⟨_,l,c,b,p⟩:=(wQ h).a hr;have hp:=jZ hr;have hn:=iU hr;have hl:=congrArg List.length (gW hn);rw[List.length_cons] at hl;have e0:(txt w).count 40=(tlI (itW w)).count 40+1:=by
  show(40::((tlI (itW w)).drop 1++[41])).count 40=_;rw[fb,cx,j0 hn 40 (by decide)];rfl
 have e1:(txt w).count 41=(tlI (itW w)).count 41+1:=by
  show(40::((tlI (itW w)).drop 1++[41])).count 41=_;rw[cb (by decide),cx,j0 hn 41 (by decide)];rfl
 refine⟨?_,by exact Nw b hp e0,by exact Nx c b hp e1,λc hc=>?_⟩
 ·show(40::((tlI (itW w)).drop 1++[41])).length<=_;rw[List.length_cons,List.length_append,List.length_singleton];exact Ny l hl
 ·rcases List.mem_cons.mp (show c∈40::((tlI (itW w)).drop 1++[41]) from hc) with rfl | hc
  ·rfl
  rcases bv.mp hc with hc | hc
  ·exact p c (io hc)
  ·rw[List.mem_singleton.mp hc];rfl
theorem q4v(h:It):okI h->h.dep<=(tlI h).count 40:=by
 induction h with
 |nil=>exact λ_=>am _
 |word s r ih =>
  intro o;show r.dep<=(32::(s++tlI r)).count 40;rw[cb (by decide),cx];exact U (ih o.2) (ak _ _)
 |sub a b iha ihb =>
  intro o;have h1:=iha o.2.1;have h2:=ihb o.2.2;show max (a.dep+1) b.dep<=(32::40::((tlI a).drop 1++41::tlI b)).count 40;rw[cb (by decide),fb,cx,cb (by decide),j0 o.1 40 (by decide)];exact Nz h1 h2
theorem q4w(e:rd1 (rdS k) T=some (.b h,[])):dP h=false/\okI h/\T=brI h:=by
 unfold rd1 at e
 by_cases hc:T.head?=some 40
 ·rw[if_pos hc] at e;obtain⟨z,f1,f2⟩:=im.mp e
  by_cases hc2:z.2.head?=some 41
  ·rw[if_pos hc2] at f2;obtain⟨a,b,c⟩:=q25 (r:=z.2) (h:=z.1) f1;have f3:=si f2;have h1:z.1=h:=Im.b.inj (Prod.mk.inj f3).1;have h2:z.2.tail=[]:=(Prod.mk.inj f3).2;subst h1;refine⟨a,b,?_⟩;rw[eZ hc,c,eZ hc2,h2];rfl
  ·rw[if_neg hc2] at f2;exact ns f2
 ·rw[if_neg hc] at e
  split at e
  ·exact ns e
  ·exact absurd (Prod.mk.inj (si e)).1 nofun
theorem q4x(o:okI h)(hn:dP h=false):rd1 (rdS (brI h).length) (brI h)=some (.b h,[]):=by
 have:=q24 (h:=h) (k:=(brI h).length) (r:=[41]) o hn ⟨rfl,λe=>absurd (si e) (by decide)⟩ (by
  show _ < (40::((tlI h).drop 1++[41])).length;rw[List.length_cons];exact cz _)
 show rd1 (rdS (brI h).length) (40::((tlI h).drop 1++[41]))=_;rw[wC,this];rfl
theorem F9{n:Nat}{x:PyData}(e:rn n "item_at" [.fz (.str (sS T)),.fz (.int (0:Nat))]=.ok v)(hv:dOf v=.tuple [x,.int q]):rn (n+1) "read" [.fz (.str (sS T))]=ifS (κ (.bool (!decide (q=T.length)))) (.exc BT) (rb (rn n "view_in" [.fz x]) λv1=>ifS (unS .Not (aE (rn n "is_view") [bU (V.cl v1)])) (.exc BT) (dM (V.cl v1) R.ok)):=by
 rw[tT];show rb (rn n "item_at" [.fz (.str (sS T)),.fz (.int (0:Nat))]) _=_;rw[e,aJ,hv,Za,aT,aJ,Zb,jX];show ifS (R.ok (V.fz (.bool (!((q:Int)==(T.length:Int)))))) _ _=_;rw[show((q:Int)==(T.length:Int))=decide (q=T.length) from by rw[eq,beq_iff_eq,decide_eq_true_iff,ip]];rfl
theorem q4y{n:Nat}(e:rn n "item_at" [.fz (.str (sS T)),.fz (.int (0:Nat))]=.exc BT):rn (n+1) "read" [.fz (.str (sS T))]=.exc BT:=by
 rw[tT];show rb (rn n "item_at" [.fz (.str (sS T)),.fz (.int (0:Nat))]) _=_;rw[e];rfl
theorem q4z{n:Nat}{w:WW}(h:gd w)(hr:w.isRows=false)(hT:(txt w).length < bX)(hn:2*w.nb+2<=n):rn (n+1) "read" [.fz (.str (sS (txt w)))]=κ (enc w):=by
 have f:=mS h.ok hr;have ho:=((wQ h.ok).a hr).o;have I:=(Fa (txt w).length).a (n:=n) (T:=txt w) (p:=0) (by rw[List.drop_zero];exact ae _) (am _) hT (by rw[List.drop_zero,f.c0];exact N0 hn);rw[List.drop_zero,show rd1 (rdS (txt w).length) (txt w)=some (.b (itW w),[]) from q4x ho (iU hr)] at I;generalize ho:(some (Im.b (itW w),([]:List Nat)))=o at I;cases I with
 |bad e=>cases ho
 |ok x r q v e hv hd hq hp =>
  cases ho;rw[F9 e hv,decide_eq_true (show q=(txt w).length from hq)];show rb (rn n "view_in" [.fz (.list (aG (itW w)))]) _=_;rw[((F7 h).a hr).1 n (N1 hn),aJ];show ifS (unS .Not (rn n "is_view" [.fz (enc w)])) _ _=_;rw[((F7 h).a hr).2 n hn];rfl
theorem q40{n:Nat}(hT:T.length < bX)(hn:2*T.count 40+6<=n)(hno:∀ w,gd w->w.isRows=false->T≠txt w):rn (n+1) "read" [.fz (.str (sS T))]=.exc BT:=by
 have I:=(Fa T.length).a (n:=n) (T:=T) (p:=0) (by rw[List.drop_zero];exact ae _) (am _) hT (by rw[List.drop_zero];exact N2 hn);rw[List.drop_zero] at I;have hout:=λ(h:It) (e:rd1 (rdS T.length) T=some (.b h,[]))=>q4w e;generalize rd1 (rdS T.length) T=o at I hout;cases I with
 |bad e=>exact q4y e
 |ok x r q v e hv hd hq hp =>
  rw[F9 e hv]
  by_cases hl:q=T.length
  ·rw[decide_eq_true hl];have hr:r=[]:=co.mp (N3 hq hl);subst hr;show rb (rn n "view_in" [.fz x.dat]) _=_;obtain⟨n,rfl⟩:∃ j,n=j+1:=⟨n - 1,by exact N4 hn⟩
   cases x with
   |w s=>rw[show(Im.w s).dat=.str (sS s) from rfl,wM];rfl
   |b h =>
    refine hde λ_ θ=>?_;obtain⟨h0,ho,rfl⟩:=hout h rfl;apply θ;have hd1:=q4v h ho;have hc:(tlI h).count 40+1=(brI h).count 40:=by
     show _=(40::((tlI h).drop 1++[41])).count 40;rw[fb,cx,j0 h0 40 (by decide)];rfl
    have hz:(tlI h).length < aF:=by
     have h1:(40::((tlI h).drop 1++[41])).length < bX:=hT;have h2:=congrArg List.length (gW h0);rw[List.length_cons,List.length_append,List.length_singleton] at h1;rw[List.length_cons] at h2;have:aF=16777216:=rfl;have:bX=8192:=rfl;omega
    rcases q4m h.dep h (ae _) h0 ho hz (n+1) (N5 hn hd1 hc) with e' | ⟨d,e',p,b⟩
    ·rw[show(Im.b h).dat=.list (aG h) from rfl,e'];rfl
    ·rw[show(Im.b h).dat=.list (aG h) from rfl,e',aJ];show ifS (unS .Not (rn (n+1) "is_view" [.fz d])) _ _=_;obtain⟨t,e2,f⟩:=q3t _ d p (n+1) (N6 hn hd1 hc);rw[e2];cases t with
     |false=>rfl
     |true =>
      obtain⟨w,hw,hd⟩:=f rfl;exact absurd (by rw[b w hw hd];rfl) (hno w hw.1 hw.2)
  ·rw[decide_eq_false hl];rfl
theorem wR(a b:R V):ifS (κ (.bool false)) a b=b:=rfl
theorem q41(a b:List Nat):sS a++sS b=sS (a++b):=E5 (by
 show((sS a).cps++(sS b).cps).toList=_;rw[Array.toList_append];rfl)
theorem qN{a b:List Nat}(h:a.length+b.length<=aF):aB .Add (κ (.str (sS a))) (κ (.str (sS b)))=κ (.str (sS (a++b))):=by
 show ofP (if fB .Add=true/\(sS a).length+(sS b).length<=aF then P.ok (V.fz (.str (sS a++sS b))) else .no)=_;rw[if_pos ⟨rfl,by rw[gX,gX];exact h⟩,q41];rfl
noncomputable def twL:List (List Nat)->List Nat
 | []=>[]
 |s::r=>32::(s++twL r)
def elI:It->List (List Nat)
 | .nil=>[]
 | .word s r=>s::elI r
 | .sub h r=>brI h::elI r
theorem Ga:∀ f:It,tlI f=twL (elI f):=by
 intro f
 induction f with
 |nil=>rfl
 |word s r ih =>
  show 32::(s++tlI r)=32::(s++twL (elI r));rw[ih]
 |sub h r _ ih =>
  show 32::40::((tlI h).drop 1++41::tlI r)=32::((40::((tlI h).drop 1++[41]))++twL (elI r));rw[ih];simp
theorem wS(h:s∈ws):s.length+1<=(twL ws).length:=by
 induction ws with
 |nil=>exact aZ h
 |cons x r ih =>
  show _<=(32::(x++twL r)).length;rw[List.length_cons,List.length_append];rcases List.mem_cons.mp h with rfl | h
  ·exact N7
  ·have:=ih h;exact N8 this
theorem q42{l:Int}(h:l.natAbs < 10 ^ 30):hU (.int l)=.ok (.fz (.str (sS (bZ l)))):=by
 show(if l.natAbs.log2 < 1920 then fz (.str (kF l)) else .no)=_;rw[if_pos ?_,show sS (bZ l)=kF l from gV _];rfl
 by_cases h0:l.natAbs=0
 ·rw[h0];decide
 ·exact(Nat.log2_lt h0).mpr (gk h (by decide +kernel))
theorem c8{a b c:List Nat}{r:R V}(hr:r=κ (.str (sS a)))(hc:a++b=c)(h:c.length<=aF):aB .Add r (κ (.str (sS b)))=κ (.str (sS c)):=by
 rw[hr,<- hc,qN (by rw[<- List.length_append,hc];exact h)]
theorem qO{a c:List Nat}{r:R V}(hr:r=κ (.str (sS a)))(hc:a++nmL x=c)(h:c.length<=aF):aB .Add r (κ (.str x))=κ (.str (sS c)):=by
 have:=c8 (b:=nmL x) hr hc h;rw[show sS (nmL x)=x from gV x] at this;exact this
theorem Gb(f:It):brI f=40::((twL (elI f)).drop 1++[41]):=by
 unfold brI;rw[Ga]
theorem q43(fs:List Str):elI (fsI fs)=fs.map nmL:=by
 induction fs with
 |nil=>rfl
 |cons x r ih=>exact congrArg (nmL x::·) ih
theorem wT(n:Nat)(x1:PyData)(w2:V)(o3 o4 o5 o6 o7 o8 o9 o10:Option V)(kn:KN)(kr:KR):stm BB (so "_law_text") n 24 (List.drop 2 (aP BB (so "_law_text"))) (bG (ζ x1) (some w2) o3 o4 o5 o6 o7 o8 o9 o10) kn kr=rb (aB .Add (ofP (rdv (V.cl w2))) (κ (.str (so ")")))) kr:=by kernel_rfl
theorem Gc(n:Nat)(σ:aA)(kn:KN)(kr:KR):stm BB (so "_law_text") n 23 (List.drop 1 (dT (List.drop 1 (aP BB (so "_law_text"))))) σ kn kr=kn σ:=by kernel_rfl
def prE(n:Nat)(d:PyData):R V:=bM (κ (.bool (cC d))) (rn n "_law_text" [.fz d]) (ofP (hU d))
structure PrP(n:Nat)(p:PyData×List Nat):Prop where
 h:prE n p.1=κ (.str (sS p.2))
theorem q44(n:Nat)(a:PyData)(kn:KN)(kr:KR):∀ (ps:List (PyData×List Nat)) (T:List Nat) (o9 o10:Option V),(∀ p∈ps,PrP n p)->(T++twL (ps.map (·.2))).length<=aF ->
  ∃ o9' o10',a8 (uC n) pO (ps.map (·.1)) (bG (ζ a) (ζ (.str (sS T))) none none none none none none o9 o10) kn kr=kn (bG (ζ a) (ζ (.str (sS (T++twL (ps.map (·.2)))))) none none none none none none o9' o10'):=by
 intro ps
 induction ps with
 |nil=>intro T o9 o10 _ _;exact⟨o9,o10,congrArg (λl=>kn (bG (ζ a) (ζ (.str (sS l))) none none none none none none o9 o10)) (bz T).symm⟩
 |cons p ps ih =>
  intro T o9 o10 hp hl;have e:T++twL ((p::ps).map (·.2))=(T++32::p.2)++twL (ps.map (·.2)):=by
   show T++32::(p.2++twL (ps.map (·.2)))=_;simp
  rw[e] at hl ⊢;obtain⟨o9',o10',e2⟩:=ih (T++32::p.2) (ζ p.1) (ζ (.str (sS p.2))) (λq hq=>hp q (af _ hq)) hl;refine⟨o9',o10',Eq.trans ?_ e2⟩;simp only[List.length_append,List.length_cons] at hl;show rb (ofP (bA pO p.1 _)) _=_;rw[q0q,aT,aJ,q0r,show bM (κ (.bool (cC p.1))) (rn n "_law_text" [.fz p.1]) (ofP (hU p.1))=κ (.str (sS p.2)) from (hp p ac).h,aJ];show rb (aB .Add (aB .Add (κ (.str (sS T))) (κ (.str (sS [32])))) (κ (.str (sS p.2)))) _=_;rw[c8 (c:=T++[32]) rfl rfl (by simp only[List.length_append,List.length_cons,List.length_nil];exact N9 hl),c8 (c:=T++32::p.2) rfl (by simp) (by simp only[List.length_append,List.length_cons];exact Oa hl)];rfl
theorem Gd(n:Nat)(a:PyData){c:List Nat}{b:List Nat}(hb:aB .Mult (κ (.str (so " "))) (aL cL (aV (ofP (cmp .Gt (.int i) (.int 0)))))=κ (.str (sS b)))(hc:T++b++nmL x=c)(hl:c.length<=aF)(o7 o8:Option V)(kn:KN)(kr:KR):
  (rb (ofP (bA jR (.tuple [.int i,.str x]) (bG (ζ a) (ζ (.str (sS T))) none none none none o7 o8 none none))) λσ=>jQ n σ kn kr)=kn (bG (ζ a) (ζ (.str (sS c))) none none none none (ζ (.int i)) (ζ (.str x)) none none):=by
 rw[q0n,aT,aJ,q0o,hb];show rb (aB .Add (aB .Add (κ (.str (sS T))) (κ (.str (sS b)))) (κ (.str x))) _=_;rw[c8 (c:=T++b) rfl rfl (by rw[<- hc] at hl;simp only[List.length_append] at hl ⊢;exact Ob hl),qO (c:=c) rfl hc hl];rfl
theorem q45(n:Nat)(a:PyData)(kn:KN)(kr:KR):∀ (fs:List Str) (i:Int) (T:List Nat) (o7 o8:Option V),0 < i->(T++twL (fs.map nmL)).length<=aF ->
  ∃ o7' o8',a8 (jQ n) jR (cU i (fs.map .str)) (bG (ζ a) (ζ (.str (sS T))) none none none none o7 o8 none none) kn kr=kn (bG (ζ a) (ζ (.str (sS (T++twL (fs.map nmL))))) none none none none o7' o8' none none):=by
 intro fs
 induction fs with
 |nil=>intro i T o7 o8 _ _;exact⟨o7,o8,by show kn _=kn _;rw[show T++twL (List.map nmL [])=T from bz T]⟩
 |cons x fs ih =>
  intro i T o7 o8 hi hl;have e:T++twL ((x::fs).map nmL)=(T++[32]++nmL x)++twL (fs.map nmL):=by
   show T++32::(nmL x++twL (fs.map nmL))=_;simp
  rw[e] at hl ⊢;obtain⟨o7',o8',e2⟩:=ih (i+1) (T++[32]++nmL x) (ζ (.int i)) (ζ (.str x)) (Oc hi) hl;refine⟨o7',o8',Eq.trans (Gd n a (b:=[32]) ?_ rfl (by rw[List.length_append] at hl;exact U (al _ _) hl) o7 o8 _ kr) e2⟩;show aB .Mult (κ (.str (so " "))) (aL cL (κ (.bool (decide (0 < i)))))=_;rw[decide_eq_true hi];kernel_rfl
theorem q46(n:Nat)(a:PyData)(kn:KN)(kr:KR)(fs:List Str)(T:List Nat)(hl:(T++twL (fs.map nmL)).length<=aF):
  ∃ o7' o8',a8 (jQ n) jR (cU 0 (fs.map .str)) (bG (ζ a) (ζ (.str (sS T))) none none none none none none none none) kn kr=kn (bG (ζ a) (ζ (.str (sS (T++(twL (fs.map nmL)).drop 1)))) none none none none o7' o8' none none):=by
 cases fs with
 |nil=>exact⟨none,none,by show kn _=kn _;rw[show T++(twL (List.map nmL [])).drop 1=T from bz T]⟩
 |cons x fs =>
  have e:T++(twL ((x::fs).map nmL)).drop 1=(T++[]++nmL x)++twL (fs.map nmL):=by
   show T++(nmL x++twL (fs.map nmL))=_;simp
  rw[e];have hl':(T++32::(nmL x++twL (fs.map nmL))).length<=aF:=hl;simp only[List.length_append,List.length_cons] at hl';obtain⟨o7',o8',e2⟩:=q45 n a kn kr fs 1 (T++[]++nmL x) (ζ (.int 0)) (ζ (.str x)) (by decide) (by simp only[List.length_append,List.length_nil];exact Od hl');exact⟨o7',o8',Eq.trans (Gd n a (b:=[]) (by kernel_rfl) rfl (by simp only[List.length_append,List.length_nil];exact Oe hl') none none _ kr) e2⟩
def TeA(w:WW):Prop:=∀ n,2*w.hgt+2<=n->(brI (itW w)).length<=aF->rn n "_law_text" [.fz (enc w)]=κ (.str (sS (brI (itW w))))
def TeB(w:WW):Prop:=∀ (n:Nat) (a:PyData) (T:List Nat) (o3 o4 o5 o6:Option V) (kn:KN) (kr:KR),2*w.hgt+2<=n->(T++tlI (itW w)).length<=aF->∃ o3' o4' o5' o6',
 a8 (pN n) lX (aS w) (bG (ζ a) (ζ (.str (sS T))) o3 o4 o5 o6 none none none none) kn kr=kn (bG (ζ a) (ζ (.str (sS (T++tlI (itW w))))) o3' o4' o5' o6' none none none none)
structure TeS(w:WW):Prop where
 a:w.isRows=false->TeA w
 b:w.isRows=true->TeB w
theorem j4(n:Nat){a:PyData}{k:String}{ps:List (PyData×List Nat)}(h0:getItem a (.int 0)=.ok (.fz (.str (so k))))(hk:(so k==so "beside")=false/\(so k==so "join")=false)(hs:plI (aR (.ok a) (some (.ok (.fz (.int 1)))) none)=.ok (ps.map (·.1)))(hp:∀ p∈ps,PrP n p)(hl:(40::((twL (kw k::ps.map (·.2))).drop 1++[41])).length<=aF):
  rn (n+1) "_law_text" [.fz a]=κ (.str (sS (40::((twL (kw k::ps.map (·.2))).drop 1++[41])))):=by
 have e:40::((twL (kw k::ps.map (·.2))).drop 1++[41])=(40::kw k)++twL (ps.map (·.2))++[41]:=by
  show 40::((kw k++twL (ps.map (·.2)))++[41])=_;simp
 rw[e] at hl ⊢;simp only[List.length_append,List.length_cons,List.length_nil] at hl;have b1:aC (κ (.str (so k))) .Eq (κ (.str (so "beside")))=κ (.bool false):=by
  show R.ok (V.fz (.bool (so k==so "beside")))=_;rw[hk.1]
 have b2:aC (κ (.str (so k))) .Eq (κ (.str (so "join")))=κ (.bool false):=by
  show R.ok (V.fz (.bool (so k==so "join")))=_;rw[hk.2]
 rw[uE,h0,aT,show aB .Add (κ (.str (so "("))) (κ (.str (so k)))=κ (.str (sS (40::kw k))) from c8 (a:=[40]) (b:=kw k) rfl rfl (by simp only[List.length_cons];exact Of hl),aJ,b1,wR,b2,wR,hs,aJ];obtain⟨o9,o10,e3⟩:=q44 n a (λσ=>uD n σ (λσ=>stm BB (so "_law_text") n 23 (List.drop 1 (dT (List.drop 1 (aP BB (so "_law_text"))))) σ (λσ=>stm BB (so "_law_text") n 24 (List.drop 2 (aP BB (so "_law_text"))) σ (λ_=>κ .none) R.ok) R.ok) R.ok) R.ok ps (40::kw k) none none hp (by simp only[List.length_append,List.length_cons];exact Og hl);refine Eq.trans e3 ?_;rw[q0s,Gc,wT];show rb (aB .Add (κ (.str (sS (40::kw k++twL (ps.map (·.2)))))) (κ (.str (sS [41])))) R.ok=_;rw[c8 (c:=(40::kw k)++twL (ps.map (·.2))++[41]) rfl rfl (by simp only[List.length_append,List.length_cons,List.length_nil];exact hl)];rfl
theorem qP(n:Nat)(x:Str):PrP n (.str x,nmL x):=⟨by
 show ofP (fz (.str x))=_;rw[show sS (nmL x)=x from gV x];rfl⟩
theorem q47(n:Nat){l:Int}(h:l.natAbs < 10 ^ 30):PrP n (.int l,bZ l):=⟨by
 show ofP (hU (.int l))=_;rw[q42 h];rfl⟩
theorem wU(n:Nat){w:WW}(hr:w.isRows=false)(h:rn n "_law_text" [.fz (enc w)]=κ (.str (sS (brI (itW w))))):PrP n (enc w,brI (itW w)):=⟨by
 have:cC (enc w)=true:=by cases w<;>first | rfl | cases hr
 unfold prE;rw[this];exact h⟩
theorem q48:∀ {w:WW},okP okN w->TeS w:=by
 intro w
 induction w with
 |whole=>exact λ_=>⟨λ_ n hn hl=>exnE (c:=1) n hn hn λn _=>j4 n (ps:=[]) rfl ⟨by decide,by decide⟩ rfl (λp hp=>aZ hp) hl,λh=>bft h⟩
 |pick x=>exact λ_=>⟨λ_ n hn hl=>exnE (c:=1) n hn hn λn _=>j4 n (ps:=[(.str x,nmL x)]) rfl ⟨by decide,by decide⟩ rfl (λp hp=>by rw[List.mem_singleton.mp hp];exact qP n x) hl,λh=>bft h⟩
 |call a b=>exact λ_=>⟨λ_ n hn hl=>exnE (c:=1) n hn hn λn _=>j4 n (ps:=[(.str a,nmL a),(.str b,nmL b)]) rfl ⟨by decide,by decide⟩ rfl (λp hp=>by
   simp only[List.mem_cons,List.not_mem_nil,or_false] at hp;rcases hp with rfl | rfl
   ·exact qP n a
   ·exact qP n b) hl,λh=>bft h⟩
 |sift f l=>exact λh=>⟨λ_ n hn hl=>exnE (c:=1) n hn hn λn _=>j4 n (ps:=[(.str f,nmL f),(.int l,bZ l)]) rfl ⟨by decide,by decide⟩ rfl (λp hp=>by
   simp only[List.mem_cons,List.not_mem_nil,or_false] at hp;rcases hp with rfl | rfl
   ·exact qP n f
   ·exact q47 n h.2) hl,λh=>bft h⟩
 |join a b fs =>
  intro h;refine⟨λ_ n hn hl=>exnE (c:=1) n hn hn λn _=>?_,λh=>bft h⟩;have e:brI (itW (.join a b fs))=(kw "(join" ++ (32::(nmL a++32::(nmL b++[32,40]))))++(twL (fs.map nmL)).drop 1++[41]++[41]:=by
   show 40::(kw "join" ++ (32::(nmL a++(32::(nmL b++(32::40::((tlI (fsI fs)).drop 1++41::[]))))))++[41])=_;rw[Ga,q43,show kw "(join" = 40::kw "join" from rfl];simp
  rw[e] at hl ⊢;have hk:(kw "(join").length=5:=rfl;simp only[List.length_cons,List.length_append,List.length_nil,List.length_drop,hk] at hl;obtain⟨o7,o8,e3⟩:=q46 n (enc (.join a b fs)) (λσ=>uB n σ (λσ=>stm BB (so "_law_text") n 23 (List.drop 1 (dT (List.drop 1 (aP BB (so "_law_text"))))) σ (λσ=>stm BB (so "_law_text") n 24 (List.drop 2 (aP BB (so "_law_text"))) σ (λ_=>κ .none) R.ok) R.ok) R.ok) R.ok fs (kw "(join" ++ (32::(nmL a++32::(nmL b++[32,40])))) (by simp only[List.length_cons,List.length_append,List.length_nil,hk];exact Oh hl);rw[uE];show rb (aB .Add (aB .Add (aB .Add (aB .Add (aB .Add (κ (.str (sS (kw "(join")))) (κ (.str (sS [32])))) (κ (.str a))) (κ (.str (sS [32])))) (κ (.str b))) (κ (.str (sS [32,40])))) (λv3=>rb (.ok (cU 0 (fs.map .str))) λl4=>a8 (jQ n) jR l4 (bG (ζ (enc (.join a b fs))) (some v3) none none none none none none none none) _ _)=_;rw[c8 (c:=kw "(join" ++ [32]) rfl rfl (by decide),qO (c:=kw "(join" ++ 32::nmL a) rfl (by simp) (by simp only[List.length_cons,List.length_append,hk];exact Oi hl),c8 (c:=kw "(join" ++ 32::(nmL a++[32])) rfl (by simp) (by simp only[List.length_cons,List.length_append,List.length_nil,hk];exact Oj hl),qO (c:=kw "(join" ++ 32::(nmL a++32::nmL b)) rfl (by simp) (by simp only[List.length_cons,List.length_append,hk];exact Ok hl),c8 (c:=kw "(join" ++ (32::(nmL a++32::(nmL b++[32,40])))) rfl (by simp) (by simp only[List.length_cons,List.length_append,List.length_nil,hk];exact Ol hl),aJ,aJ];refine Eq.trans e3 ?_;rw[q0p];show rb (aB .Add (κ (.str (sS _))) (κ (.str (sS [41])))) _=_;rw[c8 (c:=(kw "(join" ++ (32::(nmL a++32::(nmL b++[32,40]))))++(twL (fs.map nmL)).drop 1++[41]) rfl rfl (by simp only[List.length_cons,List.length_append,List.length_nil,List.length_drop,hk];exact Om hl),aJ,Gc,wT];show rb (aB .Add (κ (.str (sS _))) (κ (.str (sS [41])))) _=_;rw[c8 (c:=(kw "(join" ++ (32::(nmL a++32::(nmL b++[32,40]))))++(twL (fs.map nmL)).drop 1++[41]++[41]) rfl rfl (by simp only[List.length_cons,List.length_append,List.length_nil,List.length_drop,hk];exact hl)];rfl
 |each v ih =>
  intro h;refine⟨λ_ n hn hl=>exnE (c:=1) n hn hn λn hn=>?_,λh=>bft h⟩;have hn:2*(v.hgt+1)+2<=n+1:=hn;have e:brI (itW (.each v))=40::((twL (kw "each" :: [brI (itW v)])).drop 1++[41]):=Gb _;rw[e] at hl ⊢;have hb:(brI (itW v)).length<=aF:=by
   have:=wS (s:=brI (itW v)) (ws:=kw "each" :: [brI (itW v)]) (by simp);simp only[List.length_cons,List.length_append,List.length_nil,List.length_drop] at hl;exact On this hl
  exact j4 n (ps:=[(enc v,brI (itW v))]) rfl ⟨by decide,by decide⟩ rfl (λp hp=>by rw[List.mem_singleton.mp hp];exact wU n h.2 ((ih h.1).a h.2 n (qW hn) hb)) hl
 |andThen a b iha ihb =>
  intro h;refine⟨λ_ n hn hl=>exnE (c:=1) n hn hn λn hn=>?_,λh=>bft h⟩;have hn:2*(max a.hgt b.hgt+1)+2<=n+1:=hn;have e:brI (itW (.andThen a b))=40::((twL (kw "then" :: [brI (itW a),brI (itW b)])).drop 1++[41]):=Gb _;rw[e] at hl ⊢;have hb:(brI (itW a)).length<=aF/\(brI (itW b)).length<=aF:=by
   have:=wS (s:=brI (itW a)) (ws:=kw "then" :: [brI (itW a),brI (itW b)]) (by simp);have:=wS (s:=brI (itW b)) (ws:=kw "then" :: [brI (itW a),brI (itW b)]) (by simp);simp only[List.length_cons,List.length_append,List.length_nil,List.length_drop] at hl;constructor<;>lia
  exact j4 n (ps:=[(enc a,brI (itW a)),(enc b,brI (itW b))]) rfl ⟨by decide,by decide⟩ rfl (λp hp=>by
   simp only[List.mem_cons,List.not_mem_nil,or_false] at hp;rcases hp with rfl | rfl
   ·exact wU n h.1.2 ((iha h.1.1).a h.1.2 n (Oo hn) hb.1)
   ·exact wU n h.2.2 ((ihb h.2.1).a h.2.2 n (Op hn) hb.2)) hl
 |beside r ih =>
  intro h;refine⟨λ_ n hn hl=>exnE (c:=1) n hn hn λn hn=>?_,λh=>bft h⟩;have hn:2*(r.hgt+1)+2<=n+1:=hn;have e:brI (itW (.beside r))=kw "(beside" ++ tlI (itW r)++[41]:=rfl;rw[e] at hl ⊢;have hk:(kw "(beside").length=7:=rfl;simp only[List.length_cons,List.length_append,List.length_nil,hk] at hl;obtain⟨o3,o4,o5,o6,e3⟩:=(ih h.1.1).b h.1.2 n (enc (.beside r)) (kw "(beside") none none none none (λσ=>uA n σ (λσ=>stm BB (so "_law_text") n 24 (List.drop 2 (aP BB (so "_law_text"))) σ (λ_=>κ .none) R.ok) R.ok) R.ok (qW hn) (by simp only[List.length_append,hk];exact Oq hl);rw[uE];show rb (plI (κ (enc r))) (λl2=>a8 (pN n) lX l2 (bG (ζ (enc (.beside r))) (some (.fz (.str (sS (kw "(beside"))))) none none none none none none none none) _ _)=_;rw[eM h.1.2];refine Eq.trans e3 ?_;rw[q0m,wT];show rb (aB .Add (κ (.str (sS _))) (κ (.str (sS [41])))) _=_;rw[c8 (c:=kw "(beside" ++ tlI (itW r)++[41]) rfl rfl (by simp only[List.length_cons,List.length_append,List.length_nil,hk];exact hl)];rfl
 |bnil=>exact λ_=>⟨λh=>btf h,λ_ n a T o3 o4 o5 o6 kn kr _ _=>⟨o3,o4,o5,o6,by show kn _=kn _;rw[show T++tlI (itW .bnil)=T from bz T]⟩⟩
 |bcons x p v r ihv ihr =>
  intro h;obtain⟨_,⟨hv,rv⟩,hr,rr⟩:=h;refine⟨λh=>btf h,λ_ n a T o3 o4 o5 o6 kn kr hn hl=>?_⟩;have hn':2*max v.hgt r.hgt+2<=n:=hn;have e:T++tlI (itW (.bcons x p v r))=(T++([32,40]++(nmL x++32::(nmL p++32::brI (itW v)))++[41]))++tlI (itW r):=by
   show T++(32::40::((nmL x++(32::(nmL p++(32::40::((tlI (itW v)).drop 1++41::[])))))++41::tlI (itW r)))=_;unfold brI;simp
  rw[e] at hl ⊢;simp only[List.length_cons,List.length_append,List.length_nil] at hl;obtain⟨o3',o4',o5',o6',e3⟩:=(ihr hr).b rr n a (T++([32,40]++(nmL x++32::(nmL p++32::brI (itW v)))++[41])) (ζ (.str x)) (ζ (.str p)) (ζ (enc v)) (ζ (.str (sS (nmL x++32::(nmL p++32::brI (itW v)))))) kn kr (Os hn') (by simp only[List.length_cons,List.length_append,List.length_nil];exact hl);refine⟨o3',o4',o5',o6',Eq.trans ?_ e3⟩;show rb (ofP (bA lX (.tuple [.str x,.str p,enc v]) _)) _=_;rw[q0k,aT,aJ,q0l,(ihv hv).a rv n (Ot hn') (Ou hl)];show rb (aB .Add (aB .Add (aB .Add (aB .Add (κ (.str x)) (κ (.str (sS [32])))) (κ (.str p))) (κ (.str (sS [32])))) (κ (.str (sS (brI (itW v)))))) _=_;rw[c8 (r:=κ (.str x)) (a:=nmL x) (b:=[32]) (c:=nmL x++[32]) (by rw[show sS (nmL x)=x from gV x]) rfl (by simp only[List.length_cons,List.length_append,List.length_nil];exact Ov hl),qO (c:=nmL x++32::nmL p) rfl (by simp) (by simp only[List.length_cons,List.length_append];exact Ow hl),c8 (c:=nmL x++32::(nmL p++[32])) rfl (by simp) (by simp only[List.length_cons,List.length_append,List.length_nil];exact Ox hl),c8 (c:=nmL x++32::(nmL p++32::brI (itW v))) rfl (by simp) (by simp only[List.length_cons,List.length_append];exact Oy hl),aJ];show rb (aB .Add (aB .Add (aB .Add (κ (.str (sS T))) (κ (.str (sS [32,40])))) (κ (.str (sS (nmL x++32::(nmL p++32::brI (itW v))))))) (κ (.str (sS [41])))) _=_;rw[c8 (c:=T++[32,40]) rfl rfl (by simp only[List.length_cons,List.length_append,List.length_nil];exact Oz hl),c8 (c:=T++([32,40]++(nmL x++32::(nmL p++32::brI (itW v))))) rfl (by simp) (by simp only[List.length_cons,List.length_append,List.length_nil];exact O0 hl),c8 (c:=T++([32,40]++(nmL x++32::(nmL p++32::brI (itW v)))++[41])) rfl (by simp) (by simp only[List.length_cons,List.length_append,List.length_nil];exact O1 hl)];rfl
theorem Ge:∀ w:WW,w.hgt<=w.nb:=by
 intro w
 induction w with
 |each v ih=>exact ah ih
 |andThen a b iha ihb=>show max a.hgt b.hgt+1<=a.nb+b.nb+1;exact O2 iha ihb
 |beside r ih=>exact ah ih
 |bcons n p v r ihv ihr=>show max v.hgt r.hgt<=v.nb+r.nb+1;exact O3 ihv ihr
 |_=>exact am _
theorem wV{w:WW}(h:okP okN w)(hr:w.isRows=false)(hT:(txt w).length < bX){n:Nat}(hn:2*w.nb+2<=n):rn n "_law_text" [.fz (enc w)]=κ (.str (sS (txt w))):=by
 have:=Ge w;exact(q48 h).a hr n (O4 hn this) (bh (gk hT (by decide)))
theorem j5(c:Nat)(l:List Nat):∃ w ws,aQ c l=w::ws:=by
 induction l with
 |nil=>exact⟨[],[],rfl⟩
 |cons x r ih =>
  obtain⟨w,ws,e⟩:=ih;show ∃ w ws,(if x=c then []::aQ c r else (match aQ c r with | []=>[[x]] | w::ws=>(x::w)::ws))=w::ws;rw[e]
  by_cases h:x=c
  ·rw[if_pos h];exact⟨_,_,rfl⟩
  ·rw[if_neg h];exact⟨_,_,rfl⟩
theorem iV(c:Nat)(r:List Nat):aQ c (c::r)=[]::aQ c r:=if_pos rfl
theorem iW{c x:Nat}(h:x≠c){r w:List Nat}(e:aQ c r=w::ws):aQ c (x::r)=(x::w)::ws:=by
 show(if x=c then _ else (match aQ c r with | []=>[[x]] | w::ws=>(x::w)::ws))=_;rw[if_neg h,e]
theorem q49(c:Nat)(a b:List Nat):aQ c (a++c::b)=aQ c a++aQ c b:=by
 induction a with
 |nil=>exact iV c b
 |cons x a ih =>
  by_cases h:x=c
  ·subst h;rw[List.cons_append,iV,iV,ih];rfl
  ·obtain⟨w,ws,e⟩:=j5 c a;rw[List.cons_append,iW h e,iW (w:=w) (ws:=ws++aQ c b) h (by rw[ih,e];rfl)];rfl
theorem q5a{c:Nat}{a:List Nat}(h:c∉a):aQ c a=[a]:=by
 induction a with
 |nil=>rfl
 |cons x a ih=>exact iW (λe:x=c=>h (by rw[e];exact ac)) (ih λhm=>h (af _ hm))
theorem mT(a b:List Nat):aY (a++32::b)=aY a++aY b:=by
 unfold aY;rw[q49,List.filter_append]
theorem j6(b:List Nat):aY (32::b)=aY b:=by
 have:=mT [] b;exact this
theorem Gf(h:okWd s):aY s=[s]:=by
 unfold aY;rw[q5a λhm=>bft (h.ch 32 hm),ka]
 ·rfl
 ·cases s with
  |nil=>exact absurd rfl h.ne
  |cons=>rfl
theorem q5b{z:List Nat}(h:okWd s)(hz:z=[]\/∃ y,z=32::y):aY (s++z)=s::aY z:=by
 rcases hz with rfl | ⟨y,rfl⟩
 ·rw[bz,Gf h];rfl
 ·rw[mT,Gf h,j6];rfl
theorem Gg(c k:Nat)(h:k≠c)(l:List Nat):((aQ c l).map (List.count k)).sum=l.count k:=by
 induction l with
 |nil=>rfl
 |cons x r ih =>
  obtain⟨w,ws,e⟩:=j5 c r
  by_cases hx:x=c
  ·subst hx;rw[iV,List.map_cons,List.sum_cons,ih,cb (Ne.symm h),List.count_nil,ce]
  ·rw[iW hx e,List.map_cons,List.sum_cons];rw[e,List.map_cons,List.sum_cons] at ih;rw[List.count_cons,List.count_cons];exact Pu ih
theorem q5c(k:Nat)(h:k≠32)(l:List Nat):(aY l).count [k]<=l.count k:=by
 rw[<- Gg 32 k h l];unfold aY;generalize aQ 32 l=ws
 induction ws with
 |nil=>exact ae _
 |cons w ws ih =>
  rw[List.map_cons,List.sum_cons];cases w with
  |nil=>rw[List.filter_cons_of_neg dj];exact Pv ih
  |cons x w =>
   rw[ka rfl,List.count_cons]
   by_cases hx:(x::w)=[k]
   ·rw[if_pos (by rw[hx];exact beq_self_eq_true _),hx,fb];exact Pw ih
   ·rw[if_neg (by rw[beq_iff_eq];exact hx)];exact Px ih
theorem q5d(l:List Nat):(aY l).length<=l.length+1:=by
 have:(aQ 32 l).length<=l.length+1:=by
  induction l with
  |nil=>exact ae _
  |cons x r ih =>
   obtain⟨w,ws,e⟩:=j5 32 r
   by_cases hx:x=32
   ·subst hx;rw[iV];exact ah ih
   ·rw[iW hx e];rw[e] at ih;exact bn ih
 exact U (jt _ _) this
noncomputable def rrC(c:Nat):List Nat:=if c=40 then [32,40,32] else if c=41 then [32,41,32] else [c]
def rr(T:List Nat):List Nat:=T.flatMap rrC
theorem Gh(a b:List Nat):rr (a++b)=rr a++rr b:=List.flatMap_append
theorem fR(c:Nat)(b:List Nat):rr (c::b)=rrC c++rr b:=List.flatMap_cons
theorem Gi(T:List Nat):bR 41 [32,41,32] (bR 40 [32,40,32] T)=rr T:=by
 have happ:∀ a b:List Nat,bR 41 [32,41,32] (a++b)=bR 41 [32,41,32] a++bR 41 [32,41,32] b:=λa b=>List.flatMap_append
 induction T with
 |nil=>rfl
 |cons c r ih =>
  show bR 41 [32,41,32] ((if c=40 then [32,40,32] else [c])++bR 40 [32,40,32] r)=_;rw[happ,ih,fR];refine congrArg (·++rr r) ?_;unfold rrC
  by_cases h:c=40
  ·subst h;rfl
  ·rw[if_neg h,if_neg h];show(if c=41 then [32,41,32] else [c])++[]=_;rw[bz]
theorem Gj(T:List Nat):(rr T).length<=3*T.length:=by
 induction T with
 |nil=>exact ae _
 |cons c r ih =>
  rw[fR,List.length_append,List.length_cons];have:(rrC c).length<=3:=by
   unfold rrC
   split
   ·exact ae _
   split
   ·exact ae _
   ·exact(by decide:1<=3)
  exact yU ih this
theorem q5e(T:List Nat):(bR 40 [32,40,32] T).length<=3*T.length:=by
 induction T with
 |nil=>exact ae _
 |cons c r ih =>
  show((if c=40 then [32,40,32] else [c])++bR 40 [32,40,32] r).length<=_;rw[List.length_append,List.length_cons];have:(if c=40 then [32,40,32] else [c]).length<=3:=by
   split
   ·exact ae _
   ·exact(by decide:1<=3)
  exact yU ih this
theorem q5f(T:List Nat):(rr T).count 41=T.count 41:=by
 induction T with
 |nil=>rfl
 |cons c r ih =>
  rw[fR,cx,ih,List.count_cons];unfold rrC
  by_cases h:c=40
  ·subst h;exact aw 0 _
  ·rw[if_neg h]
   by_cases h':c=41
   ·subst h';exact aw 1 _
   ·rw[if_neg h',if_neg (by rw[beq_iff_eq];exact h')];rw[List.count_singleton,if_neg (by rw[beq_iff_eq];exact h')];exact Py
theorem q5g(h:∀ c∈T,bW c=true):∀ c∈rr T,bW c=true:=by
 intro c hc;obtain⟨x,hx,hc⟩:=List.mem_flatMap.mp hc;unfold rrC at hc;have:∀ y∈[32,40,41],bW y=true:=by decide
 split at hc
 ·exact this c (by simp at hc ⊢;exact Pz hc)
 split at hc
 ·exact this c (by simp at hc ⊢;exact P0 hc)
 ·rw[List.mem_singleton.mp hc];exact h x hx
theorem q5h(h:∀ c∈s,okB c=true):rr s=s:=by
 induction s with
 |nil=>rfl
 |cons c s ih =>
  have hc:=h c ac;rw[fR,ih λx hx=>h x (af _ hx)];unfold rrC;rw[if_neg (λe=>by rw[e] at hc;exact bft hc),if_neg (λe=>by rw[e] at hc;exact bft hc)];rfl
noncomputable def tks:It->List (List Nat)
 | .nil=>[]
 | .word s r=>s::tks r
 | .sub h r=>[40]::(tks h++[41]::tks r)
theorem q5i(h:It):rr (tlI h)=[]\/∃ y,rr (tlI h)=32::y:=by
 cases h with
 |nil=>exact .inl rfl
 |word=>exact .inr ⟨_,rfl⟩
 |sub=>exact .inr ⟨_,rfl⟩
theorem q5j(h:It):okI h->aY (rr (tlI h))=tks h:=by
 induction h with
 |nil=>exact λ_=>rfl
 |word s r ih =>
  intro o;show aY (rr (32::(s++tlI r)))=s::tks r;rw[fR,Gh,q5h o.1.ch,show rrC 32=[32] from rfl,List.singleton_append,j6,q5b o.1 (q5i r),ih o.2]
 |sub h r ihh ihr =>
  intro o;have e:aY (rr ((tlI h).drop 1))=tks h:=by
   have:=ihh o.2.1;rw[gW o.1,fR,show rrC 32=[32] from rfl,List.singleton_append,j6] at this;exact this
  show aY (rr (32::40::((tlI h).drop 1++41::tlI r)))=_;rw[fR,fR,Gh,fR,show rrC 32=[32] from rfl,show rrC 40=[32,40,32] from rfl,show rrC 41=[32,41,32] from rfl];show aY (32::32::([40]++32::(rr ((tlI h).drop 1)++32::([41]++32::rr (tlI r)))))=_;rw[j6,j6,mT,mT,mT,e,ihr o.2.2];rfl
theorem q5k(o:okI h)(hn:dP h=false):aY (rr (brI h))=[40]::(tks h++[[41]]):=by
 have:=q5j (.sub h .nil) ⟨hn,o,trivial⟩;have e:tlI (.sub h .nil)=32::brI h:=rfl;rw[e,fR,show rrC 32=[32] from rfl,List.singleton_append,j6] at this;exact this
theorem Gk{b:List Nat}{c:Nat}(h:(bR c b T).length<=aF/\T.length<=1048576/\1 < b.length/\b.length<=14):bN (so "replace") (κ (.str (sS T))) [κ (.str (sS [c])),κ (.str (sS b))]=κ (.str (sS (bR c b T))):=by
 show ofP (if (bR c b T).length<=aF/\T.length<=1048576/\1 < b.length/\b.length<=14 then fz (hV (bR c b T)) else .no)=_;rw[if_pos h];rfl
def wD(s:List Nat):PyData:=.str (sS s)
theorem q5l(hp:∀ c∈T,bW c=true)(hl:T.length+2<=aF):bN (so "split") (κ (.str (sS T))) []=.ok (.own (.list ((aY T).map wD))):=by
 show ofP (if (sS T).cps.toList.all bW=true/\(sS T).length+2<=aF then own (.list ((aY T).map wD)) else .no)=_;rw[if_pos ⟨bb.mpr hp,by rw[gX];exact hl⟩];rfl
theorem q5m(hp:∀ c∈T,bW c=true)(hl:T.length < bX):bN (so "split") (bN (so "replace") (bN (so "replace") (.ok (.fz (.str (sS T)))) [.ok (.fz (.str (so "("))),.ok (.fz (.str (so " ( ")))]) [.ok (.fz (.str (so ")"))),.ok (.fz (.str (so " ) ")))]) []=.ok (.own (.list ((aY (rr T)).map wD))):=by
 have hw:bX=8192:=rfl;have hs:aF=16777216:=rfl;have h1:=q5e T;have h2:=Gj T;rw[show so "(" = sS [40] from rfl,show so " ( " = sS [32,40,32] from rfl,show so ")" = sS [41] from rfl,show so " ) " = sS [32,41,32] from rfl,Gk ⟨by exact yV hl hw hs h1,by exact P1 hl hw,by decide,by decide⟩,Gk ⟨by rw[Gi];exact yV hl hw hs h2,by exact P2 hl hw h1,by decide,by decide⟩,Gi,q5l (q5g hp) (P3 hl hw hs h2)]
noncomputable abbrev PL:=List PyData×List (List PyData)
noncomputable def cP(p:PL):List PyData:=(p.2.reverse++[p.1]).map .list
def nst(p:PL)(w:List Nat):Option PL :=
 if w=[40] then some ([],p.1::p.2)
 else if w=[41] then (match p.2 with | []=>none | b::bs=>some (b++[.tuple p.1],bs))
 else some (p.1++[wD w],p.2)
def cT:List (List Nat)->PL->Option PL
 | [],p=>some p
 |w::ws,p=>(nst p w).bind (cT ws)
theorem wW(p:PL):fI (cP p)=.ok p.1:=by
 unfold cP;rw[bu];generalize p.2.reverse.map PyData.list=l
 induction l with
 |nil=>rfl
 |cons a l ih =>
  cases l with
  |nil=>rfl
  |cons b l=>exact ih
theorem Gl(p:PL):(cP p).dropLast=p.2.reverse.map .list:=by
 unfold cP;rw[bu];exact List.dropLast_concat
theorem Gm(t b:List PyData)(bs:List (List PyData)):cP (t,b::bs)=cP (b,bs)++[.list t]:=by
 unfold cP;rw[List.reverse_cons,bu];rfl
theorem wX(p:PL):(cP p).length=p.2.length+1:=by
 unfold cP;rw[List.length_map,List.length_append,List.length_reverse,List.length_singleton]
structure PlB(k:Nat)(p:PL):Prop where
 n:p.2.length+1+k < aF
 t:p.1.length+k < aF
 b:∀ q∈p.2,q.length+k < aF
def nS(a:PyData)(p:PL)(o3 o4:Option V):aA:=eU (ζ a) (some (.pil (cP p))) o3 o4
theorem Gn(w:List Nat)(k:Nat)(s:String)(h:so s=sS [k]):aV (ofP (cmp .Eq (wD w) (.str (so s))))=κ (.bool (decide (w=[k]))):=by
 show R.ok (V.fz (.bool (sS w==so s)))=_;rw[h,show(sS w==sS [k])=decide (w=[k]) from by rw[eq,beq_iff_eq,decide_eq_true_iff];exact⟨qC,λh=>by rw[h]⟩]
theorem q5n(n:Nat)(a:PyData){p:PL}(hb:PlB (k+1) p)(w:List Nat)(o3 o4:Option V):∃ o4',∀ kn kr,(rb (ofP (bA gP (wD w) (nS a p o3 o4))) λσ=>gO n σ kn kr)=(match nst p w with | none=>kr (.fz .none) | some p'=>kn (nS a p' (ζ (wD w)) o4'))/\∀ p',nst p w=some p'->PlB k p':=by
 obtain⟨b1,b2,b3⟩:=hb;have e0:∀ kn kr,(rb (ofP (bA gP (wD w) (nS a p o3 o4))) λσ=>gO n σ kn kr)=_:=λkn kr=>by
  unfold nS;rw[q0x,aT,aJ,q0y,Gn w 40 "(" rfl,Gn w 41 ")" rfl]
 by_cases h1:w=[40]
 ·refine⟨o4,λkn kr=>⟨(e0 kn kr).trans ?_,λp' hp=>?_⟩⟩
  ·rw[decide_eq_true h1,show nst p w=some ([],p.1::p.2) from if_pos h1];show(if (cP p).length < aF then _ else R.no)=_;rw[if_pos (by rw[wX];exact Mh b1)];show kn (eU (ζ a) (some (.pil (cP p++[.list []]))) _ _)=kn (nS a ([],p.1::p.2) _ _);unfold nS;rw[Gm]
  ·rw[show nst p w=some ([],p.1::p.2) from if_pos h1] at hp;obtain rfl:=si hp;exact⟨by show p.2.length+1+1+k < aF;exact Mi b1,by show 0+k < aF;exact Mj b1,λq hq=>by
    rcases List.mem_cons.mp hq with rfl | hq
    ·exact mW b2
    ·have:=b3 q hq;exact mW this⟩
 by_cases h2:w=[41]
 ·obtain⟨t,bs⟩:=p;cases bs with
  |nil =>
   have hs:nst (t,[]) w=none:=by unfold nst;rw[if_neg h1,if_pos h2]
   refine⟨o4,λkn kr=>⟨(e0 kn kr).trans ?_,λp' hp=>by rw[hs] at hp;exact ns hp⟩⟩;rw[decide_eq_false h1,decide_eq_true h2,hs];rfl
  |cons b bs =>
   have hs:nst (t,b::bs) w=some (b++[.tuple t],bs):=by unfold nst;rw[if_neg h1,if_pos h2]
   refine⟨some (.fz (.tuple t)),λkn kr=>⟨(e0 kn kr).trans ?_,λp' hp=>?_⟩⟩
   ·rw[decide_eq_false h1,decide_eq_true h2,hs];show ifS (R.ok (V.fz (.bool (decide (((cP (t,b::bs)).length:Int) < 2))))) (kr (.fz .none)) (rb (ofP (fI (cP (t,b::bs)))) λl1=>rb (ofP (fI (List.dropLast (cP (t,b::bs))))) λl2=>rb (κ (.tuple l1)) λv3=>if List.length l2 < aF then (kn (eU (ζ a) (some (.pil (List.dropLast (List.dropLast (cP (t,b::bs)))++[.list (l2++[dOf v3])]))) (ζ (wD w)) (ζ (.tuple l1)))) else R.no)=kn (nS a (b++[.tuple t],bs) _ _);have hb2:=b3 b ac;rw[decide_eq_false (by rw[wX];show ¬ (((bs.length+1+1:Nat):Int) < 2);exact Ml),wW,Gm,List.dropLast_concat,wW,Gl];show(if b.length < aF then _ else R.no)=_;rw[if_pos (yM hb2)];unfold nS cP;rw[bu];rfl
   ·rw[hs] at hp;obtain rfl:=si hp;have hb2:=b3 b ac;have b1':bs.length+1+1+(k+1) < aF:=b1;exact⟨by show bs.length+1+k < aF;exact Mm b1',by show(b++[PyData.tuple t]).length+k < aF;rw[List.length_append,List.length_singleton];exact yN hb2,λq hq=>by have:=b3 q (af _ hq);exact mW this⟩
 ·have hs:nst p w=some (p.1++[wD w],p.2):=by unfold nst;rw[if_neg h1,if_neg h2]
  refine⟨o4,λkn kr=>⟨(e0 kn kr).trans ?_,λp' hp=>?_⟩⟩
  ·rw[decide_eq_false h1,decide_eq_false h2,hs,wW,Gl];show(if p.1.length < aF then _ else R.no)=_;rw[if_pos (yM b2)];show _=kn (nS a (p.1++[wD w],p.2) _ _);unfold nS cP;rw[bu];rfl
  ·rw[hs] at hp;obtain rfl:=si hp;exact⟨by show p.2.length+1+k < aF;exact Mo b1,by show(p.1++[wD w]).length+k < aF;rw[List.length_append,List.length_singleton];exact yN b2,λq hq=>by have:=b3 q hq;exact mW this⟩
theorem q5o(n:Nat)(a:PyData)(kn:KN)(kr:KR):∀ (ws:List (List Nat)) {p:PL} (o3 o4:Option V),PlB ws.length p->∃ o3' o4',a8 (gO n) gP (ws.map wD) (nS a p o3 o4) kn kr=(match cT ws p with | none=>kr (.fz .none) | some p'=>kn (nS a p' o3' o4')):=by
 intro ws
 induction ws with
 |nil=>exact λ{p} o3 o4 _=>⟨o3,o4,rfl⟩
 |cons w ws ih =>
  intro p o3 o4 hb;obtain⟨o4',e⟩:=q5n n a (k:=ws.length) hb w o3 o4;have e1:=(e (λσ=>a8 (gO n) gP (ws.map wD) σ kn kr) kr).1;have e2:=(e kn kr).2;show ∃ o3' o4',(rb (ofP (bA gP (wD w) (nS a p o3 o4))) λσ=>gO n σ (λσ=>a8 (gO n) gP (ws.map wD) σ kn kr) kr)=(match (nst p w).bind (cT ws) with | none=>kr (.fz .none) | some p'=>kn (nS a p' o3' o4'));rw[e1];refine ocs (nst p w) (λh=>?_) λp' h=>?_
  ·rw[h];exact⟨none,none,rfl⟩
  ·rw[h];exact ih (ζ (wD w)) o4' (e2 p' h)
def gG(ws:List (List Nat)):Option PyData:=(cT ws ([],[])).bind λp=>match p with
 | ([d],[])=>some d
 |_=>none
noncomputable def oD:Option PyData->PyData
 |none=>.none
 |some d=>d
theorem q5p(n:Nat)(hl:ws.length+1 < aF):rn (n+1) "_law_nest" [.fz (.list (ws.map wD))]=κ (oD (gG ws)):=by
 obtain⟨o3,o4,e⟩:=q5o n (.list (ws.map wD)) (λσ=>pP n σ (λ_=>κ .none) R.ok) R.ok ws (p:=([],[])) none none ⟨by show 0+1+ws.length < aF;exact Mp hl,by show 0+ws.length < aF;exact Mq hl,λq hq=>aZ hq⟩;rw[q0w];refine Eq.trans e ?_;unfold gG;refine ocs (cT ws ([],[])) (λh=>by rw[h];rfl) λp h=>?_;rw[h];obtain⟨t,bs⟩:=p;show pP n (nS _ (t,bs) o3 o4) _ _=_;unfold nS;rw[q0z];cases bs with
 |cons b bs =>
  have hlen:aC (ofP (aW (.list (cP (t,b::bs))))) .NotEq (κ (.int 1))=κ (.bool true):=by
   show R.ok (V.fz (.bool (!(((cP (t,b::bs)).length:Int)==1))))=_;rw[wX,show((((b::bs).length+1:Nat):Int)==1)=false from beq_false_of_ne (by rw[List.length_cons];exact yO)];rfl
  rw[hlen];cases t with
  |nil=>rfl
  |cons x t=>cases t<;>rfl
 |nil =>
  show ifS (orS (κ (.bool false)) (κ (.bool (!((t.length:Int)==1))))) _ (rb (aK (.ok (.list t)) (κ (.int 0))) R.ok)=_;cases t with
  |nil=>rfl
  |cons x t =>
   cases t with
   |nil=>rfl
   |cons y t =>
    rw[show(((x::y::t).length:Int)==1)=false from beq_false_of_ne (by rw[List.length_cons,List.length_cons];exact yO)];rfl
structure PlD(m:Nat)(p:PL):Prop where
 t:∀ d∈p.1,Dp m d
 b:∀ q∈p.2,∀ d∈q,Dp m d
theorem q5q:∀ (ws:List (List Nat)) {p p':PL} {m:Nat},PlD m p->cT ws p=some p'->PlD (m+ws.count [41]) p':=by
 intro ws
 induction ws with
 |nil=>exact λ{p p' m} h e=>by obtain rfl:=si e;exact h
 |cons w ws ih =>
  intro p p' m h e;obtain⟨q,e1,e2⟩:=im.mp e;unfold nst at e1
  by_cases h1:w=[40]
  ·rw[if_pos h1] at e1;obtain rfl:=si e1;have:=ih (m:=m) ⟨λd hd=>aZ hd,λq hq d hd=>by
    rcases List.mem_cons.mp hq with rfl | hq
    ·exact h.t d hd
    ·exact h.b q hq d hd⟩ e2
   rw[h1,cb (by decide)];exact this
  ·rw[if_neg h1] at e1
   by_cases h2:w=[41]
   ·rw[if_pos h2] at e1;obtain⟨t,bs⟩:=p;cases bs with
    |nil=>exact ns e1
    |cons b bs =>
     obtain rfl:=si e1;have:=ih (m:=m+1) ⟨λd hd=>by
      rcases bv.mp hd with hd | hd
      ·exact(h.b b ac d hd).mono (au _)
      ·rw[List.mem_singleton.mp hd];exact .tup h.t,λq hq d hd=>(h.b q (af _ hq) d hd).mono (au _)⟩ e2
     rw[h2,fb];rw[ei,aw 1] at this;exact this
   ·rw[if_neg h2] at e1;obtain rfl:=si e1;have:=ih (m:=m) (p:=(p.1++[wD w],p.2)) ⟨λd hd=>by
     rcases bv.mp hd with hd | hd
     ·exact h.t d hd
     ·rw[List.mem_singleton.mp hd];exact .any rfl,h.b⟩ e2
    rw[cb h2];exact this
theorem q5r:Dp (ws.count [41]) (oD (gG ws)):=by
 unfold gG;refine ocs (cT ws ([],[])) (λh=>by rw[h];exact .any rfl) λp h=>?_;rw[h];have:=q5q ws (m:=0) (p:=([],[])) ⟨λd hd=>aZ hd,λq hq=>aZ hq⟩ h;rw[ce] at this;obtain⟨t,bs⟩:=p;cases bs with
 |cons b bs =>
  cases t with
  |nil=>exact .any rfl
  |cons x t=>cases t<;>exact .any rfl
 |nil =>
  cases t with
  |nil=>exact .any rfl
  |cons x t =>
   cases t with
   |nil=>exact this.t x ac
   |cons y t=>exact .any rfl
def bK:It->List PyData
 | .nil=>[]
 | .word s r=>wD s::bK r
 | .sub h r=>.tuple (bK h)::bK r
theorem q5s(h:It):okI h->∀ (ws:List (List Nat)) (t:List PyData) (bs:List (List PyData)),cT (tks h++ws) (t,bs)=cT ws (t++bK h,bs):=by
 induction h with
 |nil=>intro _ ws t bs;rw[show t++bK .nil=t from bz t];rfl
 |word s r ih =>
  intro o ws t bs;have h1:s≠[40]:=λe=>by have:=o.1.ch 40 (by rw[e];exact ac);exact bft this
  have h2:s≠[41]:=λe=>by have:=o.1.ch 41 (by rw[e];exact ac);exact bft this
  show(nst (t,bs) s).bind (cT (tks r++ws))=_;rw[show nst (t,bs) s=some (t++[wD s],bs) from by unfold nst;rw[if_neg h1,if_neg h2]];show cT (tks r++ws) (t++[wD s],bs)=_;rw[ih o.2,cv];rfl
 |sub a b iha ihb =>
  intro o ws t bs;show(nst (t,bs) [40]).bind (cT ((tks a++[41]::tks b)++ws))=_;rw[show nst (t,bs) [40]=some ([],t::bs) from if_pos rfl];show cT ((tks a++[41]::tks b)++ws) ([],t::bs)=_;rw[cv,iha o.2.1];show(nst ([]++bK a,t::bs) [41]).bind (cT (tks b++ws))=_;rw[show nst ([]++bK a,t::bs) [41]=some (t++[.tuple (bK a)],bs) from rfl];show cT (tks b++ws) (t++[.tuple (bK a)],bs)=_;rw[ihb o.2.2,cv];rfl
theorem q5t(o:okI h):gG ([40]::(tks h++[[41]]))=some (.tuple (bK h)):=by
 unfold gG;rw[show cT ([40]::(tks h++[[41]])) ([],[])=some ([.tuple (bK h)],[]) from by
  show cT (tks h++[[41]]) ([],[[]])=_;rw[q5s h o];rfl];rfl
inductive MaR(B:Nat)(r:R V):Prop where
 |no (e:r=κ .none):MaR B r
 |ok (w:WW) (e:r=κ (enc w)) (g:gd w/\w.isRows=false) (b:w.nb<=B):MaR B r
variable {B:Nat}
theorem MaR.none:MaR B (κ .none):=.no rfl
theorem MaR.rb{r:R V}(h:MaR B r):MaR B (Internal.rb r R.ok):=by
 rcases h with e | ⟨w,e,g,b⟩
 ·exact .no (by rw[e];rfl)
 ·exact .ok w (by rw[e];rfl) g b
theorem MaR.ite{P:Prop}(hc:BoR c P)(ha:P->MaR B a)(hb:MaR B b):MaR B (ifS c a b):=by
 obtain⟨x,e,h⟩:=hc;rw[e];cases x with
 |false=>exact hb
 |true=>exact ha (h rfl)
theorem MaR.itn{P:Prop}(hc:BoR c P)(ha:MaR B a)(hb:P->MaR B b):MaR B (ifS (unS .Not c) a b):=by
 obtain⟨x,e,h⟩:=hc;rw[e];cases x with
 |false=>exact ha
 |true=>exact hb (h rfl)
theorem MaR.itx{P:Prop}(hc:BoR c P)(ha:P->MaR B a)(hb:MaR B b):MaR B (bM c a b):=MaR.ite hc ha hb
theorem MaR.ito{d:R V}{P:Prop}(hc:BoR c P)(ha:MaR B a)(hb:P->MaR B (ifS d a b)):MaR B (ifS (orS (unS .Not c) d) a b):=by
 obtain⟨x,e,h⟩:=hc;rw[e];cases x with
 |false=>exact ha
 |true=>exact hb (h rfl)
theorem wY(n:Nat){l:List Str}:BoR (rn (n+1) "_law_are_unlike" [.fz (.list (l.map .str))]) ((1<=l.length/\l.length<=6)/\l.Nodup):=by
 rw[Dl];refine BoR.rb (BoR.and (P:=1<=l.length/\l.length<=6) ?_ λh=>?_)
 ·show BoR (b8 (κ (.int 1)) .LtE (κ (.int ((l.map PyData.str).length:Nat))) .LtE (κ (.int (6:Nat)))) _;rw[List.length_map];exact wI _ _
 ·show BoR (aC (aL dD (κ (.list (l.map .str)))) .Eq (κ (.int ((l.map PyData.str).length:Nat)))) _;rw[gY (.inr rfl) (yD h) _ (by rw[List.length_map])];exact BoR.dec _ of_decide_eq_true
theorem q5u(h:l[k]?=some d):aK (.ok (.list l)) (κ (.int (k:Int)))=κ d:=congrArg ofP (fQ (cm k) h)
theorem wZ{g:PyData->Bool}(h:∀ x∈xs,t x=.ok (g x)):aC (aM (.ok xs) t (λd=>κ d)) .Eq (.ok (.own (.list [])))=κ (.bool ((xs.filter g).isEmpty)):=by
 show rb (rb (aN t (λd=>κ d) xs) λr=>ofP (own (.list r))) _=_;rw[D2 h];show aV (ofP (eqO (.list (xs.filter g)) (.list [])))=_;rw[jU];rfl
theorem xA{t:PyData->R V}{Q:PyData->Prop}(h:∀ x∈xs,∃ b,t x=κ (.bool b)/\(b=false->Q x)):BoR (aC (aM (.ok xs) (λd=>tst (t d)) (λd=>κ d)) .Eq (.ok (.own (.list [])))) (∀ x∈xs,Q x):=by
 have key:∃ l,aN (λd=>tst (t d)) (λd=>κ d) xs=.ok l/\(l=[]->∀ x∈xs,Q x):=by
  induction xs with
  |nil=>exact⟨[],rfl,λ_ x hx=>aZ hx⟩
  |cons x r ih =>
   obtain⟨l,e,q⟩:=ih λy hy=>h y (af _ hy);obtain⟨b,e1,q1⟩:=h x ac;have hs:aN (λd=>tst (t d)) (λd=>κ d) (x::r)=rb (nx (tst (t x))) (λb=>if b=true then rb (κ x) λv=>rb (aN (λd=>tst (t d)) (λd=>κ d) r) λxs=>.ok (dOf v::xs) else aN (λd=>tst (t d)) (λd=>κ d) r):=rfl;rw[hs,e1,e];cases b with
   |true=>exact⟨x::l,rfl,λh=>nomatch h⟩
   |false =>
    refine⟨l,rfl,λhl y hy=>?_⟩;rcases List.mem_cons.mp hy with rfl | hy
    ·exact q1 rfl
    ·exact q hl y hy
 obtain⟨l,e,q⟩:=key;refine⟨l.isEmpty,?_,λh=>q (List.isEmpty_iff.mp h)⟩;show rb (rb (aN _ _ xs) λr=>ofP (own (.list r))) _=_;rw[e];show aV (ofP (eqO (.list l) (.list [])))=_;rw[jU];rfl
theorem BoR.neq{r:R V}{P:Prop}(h:BoR (aC r .Eq (.ok (.own (.list [])))) P)(hr:r=.ok (.own (.list l))):aC r .NotEq (.ok (.own (.list [])))=κ (.bool (!l.isEmpty))/\(l.isEmpty=true->P):=by
 obtain⟨b,e,f⟩:=h;have e1:aC r .Eq (.ok (.own (.list [])))=κ (.bool l.isEmpty):=by
  rw[hr];show aV (ofP (eqO (.list l) (.list [])))=_;rw[jU];rfl
 have hb:b=l.isEmpty:=by
  have:=e.symm.trans e1;injection this with this
  injection this with this
  injection this
 refine⟨?_,λh=>f (hb.trans h)⟩;rw[hr];show aV (ofP (cI (eqO (.list l) (.list []))))=_;rw[jU];rfl
theorem qQ{w:WW}(h:w.isRows=false):∃ l,enc w=.tuple l:=⟨_,fA h⟩
theorem xB{ds:List PyData}(h:ds.all eO=true):aC (κ .none) .In (κ (.list ds))=κ (.bool (ds.any bF)):=by
 show aV (ofP (if ds.all eO=true then P.ok (ds.any bF) else .no))=_;rw[if_pos h];rfl
def lnL(l:List PyData)(k:Nat):R V:=aC (κ (.int (l.length:Int))) .Eq (κ (.int (k:Int)))
theorem j7(l:List PyData)(k:Nat):BoR (lnL l k) (l.length=k):=by
 unfold lnL;rw[qF];exact BoR.dec _ of_decide_eq_true
def la(l:List PyData)(k:Nat):R V:=aK (.ok (.list l)) (κ (.int (k:Int)))
def sq(s:Str)(k:String):R V:=κ (.bool (s==so k))
theorem j8(s:Str)(k:String):BoR (sq s k) (s=so k):=BoR.dec _ λh=>beq_iff_eq.mp h
def mdA(n:Nat)(s:Str)(l:List PyData):R V:=rb (aM (.ok l) (λd3=>.ok true) (λd3=>rn n "_law_made" [.fz d3])) λv4=>(rb (bM (aC (κ .none) .In (ofP (rdv (V.cl v4)))) (κ .none) (aB .Add (aO [κ (.str s)]) (aL bJ (ofP (rdv (V.cl v4)))))) R.ok)
def mdB(n:Nat)(l:List PyData):R V:=rb (aM (.ok l) (λd6=>.ok true) (λd6=>aO [ofP (getItem d6 (.int 0)),ofP (getItem d6 (.int 1)),aE (rn n "_law_made") [ofP (getItem d6 (.int 2))]])) λv7=>(ifS (aC (aM (plI (ofP (rdv (V.cl v7)))) (λd8=>tst (orS (unS .Not (aE (rn n "_law_is_name") [ofP (getItem d8 (.int 0))])) (orS (unS .Not (aE (rn n "_law_is_name") [ofP (getItem d8 (.int 1))])) (aC (ofP (getItem d8 (.int 2))) .Is (κ .none))))) (λd8=>κ d8)) .NotEq (.ok (.own (.list [])))) (κ .none) (rb (aI (aE (rn n "_law_are_unlike") [aM (plI (ofP (rdv (V.cl (V.cl v7))))) (λd10=>.ok true) (λd10=>ofP (getItem d10 (.int 0)))]) (aE (rn n "_law_are_unlike") [aM (plI (ofP (rdv (V.cl (V.cl v7))))) (λd12=>.ok true) (λd12=>ofP (getItem d12 (.int 1)))])) λv13=>rb (bM (ofP (rdv (V.cl v13))) (aO [κ (.str (so "beside")),aL bJ (ofP (rdv (V.cl (V.cl (V.cl v7)))))]) (κ .none)) R.ok))
def mdD(s:Str)(l:List PyData):R V:=rb (aR (cR (la l 1)) (some (aL cL (aC (aR (cR (la l 1)) none (some (κ (.int 1)))) .Eq (κ (.str (so "-")))))) none) λv14=>(rb (aI (b8 (κ (.int 1)) .LtE (cY (V.cl v14)) .LtE (κ (.int 30))) (aC (aM (plI (ofP (rdv (V.cl v14)))) (λd15=>tst (aV (ofP (cmp .NotIn d15 (.str (so "0123456789")))))) (λd15=>κ d15)) .Eq (.ok (.own (.list []))))) λv16=>rb (bM (ofP (rdv (V.cl v16))) (aO [κ (.str s),la l 0,aL cL (la l 1)]) (κ .none)) R.ok)
def mdE(n:Nat)(a:PyData)(l:List PyData):R V:=rb (aI (dF (so "tuple") (la l 2)) (aC (aM (plI (la l 2)) (λd17=>tst (unS .Not (rn n "_law_is_name" [.fz d17]))) (λd17=>κ d17)) .Eq (.ok (.own (.list []))))) λv18=>(rb (bM (aI (ofP (rdv (V.cl v18))) (aE (rn n "_law_are_unlike") [aL fT (la l 2)])) (κ a) (κ .none)) R.ok)
def mdF(n:Nat)(a:PyData)(s:Str)(l:List PyData):R V :=
 ifS (unS .Not (aE (rn n "_law_is_name") [la l 0])) (κ .none)
 (ifS (aI (sq s "pick") (lnL l 1)) (κ a)
 (ifS (aI (sq s "sift") (aI (lnL l 2) (dF (so "str") (la l 1)))) (mdD s l)
 (ifS (aI (sq s "call") (aI (lnL l 2) (aI (aE (rn n "_law_is_name") [la l 1]) (aC (la l 0) .NotEq (la l 1))))) (κ a)
 (ifS (orS (unS .Not (sq s "join")) (orS (unS .Not (lnL l 3)) (orS (unS .Not (aE (rn n "_law_is_name") [la l 1])) (aC (la l 0) .Eq (la l 1))))) (κ .none) (mdE n a l)))))
def mdC(n:Nat)(s:Str)(l:List PyData):R V :=
 ifS (aI (κ (.bool ([so "each", so "then"].contains s))) (aC (κ (.int (l.length:Int))) .Eq (aB .Add (bN (so "index") (.ok (.own (.list [.str (so "each"),.str (so "then")]))) [κ (.str s)]) (κ (.int 1))))) (mdA n s l)
 (ifS (aI (sq s "beside") (aC (aM (.ok l) (λd5=>(tst (orS (unS .Not (κ (.bool (cC d5)))) (aC (ofP (aW d5)) .NotEq (κ (.int 3)))))) (λd5=>(κ d5))) .Eq (.ok (.own (.list []))))) (mdB n l)
 (ifS (κ (.bool l.isEmpty)) (rb (bM (sq s "whole") (κ (.tuple (.str s::l))) (κ .none)) R.ok) (mdF n (.tuple (.str s::l)) s l)))
theorem j9(n:Nat)(s:Str)(l:List PyData):rn (n+1) "_law_made" [.fz (.tuple (.str s::l))]=mdC n s l:=by
 rw[Dm,show getItem (.tuple (.str s::l)) (.int 0)=.ok (.fz (.str s)) from qH (k:=0) rfl,show aR (.ok (.tuple (.str s::l))) (some (κ (.int 1))) none=κ (.tuple l) from by
  show ofP (if 1<=(1:Int)/\(1:Int)<=((.str s::l).length:Int) then P.ok (V.fz (.tuple ((.str s::l).drop (1:Int).toNat))) else .no)=_;rw[if_pos ⟨Int.le_refl _,by rw[List.length_cons];exact L9⟩];rfl]
 show ifS (orS (.ok (.fz (.bool false))) (orS (κ (.bool false)) (κ (.bool false)))) _ (ifS _ _ (ifS _ _ (ifS (aV (ofP (eqO (.list l) (.list [])))) _ _)))=_;rw[jU];rfl
theorem MaR.bnd{r:R V}{k:V->R V}(b:Bool)(e:r=κ (.bool b))(h:MaR B (k (.fz (.bool b)))):MaR B (Internal.rb r k):=by rw[e];exact h
theorem fS(h:l[k]?=some d):la l k=κ d:=q5u h
theorem q5v{n:Nat}{s:Str}{t:PyData->Nat}(hl:l.length+1<=aF)(h:∀ d∈l,MaR (t d) (rn n "_law_made" [.fz d])):mdA n s l=κ .none\/∃ ws:List WW,(∀ w∈ws,gd w/\w.isRows=false)/\(ws.length=l.length/\(ws.map W.nb).sum<=(l.map t).sum)/\mdA n s l=κ (.tuple (.str s::ws.map enc)):=by
 have key:∃ ds:List PyData,aN (λd3=>(.ok true)) (λd3=>(rn n "_law_made" [.fz d3])) l=.ok ds/\ds.all eO=true/\(ds.any bF=false->∃ ws:List WW,(∀ w∈ws,gd w/\w.isRows=false)/\(ws.length=l.length/\(ws.map W.nb).sum<=(l.map t).sum)/\ds=ws.map enc):=by
  clear hl
  induction l with
  |nil=>exact⟨[],rfl,rfl,λ_=>⟨[],λw hw=>aZ hw,⟨rfl,ae _⟩,rfl⟩⟩
  |cons d r ih =>
   obtain⟨ds,e,a,q⟩:=ih λx hx=>h x (af _ hx);have hs:aN (λd3=>(.ok true)) (λd3=>(rn n "_law_made" [.fz d3])) (d::r)=rb (rn n "_law_made" [.fz d]) λv=>rb (aN (λd3=>(.ok true)) (λd3=>(rn n "_law_made" [.fz d3])) r) λxs=>.ok (dOf v::xs):=rfl;rw[hs,e];rcases h d ac with e1 | ⟨w,e1,g,gb⟩
   ·exact⟨.none::ds,by rw[e1];rfl,a,λh=>btf h⟩
   ·obtain⟨tt,et⟩:=qQ g.2;refine⟨enc w::ds,by rw[e1];rfl,by rw[et];exact a,λh=>?_⟩;rw[et] at h;obtain⟨ws,q1,q2,q3⟩:=q h;refine⟨w::ws,λx hx=>?_,⟨congrArg Nat.succ q2.1,by rw[List.map_cons,List.map_cons,List.sum_cons,List.sum_cons];exact ay gb q2.2⟩,by rw[q3];rfl⟩;rcases List.mem_cons.mp hx with rfl | hx
    ·exact g
    ·exact q1 x hx
 obtain⟨ds,e,a,q⟩:=key;have e1:mdA n s l=rb (bM (κ (.bool (ds.any bF))) (κ .none) (aB .Add (aO [κ (.str s)]) (κ (.tuple ds)))) R.ok:=by
  unfold mdA;show rb (rb (aN _ _ l) λr=>ofP (own (.list r))) _=_;rw[e];show rb (bM (aC (κ .none) .In (κ (.list ds))) _ _) R.ok=_;rw[xB a];rfl
 rw[e1];refine bcs (ds.any bF) (λh=>.inr ?_) λh=>.inl (by rw[h];rfl);refine hde λ_ θ=>?_;obtain⟨ws,q1,q2,rfl⟩:=q h;apply θ;refine⟨ws,q1,q2,?_⟩;rw[h];show rb (ofP (if fB .Add=true/\[PyData.str s].length+(ws.map enc).length<=aF then P.ok (V.fz (.tuple ([PyData.str s]++ws.map enc))) else .no)) R.ok=_;rw[if_pos ⟨rfl,by rw[List.length_singleton,List.length_map];exact Ma hl q2⟩];rfl
def q5w(n:Nat)(t:PyData->Nat)(d:PyData):Prop:=∃ a b c B,d=.tuple [a,b,c]/\MaR B (rn (n+1) "_law_made" [.fz c])/\B+1<=t d
theorem q5x{n:Nat}{t:PyData->Nat}(h:∀ d∈l,q5w n t d):MaR ((l.map t).sum+1) (mdB (n+1) l):=by
 have key:∃ ds:List PyData,aN (λ_=>.ok true) (λd6=>(aO [(ofP (getItem d6 (.int 0))),(ofP (getItem d6 (.int 1))),(aE (rn (n+1) "_law_made") [(ofP (getItem d6 (.int 2)))])])) l=.ok ds/\(∀ d∈ds,∃ a b c,d=.tuple [a,b,c]/\(c=.none\/∃ w,c=enc w/\gd w/\w.isRows=false))/\((∀ d∈ds,RQ d)->∃ r:WW,(gd r/\r.isRows=true)/\ds=aS r/\r.nb<=(l.map t).sum):=by
  induction l with
  |nil=>exact⟨[],rfl,λd hd=>aZ hd,λ_=>⟨.bnil,⟨trivial,rfl⟩,rfl,ae _⟩⟩
  |cons d r ih =>
   refine hde λ_ θ=>?_;obtain⟨ds,e,q,qr⟩:=ih λx hx=>h x (af _ hx);obtain⟨a,b,c,B,rfl,m,hB⟩:=h d ac;apply θ;have hs:aN (λ_=>.ok true) (λd6=>(aO [(ofP (getItem d6 (.int 0))),(ofP (getItem d6 (.int 1))),(aE (rn (n+1) "_law_made") [(ofP (getItem d6 (.int 2)))])])) (.tuple [a,b,c]::r)=rb (aO [κ a,κ b,rn (n+1) "_law_made" [.fz c]]) λv=>rb (aN (λ_=>.ok true) (λd6=>(aO [(ofP (getItem d6 (.int 0))),(ofP (getItem d6 (.int 1))),(aE (rn (n+1) "_law_made") [(ofP (getItem d6 (.int 2)))])])) r) λxs=>.ok (dOf v::xs):=rfl;rw[hs,e];rcases m with e1 | ⟨w,e1,g,gb⟩
   ·refine⟨.tuple [a,b,.none]::ds,by rw[e1];rfl,λx hx=>?_,λhq=>?_⟩
    ·rcases List.mem_cons.mp hx with rfl | hx
     ·exact⟨a,b,.none,rfl,.inl rfl⟩
     ·exact q x hx
    ·obtain⟨x,p,v,e2,_,_,hv⟩:=hq _ ac;injection e2 with e2
     have e3:=(List.cons.inj (List.cons.inj (List.cons.inj e2).2).2).1;rw[fA hv] at e3;exact absurd e3 nofun
   ·refine⟨.tuple [a,b,enc w]::ds,by rw[e1];rfl,λx hx=>?_,λhq=>?_⟩
    ·rcases List.mem_cons.mp hx with rfl | hx
     ·exact⟨a,b,enc w,rfl,.inr ⟨w,rfl,g⟩⟩
     ·exact q x hx
    ·obtain⟨x,p,v,e2,hn,_⟩:=hq _ ac;injection e2 with e2
     refine hde λ_ θ=>?_;obtain⟨e3,e4⟩:=List.cons.inj e2;have e4:=(List.cons.inj e4).1;obtain⟨r',g',hd',hb'⟩:=qr λd hd=>hq d (af _ hd);apply θ;refine⟨.bcons x p w r',⟨⟨hn,g,g'⟩,rfl⟩,by rw[e3,e4,hd'];rfl,?_⟩;show w.nb+r'.nb+1<=_;rw[List.map_cons,List.sum_cons];exact Mb hB gb hb'
 obtain⟨ds,e,q,qr⟩:=key;generalize (l.map t).sum=S at qr ⊢;unfold mdB;show MaR (S+1) (rb (rb (aN _ _ l) λr=>ofP (own (.list r))) _);rw[e];show MaR (S+1) (ifS (aC (aM (.ok ds) (λd8=>(tst (orS (unS .Not (aE (rn (n+1) "_law_is_name") [(ofP (getItem d8 (.int 0)))])) (orS (unS .Not (aE (rn (n+1) "_law_is_name") [(ofP (getItem d8 (.int 1)))])) (aC (ofP (getItem d8 (.int 2))) .Is (κ .none)))))) (λd8=>(κ d8))) .NotEq (.ok (.own (.list [])))) (κ .none) (rb (aI (aE (rn (n+1) "_law_are_unlike") [(aM (.ok ds) (λd10=>(.ok true)) (λd10=>(ofP (getItem d10 (.int 0)))))]) (aE (rn (n+1) "_law_are_unlike") [(aM (.ok ds) (λd12=>(.ok true)) (λd12=>(ofP (getItem d12 (.int 1)))))])) λv13=>(rb (bM (ofP (rdv (V.cl v13))) (aO [(κ (.str (so "beside"))),κ (.tuple ds)]) (κ .none)) R.ok)));have tt:∀ d∈ds,∃ b,orS (unS .Not (aE (rn (n+1) "_law_is_name") [(ofP (getItem d (.int 0)))])) (orS (unS .Not (aE (rn (n+1) "_law_is_name") [(ofP (getItem d (.int 1)))])) (aC (ofP (getItem d (.int 2))) .Is (κ .none)))=κ (.bool b)/\(b=false->RQ d):=λd hd=>by
  obtain⟨a,b,c,rfl,hc⟩:=q d hd;show ∃ t,orS (unS .Not (rn (n+1) "_law_is_name" [.fz a])) (orS (unS .Not (rn (n+1) "_law_is_name" [.fz b])) (κ (.bool (bF c))))=_/\_;rw[gT,gT];refine⟨!(isN a)||(!(isN b)||bF c),?_,λh=>?_⟩
  ·cases isN a<;>cases isN b<;>rfl
  ·obtain⟨h1,h2⟩:=Bool.or_eq_false_iff.mp h;obtain⟨h2,h3⟩:=Bool.or_eq_false_iff.mp h2;obtain⟨x,rfl,hx⟩:=eL (kc .. |>.mp h1);obtain⟨y,rfl,hy⟩:=eL (kc .. |>.mp h2);rcases hc with rfl | ⟨w,rfl,g⟩
   ·exact btf h3
   ·exact⟨x,y,w,rfl,⟨hx,hy⟩,g⟩
 have hB:=xA tt;obtain⟨fl,hfl⟩:∃ fl,aM (.ok ds) (λd8=>(tst (orS (unS .Not (aE (rn (n+1) "_law_is_name") [(ofP (getItem d8 (.int 0)))])) (orS (unS .Not (aE (rn (n+1) "_law_is_name") [(ofP (getItem d8 (.int 1)))])) (aC (ofP (getItem d8 (.int 2))) .Is (κ .none)))))) (λd8=>(κ d8))=.ok (.own (.list fl)):=by
  clear hB e qr;have:∃ fl,aN (λd8=>(tst (orS (unS .Not (aE (rn (n+1) "_law_is_name") [(ofP (getItem d8 (.int 0)))])) (orS (unS .Not (aE (rn (n+1) "_law_is_name") [(ofP (getItem d8 (.int 1)))])) (aC (ofP (getItem d8 (.int 2))) .Is (κ .none)))))) (λd8=>(κ d8)) ds=.ok fl:=by
   clear q
   induction ds with
   |nil=>exact⟨[],rfl⟩
   |cons d r ih =>
    obtain⟨fl,e⟩:=ih λx hx=>tt x (af _ hx);obtain⟨b,e1,_⟩:=tt d ac;show ∃ fl,rb (nx (tst _)) (λb=>if b=true then rb (κ d) λv=>rb (aN _ _ r) λxs=>.ok (dOf v::xs) else aN _ _ r)=_;rw[e1,e];cases b with
    |true=>exact⟨d::fl,rfl⟩
    |false=>exact⟨fl,rfl⟩
  obtain⟨fl,e⟩:=this;exact⟨fl,by show rb (aN _ _ ds) _=_;rw[e];rfl⟩
 obtain⟨k1,k2⟩:=hB.neq hfl;rw[k1];refine bcs fl.isEmpty (λh=>by rw[h];exact MaR.none) λh=>?_;rw[h];refine hde λ_ θ=>?_;obtain⟨r,⟨g,h1⟩,rfl,hnb⟩:=qr (k2 h);obtain⟨i1,i2,i3,i4⟩:=qG h1 g;apply θ;have e2:aE (rn (n+1) "_law_are_unlike") [aM (.ok (aS r)) (λ_=>.ok true) (λd=>ofP (getItem d (.int 0)))]=rn (n+1) "_law_are_unlike" [.fz (.list (r.names.map .str))]:=by
  show aE _ [rb (aN (λ_=>.ok true) (λd=>ofP (getItem d (.int 0))) (aS r)) (λr=>ofP (own (.list r)))]=_;rw[i1];rfl
 have e3:aE (rn (n+1) "_law_are_unlike") [aM (.ok (aS r)) (λ_=>.ok true) (λd=>ofP (getItem d (.int 1)))]=rn (n+1) "_law_are_unlike" [.fz (.list (r.parts.map .str))]:=by
  show aE _ [rb (aN (λ_=>.ok true) (λd=>ofP (getItem d (.int 1))) (aS r)) (λr=>ofP (own (.list r)))]=_;rw[i2];rfl
 show MaR (S+1) (rb (aI (aE (rn (n+1) "_law_are_unlike") [aM (.ok (aS r)) (λ_=>.ok true) (λd=>ofP (getItem d (.int 0)))]) (aE (rn (n+1) "_law_are_unlike") [aM (.ok (aS r)) (λ_=>.ok true) (λd=>ofP (getItem d (.int 1)))])) _);rw[e2,e3];obtain⟨b,eb,hb⟩:=BoR.and (wY n (l:=r.names)) λ_=>wY n (l:=r.parts);refine MaR.bnd b eb ?_;cases b with
 |false=>exact MaR.none
 |true =>
  obtain⟨⟨u1,u2⟩,u3,u4⟩:=hb rfl;refine .ok (.beside r) ?_ ⟨⟨⟨g,h1⟩,by rw[<- i3];exact u1,u2,u4⟩,rfl⟩ (ah hnb);show R.ok (V.fz (.tuple [.str (so "beside"),.tuple (aS r)]))=_;rw[<- eM h1];rfl
theorem Go{s f:Str}:mdD s [.str f,.str (sS T)]=if fg (bE T)=true then κ (.tuple [.str s,.str f,.int (dW T)]) else κ .none:=by
 unfold mdD;rw[fS (k:=1) (d:=.str (sS T)) rfl,fS (k:=0) (d:=.str f) rfl];show rb (aR (.ok (.str (sS T))) (some (aL cL (aC (aR (.ok (.str (sS T))) none (some (κ (.int 1)))) .Eq (κ (.str (so "-")))))) none) _=_;rw[Fu,show so "-" = sS [45] from rfl,qE,iP];have e1:aR (.ok (.str (sS T))) (some (aL cL (κ (.bool (decide (T.head?=some 45)))))) none=κ (.str (sS (bE T))):=by
  unfold bE
  by_cases hc:T.head?=some 45
  ·rw[if_pos hc,decide_eq_true hc];exact(mO T 1).trans (by rw[List.drop_one])
  ·rw[if_neg hc,decide_eq_false hc];exact(mO T 0).trans (by rw[List.drop_zero])
 rw[e1,aJ];show rb (aI (b8 (κ (.int 1)) .LtE (ofP (aW (.str (sS (bE T))))) .LtE (κ (.int (30:Nat)))) (aC (aM (.ok ((bE T).map bB)) (λd15=>(tst (aV (ofP (cmp .NotIn d15 (.str (so "0123456789"))))))) (λd15=>(κ d15))) .Eq (.ok (.own (.list []))))) _=_;have e2:aC (aM (.ok ((bE T).map bB)) (λd15=>(tst (aV (ofP (cmp .NotIn d15 (.str (so "0123456789"))))))) (λd15=>(κ d15))) .Eq (.ok (.own (.list [])))=κ (.bool ((bE T).all isF)):=by
  rw[wZ (g:=λd=>match d with | .str s=>!isF (s.cps.toList.headD 0) | _=>false) λd hd=>by
   obtain⟨c,_,rfl⟩:=bq.mp hd;rfl]
  refine congrArg (λb=>R.ok (V.fz (.bool b))) ?_;generalize bE T=cs
  induction cs with
  |nil=>rfl
  |cons c cs ih =>
   rw[List.map_cons,List.all_cons,jx];show List.isEmpty (if (!isF c)=true then bB c::_ else _)=(isF c&&cs.all isF);rw[<- ih];cases isF c<;>rfl
 rw[jX,aT,gR,e2];have e3:aI (κ (.bool (decide (1<=(bE T).length)&&decide ((bE T).length<=30)))) (κ (.bool ((bE T).all isF)))=κ (.bool (fg (bE T))):=by
  unfold fg;cases (decide (1<=(bE T).length)&&decide ((bE T).length<=30))<;>rfl
 rw[e3];refine bcs (fg (bE T)) (λh=>by rw[h];rfl) λh=>?_;rw[h];show rb (aO [κ (.str s),κ (.str f),ofP (cL (.str (sS T)))]) R.ok=_;rw[Fw h];rfl
theorem xC(n:Nat)(h:l[k]?=some d):aE (rn (n+1) "_law_is_name") [la l k]=κ (.bool (isN d)):=by
 rw[fS h];exact gT n d
theorem q5y(n:Nat)(s:Str)(x:PyData)(l:List PyData)(h1:1<=B)(h2:∀ y fs,l=[y,.tuple fs]->2<=B):MaR B (mdF (n+1) (.tuple (.str s::x::l)) s (x::l)):=by
 unfold mdF;rw[xC n (k:=0) (d:=x) rfl];refine MaR.itn (BoR.dec _ id) MaR.none λhx=>?_;obtain⟨x,rfl,hx⟩:=eL hx;refine MaR.ite (BoR.and (j8 s "pick") λ_=>j7 _ 1) (λh=>?_) (MaR.ite (P:=s=so "sift" /\ ∃ y,l=[.str y]) (BoR.and (j8 s "sift") λ_=>?_) (λh=>?_) (MaR.ite (P:=s=so "call" /\ ∃ y,l=[.str y]/\okN y/\x≠y) (BoR.and (j8 s "call") λ_=>?_) (λh=>?_) (MaR.ito (j8 s "join") MaR.none λhs=>MaR.ito (j7 _ 3) MaR.none λhl=>?_)))
 ·obtain⟨rfl,hl⟩:=h;obtain rfl:=co.mp (Nat.succ.inj hl);exact .ok (.pick x) rfl ⟨hx,rfl⟩ h1
 ·refine BoR.imp (BoR.and (Q:=∃ y,l=[.str y]) (j7 _ 2) λhl=>?_) λk=>k.2;obtain⟨y,rfl⟩:=gi.mp (Nat.succ.inj hl);rw[fS (k:=1) (d:=y) rfl];refine BoR.dec (eP y) λh=>?_;cases y with
  |str y=>exact⟨y,rfl⟩
  |_=>exact bft h
 ·obtain⟨rfl,y,rfl⟩:=h;have:=Go (s:=so "sift") (f:=x) (T:=nmL y);rw[cZ] at this;rw[this];refine bcs (fg (bE (nmL y))) (λh=>by rw[h];exact MaR.none) λh=>?_;rw[h];exact .ok (.sift x (dW (nmL y))) rfl ⟨⟨hx,Fs h⟩,rfl⟩ h1
 ·refine BoR.imp (BoR.and (Q:=∃ y,l=[.str y]/\okN y/\x≠y) (j7 _ 2) λhl=>?_) λk=>k.2;obtain⟨y,rfl⟩:=gi.mp (Nat.succ.inj hl);rw[xC n (k:=1) (d:=y) rfl];refine BoR.imp (BoR.and (Q:=∃ y',[y]=[.str y']/\okN y'/\x≠y') (BoR.dec _ id) λhy=>?_) λk=>k.2;obtain⟨y,rfl,hy⟩:=eL hy;rw[fS (k:=0) (d:=.str x) rfl,fS (k:=1) (d:=.str y) rfl];exact BoR.dec (!(x==y)) λh=>⟨y,rfl,hy,λe=>by rw[e,beq_self_eq_true] at h;exact bft h⟩
 ·obtain⟨rfl,y,rfl,hy,hne⟩:=h;exact .ok (.call x y) rfl ⟨⟨⟨hx,hy⟩,hne⟩,rfl⟩ h1
 ·obtain⟨y,z,rfl⟩:=iQ (Nat.succ.inj hl);subst hs;rw[xC n (k:=1) (d:=y) rfl];refine MaR.ito (BoR.dec _ id) MaR.none λhy=>?_;obtain⟨y,rfl,hy⟩:=eL hy;rw[fS (k:=0) (d:=.str x) rfl,fS (k:=1) (d:=.str y) rfl];show MaR B (ifS (κ (.bool (x==y))) _ _);refine bcs (x==y) (λhxy=>?_) λhxy=>by rw[hxy];exact MaR.none
  rw[hxy];have hne:x≠y:=λe=>by rw[e,beq_self_eq_true] at hxy;exact btf hxy
  show MaR B (mdE (n+1) _ _);unfold mdE;rw[fS (k:=2) (d:=z) rfl];cases z with
  |tuple fs =>
   obtain⟨b,eb,hb⟩:BoR (aI (dF (so "tuple") (κ (.tuple fs))) (aC (aM (plI (κ (.tuple fs))) (λd17=>(tst (unS .Not (rn (n+1) "_law_is_name" [.fz d17])))) (λd17=>(κ d17))) .Eq (.ok (.own (.list []))))) (∀ d∈fs,isN d=true):=by
    refine BoR.imp (BoR.and (P:=True) (BoR.dec true λ_=>trivial) λ_=>xA (xs:=fs) (t:=λd17=>unS .Not (rn (n+1) "_law_is_name" [.fz d17])) (Q:=λd=>isN d=true) λd _=>⟨!(isN d),by rw[gT];rfl,λh=>kc .. |>.mp h⟩) λk=>k.2
   rw[eb,aJ];cases b with
   |false=>exact MaR.none
   |true =>
    obtain⟨fs,rfl,hf⟩:=Fd (hb rfl);refine MaR.rb (MaR.itx (P:=(1<=fs.length/\fs.length<=6)/\fs.Nodup) (wY n) (λk=>?_) MaR.none);exact .ok (.join x y fs) rfl ⟨⟨⟨⟨hx,hy⟩,hne⟩,k.1,k.2,hf⟩,rfl⟩ (h2 _ _ rfl)
  |_=>exact MaR.none
theorem q5z(n:Nat):∀ {r:WW},r.isRows=true->gd r->∀ d∈aS r,tst (orS (unS .Not (aE (rn (n+1) "_law_is_name") [(ofP (getItem d (.int 0)))])) (orS (unS .Not (aE (rn (n+1) "_law_is_name") [(ofP (getItem d (.int 1)))])) (aC (ofP (getItem d (.int 2))) .Is (κ .none))))=.ok false:=by
 intro r
 induction r with
 |bnil=>exact λ_ _ d hd=>aZ hd
 |bcons x p v r ihv ihr =>
  intro _ h d hd;rcases List.mem_cons.mp (show d∈.tuple [.str x,.str p,enc v]::aS r from hd) with rfl | hd
  ·show tst (orS (unS .Not (rn (n+1) "_law_is_name" [.fz (.str x)])) (orS (unS .Not (rn (n+1) "_law_is_name" [.fz (.str p)])) (κ (.bool (bF (enc v))))))=_;rw[gT,gT,show isN (.str x)=true from h.1.1,show isN (.str p)=true from h.1.2,fA h.2.1.2];rfl
  ·exact ihr h.2.2.2 h.2.2.1 d hd
 |_=>exact λh=>bft h
def tcN:Nat->PyData->Nat
 |0,_=>0
 |k+1,d=>if cC d=true then ((tl d).map (tcN k)).sum+1 else 0
theorem qR(k:Nat)(l:List PyData):tcN (k+1) (.tuple l)=(l.map (tcN k)).sum+1:=rfl
theorem Gp{f g:PyData->Nat}(h:∀ x∈l,f x<=g x):(l.map f).sum<=(l.map g).sum:=by
 induction l with
 |nil=>exact ae _
 |cons x r ih =>
  rw[List.map_cons,List.map_cons,List.sum_cons,List.sum_cons];exact ay (h x ac) (ih λy hy=>h y (af _ hy))
theorem Gq{f:PyData->Nat}{x:PyData}(h:x∈l):f x<=(l.map f).sum:=by
 induction l with
 |nil=>exact aZ h
 |cons y r ih =>
  rw[List.map_cons,List.sum_cons];rcases List.mem_cons.mp h with rfl | h
  ·exact al _ _
  ·exact U (ih h) (ak _ _)
theorem q50:∀ (m:Nat) (d:PyData),Dp m d->∀ n,m+2<=n->MaR (tcN m d) (rn n "_law_made" [.fz d]):=by
 intro m
 induction m using Nat.strongRecOn with
 |ind m ih =>
  intro d hd n hn;obtain⟨n,rfl⟩:∃ j,n=j+2:=⟨n - 2,by exact Mc hn⟩
  by_cases ht:∃ s l,d=.tuple (.str s::l)
  ·obtain⟨s,l,rfl⟩:=ht;obtain⟨j,rfl,hd'⟩:=hd.inv;have hv:∀ x∈l,MaR (tcN j x) (rn (n+1) "_law_made" [.fz x]):=λx hx=>ih j (cz j) x (hd' x (af _ hx)) _ (yJ hn);have hS:tcN (j+1) (.tuple (.str s::l))=(l.map (tcN j)).sum+1:=by
    rw[qR,List.map_cons,List.sum_cons,show tcN j (.str s)=0 from by cases j<;>rfl,ce]
   rw[j9,hS];unfold mdC;refine MaR.ite (P:=s=so "each" /\ l.length=1\/s=so "then" /\ l.length=2) (BoR.imp (BoR.and (P:=s=so "each" \/ s=so "then") (Q:=s=so "each" /\ l.length=1\/s=so "then" /\ l.length=2) (BoR.dec _ λh=>?_) λh=>?_) λk=>k.2) (λh=>?_) (MaR.ite (P:=s=so "beside" /\ ∀ d∈l,∃ a b c,d=.tuple [a,b,c]) (BoR.and (j8 s "beside") λ_=>xA λx _=>?_) (λh=>q5x λx hx=>?_) ?_)
   ·have:=List.contains_iff_mem.mp h;rcases List.mem_cons.mp this with h | h
    ·exact .inl h
    ·exact .inr (List.mem_singleton.mp h)
   ·rcases h with rfl | rfl
    ·rw[show aB .Add (bN (so "index") (.ok (.own (.list [.str (so "each"),.str (so "then")]))) [κ (.str (so "each"))]) (κ (.int 1))=κ (.int ((1:Nat):Int)) from by kernel_rfl];exact BoR.imp (j7 l 1) λh=>.inl ⟨rfl,h⟩
    ·rw[show aB .Add (bN (so "index") (.ok (.own (.list [.str (so "each"),.str (so "then")]))) [κ (.str (so "then"))]) (κ (.int 1))=κ (.int ((2:Nat):Int)) from by kernel_rfl];exact BoR.imp (j7 l 2) λh=>.inr ⟨rfl,h⟩
   ·have hl:l.length+1<=aF:=by
     have:aF=16777216:=rfl;rcases h with h | h<;>omega
    rcases q5v (s:=s) hl hv with e | ⟨ws,g,⟨hw,hws⟩,e⟩
    ·exact .no e
    ·rcases h with ⟨rfl,h⟩ | ⟨rfl,h⟩
     ·obtain⟨w,rfl⟩:=gi.mp (hw.trans h);exact .ok (.each w) e ⟨g w ac,rfl⟩ (ah hws)
     ·obtain⟨w,w',rfl⟩:=iQ (hw.trans h);exact .ok (.andThen w w') e ⟨⟨g w ac,g w' (by simp)⟩,rfl⟩ (ah hws)
   ·cases x with
    |tuple t =>
     refine⟨!((t.length:Int)==(3:Nat)),rfl,λh=>?_⟩;have:(t.length:Int)=(3:Nat):=beq_iff_eq.mp (kc .. |>.mp h);obtain⟨a,b,c,rfl⟩:=mK (ip.mp this);exact⟨a,b,c,rfl⟩
    |_=>exact⟨true,rfl,λh=>btf h⟩
   ·obtain⟨a,b,c,rfl⟩:=h.2 x hx;obtain⟨j2,rfl,q⟩:=(hd' _ (af _ hx)).inv;refine⟨a,b,c,tcN j2 c,rfl,ih j2 Md c (q c (by simp)) _ (Me hn),?_⟩;rw[qR];exact ah (Gq (by simp))
   ·cases l with
    |nil =>
     refine MaR.rb (MaR.itx (j8 s "whole") (λh=>?_) MaR.none);subst h;exact .ok .whole rfl ⟨trivial,rfl⟩ (ak _ _)
    |cons x l =>
     refine q5y n s x l (ak _ _) λy fs e=>?_;subst e;obtain⟨j2,rfl,_⟩:=(hd' (.tuple fs) (by simp)).inv;have:tcN (j2+1) (.tuple fs)<=([x,y,.tuple fs].map (tcN (j2+1))).sum:=Gq (by simp);rw[qR] at this;exact Mf this
  ·have:rn (n+2) "_law_made" [.fz d]=κ .none:=by
    rw[Dm];cases d with
    |tuple l =>
     cases l with
     |nil=>rfl
     |cons x l =>
      rw[show getItem (.tuple (x::l)) (.int 0)=.ok (.fz x) from qH (k:=0) rfl];cases x with
      |str s=>exact absurd ⟨s,l,rfl⟩ ht
      |_=>rfl
    |_=>rfl
   exact .no this
theorem q51{n:Nat}(hl:l=fs.map .str)(h:∀ f∈fs,okN f):aC (aM (.ok l) (λd17=>(tst (unS .Not (rn (n+1) "_law_is_name" [.fz d17])))) (λd17=>(κ d17))) .Eq (.ok (.own (.list [])))=κ (.bool true):=by
 subst hl;rw[wZ (g:=λ_=>false) λd hd=>by
  obtain⟨f,hf,rfl⟩:=bq.mp hd;rw[gT,show isN (.str f)=true from h f hf];rfl,gh.mpr λ_ _=>dj];rfl
theorem xD(n:Nat){l:List Str}(h:(1<=l.length/\l.length<=6)/\l.Nodup):rn (n+1) "_law_are_unlike" [.fz (.list (l.map .str))]=κ (.bool true):=by
 rw[Dl];show rb (aI (b8 (κ (.int 1)) .LtE (κ (.int ((l.map PyData.str).length:Nat))) .LtE (κ (.int (6:Nat)))) (aC (aL dD (κ (.list (l.map .str)))) .Eq (κ (.int ((l.map PyData.str).length:Nat))))) R.ok=_;rw[List.length_map,gR,gY (.inr rfl) (by omega) _ rfl,decide_eq_true h.1.1,decide_eq_true h.1.2,decide_eq_true h.2];rfl
theorem kA(n:Nat)(h:okN x):rn (n+1) "_law_is_name" [.fz (.str x)]=κ (.bool true):=by
 rw[gT,show isN (.str x)=true from h]
theorem q52(fs:List Str):bK (fsI fs)=fs.map .str:=by
 induction fs with
 |nil=>rfl
 |cons x r ih=>show PyData.str (sS (nmL x))::bK (fsI r)=_;rw[cZ,ih];rfl
def MkA(w:WW):Prop:=∀ n,w.nb+2<=n->rn n "_law_made" [.fz (.tuple (bK (itW w)))]=κ (enc w)
def MkB(w:WW):Prop:=∀ n,w.nb+2<=n->aN (λ_=>.ok true) (λd6=>(aO [(ofP (getItem d6 (.int 0))),(ofP (getItem d6 (.int 1))),(aE (rn n "_law_made") [(ofP (getItem d6 (.int 2)))])])) (bK (itW w))=.ok (aS w)/\∀ d∈bK (itW w),∃ a b c,d=.tuple [a,b,c]
structure MkS(w:WW):Prop where
 a:w.isRows=false->MkA w
 b:w.isRows=true->MkB w
theorem q53(n:Nat)(d:PyData):rn (n+1) "_law_made" [.fz (.tuple [.str (so "each"),d])]=mdA n (so "each") [d]:=by
 rw[j9];kernel_rfl
theorem q54(n:Nat)(d d':PyData):rn (n+1) "_law_made" [.fz (.tuple [.str (so "then"),d,d'])]=mdA n (so "then") [d,d']:=by
 rw[j9];kernel_rfl
theorem q55:∀ {w:WW},gd w->MkS w:=by
 intro w
 induction w with
 |whole=>exact λ_=>⟨λ_ n hn=>exnE (c:=1) n hn hn λn _=>by kernel_rfl,λh=>bft h⟩
 |pick x =>
  refine λh=>⟨λ_ n hn=>exnE (c:=2) n hn hn λn _=>?_,λh=>bft h⟩
  show rn (n+2) "_law_made" [.fz (.tuple [.str (so "pick"),.str (sS (nmL x))])]=_;rw[cZ];refine Eq.trans (b:=ifS (unS .Not (rn (n+1) "_law_is_name" [.fz (.str x)])) (κ .none) (κ (enc (.pick x)))) (by kernel_rfl) ?_;rw[kA n h];rfl
 |call a b =>
  refine λh=>⟨λ_ n hn=>exnE (c:=2) n hn hn λn _=>?_,λh=>bft h⟩
  show rn (n+2) "_law_made" [.fz (.tuple [.str (so "call"),.str (sS (nmL a)),.str (sS (nmL b))])]=_;rw[cZ,cZ];refine Eq.trans (b:=ifS (unS .Not (rn (n+1) "_law_is_name" [.fz (.str a)])) (κ .none) (ifS (aI (rn (n+1) "_law_is_name" [.fz (.str b)]) (κ (.bool (!(a==b))))) (κ (enc (.call a b))) (κ .none))) (by kernel_rfl) ?_;rw[kA n h.1.1,kA n h.1.2,beq_false_of_ne h.2];rfl
 |sift f l =>
  refine λh=>⟨λ_ n hn=>exnE (c:=2) n hn hn λn _=>?_,λh=>bft h⟩
  show rn (n+2) "_law_made" [.fz (.tuple [.str (so "sift"),.str (sS (nmL f)),.str (sS (bZ l))])]=_;rw[cZ];refine Eq.trans (b:=ifS (unS .Not (rn (n+1) "_law_is_name" [.fz (.str f)])) (κ .none) (mdD (so "sift") [.str f,.str (sS (bZ l))])) (by rw[j9];kernel_rfl) ?_;obtain⟨_,k1,k2⟩:=Ft h.2;rw[kA n h.1,Go,k1,k2];rfl
 |join a b fs =>
  refine λh=>⟨λ_ n hn=>exnE (c:=2) n hn hn λn _=>?_,λh=>bft h⟩
  show rn (n+2) "_law_made" [.fz (.tuple [.str (so "join"),.str (sS (nmL a)),.str (sS (nmL b)),.tuple (bK (fsI fs))])]=_;rw[cZ,cZ,q52];refine Eq.trans (b:=ifS (unS .Not (rn (n+1) "_law_is_name" [.fz (.str a)])) (κ .none) (ifS (orS (unS .Not (rn (n+1) "_law_is_name" [.fz (.str b)])) (κ (.bool (a==b)))) (κ .none) (mdE (n+1) (enc (.join a b fs)) [.str a,.str b,.tuple (fs.map .str)]))) (by rw[j9];kernel_rfl) ?_;rw[kA n h.1.1.1,kA n h.1.1.2,beq_false_of_ne h.1.2];show mdE (n+1) (enc (.join a b fs)) [.str a,.str b,.tuple (fs.map .str)]=_;unfold mdE;rw[fS (k:=2) (d:=.tuple (fs.map .str)) rfl];show rb (aC (aM (.ok (fs.map .str)) (λd17=>(tst (unS .Not (rn (n+1) "_law_is_name" [.fz d17])))) (λd17=>(κ d17))) .Eq (.ok (.own (.list [])))) _=_;rw[q51 rfl h.2.2.2,aJ];show rb (bM (rn (n+1) "_law_are_unlike" [.fz (.list (fs.map .str))]) _ _) R.ok=_;rw[xD n ⟨h.2.1,h.2.2.1⟩];rfl
 |each v ih =>
  refine λh=>⟨λ_ n hn=>?_,λh=>bft h⟩
  have hn:v.nb+1+2<=n:=hn;refine exnE (c:=1) n hn hn λn hn=>?_;show rn (n+1) "_law_made" [.fz (.tuple [.str (so "each"),.tuple (bK (itW v))])]=_;rw[q53];unfold mdA;show rb (rb (rb (rn n "_law_made" [.fz (.tuple (bK (itW v)))]) λv=>rb (.ok []) λxs=>.ok (dOf v::xs)) λr=>ofP (own (.list r))) _=_;rw[(ih h.1).a h.2 n (qU hn)];obtain⟨t,et⟩:=qQ h.2;show rb (bM (aC (κ .none) .In (κ (.list [enc v]))) _ _) R.ok=_;rw[xB (by rw[et];rfl),show[enc v].any bF=false from by rw[et];rfl];rfl
 |andThen a b iha ihb =>
  refine λh=>⟨λ_ n hn=>?_,λh=>bft h⟩
  have hn:a.nb+b.nb+1+2<=n:=hn;refine exnE (c:=1) n hn hn λn hn=>?_;show rn (n+1) "_law_made" [.fz (.tuple [.str (so "then"),.tuple (bK (itW a)),.tuple (bK (itW b))])]=_;rw[q54];unfold mdA;show rb (rb (rb (rn n "_law_made" [.fz (.tuple (bK (itW a)))]) λv=>rb (rb (rn n "_law_made" [.fz (.tuple (bK (itW b)))]) λv=>rb (.ok []) λxs=>.ok (dOf v::xs)) λxs=>.ok (dOf v::xs)) λr=>ofP (own (.list r))) _=_;rw[(iha h.1.1).a h.1.2 n (qV hn),(ihb h.2.1).a h.2.2 n (yK hn)];obtain⟨t,et⟩:=qQ h.1.2;obtain⟨t',et'⟩:=qQ h.2.2;show rb (bM (aC (κ .none) .In (κ (.list [enc a,enc b]))) _ _) R.ok=_;rw[xB (by rw[et,et'];rfl),show[enc a,enc b].any bF=false from by rw[et,et'];rfl];rfl
 |beside r ih =>
  refine λh=>⟨λ_ n hn=>?_,λh=>bft h⟩
  have hn:r.nb+1+2<=n:=hn;refine exnE (c:=2) n hn hn λn hn=>?_;obtain⟨e,hrow⟩:=(ih h.1.1).b h.1.2 (n+1) (yJ hn);obtain⟨i1,i2,i3,i4⟩:=qG h.1.2 h.1.1;show rn (n+2) "_law_made" [.fz (.tuple (.str (so "beside")::bK (itW r)))]=_;have e1:aC (aM (.ok (bK (itW r))) (λd5=>(tst (orS (unS .Not (κ (.bool (cC d5)))) (aC (ofP (aW d5)) .NotEq (κ (.int 3)))))) (λd5=>(κ d5))) .Eq (.ok (.own (.list [])))=κ (.bool true):=by
   rw[wZ (g:=λ_=>false) λd hd=>by
    obtain⟨a,b,c,rfl⟩:=hrow d hd;rfl,gh.mpr λ_ _=>dj];rfl
  rw[j9];unfold mdC;rw[e1];refine Eq.trans (b:=mdB (n+1) (bK (itW r))) (by kernel_rfl) ?_;unfold mdB;show rb (rb (aN _ _ (bK (itW r))) λr=>ofP (own (.list r))) _=_;rw[e];show ifS (aC (aM (.ok (aS r)) (λd8=>(tst (orS (unS .Not (aE (rn (n+1) "_law_is_name") [(ofP (getItem d8 (.int 0)))])) (orS (unS .Not (aE (rn (n+1) "_law_is_name") [(ofP (getItem d8 (.int 1)))])) (aC (ofP (getItem d8 (.int 2))) .Is (κ .none)))))) (λd8=>(κ d8))) .NotEq (.ok (.own (.list [])))) (κ .none) (rb (aI (aE (rn (n+1) "_law_are_unlike") [(aM (.ok (aS r)) (λd10=>(.ok true)) (λd10=>(ofP (getItem d10 (.int 0)))))]) (aE (rn (n+1) "_law_are_unlike") [(aM (.ok (aS r)) (λd12=>(.ok true)) (λd12=>(ofP (getItem d12 (.int 1)))))])) λv13=>(rb (bM (ofP (rdv (V.cl v13))) (aO [(κ (.str (so "beside"))),κ (.tuple (aS r))]) (κ .none)) R.ok))=_;rw[vK (g:=λ_=>false) (q5z n h.1.2 h.1.1),gh.mpr λ_ _=>dj];have e2:aE (rn (n+1) "_law_are_unlike") [aM (.ok (aS r)) (λ_=>.ok true) (λd=>ofP (getItem d (.int 0)))]=rn (n+1) "_law_are_unlike" [.fz (.list (r.names.map .str))]:=by
   show aE _ [rb (aN (λ_=>.ok true) (λd=>ofP (getItem d (.int 0))) (aS r)) (λr=>ofP (own (.list r)))]=_;rw[i1];rfl
  have e3:aE (rn (n+1) "_law_are_unlike") [aM (.ok (aS r)) (λ_=>.ok true) (λd=>ofP (getItem d (.int 1)))]=rn (n+1) "_law_are_unlike" [.fz (.list (r.parts.map .str))]:=by
   show aE _ [rb (aN (λ_=>.ok true) (λd=>ofP (getItem d (.int 1))) (aS r)) (λr=>ofP (own (.list r)))]=_;rw[i2];rfl
  rw[e2,e3,xD n ⟨by rw[i3];exact h.2.1,h.2.2.1⟩,xD n ⟨by rw[i4];exact h.2.1,h.2.2.2⟩];show R.ok (V.fz (.tuple [.str (so "beside"),.tuple (aS r)]))=_;rw[<- eM h.1.2];rfl
 |bnil=>exact λ_=>⟨λh=>btf h,λ_ n hn=>⟨rfl,λd hd=>aZ hd⟩⟩
 |bcons x p v r ihv ihr =>
  refine λh=>⟨λh=>btf h,λ_ n hn=>?_⟩
  have hn:v.nb+r.nb+1+2<=n:=hn;obtain⟨e,hrow⟩:=(ihr h.2.2.1).b h.2.2.2 n (yL hn);refine⟨?_,λd hd=>?_⟩
  ·show rb (aO [κ (.str (sS (nmL x))),κ (.str (sS (nmL p))),rn n "_law_made" [.fz (.tuple (bK (itW v)))]]) (λv=>rb (aN _ _ (bK (itW r))) λxs=>.ok (dOf v::xs))=_;rw[(ihv h.2.1.1).a h.2.1.2 n (Mg hn),cZ,cZ,e];rfl
  ·rcases List.mem_cons.mp (show d∈.tuple [wD (nmL x),wD (nmL p),.tuple (bK (itW v))]::bK (itW r) from hd) with rfl | hd
   ·exact⟨_,_,_,rfl⟩
   ·exact hrow d hd
theorem q56:∀ (k:Nat) (d:PyData),tcN k d<=tcN (k+1) d:=by
 intro k
 induction k with
 |zero=>exact λd=>am _
 |succ k ih =>
  intro d;show(if cC d=true then ((tl d).map (tcN k)).sum+1 else 0)<=(if cC d=true then ((tl d).map (tcN (k+1))).sum+1 else 0)
  by_cases h:cC d=true
  ·rw[if_pos h,if_pos h];exact ah (Gp λx _=>ih x)
  ·rw[if_neg h,if_neg h];exact ae _
theorem q57(k:Nat)(l:List PyData):tcN k (.tuple l)<=(l.map (tcN k)).sum+1:=by
 cases k with
 |zero=>exact am _
 |succ k=>rw[qR];exact ah (Gp λx _=>q56 k x)
def tot(k:Nat)(p:PL):Nat:=(p.1.map (tcN k)).sum+(p.2.map λq=>(q.map (tcN k)).sum).sum
theorem q58(k:Nat):∀ (ws:List (List Nat)) {p p':PL},cT ws p=some p'->tot k p'<=tot k p+ws.count [41]:=by
 intro ws
 induction ws with
 |nil=>exact λ{p p'} e=>by obtain rfl:=si e;exact ae _
 |cons w ws ih =>
  intro p p' e;obtain⟨q,e1,e2⟩:=im.mp e;have i:=ih e2;unfold nst at e1
  by_cases h1:w=[40]
  ·rw[if_pos h1] at e1;obtain rfl:=si e1;rw[h1,cb (by decide)];have:tot k ([],p.1::p.2)=tot k p:=by
    unfold tot;rw[List.map_cons,List.sum_cons];exact ce _
   exact yG i this
  ·rw[if_neg h1] at e1
   by_cases h2:w=[41]
   ·rw[if_pos h2] at e1;obtain⟨t,bs⟩:=p;cases bs with
    |nil=>exact ns e1
    |cons b bs =>
     obtain rfl:=si e1;rw[h2,fb];have:tot k (b++[.tuple t],bs)<=tot k (t,b::bs)+1:=by
      show((b++[PyData.tuple t]).map (tcN k)).sum+(bs.map λq=>(q.map (tcN k)).sum).sum<=(t.map (tcN k)).sum+((b::bs).map λq=>(q.map (tcN k)).sum).sum+1;rw[bu,List.sum_append,List.map_cons,List.sum_cons,List.map_cons,List.sum_cons,List.map_nil,List.sum_nil];have:=q57 k t;exact Ln this
     replace i:tot k p'<=tot k (b++[.tuple t],bs)+ws.count [41]:=i;exact Lo this i
   ·rw[if_neg h2] at e1;obtain rfl:=si e1;rw[cb h2];have:tot k (p.1++[wD w],p.2)=tot k p:=by
     show((p.1++[wD w]).map (tcN k)).sum+(p.2.map λq=>(q.map (tcN k)).sum).sum=(p.1.map (tcN k)).sum+(p.2.map λq=>(q.map (tcN k)).sum).sum;rw[bu,List.sum_append,List.map_cons,List.sum_cons,List.map_nil,List.sum_nil,show tcN k (wD w)=0 from by cases k<;>rfl];rfl
    exact yG i this
theorem q59(k:Nat)(ws:List (List Nat)):tcN k (oD (gG ws))<=ws.count [41]:=by
 have n0:tcN k .none=0:=by cases k<;>rfl
 unfold gG;refine ocs (cT ws ([],[])) (λh=>by rw[h];exact U (aq n0) (am _)) λp h=>?_;rw[h];have:=q58 k ws h;have h0:tot k ([],[])=0:=rfl;obtain⟨t,bs⟩:=p;have z:tcN k .none<=ws.count [41]:=by rw[n0];exact am _
 cases bs with
 |cons b bs =>
  cases t with
  |nil=>exact z
  |cons x t=>cases t<;>exact z
 |nil =>
  cases t with
  |nil=>exact z
  |cons x t =>
   cases t with
   |nil =>
    have e:tot k ([x],[])=tcN k x:=rfl;show tcN k x<=_;exact Lp h0 this e
   |cons y t=>exact z
structure TxB(T:List Nat):Prop where
 p:∀ c∈T,bW c=true
 l:T.length < bX
 c0:T.count 40<=127
 c1:T.count 41<=127
theorem Gr{n:Nat}(h:TxB T):rn (n+2) "_law_due" [.fz (.str (sS T))]=rb (rn (n+1) "_law_made" [.fz (oD (gG (aY (rr T))))]) λv1=>ifS (orS (aC (ofP (rdv (V.cl v1))) .Is (κ .none)) (aC (aE (rn (n+1) "_law_text") [bU (V.cl v1)]) .NotEq (κ (.str (sS T))))) (κ .none) (dM (V.cl v1) R.ok):=by
 have hl:(aY (rr T)).length+1 < aF:=by
  have h1:=q5d (rr T);have h2:=Gj T;have h3:=h.l;have:bX=8192:=rfl;have:aF=16777216:=rfl;omega
 rw[q00,q5m h.p h.l];show rb (aE (rn (n+1) "_law_made") [rn (n+1) "_law_nest" [.fz (.list ((aY (rr T)).map wD))]]) _=_;rw[q5p n hl];rfl
theorem q6a{n:Nat}(h:TxB T)(hn:260<=n)(hno:∀ w,gd w->w.isRows=false->T≠txt w):rn (n+2) "_law_due" [.fz (.str (sS T))]=κ .none:=by
 rw[Gr h];have hc:(aY (rr T)).count [41]<=127:=U (q5c 41 (by decide) _) (by rw[q5f];exact h.c1);rcases q50 _ _ (q5r (ws:=aY (rr T))) (n+1) (yH hn hc) with e | ⟨w,e,g,b⟩
 ·rw[e];rfl
 ·rw[e,aJ];have hb:w.nb<=127:=U b (U (q59 _ _) hc);have f:=mS g.1.ok g.2;have ht:rn (n+1) "_law_text" [.fz (enc w)]=κ (.str (sS (txt w))):=by
   refine wV g.1.ok g.2 ?_ (yI hn hb);have:=f.l;have:bX=8192:=rfl;omega
  show ifS (orS (κ (.bool (bF (enc w)))) (aC (rn (n+1) "_law_text" [.fz (enc w)]) .NotEq (κ (.str (sS T))))) _ _=_;rw[ht,mI,show(sS (txt w)==sS T)=false from beq_false_of_ne λe=>hno w g.1 g.2 (qC e).symm];cases bF (enc w)<;>rfl
theorem q6b{n:Nat}{w:WW}(h:TxB (txt w))(hn:260<=n)(g:gd w)(hr:w.isRows=false):rn (n+2) "_law_due" [.fz (.str (sS (txt w)))]=κ (enc w):=by
 have f:=mS g.ok hr;have hb:w.nb<=127:=by rw[<- f.c0];exact h.c0
 have ho:=((wQ g.ok).a hr).o;rw[Gr h,show aY (rr (txt w))=[40]::(tks (itW w)++[[41]]) from q5k ho (iU hr),q5t ho];show rb (rn (n+1) "_law_made" [.fz (.tuple (bK (itW w)))]) _=_;rw[(q55 g).a hr (n+1) (yH hn hb),aJ];show ifS (orS (κ (.bool (bF (enc w)))) (aC (rn (n+1) "_law_text" [.fz (enc w)]) .NotEq (κ (.str (sS (txt w)))))) _ _=_;rw[wV g.ok hr h.l (yI hn hb),mI,beq_self_eq_true,fA hr];rfl
theorem q6c(n:Nat):run BB (n+1) true (so "_law_word") [.ex BT]=κ (.tuple [.str (so "refused"),.str (so "text")]):=by kernel_rfl
def kB:PyData:=.tuple [.str (so "refused"),.str (so "text")]
theorem Gs{n:Nat}(h:rn (n+1) "read" [.fz d]=.exc BT):rn (n+2) "_law_told" [.fz d]=κ kB:=by
 rw[Dn,h];show(if fH BB BT.cls (so "ViewError")=some true then rb (nx (run BB (n+1) true (so "_law_word") [.ex BT])) R.ok else .no)=_;rw[if_pos (by kernel_rfl),q6c];rfl
theorem q6d{n:Nat}{e:PyData}(h:rn (n+1) "read" [.fz d]=κ e):rn (n+2) "_law_told" [.fz d]=κ e:=by
 rw[Dn,h];rfl
structure Alk(n:Nat)(d:PyData):Prop where
 h:rn n "_law_alike" [.fz d,.fz d]=κ (.bool true)
theorem q6e(a b:R V):ifS (κ (.bool true)) a b=a:=rfl
theorem q6f(h:d∈dY l l):∃ x,x∈l/\d=.tuple [x,x]:=by
 induction l with
 |nil=>exact aZ h
 |cons x l ih =>
  rcases List.mem_cons.mp (show d∈.tuple [x,x]::dY l l from h) with rfl | h
  ·exact⟨x,ac,rfl⟩
  ·obtain⟨y,hy,e⟩:=ih h;exact⟨y,af _ hy,e⟩
theorem eN{n:Nat}(h:∀ d∈l,Alk n d):Alk (n+1) (.tuple l):=⟨by
 rw[uF];have e1:aC (ofP (aW (.tuple l))) .NotEq (ofP (aW (.tuple l)))=κ (.bool false):=by
  show R.ok (V.fz (.bool (!((l.length:Int)==(l.length:Int)))))=_;rw[beq_self_eq_true];rfl
 rw[show cC (.tuple l)=true from rfl,q6e,e1,show orS (unS .Not (κ (.bool true))) (κ (.bool false))=κ (.bool false) from rfl,wR,show zpI [κ (.tuple l),κ (.tuple l)]=.ok (dY l l) from rfl,pY,pT (g:=λ_=>.bool true) λd hd=>by
  obtain⟨x,hx,rfl⟩:=q6f hd;exact⟨rfl,_,(h x hx).h,rfl⟩]
 show rb (ofP (b7 (.list ((dY l l).map λ_=>.bool true)))) R.ok=_;rw[show(dY l l).map (λ_=>PyData.bool true)=((dY l l).map λ_=>true).map .bool from by rw[List.map_map];rfl,vE,bb.mpr λb hb=>by
  obtain⟨_,_,rfl⟩:=bq.mp hb;rfl];rfl⟩
theorem dI(n:Nat)(x:Str):Alk (n+1) (.str x):=⟨by
 rw[uF];show R.ok (V.fz (.bool (x==x)))=_;rw[beq_self_eq_true]⟩
theorem q6g(n:Nat)(i:Int):Alk (n+1) (.int i):=⟨by
 rw[uF];show R.ok (V.fz (.bool (i==i)))=_;rw[beq_self_eq_true]⟩
structure AlkS(w:WW):Prop where
 a:w.isRows=false->∀ n,3*w.hgt+3<=n->Alk n (enc w)
 b:w.isRows=true->∀ n,3*w.hgt+4<=n->∀ d∈aS w,Alk n d
theorem q6h:∀ {w:WW},okP okN w->AlkS w:=by
 intro w
 induction w with
 |whole=>exact λ_=>⟨λ_ n hn=>exnE (c:=2) n hn hn λn _=>eN λd hd=>by rw[List.mem_singleton.mp hd];exact dI n _,λh=>bft h⟩
 |pick x=>exact λ_=>⟨λ_ n hn=>exnE (c:=2) n hn hn λn _=>eN λd hd=>by
   simp only[List.mem_cons,List.not_mem_nil,or_false] at hd;rcases hd with rfl | rfl<;>exact dI n _,λh=>bft h⟩
 |call a b=>exact λ_=>⟨λ_ n hn=>exnE (c:=2) n hn hn λn _=>eN λd hd=>by
   simp only[List.mem_cons,List.not_mem_nil,or_false] at hd;rcases hd with rfl | rfl | rfl<;>exact dI n _,λh=>bft h⟩
 |sift f l=>exact λ_=>⟨λ_ n hn=>exnE (c:=2) n hn hn λn _=>eN λd hd=>by
   simp only[List.mem_cons,List.not_mem_nil,or_false] at hd;rcases hd with rfl | rfl | rfl
   ·exact dI n _
   ·exact dI n _
   ·exact q6g n _,λh=>bft h⟩
 |join a b fs=>exact λ_=>⟨λ_ n hn=>exnE (c:=3) n hn hn λn _=>eN λd hd=>by
   simp only[List.mem_cons,List.not_mem_nil,or_false] at hd;rcases hd with rfl | rfl | rfl | rfl
   ·exact dI _ _
   ·exact dI _ _
   ·exact dI _ _
   ·exact eN λd hd=>by
     obtain⟨x,_,rfl⟩:=bq.mp hd;exact dI n x,λh=>bft h⟩
 |each v ih =>
  intro h;refine⟨λ_ n hn=>?_,λh=>bft h⟩;have hn':3*(v.hgt+1)+3<=n:=hn;refine exnE (c:=2) n hn' hn' λn hn'=>eN λd hd=>?_;simp only[List.mem_cons,List.not_mem_nil,or_false] at hd;rcases hd with rfl | rfl
  ·exact dI _ _
  ·exact(ih h.1).a h.2 (n+1) (Lq hn')
 |andThen a b iha ihb =>
  intro h;refine⟨λ_ n hn=>?_,λh=>bft h⟩;have hn':3*(max a.hgt b.hgt+1)+3<=n:=hn;refine exnE (c:=2) n hn' hn' λn hn'=>eN λd hd=>?_;simp only[List.mem_cons,List.not_mem_nil,or_false] at hd;rcases hd with rfl | rfl | rfl
  ·exact dI _ _
  ·exact(iha h.1.1).a h.1.2 (n+1) (Lr hn')
  ·exact(ihb h.2.1).a h.2.2 (n+1) (Ls hn')
 |beside r ih =>
  intro h;refine⟨λ_ n hn=>?_,λh=>bft h⟩;have hn':3*(r.hgt+1)+3<=n:=hn;refine exnE (c:=2) n hn' hn' λn hn'=>eN λd hd=>?_;simp only[List.mem_cons,List.not_mem_nil,or_false] at hd;rcases hd with rfl | rfl
  ·exact dI _ _
  ·rw[eM h.1.2];exact eN λd hd=>(ih h.1.1).b h.1.2 n (Lu hn') d hd
 |bnil=>exact λ_=>⟨λh=>btf h,λ_ n _ d hd=>aZ hd⟩
 |bcons x p v r ihv ihr =>
  intro h;obtain⟨_,⟨hv,rv⟩,hr,rr⟩:=h;refine⟨λh=>btf h,λ_ n hn d hd=>?_⟩;have hn':3*max v.hgt r.hgt+4<=n:=hn;rcases List.mem_cons.mp (show d∈.tuple [.str x,.str p,enc v]::aS r from hd) with rfl | hd
  ·refine exnE (c:=2) n hn' hn' λn hn'=>eN λd hd=>?_;simp only[List.mem_cons,List.not_mem_nil,or_false] at hd;rcases hd with rfl | rfl | rfl
   ·exact dI _ _
   ·exact dI _ _
   ·exact(ihv hv).a rv (n+1) (Lv hn')
  ·exact(ihr hr).b rr n (Lw hn') d hd
theorem Gu:∀ ws:List (List Nat),(twL ws).length=(ws.map List.length).sum+ws.length:=by
 intro ws
 induction ws with
 |nil=>rfl
 |cons s r ih =>
  show(32::(s++twL r)).length=_;rw[List.length_cons,List.length_append,ih,List.map_cons,List.sum_cons,List.length_cons];exact K0
theorem q6i:∀ (r:List (List Nat)) (a:List Nat),(r.map sS).foldl (λacc p=>acc++(sS [32]).cps++p.cps) a.toArray=(a++twL r).toArray:=by
 intro r
 induction r with
 |nil=>intro a;show a.toArray=(a++[]).toArray;rw[bz]
 |cons s r ih =>
  intro a;show(r.map sS).foldl (λacc p=>acc++(sS [32]).cps++p.cps) (a.toArray++(sS [32]).cps++(sS s).cps)=_;rw[show a.toArray++(sS [32]).cps++(sS s).cps=(a++32::s).toArray from by
   show a.toArray++[32].toArray++s.toArray=_;simp,ih]
  congr 1;show a++32::s++twL r=a++32::(s++twL r);simp
theorem q6j(ws:List (List Nat)):Txt.join (sS [32]) (ws.map sS)=sS ((twL ws).drop 1):=by
 cases ws with
 |nil=>rfl
 |cons s r =>
  show(⟨(r.map sS).foldl (λacc p=>acc++(sS [32]).cps++p.cps) s.toArray⟩:Str)=_;rw[q6i];rfl
theorem q6k(h:(twL ws).length<=aF):JoinOk (sS [32]) (ws.map sS)=true:=by
 unfold JoinOk;rw[StrLaws.joinTotal];have e:((ws.map sS).map (·.length)).sum+(ws.map sS).length*(sS [32]).length=(twL ws).length:=by
  rw[Gu,List.map_map,List.length_map,show(λx:Str=>x.length)∘sS=List.length from funext λl=>gX l,show(sS [32]).length=1 from rfl,Nat.mul_one]
 rw[e];show(!decide ((twL ws).length > sizeLine))=true;rw[decide_eq_false (Nat.not_lt.mpr (by rw[sizeLine_eq];exact h))];rfl
theorem q6l(ws:List (List Nat)):strs? (ws.map wD)=some (ws.map sS):=by
 rw[show ws.map wD=(ws.map sS).map .str from by rw[List.map_map];rfl];exact jT _
theorem q6m(h:(twL ws).length<=aF):bN (so "join") (κ (.str (sS [32]))) [.ok (.own (.list (ws.map wD)))]=κ (.str (sS ((twL ws).drop 1))):=by
 show ofP ((ofO (strs? (ws.map wD))).bind λl=>if JoinOk (sS [32]) l then fz (.str (Txt.join (sS [32]) l)) else .no)=_;rw[q6l];show ofP (if JoinOk (sS [32]) (ws.map sS)=true then fz (.str (Txt.join (sS [32]) (ws.map sS))) else .no)=_;rw[if_pos (q6k h),q6j];rfl
theorem Gv(T:List Nat):((aQ 32 T).map List.length).sum+(aQ 32 T).length=T.length+1:=by
 induction T with
 |nil=>rfl
 |cons x r ih =>
  obtain⟨w,ws,e⟩:=j5 32 r
  by_cases hx:x=32
  ·subst hx;rw[iV,List.map_cons,List.sum_cons,List.length_cons,List.length_cons,List.length_nil];exact K1 ih
  ·rw[iW hx e];rw[e] at ih;simp only[List.map_cons,List.sum_cons,List.length_cons] at ih ⊢;exact K2 ih
theorem q6n{c x:Nat}{w:List Nat}(h:w∈aQ c T)(hx:x∈w):x∈T:=by
 induction T generalizing w with
 |nil=>rw[List.mem_singleton.mp (show w∈[[]] from h)] at hx;exact aZ hx
 |cons y r ih =>
  obtain⟨u,us,e⟩:=j5 c r
  by_cases hy:y=c
  ·subst hy;rw[iV] at h;rcases List.mem_cons.mp h with rfl | h
   ·exact aZ hx
   ·exact af _ (ih h hx)
  ·rw[iW hy e] at h;rcases List.mem_cons.mp h with rfl | h
   ·rcases List.mem_cons.mp hx with rfl | hx
    ·exact ac
    ·exact af _ (ih (w:=u) (by rw[e];exact ac) hx)
   ·exact af _ (ih (by rw[e];exact af _ h) hx)
theorem Gw(f:List Nat->Nat)(l:List (List Nat))(i j:Nat):((l.take i++l.drop j).map f).sum<=2*(l.map f).sum:=by
 have h1:∀ k,((l.take k).map f).sum+((l.drop k).map f).sum=(l.map f).sum:=λk=>by
  rw[<- List.sum_append,<- bu,List.take_append_drop]
 rw[bu,List.sum_append];have:=h1 i;have:=h1 j;omega
theorem q6o(k:Nat)(h:k≠32)(ws:List (List Nat)):(twL ws).count k=(ws.map (List.count k)).sum:=by
 induction ws with
 |nil=>rfl
 |cons s r ih =>
  show(32::(s++twL r)).count k=_;rw[cb (Ne.symm h),cx,ih];rfl
theorem q6p{x:Nat}(h:x∈twL ws):x=32\/∃ w∈ws,x∈w:=by
 induction ws with
 |nil=>exact aZ h
 |cons s r ih =>
  rcases List.mem_cons.mp (show x∈32::(s++twL r) from h) with rfl | h
  ·exact .inl rfl
  rcases bv.mp h with h | h
  ·exact .inr ⟨s,ac,h⟩
  ·rcases ih h with h | ⟨w,hw,h⟩
   ·exact .inl h
   ·exact .inr ⟨w,af _ hw,h⟩
structure TxO(T:List Nat):Prop where
 p:∀ c∈T,bW c=true
 l:T.length<=4032
 c0:T.count 40<=63
 c1:T.count 41<=63
theorem q6q(h:TxO T)(i j:Nat):TxB ((twL ((aQ 32 T).take i++(aQ 32 T).drop j)).drop 1)/\(twL ((aQ 32 T).take i++(aQ 32 T).drop j)).length<=aF:=by
 have hlen:(twL ((aQ 32 T).take i++(aQ 32 T).drop j)).length<=8066:=by
  rw[Gu];have h1:=Gw List.length (aQ 32 T) i j;have h2:=Gv T;have h3:=h.l;rw[List.length_append,List.length_take,List.length_drop];exact K3 h1 h2 h3
 have hc:∀ k,k≠32->T.count k<=63->((twL ((aQ 32 T).take i++(aQ 32 T).drop j)).drop 1).count k<=127:=λk hk hb=>by
  refine U ((List.drop_sublist 1 _).count_le k) ?_;rw[q6o k hk];have h1:=Gw (List.count k) (aQ 32 T) i j;rw[Gg 32 k hk T] at h1;exact K4 hb h1
 refine⟨⟨λc hc=>?_,?_,hc 40 (by decide) h.c0,hc 41 (by decide) h.c1⟩,U hlen (by decide)⟩
 ·rcases q6p (io hc) with rfl | ⟨w,hw,hx⟩
  ·rfl
  ·refine h.p c (q6n (c:=32) (w:=w) ?_ hx);rcases bv.mp hw with hw | hw
   ·exact jf hw
   ·exact io hw
 ·rw[List.length_drop];have:bX=8192:=rfl;exact K5 hlen this
theorem Gx(h:TxO T)(i j:Nat)(hij:i<=j)(s:List Nat)(hs:s.length<=1)(hp:∀ c∈s,bW c=true):TxB (T.take i++(s++T.drop j))/\(T.take i++(s++T.drop j)).length<=aF:=by
 have hlen:(T.take i++(s++T.drop j)).length<=4033:=by
  have:=h.l;rw[List.length_append,List.length_append,List.length_take,List.length_drop];exact K6 hij hs this
 have hc:∀ k,T.count k<=63->(T.take i++(s++T.drop j)).count k<=127:=λk hb=>by
  rw[cx,cx];have h1:=(List.take_sublist i T).count_le k;have h2:=(List.drop_sublist j T).count_le k;have h3:s.count k<=1:=U List.count_le_length hs;exact K7 hb h1 h2 h3
 refine⟨⟨λc hc=>?_,aj hlen (by decide),hc 40 h.c0,hc 41 h.c1⟩,U hlen (by decide)⟩;rcases bv.mp hc with hc | hc
 ·exact h.p c (jf hc)
 rcases bv.mp hc with hc | hc
 ·exact hp c hc
 ·exact h.p c (io hc)
inductive BnR(r:R V):Prop where
 |mk (T:List Nat) (e:r=κ (.str (sS T))) (h:TxB T):BnR r
theorem BnR.ite{t:Bool}(hc:c=κ (.bool t))(ha:BnR a)(hb:BnR b):BnR (ifS c a b):=by
 rw[hc];cases t with
 |true=>exact ha
 |false=>exact hb
def sgL:List Nat:=kw " ()-0123456789abcdefghijklmnopqrstuvwxyzAZ.,_"
theorem q6r:∀ c∈sgL,bW c=true:=by decide
noncomputable def smL:List String:=["", "(", ")", "()", "whole", "(whole", "whole)", " (whole)", "(whole) ", "((whole))", "(whole)(whole)", "(each ())", "(pick  a)", "(sift a 007)", "(sift a -0)", "(join a b ())"]
theorem q6s:∀ t∈smL,((kw t).all bW&&decide ((kw t).length < 100)&&decide ((kw t).count 40<=127)&&decide ((kw t).count 41<=127))=true:=by decide
theorem Gy(T:List Nat)(a:Nat):aR (.ok (.str (sS T))) none (some (κ (.int a)))=κ (.str (sS (T.take a))):=by
 show R.ok (V.fz (.str ⟨(slice T none (some (a:Int))).toArray⟩))=_;rw[mG T (cm a),Int.toNat_natCast];rfl
theorem q6t(n:Nat)(h:TxO T)(c:Int):BnR (rn (n+1) "_law_bent" [.fz (.str (sS T)),.fz (.int c)]):=by
 have hs:aF=16777216:=rfl;have hw:bX=8192:=rfl;have hl:=h.l;rw[q01];refine hde λ_ θ=>?_;obtain⟨a,ha,e1⟩:∃ a:Nat,a<=T.length/\aB .Mod (ofP (aD .FloorDiv (.int c) (.int 8))) (aB .Add (ofP (aW (.str (sS T)))) (.ok (.fz (.int 1))))=κ (.int a):=by
  have hr:=aX (c.fdiv 8) (n:=(T.length:Int)+1) K8;refine⟨((c.fdiv 8).fmod ((T.length:Int)+1)).toNat,by exact K9 hr,?_⟩;rw[show aD .FloorDiv (.int c) (.int 8)=.ok (.fz (.int (c.fdiv 8))) from eF _ (by decide),jX];show ofP (aD .Mod (.int (c.fdiv 8)) (.int ((T.length:Int)+1)))=_;rw[dH _ La,gj hr.1];rfl
 apply θ;obtain⟨s,hsg,e2⟩:∃ s:Nat,bW s=true/\aK (.ok (.str (so " ()-0123456789abcdefghijklmnopqrstuvwxyzAZ.,_"))) (aB .Mod (ofP (aD .FloorDiv (.int c) (.int 4096))) (ofP (aW (.str (so " ()-0123456789abcdefghijklmnopqrstuvwxyzAZ.,_")))))=.ok (.fz (.str (sS [s]))):=by
  have hr:=aX (c.fdiv 4096) (n:=(sgL.length:Int)) (by decide);have hk:((c.fdiv 4096).fmod (sgL.length:Int)).toNat < sgL.length:=Lb hr;refine⟨sgL[((c.fdiv 4096).fmod (sgL.length:Int)).toNat],q6r _ (ge hk),?_⟩;rw[show aD .FloorDiv (.int c) (.int 4096)=.ok (.fz (.int (c.fdiv 4096))) from eF _ (by decide),show so " ()-0123456789abcdefghijklmnopqrstuvwxyzAZ.,_" = sS sgL from rfl,jX];show rb (ofP (aD .Mod (.int (c.fdiv 4096)) (.int (sgL.length:Int)))) (λi=>ofP (getItem (.str (sS sgL)) (dOf i)))=_;rw[dH _ (by decide),aT,aJ];show ofP (if 0<=(c.fdiv 4096).fmod (sgL.length:Int)/\(c.fdiv 4096).fmod (sgL.length:Int) < ((sS sgL).cps.size:Int) then frz ((sS sgL).cps[((c.fdiv 4096).fmod (sgL.length:Int)).toNat]?.map bB) else .no)=_;rw[if_pos ⟨hr.1,by rw[sz];exact hr.2⟩,show(sS sgL).cps[((c.fdiv 4096).fmod (sgL.length:Int)).toNat]?=some sgL[((c.fdiv 4096).fmod (sgL.length:Int)).toNat] from by
   rw[show(sS sgL).cps[((c.fdiv 4096).fmod (sgL.length:Int)).toNat]?=sgL[((c.fdiv 4096).fmod (sgL.length:Int)).toNat]? from List.getElem?_toArray];exact bg hk];rfl
 have e3:bN (so "split") (κ (.str (sS T))) [κ (.str (so " "))]=.ok (.own (.list ((aQ 32 T).map wD))):=by
  show ofP (if (sS T).cps.toList.all bW=true/\(sS T).length+2<=aF then own (.list ((aQ 32 T).map wD)) else .no)=_;rw[if_pos ⟨bb.mpr h.p,by rw[gX];exact Lc hs hl⟩];rfl
 obtain⟨p,e4⟩:∃ p:Nat,aB .Mod (ofP (aD .FloorDiv (.int c) (.int 8))) (cY (.own (.list ((aQ 32 T).map wD))))=.ok (.fz (.int p)):=by
  obtain⟨w,ws,e⟩:=j5 32 T;have hp:0 < ((aQ 32 T).map wD).length:=by rw[e];exact cy _
  have hr:=aX (c.fdiv 8) (n:=(((aQ 32 T).map wD).length:Int)) (Ld hp);refine⟨((c.fdiv 8).fmod (((aQ 32 T).map wD).length:Int)).toNat,?_⟩;rw[show aD .FloorDiv (.int c) (.int 8)=.ok (.fz (.int (c.fdiv 8))) from eF _ (by decide)];show ofP (aD .Mod (.int (c.fdiv 8)) (.int (((aQ 32 T).map wD).length:Int)))=_;rw[dH _ (Le hp),gj hr.1];rfl
 have e5:aD .Mod (.int c) (.int 8)=.ok (.fz (.int (c.fmod 8))):=dH _ (by decide);have e6:aB .Add (ofP (rdv (V.cl (.fz (.int a))))) (κ (.int 1))=κ (.int (a+1:Nat)):=rfl;have e7:aB .Add (ofP (rdv (V.cl (.fz (.int p))))) (κ (.int 1))=κ (.int (p+1:Nat)):=rfl;have jn:∀ i j:Nat,BnR (rb (bN (so "join") (κ (.str (so " "))) [aB .Add (aR (.ok (.list ((aQ 32 T).map wD))) none (some (κ (.int i)))) (aR (.ok (.list ((aQ 32 T).map wD))) (some (κ (.int j))) none)]) R.ok):=λi j=>by
  obtain⟨q1,q2⟩:=q6q h i j;refine⟨_,?_,q1⟩;have hadd:aB .Add (aR (.ok (.list ((aQ 32 T).map wD))) none (some (κ (.int i)))) (aR (.ok (.list ((aQ 32 T).map wD))) (some (κ (.int j))) none)=.ok (.own (.list (((aQ 32 T).take i++(aQ 32 T).drop j).map wD))):=by
   show ofP (if fB .Add=true/\(slice ((aQ 32 T).map wD) none (some (i:Int))).length+(slice ((aQ 32 T).map wD) (some (j:Int)) none).length<=aF then P.ok (V.own (.list (slice ((aQ 32 T).map wD) none (some (i:Int))++slice ((aQ 32 T).map wD) (some (j:Int)) none))) else .no)=_;have h2:=Gv T;rw[mG _ (cm i),wL,Int.toNat_natCast,if_pos ⟨rfl,by rw[List.length_take,List.length_drop,List.length_map];exact Lf hs hl h2⟩,bu,je,List.map_drop];rfl
  rw[hadd,show so " " = sS [32] from rfl,q6m q2];rfl
 have sg:∀ j:Nat,a<=j->BnR (rb (aB .Add (aB .Add (aR (.ok (.str (sS T))) none (some (κ (.int a)))) (κ (.str (sS [s])))) (aR (.ok (.str (sS T))) (some (κ (.int j))) none)) R.ok):=λj hj=>by
  obtain⟨q1,q2⟩:=Gx h a j hj [s] (ae _) λc hc=>by rw[List.mem_singleton.mp hc];exact hsg
  refine⟨_,?_,q1⟩;rw[Gy,mO,qN (by rw[List.length_take,List.length_singleton];exact Lg hs hl),qN (by rw[List.length_append,List.length_take,List.length_singleton,List.length_drop];exact Lh hs hl),cv];rfl
 rw[e1,e2,e3];simp only[aJ];rw[e4,e5];simp only[aJ,aT];rw[e6,e7];refine BnR.ite (t:=decide (c.fmod 8 < 2)) rfl (sg a (ae _)) (BnR.ite (t:=c.fmod 8==2) rfl ?_ (BnR.ite (t:=c.fmod 8==3) rfl (sg (a+1) (au a)) (BnR.ite (t:=c.fmod 8==4) rfl (jn p (p+1)) (BnR.ite (t:=c.fmod 8==5) rfl (jn (p+1) p) (BnR.ite (t:=c.fmod 8==6) rfl ?_ ⟨T,rfl,h.p,by exact Lj hw hl,by have:=h.c0;exact yF this,by have:=h.c1;exact yF this⟩)))))
 ·obtain⟨q1,q2⟩:=Gx h a (a+1) (au a) [] (am _) λc hc=>aZ hc;refine⟨_,?_,q1⟩;show rb (aB .Add (aR (.ok (.str (sS T))) none (some (κ (.int a)))) (aR (.ok (.str (sS T))) (some (κ (.int (a+1:Nat)))) none)) R.ok=_;rw[Gy,mO,qN (by rw[List.length_take,List.length_drop];exact Lk hs hl)];rfl
 ·have hr:=aX (c.fdiv 8) (n:=16) (by decide);have hk:((c.fdiv 8).fmod 16).toNat < smL.length:=by show _ < 16;exact Ll hr
  have ht:=q6s smL[((c.fdiv 8).fmod 16).toNat] (ge hk);simp only[Bool.and_eq_true,decide_eq_true_eq] at ht;obtain⟨⟨⟨t1,t2⟩,t3⟩,t4⟩:=ht;refine⟨kw smL[((c.fdiv 8).fmod 16).toNat],?_,⟨bb.mp t1,by exact Lm hw t2,t3,t4⟩⟩;rw[show aD .FloorDiv (.int c) (.int 8)=.ok (.fz (.int (c.fdiv 8))) from eF _ (by decide)];refine Eq.trans (b:=rb (ofP (getItem (.list (smL.map λt=>.str (so t))) (.int ((c.fdiv 8).fmod 16)))) R.ok) (by kernel_rfl) ?_;rw[fQ hr.1 (by rw[List.getElem?_map,bg hk];rfl)];exact congrArg (λs=>R.ok (V.fz (.str s))) (gV _).symm
variable {N:List Str}{m:Nat}
def lS(s:List Int)(w2 w3:V)(o4 o5 o6 o7 o8 o9 o10:Option V):aA:=eC (ζ (Li s)) (some w2) (some w3) o4 o5 o6 o7 o8 o9 o10
structure VwG(N:List Str)(h g:Nat)(w:WW):Prop where
 o:okW N w
 r:w.isRows=false
 a:w.hgt<=h
 b:w.nb<=g
theorem q6u(s:List Int)(lo hi:Option Int):slice (s.map PyData.int) lo hi=(slice s lo hi).map .int:=by
 unfold slice;rw[List.length_map,je,List.map_drop]
theorem q6v(H:Wld N)(s:List Int){w3:V}(o4 o5:PyData)(o8 o9 o10:Option V)(kn:KN)(kr:KR):∀ (cs:List Int) {w2 w6:V} {w:WW} {h g:Nat} (o7:Option V),w2.cl=.fz (NL N)->w6.cl=.fz (enc w)->VwG N h g w ->
  ∃ w2' w6' w' o7',(w2'.cl=.fz (NL N)/\w6'.cl=.fz (enc w'))/\VwG N (h+2*cs.length) (g+4*cs.length) w'/\a8 (uH 399) pQ (cs.map .int) (lS s w2 w3 (ζ o4) (ζ o5) (some w6) o7 o8 o9 o10) kn kr=kn (lS s w2' w3 (ζ o4) (ζ o5) (some w6') o7' o8 o9 o10):=by
 intro cs
 induction cs with
 |nil=>exact λ{w2 w6 w h g} o7 h2 h6 hw=>⟨w2,w6,w,o7,⟨h2,h6⟩,hw,rfl⟩
 |cons c cs ih =>
  intro w2 w6 w h g o7 h2 h6 hw;refine hde λ_ θ=>?_;obtain⟨w1,e,a1,a2,a3,a4⟩:=q21 H 397 c hw.o hw.r hw.a hw.b;obtain⟨w2',w6',w',o7',c1,c2,c3⟩:=ih (w2:=.fz (NL N)) (w6:=.fz (enc w1)) (w:=w1) (h:=h+2) (g:=g+4) (ζ (.int c)) rfl rfl ⟨a1,a2,a3,a4⟩;apply θ;refine⟨w2',w6',w',o7',c1,⟨c2.o,c2.r,?_,?_⟩,Eq.trans ?_ c3⟩
  ·have:=c2.a;rw[List.length_cons];exact Lx this
  ·have:=c2.b;rw[List.length_cons];exact Ly this
  ·show rb (ofP (bA pQ (.int c) (lS s w2 w3 (ζ o4) (ζ o5) (some w6) o7 o8 o9 o10))) _=_;unfold lS;rw[q06,aT,aJ,q07,h2,h6];rw[show aE (rn 399 "_law_wider") [bU (.fz (enc w)),κ (.int c),bU (.fz (NL N))]=κ (enc w1) from e];rfl
structure AskR(T:List Nat)(d f:PyData):Prop where
 a:rn 399 "_law_due" [.fz (.str (sS T))]=κ d
 b:rn 399 "_law_told" [.fz (.str (sS T))]=κ f
 c:rn 399 "_law_alike" [.fz f,.fz (if bF d=true then kB else d)]=κ (.bool true)
theorem q6w(h:TxB T):∃ d f,AskR T d f:=by
 by_cases hw:∃ w,(gd w/\w.isRows=false)/\T=txt w
 ·obtain⟨w,g,rfl⟩:=hw;have f:=mS g.1.ok g.2;have hb:w.nb<=127:=by rw[<- f.c0];exact h.c0
  have hh:=Ge w;refine⟨enc w,enc w,q6b (n:=397) h (by decide) g.1 g.2,q6d (n:=397) (q4z (n:=397) g.1 g.2 h.l (Lz hb)),?_⟩;rw[if_neg (by rw[fA g.2];exact dj)];exact((q6h g.1.ok).a g.2 399 (L0 hb hh)).h
 ·have hno:∀ w,gd w->w.isRows=false->T≠txt w:=λw g r e=>hw ⟨w,⟨g,r⟩,e⟩;have:=h.c0;refine⟨.none,kB,q6a (n:=397) h (by decide) hno,Gs (n:=397) (q40 (n:=397) h.l (L3 this) hno),?_⟩;rw[if_pos (show bF .none=true from rfl)];exact(eN (n:=398) (l:=[.str (so "refused"),.str (so "text")]) λd hd=>by
   rcases List.mem_cons.mp hd with rfl | hd
   ·exact dI 397 _
   ·rw[List.mem_singleton.mp hd];exact dI 397 _).h
theorem q6x(c:Int):∃ cs:List Int,cs.length<=2/\plI (aR (cR (b9 [ofP (aD .FloorDiv (.int c) (.int 5)),ofP (aD .FloorDiv (.int c) (.int 64))])) none (some (ofP (aD .Mod (.int c) (.int 3)))))=.ok (cs.map .int):=by
 have r3:=aX c (n:=3) (by decide);rw[show aD .FloorDiv (.int c) (.int 5)=.ok (.fz (.int (c.fdiv 5))) from eF _ (by decide),show aD .FloorDiv (.int c) (.int 64)=.ok (.fz (.int (c.fdiv 64))) from eF _ (by decide),show aD .Mod (.int c) (.int 3)=.ok (.fz (.int (c.fmod 3))) from dH _ (by decide)];rcases(show c.fmod 3=0\/c.fmod 3=1\/c.fmod 3=2 by exact L4 r3) with h | h | h<;>rw[h]
 ·exact⟨[],by decide,rfl⟩
 ·exact⟨[c.fdiv 5],au 1,rfl⟩
 ·exact⟨[c.fdiv 5,c.fdiv 64],ae _,rfl⟩
theorem q6y(c:Int):aC (aE (rn 399 "_law_told") [(aK (cR (b9 [(.ok (.fz .none)),(κ (.int 5)),(b9 [(κ (.str (so "(whole)")))]),(κ (.tuple [(.str (so "whole"))])),(κ (.bool true))])) (ofP (aD .Mod (.int c) (.int 5))))]) .NotEq (κ (.tuple [(.str (so "refused")),(.str (so "text"))]))=κ (.bool false):=by
 have r5:=aX c (n:=5) (by decide);have key:∀ d:PyData,eP d=false->aC (rn 399 "_law_told" [.fz d]) .NotEq (κ (.tuple [(.str (so "refused")),(.str (so "text"))]))=κ (.bool false):=λd hd=>by
  rw[Gs (n:=397) (by
   rw[tT,hd];rfl)]
  kernel_rfl
 rw[show aD .Mod (.int c) (.int 5)=.ok (.fz (.int (c.fmod 5))) from dH _ (by decide)];rcases(show c.fmod 5=0\/c.fmod 5=1\/c.fmod 5=2\/c.fmod 5=3\/c.fmod 5=4 by exact L5 r5) with h | h | h | h | h<;>rw[h]
 ·exact key .none rfl
 ·exact key (.int 5) rfl
 ·exact key (.list [.str (so "(whole)")]) rfl
 ·exact key (.tuple [.str (so "whole")]) rfl
 ·exact key (.bool true) rfl
theorem q6z(H:Wld N)(s:List Int)(hd:Tr N 5 d){w2 w3:V}(h2:w2.cl=.fz (NL N))(h3:w3.cl=.fz d)(k:Nat)(c:Int)(o4 o5 o6 o7 o8 o9 o10:Option V)(kn:KN)(kr:KR):
  ∃ w2' w3' p4 p5 p6 p7 p8 p9 p10,(w2'.cl=.fz (NL N)/\w3'.cl=.fz d)/\(rb (ofP (bA lZ (.tuple [.int k,.int c]) (lS s w2 w3 o4 o5 o6 o7 o8 o9 o10))) λσ=>lY 399 σ kn kr)=kn (lS s w2' w3' p4 p5 p6 p7 p8 p9 p10):=by
 refine hde λ_ θ=>?_;obtain⟨w,e1,ow,rw',hw,gw⟩:=q2y H 393 s (300+7*k) hd (by decide);obtain⟨cs,hc,e2⟩:=q6x c;obtain⟨w2',w6',w',o7',⟨c1,c2⟩,c3,c4⟩:=q6v H s (w3:=.fz d) (.int k) (.int c) o8 o9 o10 (λσ=>uI 399 σ kn kr) kr cs (w2:=.fz (NL N)) (w6:=.fz (enc w)) (w:=w) (h:=5) (g:=55) o7 rfl rfl ⟨ow,rw',hw,gw⟩;have hok:okP okN w':=okP.mono (λx hx=>H.ok x hx) c3.o;have hnb:w'.nb<=63:=by have:=c3.b;exact L6 hc this
 have f:=mS hok c3.r;have hT:TxO (txt w'):=⟨f.p,by have:=f.l;exact L7 hnb this,by rw[f.c0];exact hnb,by rw[f.c1];exact hnb⟩
 have q1:rn 399 "_law_text" [.fz (enc w')]=κ (.str (sS (txt w'))):=wV hok c3.r (aj hT.l (by decide)) (L8 hnb);obtain⟨T,q2,hB⟩:=q6t 398 hT (c.fdiv 3+31*k);obtain⟨due,fnd,q3,q4,q5⟩:=q6w hB;apply θ;refine⟨w2',.fz d,some (.fz (.int k)),some (.fz (.int c)),some (.fz (enc w')),o7',some (.fz (.str (sS T))),some (.fz due),some (.fz fnd),⟨c1,rfl⟩,?_⟩;unfold lS;rw[q03,aT,aJ,q04,h2,h3];rw[show aE (rn 399 "_law_view") [.ok (.fz (Li s)),aB .Add (κ (.int 300)) (ofP (aD .Mult (.int 7) (.int k))),bU (.fz d),bU (.fz (NL N))]=κ (enc w) from by
  rw[show aD .Mult (.int 7) (.int k)=.ok (.fz (.int (7*k))) from jV _ (by decide)];exact e1,aJ,e2,aJ]
 refine Eq.trans c4 ?_;unfold lS;rw[q08,c2];have q2':aE (rn 399 "_law_bent") [aE (rn 399 "_law_text") [bU (V.cl w6')],aB .Add (ofP (aD .FloorDiv (.int c) (.int 3))) (ofP (aD .Mult (.int 31) (.int k)))]=κ (.str (sS T)):=by
  rw[c2,show aE (rn 399 "_law_text") [bU (.fz (enc w'))]=κ (.str (sS (txt w'))) from q1,show aD .FloorDiv (.int c) (.int 3)=.ok (.fz (.int (c.fdiv 3))) from eF _ (by decide),show aD .Mult (.int 31) (.int k)=.ok (.fz (.int (31*k))) from jV _ (by decide)];exact q2
 rw[c2] at q2';rw[q2',aJ];simp only[dG,fP,dB,aT];rw[show aE (rn 399 "_law_due") [κ (.str (sS T))]=κ due from q3,aJ,show aE (rn 399 "_law_told") [κ (.str (sS T))]=κ fnd from q4,aJ];simp only[dG,fP,dB,aT];rw[show bM (aC (κ due) .Is (κ .none)) (κ (.tuple [.str (so "refused"),.str (so "text")])) (κ due)=κ (if bF due=true then kB else due) from by
  show(if bF due=true then R.ok (V.fz kB) else R.ok (V.fz due))=_;cases bF due<;>rfl,show aE (rn 399 "_law_alike") [κ fnd,κ (if bF due=true then kB else due)]=κ (.bool true) from q5,q6y]
 rfl
theorem q60(H:Wld N)(s:List Int)(hd:Tr N 5 d)(kn:KN)(kr:KR):∀ (cs:List Int) (k:Nat) {w2 w3:V} (o4 o5 o6 o7 o8 o9 o10:Option V),w2.cl=.fz (NL N)->w3.cl=.fz d ->
  ∃ w2' w3' p4 p5 p6 p7 p8 p9 p10,a8 (lY 399) lZ (cU k (cs.map .int)) (lS s w2 w3 o4 o5 o6 o7 o8 o9 o10) kn kr=kn (lS s w2' w3' p4 p5 p6 p7 p8 p9 p10):=by
 intro cs
 induction cs with
 |nil=>exact λk {w2 w3} o4 o5 o6 o7 o8 o9 o10 _ _=>⟨w2,w3,o4,o5,o6,o7,o8,o9,o10,rfl⟩
 |cons c cs ih =>
  intro k w2 w3 o4 o5 o6 o7 o8 o9 o10 h2 h3;refine hde λ_ θ=>?_;obtain⟨w2',w3',p4,p5,p6,p7,p8,p9,p10,⟨c2,c3⟩,e⟩:=q6z H s hd h2 h3 k c o4 o5 o6 o7 o8 o9 o10 (λσ=>a8 (lY 399) lZ (cU (k+1) (cs.map .int)) σ kn kr) kr;obtain⟨x2,x3,q4,q5,q6,q7,q8,q9,q10,e'⟩:=ih (k+1) (w2:=w2') (w3:=w3') p4 p5 p6 p7 p8 p9 p10 c2 c3;apply θ;exact⟨x2,x3,q4,q5,q6,q7,q8,q9,q10,Eq.trans e e'⟩
theorem q61(s:List Int):rn 400 "law" [.fz (Li s)]=κ (.bool true):=by
 have H:=q18 (eE s 0);refine hde λ_ θ=>?_;obtain⟨v2,d0,e1,e2,e3⟩:=q2f H 395 s;apply θ;rw[q02,q19 397 s,aJ,iM,fP,show aE (rn 399 "_law_house") [κ (Li s),κ (NL (nms (eE s 0)))]=.ok v2 from e1,aJ,
  show enI (aR (.ok (Li s)) (some (κ (.int 2))) (some (κ (.int 22))))=.ok (cU 0 (slice (s.map PyData.int) (some 2) (some 22))) from rfl,q6u,aJ]
 refine hde λ_ θ=>?_;obtain⟨w2,w3,o4,o5,o6,o7,o8,o9,o10,e⟩:=q60 H s e3 (λσ=>uG 399 σ (λ_=>κ .none) R.ok) R.ok (slice s (some 2) (some 22)) 0 (w2:=.fz (NL (nms (eE s 0)))) (w3:=v2) none none none none none none none rfl e2;apply θ;refine Eq.trans e ?_;unfold lS;rw[q05]
end Mine.Internal
namespace Mine.Internal
open PySem PySem.W PyProof.Rows
set_option maxRecDepth 100000 in
set_option maxHeartbeats 8000000 in
theorem q62:PySem.Challenge.rw_uf010037_13.wellSaid=true:=by
 unfold OpenLaw.wellSaid OpenRow.wellSaid OpenRow.partSaid looksOpen
 with_reducible repeat' (refine look_both ?_ ?_)
 all_goals decide +kernel
end Mine.Internal
end
open PySem PySem.W PyProof.Rows Mine.Internal
set_option tactic.hygienic true in
set_option maxRecDepth 100000 in
set_option maxHeartbeats 8000000 in
theorem PySem.Challenge.cw_uf010037_13_holds : PySem.Challenge.rw_uf010037_13.Holds := by
 refine holds_law Mine.Internal.q62 λsaid=>?_;refine holds_openX (q:=Mine.Internal.V13) (loose:=[]) (Xt:=λs=>(xlAt Mine.Internal.V13 [] s&&recOk (RowW.records PySem.Challenge.rw_uf010037_13.row.toRowW) s)&&Mine.Internal.oE s.heap PySem.Challenge.rw_uf010037_13.row.prog.main.body) (XP:=λmg h=>XL Mine.Internal.V13 [] mg h/\Mine.Internal.jP PySem.Challenge.rw_uf010037_13.row.prog.main.body mg h) (Yf:=Mine.Internal.tkf) (Ya:=λ_=>true) (N:=5086)
  Mine.Internal.Rg (λs e=>⟨xl_of s (ax.mp (ax.mp e).1).1,Mine.Internal.Yi (ax.mp e).2⟩) (λmg h h' x k=>⟨XL.keeps mg h h' x.1 k,x.2.keeps k⟩) (by rfl) (by rfl) (by rfl) (λs e=>recFacts_of (ax.mp (ax.mp e).1).2) (by rfl) said (by decide +kernel) ⟨rfl,rfl,rfl,rfl,rfl,by decide +kernel⟩ ?hw ?hc
 case hw=>w_witness2
 intro w ki ke mg mb G Y fa o pm cd doc dV kV ho hd hcd hD hmg hg args vals as L hpre hlay hrd hwl hlo;have GL:Mine.Internal.Glo PySem.Challenge.rw_uf010037_13.row.prog w mg mb ke.heap:=Mine.Internal.Yp G.T G.X.2 (λf=>by kernel_rfl) (by kernel_rfl) (by kernel_rfl) (by kernel_rfl);replace hmg:mg (Str.ofString "law")=some (.ref fa):=hmg;have ht:0 < ki.toks:=eu Y;clear ho hd hcd hD G Y
 wrow_args hpre hlay hrd hwl hlo
 rename_i ns _ _ _ _ _ _ _ l _ _ _ _ hw _ _ _ hn _;refine Mine.Internal.Yt GL hmg hw (by omega) (bw ht (PySem.W.X.script_toks L rfl)) (by kernel_rfl) (N:=400) (by decide) (Mine.Internal.q61 ns) λs' k=>?_;obtain⟨h',tk,rfl,hk⟩:=k;exact GoodW.toG ⟨.inl ⟨_,.bool true,[],rfl,λ_=>by kernel_rfl,.bool true,by kernel_rfl,λ_=>⟨ec,by simp⟩⟩,hk,rfl,hg⟩
