import PyProof.Rows.All
import Wide.All
import OpenK.AllK
import Wide.FinOn
import PySem.Challenge.RW_uf010037_14
set_option Elab.async false
set_option genSizeOf false
set_option linter.all false
set_option maxRecDepth 100000
namespace Mine.Internal
open PySem
abbrev U:=@PySem.wpAny_bind
abbrev aa:=@Nat.le_trans
abbrev ac:=@PySem.wpAny_pure
abbrev ae:=@List.mem_cons_of_mem
abbrev af:=@PySem.Heap.get?_push_of_some
abbrev ag:=@Nat.add_le_add_right
abbrev ah:=@List.mem_cons_self
abbrev ai:=@Nat.le_succ
abbrev aj:=@Nat.zero_le
abbrev ak:=@Nat.le_add_right
abbrev al:=@Nat.lt_of_le_of_lt
abbrev am:=@Nat.succ_le_succ
abbrev ao:=@PySem.wpAny_holding
abbrev aq:=@PySem.wpAny_mono
abbrev au:=@Nat.add_le_add
abbrev aw:=@List.nodup_cons
abbrev ay:=@Nat.le_refl
abbrev az:=@Nat.add_le_add_left
abbrev ba:=@Nat.add_right_comm
abbrev bb:=@Int.le_trans
abbrev bc:=@Nat.le_of_succ_le_succ
abbrev be:=@List.all_eq_true
abbrev bf:=@Option.map_eq_some_iff
abbrev bg:=@List.getElem?_eq_some_iff
abbrev bh:=@PySem.Heap.lt_size
abbrev bi:=@List.mem_map
abbrev bk:=@Int.ofNat_le
abbrev bl:=@Bool.and_eq_true_iff
abbrev bo:=@PySem.wpAny_loadPart_at
abbrev bp:=@Nat.le_succ_of_le
abbrev bq:=@Nat.le_add_left
abbrev bu:=@Nat.le_max_left
abbrev bv:=@Int.lt_of_lt_of_le
abbrev bw:=@PySem.wpAny_standAt
abbrev bx:=@Nat.ne_of_lt
abbrev bz:=@Nat.le_of_lt
abbrev ca:=@Nat.le_of_eq
abbrev cb:=@Nat.le_max_right
abbrev cc:=@List.mem_of_getElem?
abbrev ce:=@List.pairwise_cons
abbrev cf:=@Nat.mul_le_mul_left
abbrev cg:=@Nat.le_of_add_le_add_right
abbrev ci:=@Int.ofNat_lt
abbrev cj:=@PySem.wpAny_truthy_bool
abbrev ck:=@Int.add_comm
abbrev cm:=@List.nodup_nil
abbrev cn:=@Int.add_nonneg
abbrev co:=@Int.natCast_nonneg
abbrev cq:=@Int.le_of_lt
abbrev cr:=@Int.toNat_lt
abbrev cu:=@Nat.ne_of_gt
abbrev cv:=@Int.not_lt
abbrev cw:=@Int.lt_of_le_of_lt
abbrev cx:=@Nat.lt_of_lt_of_le
abbrev cy:=@PySem.Heap.get?_none_of_le
abbrev cz:=@Nat.add_comm
abbrev de:=@PySem.wpAny_call_entry
abbrev dg:=@List.getElem_mem
abbrev dh:=@List.not_lt
abbrev dj:=@List.map_append
abbrev dm:=@Int.toNat_le
abbrev dw:=@Nat.min_le_right
abbrev dy:=@Nat.lt_succ_self
abbrev dz:=@Int.lt_trans
abbrev eq:=@Bool.false_ne_true
abbrev eu:=@PySem.Heap.get?_push_size
abbrev ew:=@Nat.le_of_ble_eq_true
abbrev fc:=@Nat.lt_succ_of_lt
abbrev fe:=@PySem.Heap.get?_update_other
abbrev fg:=@PySem.wpAny_isSubtype_exc
abbrev fh:=@Nat.succ_pos
abbrev fj:=@Int.le_add_of_nonneg_right
abbrev fk:=@Int.add_le_add_left
abbrev fm:=@List.forall_mem_cons
abbrev fq:=@PySem.wpAny_dictEntries
abbrev ft:=@PySem.wpAny_items_nil
abbrev fu:=@PySem.wpAny_items_cons
abbrev fw:=@PySem.Heap.get?_update_self
abbrev fx:=@PySem.wpAny_newObj_type
abbrev fy:=@List.mem_map_of_mem
abbrev gc:=@PySem.Heap.size_push
abbrev gd:=@PySem.wpAny_execs_nil
abbrev ge:=@List.mem_append_left
abbrev gg:=@List.mem_append_right
abbrev gh:=@Int.fmod_eq_emod_of_nonneg
abbrev gi:=@Nat.le_of_not_lt
abbrev gj:=@Int.self_le_toNat
abbrev gm:=@Int.eq_ofNat_of_zero_le
abbrev gn:=@List.getElem?_eq_none
abbrev gq:=@List.mem_iff_getElem?
abbrev gr:=@List.length_drop
abbrev gt:=@PySem.wpAny_pyIter_list
abbrev gu:=@List.size_toArray
abbrev gv:=@PySem.wpAny_Call_method_lateS
abbrev gz:=@PySem.wpAny_assign_Name
abbrev ic:=@PySem.wpAny_execs_cons
abbrev ie:=@List.filter_eq_nil_iff
abbrev ig:=@List.mem_filterMap
theorem qT{x y:Int}(hx:0≤x)(hy:0≤y)(h:x.toNat=y.toNat):x=y:=by rw[← Int.toNat_of_nonneg hx,h,Int.toNat_of_nonneg hy]
theorem qU{a:Int}{n:Nat}(h:a < n):(1+a).toNat≤n:=dm.mpr (by rw[ck];exact h)
theorem p1{a:Int}(h:0≤a):0≤1+a:=cn (by decide) h
theorem ax0{a b c:Nat}(h:a+16*b+300 < c):a+70 < c:=al (au (ak a (16*b)) (by decide:70≤300)) h
theorem ax1{a b c:Nat}(h:a+(b+1) < c):a+1+b < c:=(ba a 1 b).symm▸h
theorem ax2{a b:Nat}(h:a+70 < b):a < b:=al (ak _ _) h
theorem ax3{a b:Nat}(h:a+70 < b):a+1+24 < b:=al (az (by decide:25≤70) a) h
theorem ax4{a b:Nat}(h:¬a < b):b≤a:=gi h
theorem ax5{a b c:Nat}(h:a=b)(h1:¬c < a):b≤c:=h▸gi h1
theorem ax6:0≤300:=by decide
theorem ax7{a:Nat}(h:a < 63):a / 30+1≤300:=am (aa (Nat.div_le_self _ _) (aa (bz h) (by decide)))
theorem ax8{a:Nat}(h:a≤300):¬a > 300:=Nat.not_lt.mpr h
theorem ax9{a:Nat}(h:a≤1024):a≤16777216:=aa h (by decide)
theorem Fg{a b c:Nat}:a+b+c*b=a+(c*b+b):=by first | lia | omega
theorem Fh{a:Int}(h:a≤1024):a.toNat≤1024:=dm.mpr h
theorem Fi{b:Nat}{a:Int}(h:a.toNat*b≤1024*1024):a.toNat*b≤16777216:=aa h (by decide)
theorem Fj{c:Nat}{a b:Int}(h:0≤a∧a≤1000∧b.natAbs < c):a≤1000000:=bb h.2.1 (by decide)
theorem Fk{a:Int}(h:1≤a):0 < a:=h
theorem Fl{a:Int}(h:1≤a):0≤a:=bb (by decide) h
theorem Fm{a:Int}(h:¬a < 1):1≤a:=cv.mp h
theorem Fn{a:Nat}{b c:Int}(h:(↑a:Int)≤(b - 1) / c):¬(↑a:Int) > (b - 1) / c:=cv.mpr h
theorem Fo{b:Nat}{a:Int}(h:-100≤a∧a≤1024∧b≤1024):a.toNat≤1024:=dm.mpr h.2.1
theorem Fp{a b c:Nat}:min (a - b) (c - b)≤c:=aa (dw _ _) (Nat.sub_le _ _)
theorem wY{a b:Nat}(h:a - b=0)(h1:b≤a):b=a:=Nat.le_antisymm h1 (Nat.le_of_sub_eq_zero h)
theorem wZ{a b c:Nat}(h:a - b=c+1):b < a:=Nat.lt_of_sub_pos (by rw[h];exact fh c)
theorem Fq{a b c:Nat}(h:a≤b):min c a≤b:=aa (dw _ _) h
theorem xA{a b c:Nat}(h:a - b=c+1):a - (b+1)=c:=congrArg Nat.pred h
theorem Fs{a b:Nat}:min a b≤b:=dw _ _
theorem Ft:0 < 4096:=by decide
theorem xB{a:Nat}(h:a < 64):a+1 < 4096:=al h (by decide)
theorem Fu{a:Nat}(h:a≤3):a < 30:=al h (by decide)
theorem xC{b:Nat}{a:Int}:a+1+(↑b:Int)=a+((↑b:Int)+1):=by rw[Int.add_assoc,ck 1]
theorem Fv:-10000≤0:=by decide
theorem Fw{a:Int}(h:a≤4096):a≤10000:=bb h (by decide)
theorem Fx:-10000≤1:=by decide
theorem Fy{a:Int}:-10000≤(↑a.toNat:Int):=bb (by decide) (co _)
theorem Fz{a:Int}(h:a≤4096):(↑a.toNat:Int)≤10000:=bk.mpr (dm.mpr (bb h (by decide)))
theorem F0{a:Int}(h:-10000≤a):-10000≤a+(1 - 1):=by rw[Int.sub_self,Int.add_zero];exact h
theorem F1{a:Int}(h:a≤4096):a+(1 - 1)≤10000:=by rw[Int.sub_self,Int.add_zero];exact bb h (by decide)
theorem F2{a:Int}(h:a≤4096):a.toNat≤16777216:=dm.mpr (bb h (by decide))
theorem F3{a:Int}(h:-4096≤a∧a≤4096):-10000≤a:=bb (by decide) h.1
theorem xD{a b c:Nat}(h:a+b=c)(h1:¬a=c):a < c:=Nat.lt_of_le_of_ne (h▸ak a b) h1
theorem qV{a b c:Nat}(h:a+b=c)(h1:¬a=c):b - 1 < b:=by
 cases b with
 |zero=>exact absurd h h1
 |succ b=>exact dy b
theorem qW{a b c:Nat}(h:a+b=c)(h1:¬a=c):a+1+(b - 1)=c:=by
 cases b with
 |zero=>exact absurd h h1
 |succ b=>exact(ba a 1 b).trans h
theorem F4{a b:Nat}(h:a≤b):a≤b+1:=bp h
theorem F5{a b c d e f:Nat}(h:a≤b)(h1:c+d=a)(h2:e≤c)(h3:f=e):f≤b:=by rw[h3];exact aa h2 (aa (aa (ak c d) (ca h1)) h)
theorem F6{a b:Nat}(h:a≤b):a≤b:=h
theorem F7{a b c d e:Nat}(h:a+b < 4096)(h1:c=a)(h2:d=b)(h3:e=16777216):c+d≤e:=by rw[h1,h2,h3];exact aa (bz h) (by decide)
theorem F8{a b:Nat}(h:(↑a:Int) < (↑b:Int)):a < b:=ci.mp h
theorem F9{a b c d e:Nat}(h:a < b)(h1:c=a)(h2:d≤c+1)(h3:b=e):d≤e:=by rw[← h3];exact aa h2 (by rw[h1];exact h)
theorem Ga{b c:Nat}{a:Int}(h:0≤a∧a < (↑b:Int))(h1:c=b):a < (↑c:Int):=by rw[h1];exact h.2
theorem Gb{a:Nat}(h:a < 100):a+1≤16777216+1:=am (aa (bz h) (by decide))
theorem Gc{a b c:Nat}(h:a=b)(h1:c < a):c < b:=h▸h1
theorem Gd{a b:Nat}(h:a+(b+1) < 100):a < 100:=al (ak _ _) h
theorem Ge{a b:Nat}(h:a+(b+1) < 100):a+1+b < 100:=(ba a 1 b).symm▸h
theorem Gf{a:Nat}(h:a < 50):a < 100:=Nat.lt_trans h (by decide)
theorem Gg{a b c:Nat}(h:a=b)(h1:a < 50)(h2:c=16777216):b≤c:=by rw[← h,h2];exact aa (bz h1) (by decide)
theorem Gh{a b:Nat}(h:a=1)(h1:b=16777216):a≤b:=by rw[h,h1];decide
theorem Gi{a:Nat}(h:1 < a):0 < a:=Nat.lt_trans Nat.zero_lt_one h
theorem Gj{a b c:Nat}(h:a+b+1 < c):a+1 < c:=al (am (ak _ _)) h
theorem Gk{a b c:Nat}(h:a+(b+1)+1 < c):a+1+b+1 < c:=by rw[ba a 1 b];exact h
theorem Gl{a b c:Nat}(h:a+16*(b+1)+300 < c):a+3+16*b+300 < c:=by rw[ba a 3];exact al (by rw[Nat.mul_succ,← Nat.add_assoc];exact ag (az (by decide) _) 300) h
theorem Gm{a b c:Nat}(h:a+(b+1)+1 < c):a < c:=al (aa (ak _ _) (ak _ _)) h
theorem Gn{a b c:Nat}(h:a≤63)(h1:b=a)(h2:c=16777216):b≤c:=by rw[h1,h2];exact aa h (by decide)
theorem Go{a b c:Nat}(h:a≤400)(h1:b+400+1 < c):b+a+1 < c:=al (am (az h b)) h1
theorem Gp{a b c:Nat}(h:a≤400)(h1:b+16*400+300 < c):b+16*a+300 < c:=al (ag (az (cf 16 h) b) 300) h1
theorem Gq{a b:Nat}(h:a≤b - 1)(h1:0 < b):a+1≤b:=aa (am h) (ca (Nat.sub_add_cancel h1))
theorem xE{a:Nat}(h:1≤a):1≤(↑a:Int):=bk.mpr h
theorem Gr{a:Nat}(h:a≤8):(↑a:Int)≤8:=bk.mpr h
theorem Gs{a b:Nat}(h:a+1+1≤b+1):a+1≤b:=bc h
theorem Gu{a:Nat}(h:a≤6):(↑a:Int)≤6:=bk.mpr h
theorem qX{a:Nat}(h:a≤6):a < 64:=al h (by decide)
theorem Gv{a b:Nat}(h:1≤a)(h1:b=a):1≤b:=h1▸h
theorem Gw{a b:Nat}(h:a≤6)(h1:b=a):b≤6:=h1▸h
theorem Gx{a b:Nat}(h:a≤6)(h1:b=a):b < 64:=h1▸al h (by decide)
theorem Gy{a b c:Nat}(h:a=b)(h1:c=b):a=c:=h.trans h1.symm
theorem qY{a b c:Nat}(h:a≤b)(h1:c≤b)(h2:b≤15):a+c < 4096:=al (au (aa h h2) (aa h1 h2)) (by decide)
theorem Gz{a b c:Nat}(h:3*a+b+6≤c+3):2*a+4≤c+2:=bc (show 2*a+5≤c+3 from aa (au (aa (Nat.mul_le_mul_right a (by decide:2≤3)) (ak _ b)) (by decide:5≤6)) h)
theorem G0{a b c:Nat}(h:3*a+b+6≤c+3):3*a+3≤c+1:=cg (b:=2) (show 3*a+5≤c+3 from aa (au (ak (3*a) b) (by decide:5≤6)) h)
theorem G1{a b c:Nat}(h:3*a+b+6≤c+3):b+1≤c:=cg (b:=3) (show b+4≤c+3 from aa (au (bq b (3*a)) (by decide:4≤6)) h)
theorem G2{a b c:Nat}(h:3*a+b+6≤c+3):b≤c+1:=cg (aa (au (bq b _) (by decide:2≤6)) h)
theorem G3{a b:Nat}(h:a < 1000)(h1:b=16777216):a+1≤b:=by rw[h1];exact aa h (by decide)
theorem xF{a b c d:Nat}(h:2*(a+1)+(b+1)+c+8≤d+4):2*a+b+c+8≤d+2:=by
 have e:2*(a+1)+(b+1)+c+8=2*a+b+c+11:=by rw[Nat.mul_succ,Nat.add_add_add_comm,ba (2*a+b) (2+1)]
 rw[e] at h;exact cg (b:=2) (aa (az (by decide:10≤11) _) h)
theorem G4{a b:Nat}(h:a+(b+1)≤900):a+1+b≤900:=(ba a 1 b).symm▸h
theorem G5{a b c d e f:Nat}(h:2*(max a b+1)+c+(d+e)+8≤f+1):2*a+4≤f:=bc (aa (au (aa (aa (cf 2 (bp (bu a b))) (ak _ _)) (ak _ _)) (by decide:5≤8)) h)
theorem G6{a b c d e f:Nat}(h:2*(max a b+1)+c+(d+e)+8≤f+1):2*b+c+e+8≤f:=by
 have e:2*(max a b+1)+c+(d+e)+8=2*max a b+c+(d+e)+10:=by rw[Nat.mul_succ,ba (2*max a b) 2 c,ba _ 2 (d+e)]
 rw[e] at h;exact bc (aa (au (au (ag (cf 2 (cb a b)) c) (bq _ d)) (by decide:9≤10)) h)
theorem G7{a b c:Nat}(h:a+(max b c+1)≤900):a+1+c≤900:=aa (by rw[ba];exact am (az (cb b c) a)) h
theorem G8{a b c:Nat}:a+b≤a+(c+b):=az (bq _ _) _
theorem G9{a b c d e f:Nat}(h:2*(max a b+1)+c+(d+e)+8≤f+1):2*a+(c+e)+d+8≤f:=by
 have e:2*(max a b+1)+c+(d+e)+8=2*max a b+(c+e)+d+10:=by rw[Nat.mul_succ,ba (2*max a b) 2 c,ba _ 2 (d+e),cz d e,← Nat.add_assoc,Nat.add_assoc (2*max a b) c e]
 rw[e] at h;exact bc (aa (au (ag (ag (cf 2 (bu a b)) _) d) (by decide:9≤10)) h)
theorem Ha{a b c:Nat}(h:a+(max b c+1)≤900):a+1+b≤900:=aa (by rw[ba];exact am (az (bu b c) a)) h
theorem Hb{a b:Nat}(h:a+(b+1)≤900):a+b+1≤900:=h
theorem Hc{a b:Nat}:a≤a+b:=ak _ _
theorem He{a b c d e f:Nat}(h:2*max a b+c+max d e+8≤f):2*a+c+d+8≤f:=aa (ag (au (ag (cf 2 (bu a b)) c) (bu d e)) 8) h
theorem Hf{a b c:Nat}(h:a+max b c+1≤900):a+1+b≤900:=aa (by rw[ba];exact ag (az (bu b c) a) 1) h
theorem xG{a b c d:Nat}(h:a+max b c≤d):a+b≤d:=aa (az (bu b c) a) h
theorem Hg{a b c d e f:Nat}(h:2*max a b+c+max d e+8≤f):2*b+c+e+8≤f:=aa (ag (au (ag (cf 2 (cb a b)) c) (cb d e)) 8) h
theorem Hh{a b c:Nat}(h:a+max b c+1≤900):a+c+1≤900:=aa (ag (az (cb b c) a) 1) h
theorem Hi{a b c d:Nat}(h:a+max b c≤d):a+c≤d:=aa (az (cb b c) a) h
theorem Hj{a b c d:Nat}(h:3*a+b+c+10≤d+3):2*a+4≤d+2:=bc (show 2*a+5≤d+3 from aa (au (aa (Nat.mul_le_mul_right a (by decide:2≤3)) (aa (ak _ b) (ak _ c))) (by decide:5≤10)) h)
theorem Hk{a b c d:Nat}(h:3*a+b+c+10≤d+3):2*a+b+c+8≤d+2:=bc (show 2*a+b+c+9≤d+3 from aa (au (ag (ag (Nat.mul_le_mul_right a (by decide:2≤3)) b) c) (by decide:9≤10)) h)
theorem Hl{a b c d:Nat}(h:3*a+b+c+10≤d+3):3*a+3≤d+1:=cg (b:=2) (show 3*a+5≤d+3 from aa (au (aa (ak (3*a) b) (ak _ c)) (by decide:5≤10)) h)
theorem xH{a b c d:Nat}(h:3*a+b+c+10≤d+3):b+1≤d:=cg (b:=3) (show b+4≤d+3 from aa (au (aa (bq b (3*a)) (ak _ c)) (by decide:4≤10)) h)
theorem Hm{a b c d:Nat}(h:3*a+b+c+10≤d+3):b+c≤d+1:=cg (aa (au (ag (bq b _) c) (by decide:2≤10)) h)
theorem Hn{a b c d:Nat}(h:a≤b)(h1:c≤b)(h2:b≤15)(h3:d=16777216):a+c≤d:=by rw[h3];exact aa (au (aa h h2) (aa h1 h2)) (by decide)
theorem Ho{a b c:Nat}(h:a+b+3≤c+2):b≤c:=cg (aa (au (bq b a) (by decide:2≤3)) h)
theorem mX{a b c:Nat}(h:a+(b+1)+3≤c+2):b≤c:=cg (aa (au (aa (ai b) (bq _ a)) (by decide:2≤3)) h)
theorem Hp{a b c:Nat}(h:a≤b)(h1:b < 1000)(h2:c=16777216):a+1≤c:=by rw[h2];exact aa (Nat.succ_le_of_lt (al h h1)) (by decide)
theorem Hq{a b:Nat}(h:a≤b)(h1:b < 1000):a+1 < 4096:=al (Nat.succ_le_of_lt (al h h1)) (by decide)
theorem Hr{a b c:Nat}(h:a+(b+1)+3≤c+3):b≤c:=cg (aa (ag (aa (ai b) (bq _ a)) 3) h)
theorem xI{a b c:Nat}(h:a+1+(b+1)+3≤c+2):a+b+3≤c+1:=bc (show a+b+4≤c+2 from aa (by rw[ba a 1 (b+1)];exact az (by decide:4≤5) (a+b)) h)
theorem Hs{a b c d:Nat}(h:max a b+1+c+3≤d+1):a+c+3≤d:=bc (aa (ag (ag (bu a b) c) 4) ((ba (max a b) 1 c)▸h:max a b+c+1+3≤d+1))
theorem Ht{a b c d:Nat}(h:max a b+1+c+3≤d+1):b+c+3≤d:=bc (aa (ag (ag (cb a b) c) 4) ((ba (max a b) 1 c)▸h:max a b+c+1+3≤d+1))
theorem Hu{a b c d:Nat}(h:max a b+c+3≤d):b+c+3≤d:=aa (ag (ag (cb a b) c) 3) h
theorem Hv{a b c d:Nat}(h:max a b+c+3≤d):a+c+3≤d:=aa (ag (ag (bu a b) c) 3) h
theorem qZ{a:Int}(h:0 < a):0≤a:=cq h
theorem Hw{a:Int}(h:0 < a):a≠0:=fun e=>Int.lt_irrefl 0 (e▸h)
theorem Hx{b:Nat}{a:Int}(h:a.toNat < b):a < (↑b:Int):=cw (gj a) (ci.mpr h)
theorem Hy{b:Nat}{a:Int}(h:0≤a)(h1:a < (↑b:Int)):a.toNat < b:=(cr h).mpr h1
theorem Hz{a:Int}(h:0≤a):0≤2+a:=cn (by decide) h
theorem mY{a:Int}(h:0≤a∧a < 2):a=0∨a=1:=by first | lia | omega
theorem H0{a b:Nat}:a+1+b=a+(b+1):=ba a 1 b
theorem H1{a:Nat}(h:a≤1000):a≤16777216:=aa h (by decide)
theorem H3{a:Int}(h:0≤a∧a < 26):a < (↑26:Int):=h.2
theorem mZ{a:Int}(h:0≤a∧a < 26):a.toNat < 26:=(cr h.1).mpr h.2
theorem H4{a b:Int}(h:0≤a∧a < 26)(h1:0≤b∧b < 26)(h2:a.toNat=b.toNat):a=b:=qT h.1 h1.1 h2
theorem H5{a:Int}(h:0≤a∧a < 8):0 < 1+a:=bv Int.zero_lt_one (fj h.1)
theorem xJ{a:Int}(h:0≤a∧a < 8):0≤1+a:=cn (by decide) h.1
theorem xK{a:Int}:min (1+a).toNat 8≤1000:=aa (dw _ _) (by decide)
theorem H6{a:Int}(h:0≤a∧a < 8):1+a≠0:=fun e=>absurd (fj h.1:(1:Int)≤1+a) (by rw[e];decide)
theorem H7{a b:Int}(h:0≤a∧a < 8)(h1:0≤b∧b < 1+a):0≤b∧b < 8:=⟨h1.1,bv h1.2 (by rw[ck];exact h.2)⟩
theorem H8{a b c:Int}(h:0≤a∧a < 26)(h1:0≤b∧b < 26)(h2:(c+a) % 26=(c+b) % 26):a=b:=by
 have:=Int.emod_add_cancel_left.mp h2
 rwa [Int.emod_eq_of_lt h.1 h.2,Int.emod_eq_of_lt h1.1 h1.2] at this
theorem H9{a:Int}(h:0≤a∧a < 14):0≤a / 8∧a / 8 < 26:=⟨Int.ediv_nonneg h.1 (by decide),cw (Int.ediv_le_self 8 h.1) (dz h.2 (by decide))⟩
theorem Ia{a b:Int}(h:0≤a∧a < 8)(h1:0≤b∧b < 8)(h2:min (1+a).toNat 8=min (1+b).toNat 8):a=b:=by
 rw[Nat.min_eq_left (qU h.2),Nat.min_eq_left (qU h1.2)] at h2;exact Int.add_left_cancel (qT (p1 h.1) (p1 h1.1) h2)
theorem Ib{a:Int}(h:0≤a∧a < 8):0 < (1+a).toNat:=(Int.lt_toNat).mpr (bv Int.zero_lt_one (fj h.1))
theorem Ic{a b:Int}(h:0≤a∧a < 8)(h1:0≤b∧b < 1+a):b.toNat < 8∧b.toNat < (1+a).toNat:=⟨(cr h1.1).mpr (bv h1.2 (by rw[ck];exact h.2)),(cr h1.1).mpr (bv h1.2 (gj _))⟩
theorem Id{a:Int}(h:0≤a∧a < 14):a.toNat < 14:=(cr h.1).mpr h.2
theorem xL{a:Int}(h:0≤a∧a < 4):0≤9+a∧9+a < 14:=⟨cn (by decide) h.1,bv (Int.add_lt_add_left h.2 9) (by decide)⟩
theorem Ie{a:Int}(h:0≤a∧a < 3):a=0∨a=1∨a=2:=by first | lia | omega
theorem xM{a:Nat}(h:a < 5):a=0∨a=1∨a=2∨a=3∨a=4:=(by decide:∀ a < 5,a=0∨a=1∨a=2∨a=3∨a=4) a h
theorem Ig{a:Nat}(h:a < 5):0≤(↑a:Int)∧(↑a:Int) < 14:=⟨co a,dz (ci.mpr h) (by decide)⟩
theorem xN{a b:Nat}(h:a+1≤b):a≤b:=Nat.le_of_succ_le h
theorem q7{a:Nat}(h:0 < a):0 < (↑a:Int):=ci.mpr h
theorem Ih{b:Nat}{a:Int}(h:0≤a∧a < (↑b:Int)):a.toNat < b:=(cr h.1).mpr h.2
theorem xO{a:Nat}(h:0 < a):(↑a:Int)≠0:=fun e=>cu h (Int.ofNat.inj e)
theorem xP{a:Int}(h:0≤a∧a < 4):0≤5+a∧5+a < 14:=⟨cn (by decide) h.1,bv (Int.add_lt_add_left h.2 5) (by decide)⟩
theorem Ii{c:Nat}{a b:Int}(h:0≤a)(h1:a < b)(h2:c=b.toNat - a.toNat):1≤c:=by rw[h2];exact Nat.sub_pos_of_lt ((cr h).mpr (bv h1 (gj b)))
theorem Ij{c:Nat}{a b:Int}(h:a≤b+6)(h1:c=a.toNat - b.toNat):c≤6:=by
 rw[h1];exact Nat.sub_le_of_le_add (dm.mpr (bb h (by rw[Int.natCast_add,ck];exact fk (gj b) 6)))
theorem Ik{a b c:Nat}(h:a≤0)(h1:b+1+4≤c+2):a+(b+1)+3≤c+2:=aa (ag (ag h (b+1)) 3) (by rw[Nat.zero_add];exact aa (ai _) h1)
theorem Il{a b:Nat}(h:a≤0)(h1:b≤0):max a b+1≤1:=am (Nat.max_le.mpr ⟨h,h1⟩)
theorem Im{a b:Nat}(h:a≤1)(h1:b≤1):a+b≤2:=au h h1
theorem Io{a:Nat}(h:a≤0):a≤1:=bp h
theorem xQ{a:Nat}(h:a≤1):a≤2:=bp h
theorem Ip{a b c:Nat}(h:a+1+4≤b+2)(h1:c≤1):c+(a+1)+3≤b+2:=aa (ag (ag h1 (a+1)) 3) (by rw[cz 1];exact aa (ay _) h)
theorem Iq{a:Nat}(h:a≤0):a+1≤1:=am h
theorem Ir{a:Nat}(h:a≤0):max a 0+1≤1:=by rw[Nat.max_eq_left (aj a)];exact am h
theorem It{a:Nat}(h:a≤1):max a 0≤2:=by rw[Nat.max_eq_left (aj a)];exact bp h
theorem xR{b:Nat}{a:Int}:a+1+(↑b:Int)=a+(↑(b+1):Int):=by rw[Int.natCast_add,Int.add_assoc,Int.natCast_one,ck 1]
theorem Iu{b:Nat}{a c:Int}(h:a=(↑b:Int))(h1:0≤c∧c < a):c.toNat < b:=(cr h1.1).mpr (h▸h1.2)
theorem Iv{b c:Nat}{a:Int}:a+(↑b:Int) - (a+(↑c:Int))=(↑b:Int) - (↑c:Int):=by first | lia | omega
theorem Iw{a b:Nat}(h:a < b):0≤(↑b:Int) - (↑a:Int):=Int.sub_nonneg.mpr (bk.mpr (bz h))
theorem Ix{a c:Nat}{b:Int}(h:(↑a:Int) < b):(↑a:Int) - (↑c:Int) < b:=cw (Int.sub_le_self _ (co c)) h
theorem Iy{a c:Nat}{b:Int}(h:(↑a:Int)≤b)(h1:c < a):(↑c:Int) < b:=bv (ci.mpr h1) h
theorem Iz{a b c:Int}(h:a.toNat=b.toNat)(h1:0≤a∧a < c)(h2:0≤b∧b < c):a=b:=qT h1.1 h2.1 h
theorem xS{a b:Nat}(h:a - b > 0):1≤a - b:=h
theorem xT{a b:Nat}(h:¬a < b)(h1:a - b=0):a=b:=Nat.le_antisymm (Nat.le_of_sub_eq_zero h1) (gi h)
theorem I0{a b c:Nat}(h:a≤6)(h1:b < a)(h2:c=16777216):b < c:=by rw[h2];exact cx h1 (aa h (by decide))
theorem I5{a b:Nat}(h:a≤6)(h1:b=a):(↑b:Int)≤14:=h1▸bb (bk.mpr h) (by decide)
theorem I6{a b c:Nat}(h:a≤b)(h1:c=a):(↑c:Int)≤(↑b:Int):=h1▸bk.mpr h
theorem I7{a b:Nat}(h:a+1+4≤b):a+4≤b:=aa (ai _) (aa (ca (ba a 4 1)) h)
theorem I8{a:Int}(h:0≤a∧a < 2):0≤2+a∧2+a < 14:=⟨cn (by decide) h.1,dz (Int.add_lt_add_left h.2 2) (by decide)⟩
theorem I9{a:Int}(h:0≤a∧a < 2):0≤3 - a∧3 - a < 14:=⟨Int.sub_nonneg.mpr (bb (cq h.2) (by decide)),cw (Int.sub_le_self 3 h.1) (by decide)⟩
theorem Ja{a:Int}(h:0≤a∧a < 2):(2+a).toNat≠(3 - a).toNat:=by rcases mY h with rfl | rfl<;>decide
theorem Jb{a:Int}(h:0≤a∧a < 4):0≤4+a:=cn (by decide) h.1
theorem Jc{a b:Int}(h:0≤a∧a < 6):4+b < 4+b+1+a:=Int.lt_add_of_pos_right _ (bv Int.zero_lt_one (fj h.1)) |> fun z=>by rw[Int.add_assoc (4+b)];exact z
theorem Jd{a b:Int}(h:0≤a∧a < 6):4+b+1+a≤4+b+6:=by rw[Int.add_assoc (4+b),ck 1 a];exact fk h.2 _
theorem Je{a b:Int}(h:0≤a∧a < 4)(h1:0≤b∧b < 6):4+a+1+b≤14:=by
 have e1:a≤3:=Int.le_of_lt_add_one h.2;have e2:b≤5:=Int.le_of_lt_add_one h1.2;exact bb (Int.add_le_add (Int.add_le_add_right (fk e1 4) 1) e2) (by decide)
theorem Jf{a:Int}(h:0≤a∧a < 2):0≤5+2*a:=cn (by decide) (Int.mul_nonneg (by decide) h.1)
theorem Jg{a:Int}:5+2*a < 5+2*a+2:=by first | lia | omega
theorem Jh{a:Int}:5+2*a+2≤5+2*a+6:=by first | lia | omega
theorem Ji{a:Int}(h:0≤a∧a < 2):5+2*a+2≤14:=bb (Int.add_le_add_right (fk (Int.mul_le_mul_of_nonneg_left (cq h.2) (by decide)) 5) 2) (by decide)
theorem Jj{a b:Nat}(h:a+1+4≤b):a+4≤b+1:=aa (ai _) (bp (aa (ca (ba a 4 1)) h))
theorem Jk{a b c:Nat}(h:a+4≤b)(h1:c≤2):c+a+3≤b+3:=aa (ag (ag h1 a) 3) (by rw[cz 2 a];exact ag (aa (az (by decide:2≤4) a) h) 3)
theorem Jl{a b:Nat}:a.succ+b≤a+(b+1):=ca (Nat.succ_add a b)
theorem Jm{a b:Nat}:a+2+2*b≤a+2*(b+1):=by first | lia | omega
theorem Jn{a:Nat}:2+a+1≤2+(a+1):=ay _
theorem Jo{a:Nat}:2+(2+2*a)≤2+2*(a+1):=by first | lia | omega
theorem Jp{a:Nat}:-(↑(a+1):Int)≤-1:=Int.neg_le_neg (bk.mpr (fh a))
theorem Jq{a:Nat}:(-1+(↑(a+1):Int)).toNat=a:=by rw[Int.natCast_add,ck,Int.natCast_one,Int.add_neg_cancel_right,Int.toNat_natCast]
theorem Jr{a:Nat}:1≤(↑(a+1):Int):=bk.mpr (fh a)
theorem Js{a:Nat}:(max 0 (min (-1+((↑a:Int)+1)) ((↑a:Int)+1))).toNat=a:=by rw[(ck _ _).trans (Int.add_neg_cancel_right (↑a:Int) 1),Int.min_eq_left (Int.le_add_one (Int.le_refl _)),Int.max_eq_right (co a),Int.toNat_natCast]
theorem Jt{a:Int}(h:0≤a∧a < 4):1≤(1+a).toNat:=(Int.lt_toNat).mpr (bv Int.zero_lt_one (fj h.1))
theorem Ju{a:Int}(h:0≤a∧a < 4):(1+a).toNat≤4:=qU h.2
theorem Jv{a:Int}(h:0≤a∧a < 4):-4096≤1+a∧1+a≤4096:=⟨bb (by decide) (cn (by decide:(0:Int)≤1) h.1),bb (fk (cq h.2) 1) (by decide)⟩
theorem Jw{a b c d:Nat}(h:a+4≤b)(h1:c≤2∧d≤2):c+a+3≤b+4:=aa (ag (ag h1.1 a) 3) (by rw[cz 2 a];exact ag (aa (az (by decide:1≤4) a) h) 4)
theorem Jx{a b c:Nat}(h:a≤4)(h1:b < a)(h2:c=16777216):b < c:=by rw[h2];exact cx h1 (aa h (by decide))
theorem Jy{a b:Nat}(h:a≤4)(h1:b+1=a):b≤3:=by rw[← h1] at h;exact bc h
theorem Jz{a b:Nat}(h:a≤3)(h1:a+1=b+1):b≤3:=Nat.succ.inj h1▸h
theorem xU{a:Nat}(h:a≤3):2+a≤5:=az h 2
theorem xV{a:Nat}(h:a≤3):2+2*a≤8:=az (cf 2 h) 2
theorem J0{a b:Nat}(h:a+3≤b+2):a≤b+1:=aa (ai a) (aa (bc (bc h)) (ai b))
theorem m9{a:Nat}:0+1≤a+1:=am (aj a)
theorem J1{a b:Nat}(h:a+1+3≤b+2):a≤b:=cg (b:=2) (aa (az (by decide:2≤4) a) h)
theorem J2{a b:Nat}(h:a+1+3≤b+2):a+3≤b+1:=bc (aa (ay _) h)
theorem J3{a b:Nat}(h:a < b)(h1:b≤12):a < 12:=cx h h1
theorem nbs{x k n:Int}{b:Nat}(h:0≤x∧x < n)(e:k.natAbs+n.natAbs≤b):(x - k).natAbs < b:=by
 have e1:x.natAbs < n.natAbs:=(Int.natAbs_lt_natAbs_of_nonneg_of_lt h.1 h.2)
 exact cx (al (Int.natAbs_sub_le x k) (Nat.add_lt_add_right e1 _)) (aa (ca (cz _ _)) e)
theorem nb0{x n:Int}{b:Nat}(h:0≤x∧x < n)(e:n.natAbs≤b):x.natAbs < b:=cx (Int.natAbs_lt_natAbs_of_nonneg_of_lt h.1 h.2) e
theorem nbt{i r n:Int}{b b':Nat}(hi:i.natAbs < b)(hr:0≤r∧r < n)(e:b+n.natAbs+1≤b'):(i+r - 1).natAbs < b':=by
 have e1:r.natAbs < n.natAbs:=nb0 hr (ay _);exact cx (al (Int.natAbs_sub_le _ 1) (Nat.add_lt_add_right (al (Int.natAbs_add_le i r) (Nat.add_lt_add hi e1)) 1)) e
inductive KMin(r:Int)(n:Nat):Prop where
 |mk (k:Nat) (e:(if 1+r < (n:Int) then 1+r else (n:Int))=(k:Int)) (h1:1≤k) (h6:k≤6) (hn:k≤n):KMin r n
theorem J4{r:Int}{n:Nat}(hr:0≤r∧r < 6)(hn:0 < n):KMin r n:=by
 obtain⟨j,rfl⟩:=gm hr.1;have hj:j < 6:=ci.mp hr.2;have h6:1+j≤6:=by rw[cz];exact hj
 by_cases h:1+j < n
 ·exact⟨1+j,if_pos (ci.mpr h),ak 1 j,h6,bz h⟩
 ·have h:=gi h;exact⟨n,if_neg fun g=>Nat.not_lt.mpr h (ci.mp g),hn,aa h h6,ay n⟩
theorem xW{r:Int}(h:0≤r):1≤(1+r).toNat:=by
 obtain⟨j,rfl⟩:=gm h;exact ak 1 j
theorem hgb{h g H G a b c:Nat}(hh:h≤H)(hg:g≤G)(e:3*H+a+G+c≤b):3*h+a+g+c≤b:=aa (ag (au (ag (cf 3 hh) a) hg) c) e
theorem hgc{h g H G a b c:Nat}(hh:h≤H)(hg:g≤G)(e:3*H+(a+G)+c≤b):3*h+(a+g)+c≤b:=aa (ag (au (cf 3 hh) (az hg a)) c) e
theorem mx0{h H:Nat}(hh:h≤H):max h 0≤H:=Nat.max_le.mpr ⟨hh,aj _⟩
inductive P(α:Type) where
 |no
 |ok (a:α)
theorem bft{p:Prop}(h:false=true):p:=Bool.noConfusion h
theorem btf{p:Prop}(h:true=false):p:=Bool.noConfusion h
theorem ns{α:Type}{a:α}{p:Prop}(h:none=some a):p:=nomatch h
theorem sn{α:Type}{a:α}{p:Prop}(h:some a=none):p:=nomatch h
theorem si{α:Type}{a b:α}(h:some a=some b):a=b:=Option.some.inj h
theorem pno{α:Type}{a:α}{p:Prop}(h:P.no=.ok a):p:=nomatch h
theorem pi{α:Type}{a b:α}(h:P.ok a=.ok b):a=b:=P.ok.inj h
theorem b5{α:Type}{a:α}{p:Prop}(h:a∈([]:List α)):p:=nomatch h
theorem hde{p:Prop}(h:∀ q:Prop,(p→q)→q):p:=h p fun x=>x
theorem ocs{α:Type}{p:Prop}(o:Option α)(h:o=none→p)(g:∀ x,o=some x→p):p:=by cases o with | none=>exact h rfl | some x=>exact g x rfl
theorem bcs{p:Prop}(b:Bool)(h:b=false→p)(g:b=true→p):p:=by cases b with | false=>exact h rfl | true=>exact g rfl
theorem pcs{α:Type}{p:Prop}(o:P α)(h:o=.no→p)(g:∀ x,o=.ok x→p):p:=by cases o with | no=>exact h rfl | ok x=>exact g x rfl
noncomputable def P.bind{α β:Type}(x:P α)(f:α→P β):P β :=
 match x with
 | .no=>.no
 | .ok a=>f a
structure X where
 cls:Str
 fields:List (Str×PyData)
inductive V where
 |fz (d:PyData)
 |own (d:PyData)
 |ex (x:X)
 |pil (l:List PyData)
noncomputable def hX:V→Bool
 | .own _=>true
 | .pil _=>true
 |_=>false
abbrev aA:=List (Str×Option V)
noncomputable def aA.get:aA→Str→Option (Option V)
 | [],_=>none
 | (y,v)::r,x=>if x=y then some v else aA.get r x
noncomputable def aA.set:aA→Str→V→aA
 | [],_,_=>[]
 | (y,v)::r,x,u=>if x=y then (y,some u)::r else (y,v)::aA.set r x u
noncomputable def V.cl:V→V
 | .own d=>.fz d
 | .pil l=>.fz (.list l)
 |v=>v
noncomputable def aA.cl:aA→List Str→aA
 | [],_=>[]
 | (y,v)::r,xs=>(y,if xs.contains y then v.map V.cl else v)::aA.cl r xs
noncomputable def dOf:V→PyData
 | .fz d=>d
 | .own d=>d
 | .ex _=>.none
 | .pil l=>.list l
inductive R(α:Type) where
 |no
 |ok (a:α)
 |exc (x:X)
noncomputable def rb{α β:Type}(r:R α)(k:α→R β):R β :=
 match r with
 | .no=>.no
 | .ok a=>k a
 | .exc x=>.exc x
noncomputable def ofP{α:Type}:P α→R α
 | .no=>.no
 | .ok a=>.ok a
noncomputable def nx{α:Type}:R α→R α
 | .ok a=>.ok a
 |_=>.no
noncomputable def ofO{α:Type}:Option α→P α
 |some a=>.ok a
 |none=>.no
noncomputable def J5:PyData→P Bool
 | .bool b=>.ok b
 |_=>.no
noncomputable def c8:V→P Bool
 | .fz d=>J5 d
 |_=>.no
noncomputable def bA:Nat:=16777216
noncomputable def mkS(s:Str):P V:=if s.length≤bA then .ok (.fz (.str s)) else .no
noncomputable def j8(x:Str)(n:Int):Str :=
 if n < 1 then Str.empty else if (n==1||x.length==0)=true then x else ⟨(List.replicate n.toNat x.cps).foldl (·++·) #[]⟩
noncomputable def xX(op:Operator)(x y:Int):P V :=
 match op with
 | .Add=>.ok (.fz (.int (x+y)))
 | .Sub=>.ok (.fz (.int (x - y)))
 | .Mult=>if x.natAbs < 2 ^ 63∨y.natAbs < 2 ^ 63 then .ok (.fz (.int (x*y))) else .no
 | .FloorDiv=>if y≠0∧y.natAbs < 2 ^ 63 then .ok (.fz (.int (x.fdiv y))) else .no
 | .Mod=>if y≠0 then .ok (.fz (.int (x.fmod y))) else .no
 | .Pow=>if 0≤y∧y≤1000∧x.natAbs < 2 ^ 63 then .ok (.fz (.int (x ^ y.toNat))) else .no
 |_=>.no
noncomputable def iV:Operator→Bool
 | .Add=>true
 |_=>false
noncomputable def xY:Operator→Bool
 | .Mult=>true
 |_=>false
noncomputable def J6(op:Operator)(x:Int):PyData→P V
 | .int y=>xX op x y
 |_=>.no
noncomputable def J8(op:Operator)(x:Str):PyData→P V
 | .str y=>if iV op=true∧x.length+y.length≤bA then .ok (.fz (.str (x++y))) else .no
 | .int y=>if xY op=true∧-100≤y∧y≤1024∧x.length≤1024 then .ok (.fz (.str (j8 x y))) else .no
 |_=>.no
noncomputable def eE(op:Operator)(x:List PyData):PyData→P V
 | .list y=>if iV op=true∧x.length+y.length≤bA then .ok (.own (.list (x++y))) else .no
 |_=>.no
noncomputable def aF(op:Operator)(a b:PyData):P V :=
 match a with
 | .int x=>J6 op x b
 | .str x=>J8 op x b
 | .list x=>eE op x b
 |_=>.no
noncomputable def eqI(x:Int):PyData→P Bool
 | .int y=>.ok (x==y)
 |_=>.no
noncomputable def eqS(x:Str):PyData→P Bool
 | .str y=>.ok (x==y)
 |_=>.no
noncomputable def eqB(x:Bool):PyData→P Bool
 | .bool y=>.ok (x==y)
 |_=>.no
noncomputable def strs?:List PyData→Option (List Str)
 | []=>some []
 |d::r=>match d with
  | .str s=>(strs? r).map (s::·)
  |_=>none
noncomputable def iW(x y:List PyData):P Bool :=
 match strs? x with
 |none=>.no
 |some a=>match strs? y with
  |none=>.no
  |some b=>.ok (a==b)
noncomputable def eqL(x:List PyData):PyData→P Bool
 | .list y=>if x.length=y.length then iW x y else .ok false
 |_=>.no
noncomputable def dU(a:Str):List Str→List Str
 | []=>[a]
 |b::r=>if b.cps.toList < a.cps.toList then b::dU a r else a::b::r
noncomputable def aZ:List Str→List Str
 | []=>[]
 |a::r=>dU a (aZ r)
noncomputable def bS:List (PyData×PyData)→Str→Option PyData
 | [],_=>none
 | (.str y,v)::r,x=>if x=y then some v else bS r x
 |_::r,x=>bS r x
noncomputable def eF:List (PyData×PyData)→Str→PyData→List (PyData×PyData)
 | [],x,u=>[(.str x,u)]
 | (.str y,v)::r,x,u=>if x=y then (.str y,u)::r else (.str y,v)::eF r x u
 |p::r,x,u=>p::eF r x u
noncomputable def dK:List (PyData×PyData)→Str→List (PyData×PyData)
 | [],_=>[]
 | (.str y,v)::r,x=>if x=y then r else (.str y,v)::dK r x
 |p::r,x=>p::dK r x
noncomputable def dW(f:PyData→PyData→Bool):List PyData→List PyData→Bool
 | [],l=>l.isEmpty
 |a::x,l=>match l with
  | []=>false
  |b::y=>f a b&&dW f x y
noncomputable def eN(a b:PyData):Bool:=match a with
 | .int x=>(match b with | .int y=>x==y | _=>false)
 | .str x=>(match b with | .str y=>x==y | _=>false)
 |_=>false
noncomputable def nB(f:PyData→PyData→Bool)(y:List (PyData×PyData))(p:PyData×PyData):Bool:=match p.1 with
 | .str k=>(bS y k).any (f p.2)
 |_=>false
noncomputable def eG:Nat→PyData→PyData→Bool
 |0,_,_=>false
 |n+1,a,b=>match a with
  | .list x=>(match b with | .list y=>dW eN x y | _=>false)
  | .dict x=>(match b with | .dict y=>x.length==y.length&&x.all (nB (eG n) y) | _=>false)
  |a=>eN a b
noncomputable def eqT(x:List PyData):PyData→P Bool
 | .tuple y=>if dW (eG 24) x y=true then .ok true else .no
 |_=>.no
noncomputable def eqO(a b:PyData):P Bool :=
 match a with
 | .int x=>eqI x b
 | .str x=>eqS x b
 | .bool x=>eqB x b
 | .list x=>eqL x b
 | .tuple x=>eqT x b
 |_=>.no
noncomputable def slice{α:Type}(l:List α)(lo hi:Option Int):List α:=(l.drop (lo.elim 0 (clipAt l.length))).take (hi.elim l.length (clipAt l.length) - lo.elim 0 (clipAt l.length))
noncomputable def b8(c:Nat):PyData:=.str ⟨#[c]⟩
noncomputable def frz:Option PyData→P V
 |some d=>.ok (.fz d)
 |none=>.no
noncomputable def atP(l:List PyData)(k:Int):P V:=if 0≤k∧k < l.length then frz l[k.toNat]? else .no
noncomputable def atN(l:List PyData)(k:Int):P V:=if k < 0∧-(l.length:Int)≤k then frz l[(k+l.length).toNat]? else .no
noncomputable def atS(s:Str)(k:Int):P V:=if 0≤k∧k < s.cps.size then frz (s.cps[k.toNat]?.map b8) else .no
noncomputable def J9(k:Int):PyData→P V
 | .list l=>if 0≤k then atP l k else atN l k
 | .tuple l=>atP l k
 | .str s=>atS s k
 |_=>.no
noncomputable def Ka(x:Str):PyData→P V
 | .dict l=>frz (bS l x)
 |_=>.no
noncomputable def getItem(a i:PyData):P V :=
 match i with
 | .int k=>J9 k a
 | .str x=>Ka x a
 |_=>.no
noncomputable def iX(a:PyData)(lo hi:Option Int):P V :=
 match a with
 | .list l=>.ok (.own (.list (slice l lo hi)))
 |_=>.no
noncomputable def nC(x:Str)(l:List PyData):P Bool:=(ofO (strs? l)).bind fun ss=>.ok (ss.contains x)
noncomputable def inS(x:Str):PyData→P Bool
 | .str y=>.ok (Txt.contains y x)
 | .dict l=>.ok (bS l x).isSome
 | .list l=>nC x l
 | .tuple l=>nC x l
 |_=>.no
noncomputable def contains(a b:PyData):P Bool :=
 match a with
 | .str x=>inS x b
 |_=>.no
noncomputable def bP(p:P Bool):P Bool:=p.bind fun b=>.ok (!b)
noncomputable def dX:PyData→Bool
 | .none=>true
 |_=>false
noncomputable def nD(a b:PyData):P Bool :=
 match b with
 | .none=>.ok (dX a)
 |_=>.no
noncomputable def j9(f:Int→Int→Bool)(a b:PyData):P Bool :=
 match a with
 | .int x=>(match b with | .int y=>.ok (f x y) | _=>.no)
 |_=>.no
noncomputable def cmp(op:CmpOp)(a b:PyData):P Bool :=
 match op with
 | .Eq=>eqO a b
 | .NotEq=>bP (eqO a b)
 | .Lt=>j9 (fun x y=>decide (x < y)) a b
 | .LtE=>j9 (fun x y=>decide (x≤y)) a b
 | .Gt=>j9 (fun x y=>decide (y < x)) a b
 | .GtE=>j9 (fun x y=>decide (y≤x)) a b
 | .In=>contains a b
 | .NotIn=>bP (contains a b)
 | .Is=>nD a b
 | .IsNot=>bP (nD a b)
noncomputable def items:PyData→P (List PyData)
 | .list l=>.ok l
 | .tuple l=>.ok l
 | .dict l=>.ok (l.map (·.1))
 | .str s=>.ok (s.cps.toList.map b8)
 |_=>.no
noncomputable def Kb:PyData→P (List PyData)
 | .list l=>.ok l
 | .tuple l=>.ok l
 |_=>.no
noncomputable def c9(i:Int):List PyData→List PyData
 | []=>[]
 |x::r=>.tuple [.int i,x]::c9 (i+1) r
noncomputable def dE(i:Int):Nat→List PyData
 |0=>[]
 |n+1=>.int i::dE (i+1) n
noncomputable def bools?:List PyData→Option (List Bool)
 | []=>some []
 | .bool b::r=>(bools? r).map (b::·)
 |_::_=>none
noncomputable def Kc(l:List PyData):P Bool:=(ofO (bools? l)).bind fun bs=>.ok (bs.all id)
noncomputable def cH:List Str→List Str
 | []=>[]
 |a::r=>if r.contains a then cH r else a::cH r
noncomputable def Kd:List PyData→Option (PyData×PyData)
 | []=>none
 |a::r=>match r with
  | []=>none
  |b::r=>match r with
   | []=>some (a,b)
   |_::_=>none
noncomputable def two:PyData→Option (PyData×PyData)
 | .tuple l=>Kd l
 |_=>none
noncomputable def keys?:List (PyData×PyData)→Option (List (Str×PyData))
 | []=>some []
 |p::r=>match p.1 with
  | .str k=>(keys? r).map ((k,p.2)::·)
  |_=>none
noncomputable def twos?:List PyData→Option (List (PyData×PyData))
 | []=>some []
 |x::r=>(two x).bind fun p=>(twos? r).map (p::·)
noncomputable def dA:List (Str×PyData)→List (PyData×PyData)→List (PyData×PyData)
 | [],acc=>acc
 |p::r,acc=>dA r (eF acc p.1 p.2)
noncomputable def Ke(i:Int):Str:=Str.ofString (toString i)
noncomputable def bT:PyData→Bool
 | .dict _=>true
 |_=>false
noncomputable def fU:PyData→Bool
 | .int _=>true
 | .bool _=>true
 |_=>false
noncomputable def gE:PyData→Bool
 | .bool _=>true
 |_=>false
noncomputable def q8:PyData→Bool
 | .str _=>true
 |_=>false
noncomputable def xZ:PyData→Bool
 | .list _=>true
 |_=>false
noncomputable def nE:PyData→Bool
 | .tuple _=>true
 |_=>false
noncomputable def fz(d:PyData):P V:=.ok (.fz d)
noncomputable def own(d:PyData):P V:=.ok (.own d)
noncomputable def fzb(b:P Bool):P V:=b.bind fun b=>.ok (.fz (.bool b))
noncomputable def bL:PyData→P V
 | .list l=>fz (.int l.length)
 | .tuple l=>fz (.int l.length)
 | .str s=>fz (.int s.cps.size)
 | .dict l=>fz (.int l.length)
 |_=>.no
noncomputable def cJ:PyData→P V
 | .list l=>fzb (Kc l)
 |_=>.no
noncomputable def eO(l:List PyData):P V:=(ofO (strs? l)).bind fun l=>if l.length < 64 then own (.list ((aZ l).map .str)) else .no
noncomputable def cI:PyData→P V
 | .list l=>eO l
 | .dict l=>eO (l.map (·.1))
 |_=>.no
noncomputable def dF:PyData→P V
 | .dict l=>own (.list (l.map (·.1)))
 | .list l=>own (.list l)
 |_=>.no
noncomputable def fA:PyData→P V
 | .list l=>fz (.tuple l)
 |_=>.no
noncomputable def bG:PyData→P V
 | .list l=>(ofO (twos? l)).bind fun l=>(ofO (keys? l)).bind fun l=>if l.length < 4096 then own (.dict (dA l [])) else .no
 | .dict l=>own (.dict l)
 |_=>.no
noncomputable def gF:PyData→P V
 | .bool b=>fz (.int (if b then 1 else 0))
 | .str s=>if s.length≤640 then (ofO (PySem.intText? s)).bind fun i=>fz (.int i) else .no
 |_=>.no
noncomputable def yA:PyData→P V
 | .str s=>fz (.str s)
 | .int i=>if i.natAbs.log2 < 1920 then fz (.str (Ke i)) else .no
 |_=>.no
noncomputable def q9:PyData→P V
 | .int i=>fz (.int (if i < 0 then -i else i))
 |_=>.no
noncomputable def rA(f:Str)(d:PyData):P V :=
 if f = "len" then bL d
 else if f = "all" then cJ d
 else if f = "sorted" then cI d
 else if f = "list" then dF d
 else if f = "tuple" then fA d
 else if f = "dict" then bG d
 else if f = "int" then gF d
 else if f = "str" then yA d
 else if f = "abs" then q9 d
 else .no
noncomputable def iY(f:Str):Bool:=f == "len" || f == "all" || f == "sorted" || f == "list" || f == "tuple" || f == "dict" || f == "int" || f == "str" || f == "abs"
noncomputable def Kf:List PyData→Option PyData
 | []=>some .none
 |d::r=>match r with
  | []=>some d
  |_::_=>none
noncomputable def yB(l:List (PyData×PyData))(r:List PyData):PyData→P V
 | .str k=>(ofO (Kf r)).bind fun d=>fz ((bS l k).getD d)
 |_=>.no
noncomputable def rC:PyData→P (List PyData)
 | .list l=>.ok l
 |_=>.no
noncomputable def yC(sep:Str)(r:List PyData)(d:PyData):P V :=
 match r with
 | []=>(rC d).bind fun l=>(ofO (strs? l)).bind fun l=>if JoinOk sep l then fz (.str (Txt.join sep l)) else .no
 |_::_=>.no
noncomputable def mOk(m:Str)(o:PyData):Bool :=
 match o with
 | .dict _=>decide (m = "get")
 | .str _=>decide (m = "join")
 |_=>false
noncomputable def eH(o:PyData)(as:List PyData):P V :=
 match as with
 | []=>.no
 |k::r=>match o with
  | .dict l=>yB l r k
  | .str sep=>yC sep r k
  |_=>.no
set_option genInjectivity false in
inductive EW where
 |name (x:Str)
 |tup (es:List Expr)
 |star
 |call (f:Expr) (as:List Expr) (kws:List Keyword) (q:Pos)
 |attr (o:Expr) (m:Str) (p:Pos)
 |sub (o i:Expr)
 |slice (a b c:Option Expr)
 |comp
 |setd
 |lst (es:List Expr)
 |dct (ks:List (Option Expr)) (vs:List Expr)
 |cst (c:Const)
 |other
noncomputable def vw:Expr→EW
 | .Name x _=>.name x
 | .Tuple es _ _=>.tup es
 | .Starred _ _=>.star
 | .Call f as kws q=>.call f as kws q
 | .Attribute o m p=>.attr o m p
 | .Subscript o i _=>.sub o i
 | .Slice a b c _=>.slice a b c
 | .ListComp _ _ _ _=>.comp
 | .SetComp _ _ _ _=>.comp
 | .DictComp _ _ _ _ _=>.comp
 | .Set _ _ _=>.setd
 | .List es _=>.lst es
 | .Dict ks vs _=>.dct ks vs
 | .Constant c _ _=>.cst c
 |_=>.other
noncomputable def bH(e:Expr):Option Str:=match vw e with | .name x=>some x | _=>none
noncomputable def eP(e:Expr):Bool:=match vw e with | .call _ _ _ _=>true | _=>false
noncomputable def fV(e:Expr):Bool:=match vw e with | .comp=>true | _=>false
noncomputable def yD(e:Expr):Bool:=match vw e with | .slice _ _ _=>true | _=>false
noncomputable def kA(e:Expr):Bool:=match vw e with | .tup _=>true | _=>false
noncomputable def hY(e:Expr):Option (Expr×List Expr×List Keyword×Pos):=match vw e with | .call f as kws q=>some (f,as,kws,q) | _=>none
noncomputable def kB(e:Expr):Option (Expr×Str×Pos):=match vw e with | .attr o m p=>some (o,m,p) | _=>none
noncomputable def rD{α:Type}(kws:List Keyword)(a:α):Option α:=match kws with | []=>some a | _::_=>none
noncomputable def bad(e:Expr):Bool:=match vw e with | .star=>true | .setd=>true | .slice _ _ _=>true | _=>false
set_option genInjectivity false in
structure Ctx where
 call:Str→List V→R V
 has:Str→Bool
 const:Str→Option PyData
 hd:Bool
 sub:Str→Str→Option Bool
 init:Str→Option (Option (List Str))
noncomputable def evs(rec:Expr→R V):List Expr→R (List V)
 | []=>.ok []
 |e::r=>rb (rec e) fun v=>rb (evs rec r) fun vs=>.ok (v.cl::vs)
noncomputable def bY(l:List V):List PyData:=l.map dOf
noncomputable def isG(sc:Scope)(x:Str):Bool:=sc.names.lookup x==some .globalImplicit
noncomputable def isL(sc:Scope)(x:Str):Bool :=
 match sc.names.lookup x with
 |some .local=>true
 |some .cell=>true
 |some .free=>true
 |_=>false
noncomputable def tst(r:R V):R Bool:=rb r fun v=>ofP (c8 v)
noncomputable def kC(rec:Expr→R V):List Expr→R V
 | []=>.no
 |e::r=>match r with
  | []=>rec e
  |r=>rb (rec e) fun v=>rb (ofP (c8 v)) fun b=>if b then kC rec r else .ok v
noncomputable def kD(rec:Expr→R V):List Expr→R V
 | []=>.no
 |e::r=>match r with
  | []=>rec e
  |r=>rb (rec e) fun v=>rb (ofP (c8 v)) fun b=>if b then .ok v else kD rec r
noncomputable def aN(b:R Bool):R V:=rb b fun b=>.ok (.fz (.bool b))
noncomputable def rE(rec:Expr→R V)(a:PyData)(op:CmpOp)(e:Expr):R Bool:=rb (rec e) fun v=>ofP (cmp op a (dOf v))
noncomputable def Kg(rec:Expr→R V)(a:PyData)(op op':CmpOp)(e e':Expr):R Bool:=rb (rec e) fun v=>rb (ofP (cmp op a (dOf v))) fun t=>if t then rE rec (dOf v) op' e' else .ok false
noncomputable def nF(rec:Expr→R V)(a:PyData)(ops:List CmpOp)(es:List Expr):R Bool :=
 match ops with
 | []=>.no
 |op::ops=>match es with
  | []=>.no
  |e::es=>match ops with
   | []=>(match es with | []=>rE rec a op e | _::_=>.no)
   |op'::ops=>match es with
    | []=>.no
    |e'::es=>match ops with
     | []=>(match es with | []=>Kg rec a op op' e e' | _::_=>.no)
     |_::_=>.no
noncomputable def nG(rec:Expr→R V):List (Option Expr)→List Expr→R (List (PyData×PyData))
 | [],[]=>.ok []
 |some k::ks,e::es=>rb (rec k) fun k=>rb (rec e) fun v=>rb (nG rec ks es) fun r=>.ok ((dOf k,dOf v)::r)
 |_,_=>.no
noncomputable def iZ(l:List (PyData×PyData)):P V:=(ofO (keys? l)).bind fun l=>own (.dict (dA l []))
noncomputable def eQ:List Expr→Option (List Str)
 | []=>some []
 |e::r=>(bH e).bind fun x=>(eQ r).map (x::·)
noncomputable def i7(rec:Expr→R V)(e:Expr):R (List PyData):=rb (rec e) fun v=>ofP (items (dOf v))
noncomputable def nH(n:PyData):P (List PyData) :=
 match n with
 | .int n=>if -4096≤n∧n≤4096 then .ok (dE 0 n.toNat) else .no
 |_=>.no
noncomputable def iA:V→P PyData
 | .fz d=>.ok d
 |_=>.no
noncomputable def rF(rec:Expr→R V)(a:Expr):R (List PyData):=rb (rec a) fun v=>ofP ((iA v).bind nH)
noncomputable def yE:PyData→P (List PyData)
 | .list l=>.ok l.reverse
 |_=>.no
noncomputable def rG(rec:Expr→R V)(a:Expr):R (List PyData):=rb (rec a) fun v=>ofP (yE (dOf v))
noncomputable def rH(rec:Expr→R V)(a:Expr):R (List PyData):=rb (rec a) fun v=>ofP ((rC (dOf v)).bind fun l=>.ok (c9 0 l))
noncomputable def yF:PyData→P (List PyData)
 | .tuple l=>.ok l
 |_=>.no
noncomputable def i8(e:Expr):Option (Str×List Expr):=(hY e).bind fun c=>(bH c.1).bind fun x=>rD c.2.2.1 (x,c.2.1)
noncomputable def rI:PyData→P (List PyData)
 | .dict l=>.ok (l.map (·.1))
 |_=>.no
noncomputable def yG(rec:Expr→R V)(e:Expr):R (List PyData):=rb (rec e) fun v=>ofP (rI (dOf v))
noncomputable def fW(rec:Expr→R V)(hd:Bool)(sc:Scope)(target:Expr)(e:Expr):R (List PyData) :=
 if hd then .no else
 match i8 e with
 |none=>i7 rec e
 |some c =>
  if c.1 = "range" ∨ c.1 = "enumerate" ∨ c.1 = "reversed" ∨ c.1 = "zip" then
   if isG sc c.1 then match c.2 with
    | []=>.no
    |a::r=>match r with
     | []=>if c.1 = "range" then rF rec a else if c.1 = "enumerate" ∧ kA target=true then rH rec a else if c.1 = "reversed" then rG rec a else .no
     |_::_=>.no
   else .no
  else i7 rec e
noncomputable def i9(rec:Expr→R V)(hd:Bool)(sc:Scope)(target e:Expr):R (List PyData):=if hd then yG rec e else fW rec hd sc target e
noncomputable def bnd(x:Str)(d:PyData)(σ:aA):aA:=(".0", none)::(x,some (.fz d))::σ
noncomputable def aX(test:PyData→R Bool)(elt:PyData→R V):List PyData→R (List PyData)
 | []=>.ok []
 |d::r=>rb (nx (test d)) fun b =>
  if b then rb (nx (elt d)) fun v=>rb (aX test elt r) fun xs=>.ok (dOf v::xs)
  else aX test elt r
noncomputable def gG(test:aA→R Bool)(elt:aA→R V)(x:Str)(σ:aA)(l:List PyData):R (List PyData):=aX (fun d=>test (bnd x d σ)) (fun d=>elt (bnd x d σ)) l
noncomputable def kE(sc:Scope)(σ:aA)(x:Str):Option PyData :=
 match aA.get σ x with
 |some o=>(match o with
  |some v=>(match v with | .own d=>if isL sc x then some d else none | _=>none)
  |none=>none)
 |none=>none
noncomputable def nI(sc:Scope)(σ:aA)(e:Expr):Option PyData:=match bH e with | some x=>kE sc σ x | none=>none
noncomputable def yH(sc:Scope)(σ:aA)(x:Str):Option X :=
 match aA.get σ x with
 |some o=>(match o with
  |some v=>(match v with | .ex d=>if isL sc x then some d else none | _=>none)
  |none=>none)
 |none=>none
noncomputable def kF(sc:Scope)(σ:aA)(e:Expr):Option X:=match bH e with | some x=>yH sc σ x | none=>none
noncomputable def nJ(rec:Expr→R V)(sc:Scope)(σ:aA)(o:Expr):R PyData :=
 match nI sc σ o with
 |some d=>.ok d
 |none=>rb (rec o) fun v=>.ok (dOf v)
noncomputable def nK:Option NameKind→Bool
 |some .cell=>true
 |some .free=>true
 |_=>false
noncomputable def nL(sc sc':Scope)(x:Str):Bool :=
 sc'.kind==.function&&(sc'.names.all fun p=>match p.2 with
  | .local=>(p.1 == ".0" || p.1==x)&&sc'.names.lookup p.1==some .local
  | .cell=>false
  | .free=>nK (sc.names.lookup p.1)
  |_=>true)&&x != ".0" && sc'.names.lookup x==some .local&&(sc'.names.lookup (Str.ofString "__debug__")).isNone&&(sc'.names.lookup (Str.ofString "__classdict__")).isNone
noncomputable def Kh(a b:PyData):P V :=
 match a with
 | .int x=>(match b with | .int y=>fz (.int (if y < x then y else x)) | _=>.no)
 |_=>.no
noncomputable def nN:List V→P V
 | []=>.no
 |a::r=>match r with
  | []=>.no
  |b::r=>(match r with | []=>(iA a).bind fun a=>(iA b).bind fun b=>Kh a b | _::_=>.no)
noncomputable def nO(t:Str)(d:PyData):P V :=
 if t = "dict" then fz (.bool (bT d))
 else if t = "int" then fz (.bool (fU d))
 else if t = "bool" then fz (.bool (gE d))
 else if t = "str" then fz (.bool (q8 d))
 else if t = "list" then fz (.bool (xZ d))
 else if t = "tuple" then fz (.bool (nE d))
 else .no
noncomputable def nP(e:Expr):Bool:=match vw e with | .call f _ _ _=>(bH f).isNone | _=>true
noncomputable def eI(d:PyData):P V:=(Kb d).bind fun l=>(ofO (strs? l)).bind fun ss=>if ss.length < 64 then fz (.int (cH ss.reverse).length) else .no
noncomputable def fB:PyData→P V
 | .dict l=>own (.list (l.map fun p=>.tuple [p.1,p.2]))
 |_=>.no
noncomputable def yI(rec:Expr→R V)(sc:Scope)(as:List Expr):R V :=
 match as with
 | []=>.no
 |x::r=>match r with
  | []=>if isG sc "set" = true then rb (rec x) fun v=>ofP (eI (dOf v)) else .no
  |_::_=>.no
noncomputable def yJ(rec:Expr→R V)(o:Expr)(ap cp:Pos)(as:List Expr):R V :=
 match as with
 | []=>if nP o=true∧(ap.endLine==cp.line)=true then rb (rec o) fun v=>ofP (fB (dOf v)) else .no
 |_::_=>.no
noncomputable def rJ(f:Str):Bool:=f == "all" || f == "list" || f == "set" || f == "sorted"
noncomputable def jA:PyData→P V
 | .list l=>own (.list l)
 |_=>.no
noncomputable def gH(rec:Expr→R V)(hd:Bool)(f:Str)(a:Expr):R V:=if hd&&rJ f then (if f = "list" then rb (rec a) fun v=>ofP (jA (dOf v)) else .no) else rb (rec a) fun v=>ofP (rA f (dOf v))
noncomputable def yK(rec:Expr→R V)(hd:Bool)(sc:Scope)(f:Str)(as:List Expr)(kws:List Keyword):R V :=
 if f = "len" ∧ hd=false then (match kws with | []=>yI rec sc as | _::_=>.no) else .no
noncomputable def yL(rec:Expr→R V)(hd:Bool)(f:Str)(o:Expr)(ap cp:Pos)(as:List Expr)(kws:List Keyword):R V :=
 if f = "list" ∧ hd=false then (match kws with | []=>yJ rec o ap cp as | _::_=>.no) else .no
noncomputable def yM(rec:Expr→R V)(hd:Bool)(sc:Scope)(f:Str)(a:Expr)(as:List Expr)(kws:List Keyword)(cp:Pos):EW→R V
 | .name g=>if g = "set" then yK rec hd sc f as kws else gH rec hd f a
 | .attr o m ap=>if m = "items" then yL rec hd f o ap cp as kws else gH rec hd f a
 |_=>gH rec hd f a
noncomputable def rK(rec:Expr→R V)(hd:Bool)(sc:Scope)(f:Str)(a:Expr):R V :=
 match hY a with
 |some c=>yM rec hd sc f a c.2.1 c.2.2.1 c.2.2.2 (vw c.1)
 |none=>gH rec hd f a
noncomputable def yN(rec:Expr→R V)(sc:Scope)(a:Expr)(r:List Expr):Option Str→R V
 |some t=>(match r with
  | []=>if isG sc t then rb (rec a) fun v=>ofP (nO t (dOf v)) else .no
  |_::_=>.no)
 |none=>.no
noncomputable def yO(rec:Expr→R V)(sc:Scope)(as:List Expr):R V :=
 match as with
 | []=>.no
 |a::r=>match r with
  | []=>.no
  |b::r=>yN rec sc a r (bH b)
noncomputable def Ki(rec:Expr→R V)(hd:Bool)(sc:Scope)(f:Str)(as:List Expr):R V :=
 match as with
 | []=>.no
 |a::r=>(match r with | []=>rK rec hd sc f a | _::_=>.no)
noncomputable def jB(rec:Expr→R V)(sc:Scope)(σ:aA)(e:Expr):R V :=
 match kF sc σ e with
 |some x=>.ok (.ex x)
 |none=>rec e
noncomputable def nQ(rec:Expr→R V)(K:Ctx)(sc:Scope)(σ:aA)(f:Str)(as:List Expr):R V :=
 if isG sc f then
  if f = "isinstance" then yO rec sc as
  else if f = "min" then (if as.any bad=true∨K.hd=true then .no else rb (evs rec as) fun vs=>ofP (nN vs))
  else if iY f then Ki rec K.hd sc f as
  else if as.any bad=true∨K.has f=false then .no else rb (evs (jB rec sc σ) as) fun vs=>K.call f vs
 else .no
noncomputable def rL(rec:Scope→aA→Expr→R V)(sc':Scope):List Expr→Option (aA→R Bool)
 | []=>some fun _=>.ok true
 | [c]=>some fun σ'=>tst (rec sc' σ' c)
 |_=>none
noncomputable def jC(rec:Scope→aA→Expr→R V)(hd:Bool)(sc:Scope)(σ:aA)(elt:Expr)(g:Comprehension)(sc':Scope):R V :=
 match bH g.target with
 |none=>.no
 |some x=>if nL sc sc' x&&g.is_async==0 then match rL rec sc' g.ifs with
  |none=>.no
  |some t=>rb (rb (i9 (rec sc σ) hd sc g.target g.iter) fun l=>gG t (fun σ'=>rec sc' σ' elt) x σ l) fun r=>ofP (own (.list r))
 else .no
noncomputable def rdv:V→P V
 | .fz d=>.ok (.fz d)
 |_=>.no
noncomputable def rM(K:Ctx)(sc:Scope)(σ:aA)(x:Str):P V :=
 if isL sc x then match aA.get σ x with
  |some o=>(match o with | some v=>rdv v | none=>.no)
  |none=>.no
 else if isG sc x then (ofO (K.const x)).bind fz
 else .no
noncomputable def rN:Const→P V
 | .none=>fz .none
 | .bool b=>fz (.bool b)
 | .int i=>fz (.int i)
 | .str s=>mkS s
 |_=>.no
noncomputable def yP:PyData→P V
 | .int i=>fz (.int (-i))
 |_=>.no
noncomputable def fC(op:UnaryOp)(v:V):P V :=
 match op with
 | .Not=>(c8 v).bind fun b=>fz (.bool !b)
 | .USub=>yP (dOf v)
 |_=>.no
noncomputable def Kj(rec:Expr→R V)(a:PyData)(i:Expr):R V:=rb (rec i) fun i=>ofP (getItem a (dOf i))
noncomputable def toI:V→P (Option Int)
 | .fz d=>(match d with | .int i=>.ok (some i) | _=>.no)
 |_=>.no
noncomputable def rO(rec:Expr→R V):Option Expr→R (Option Int)
 |none=>.ok none
 |some e=>rb (rec e) fun v=>ofP (toI v)
noncomputable def kG(e:Expr):Option (Option Expr×Option Expr×Option Expr):=match vw e with | .slice a b c=>some (a,b,c) | _=>none
noncomputable def rP(rec:Expr→R V)(sc:Scope)(σ:aA)(o i:Expr):R V :=
 match kG i with
 |some c=>(match c.2.2 with
  |none=>rb (nJ rec sc σ o) fun a=>rb (rO rec c.1) fun lo=>rb (rO rec c.2.1) fun hi=>ofP (iX a lo hi)
  |some _=>.no)
 |none=>if bad i then .no else rb (nJ rec sc σ o) fun a=>Kj rec a i
noncomputable def kH(rec:Expr→R V)(o:Expr)(m:Str)(ap:Pos)(as:List Expr)(cp:Pos):R V :=
 if m = "items" ∨ nP o=false∨(ap.endLine==cp.line)=false∨as.any bad=true∨3 < as.length then .no else
  rb (rec o) fun o=>if mOk m (dOf o) then rb (evs rec as) fun as=>ofP (eH (dOf o) (bY as)) else .no
noncomputable def kI:List (Str×PyData)→Str→Option PyData
 | [],_=>none
 | (y,d)::r,x=>if x=y then some d else kI r x
noncomputable def yQ:Option (Option V)→Option X
 |some (some (.ex x))=>some x
 |_=>none
noncomputable def yR(K:Ctx)(sc:Scope)(σ:aA)(o:Expr)(m:Str):P V :=
 (ofO (bH o)).bind fun n=>if isL sc n=true then (ofO (yQ (aA.get σ n))).bind fun x=>(ofO (K.init x.cls)).bind fun i=>(ofO i).bind fun ps=>if ps.contains m=true then (ofO (kI x.fields m)).bind fun d=>.ok (.fz d) else .no else .no
noncomputable def dO(rec:Scope→aA→Expr→R V)(K:Ctx)(sc:Scope)(σ:aA)(e:Expr):R V :=
 match e with
 | .Constant c _ _=>ofP (rN c)
 | .Name x _=>ofP (rM K sc σ x)
 | .BoolOp op vs _=>match op with | .And=>kC (rec sc σ) vs | .Or=>kD (rec sc σ) vs
 | .BinOp l op r _=>rb (rec sc σ l) fun a=>rb (rec sc σ r) fun b=>ofP (aF op (dOf a) (dOf b))
 | .UnaryOp op x _=>rb (rec sc σ x) fun v=>ofP (fC op v)
 | .IfExp t b o _=>rb (tst (rec sc σ t)) fun c=>if c then rec sc σ b else rec sc σ o
 | .Dict ks vs _=>if ks.all Option.isSome=true∧ks.length=vs.length∧vs.length≤15 then rb (nG (rec sc σ) ks vs) fun l=>ofP (iZ l) else .no
 | .List es _=>rb (evs (rec sc σ) es) fun l=>if l.length≤bA then .ok (.own (.list (bY l))) else .no
 | .Tuple es _ _=>rb (evs (rec sc σ) es) fun l=>if l.length≤bA then .ok (.fz (.tuple (bY l))) else .no
 | .ListComp elt gens sc' _=>match gens with
  | []=>.no
  |g::gs=>(match gs with | []=>jC rec K.hd sc σ elt g sc' | _::_=>.no)
 | .Compare l ops es _=>rb (rec sc σ l) fun a=>aN (nF (rec sc σ) (dOf a) ops es)
 | .Subscript o i _=>rP (rec sc σ) sc σ o i
 | .Attribute o m _=>ofP (yR K sc σ o m)
 | .Call f as kws cp=>match kws with
  | []=>(match vw f with
   | .attr o m ap=>kH (rec sc σ) o m ap as cp
   | .name f=>nQ (rec sc σ) K sc σ f as
   |_=>.no)
  |_::_=>.no
 |_=>.no
noncomputable def evE(K:Ctx):Nat→Scope→aA→Expr→R V
 |0=>fun _ _ _=>.no
 |k+1=>dO (evE K k) K
set_option genInjectivity false in
inductive SV where
 |fn (n:Str) (a:Arguments) (b:List Stmt) (sc:Scope)
 |cls (n:Str) (bs:List Expr) (b:List Stmt)
 |asg (ts:List Expr) (e:Expr)
 |ret (o:Option Expr)
 |ex (e:Expr)
 |blk (b:List Stmt) (t:Expr) (o:List Stmt)
 |other
noncomputable def sv:Stmt→SV
 | .FunctionDef n a b _ _ _ sc _ _ _=>.fn n a b sc
 | .ClassDef n bs _ b _ _ _ _ _ _ _=>.cls n bs b
 | .Assign ts e _=>.asg ts e
 | .Return o _=>.ret o
 | .Expr e _=>.ex e
 | .If t b o _=>.blk b t o
 | .For t _ b _ _=>.blk b t []
 |_=>.other
noncomputable def yS(e:Expr):Option Const:=match vw e with
 | .cst c=>some c
 |_=>none
noncomputable def dY(f:Str):List Stmt→Option (Arguments×List Stmt×Scope)
 | []=>none
 |s::r=>match sv s with
  | .fn n a b sc=>if f=n then some (a,b,sc) else dY f r
  |_=>dY f r
noncomputable def yT(s:Stmt):Option (Str×Const):=match sv s with
 | .asg ts e=>(match ts with
  | []=>none
  |t::r=>(match r with
   | []=>(bH t).bind fun x=>(yS e).bind fun c=>some (x,c)
   |_::_=>none))
 |_=>none
noncomputable def Kk:Const→Option PyData
 | .int i=>some (.int i)
 | .str s=>if s.length≤bA then some (.str s) else none
 |_=>none
noncomputable def iB(body:List Stmt)(x:Str):Option PyData :=
 if x = "__name__" then none else body.findSome? fun s=>(yT s).bind fun p=>if x=p.1 then Kk p.2 else none
noncomputable def yU(b:List Stmt):Option (List Str):=match b with
 | []=>none
 |s::r=>(match r with
  | []=>(match sv s with | .fn _ a _ _=>some (a.args.drop 1 |>.map (·.arg)) | _=>none)
  |_::_=>none)
noncomputable def bK(c:Str):List Stmt→Option (Str×Option (List Str))
 | []=>none
 |s::r=>match sv s with
  | .cls n bs b=>if c=n then (match eQ bs with | some [y]=>some (y,yU b) | _=>none) else bK c r
  |_=>bK c r
noncomputable def jD(body:List Stmt):Nat→Str→Str→Bool
 |0,_,_=>false
 |n+1,c,d=>c==d||(match bK c body with | some p=>jD body n p.1 d | none=>false)
noncomputable def iC(body:List Stmt)(c d:Str):Option Bool :=
 if ((bK d body).isSome||d == "ValueError")&&(bK c body).isSome then some (jD body 4 c d) else none
noncomputable def esc:Nat→Expr→List Str
 |0,_=>[]
 |k+1,e =>
  match e with
  | .Name x _=>[x]
  | .BoolOp _ vs _=>vs.flatMap (esc k)
  | .BinOp l _ r _=>esc k l++esc k r
  | .UnaryOp _ x _=>esc k x
  | .IfExp a b c _=>esc k a++esc k b++esc k c
  | .Dict ks vs _=>ks.flatMap (fun o=>o.elim [] (esc k))++vs.flatMap (esc k)
  | .List es _=>es.flatMap (esc k)
  | .Tuple es _ _=>es.flatMap (esc k)
  | .ListComp elt gens _ _=>esc k elt++gens.flatMap fun g=>esc k g.iter++g.ifs.flatMap (esc k)
  | .Compare l _ es _=>esc k l++es.flatMap (esc k)
  | .Subscript o i _=>if (bH o).isSome then esc k i else esc k o++esc k i
  | .Slice a b _ _=>a.elim [] (esc k)++b.elim [] (esc k)
  | .Attribute o _ _=>esc k o
  | .Call f as _ _=>(kB f).elim [] (fun c=>esc k c.1)++as.flatMap (esc k)
  |_=>[]
noncomputable def cL(x:Str)(v:V)(σ:aA):P aA :=
 match aA.get σ x with
 |some _=>.ok (aA.set σ x v)
 |none=>.no
noncomputable def nR:List Str→List PyData→aA→P aA
 | [],[],σ=>.ok σ
 |x::xs,d::ds,σ=>(cL x (.fz d) σ).bind fun σ=>nR xs ds σ
 |_,_,_=>.no
noncomputable def aR(target:Expr)(d:PyData)(σ:aA):P aA :=
 match vw target with
 | .name x=>cL x (.fz d) σ
 | .tup es=>(yF d).bind fun ds=>(ofO (eQ es)).bind fun xs=>nR xs ds σ
 |_=>.no
abbrev KN:=aA→R V
abbrev KR:=V→R V
noncomputable def aQ(body:aA→KN→KR→R V)(target:Expr):List PyData→aA→KN→KR→R V
 | [],σ,kn,_=>kn σ
 |d::r,σ,kn,kr=>rb (ofP (aR target d σ)) fun σ=>body σ (fun σ=>aQ body target r σ kn kr) kr
noncomputable def yV(l:List (PyData×PyData))(d:PyData):PyData→P PyData
 | .str k=>if l.length < bA then .ok (.dict (eF l k d)) else .no
 |_=>.no
noncomputable def yW(l:List PyData)(d:PyData):PyData→P PyData
 | .int k=>if 0≤k∧k < l.length then .ok (.list (l.set k.toNat d)) else .no
 |_=>.no
noncomputable def setItem(o:PyData)(i d:PyData):P PyData :=
 match o with
 | .dict l=>yV l d i
 | .list l=>yW l d i
 |_=>.no
noncomputable def dB:V→P PyData
 | .own d=>.ok d
 |_=>.no
noncomputable def iD(σ:aA)(x:Str):P PyData :=
 match aA.get σ x with
 |some o=>(match o with | some v=>dB v | none=>.no)
 |none=>.no
noncomputable def blk(rec:Stmt→aA→KN→KR→R V):List Stmt→aA→KN→KR→R V
 | [],σ,kn,_=>kn σ
 |s::r,σ,kn,kr=>rec s σ (fun σ=>blk rec r σ kn kr) kr
noncomputable def nS(m:Str):PyData→Bool
 | .list _=>decide (m = "append")
 | .dict _=>decide (m = "pop")||decide (m = "update")
 |_=>false
noncomputable def yX(l:List (PyData×PyData)):PyData→P PyData
 | .str k=>if (bS l k).isSome then .ok (.dict (dK l k)) else .no
 |_=>.no
noncomputable def yY(l:List (PyData×PyData)):PyData→P PyData
 | .dict m=>(ofO (keys? m)).bind fun m=>if l.length+m.length < 4096 then .ok (.dict (dA m l)) else .no
 |_=>.no
noncomputable def gI(m:Str)(o:PyData)(as:List PyData):P PyData :=
 match as with
 | []=>.no
 |d::r=>match r with
  | []=>(match o with
   | .list l=>if l.length < bA then .ok (.list (l++[d])) else .no
   | .dict l=>if m = "pop" then yX l d else yY l d
   |_=>.no)
  |_::_=>.no
noncomputable def kJ(e:Expr):Option (Str×Str×Pos×List Expr×Pos) :=
 (hY e).bind fun c=>(kB c.1).bind fun a=>(bH a.1).bind fun x=>rD c.2.2.1 (x,a.2.1,a.2.2,c.2.1,c.2.2.2)
abbrev EV:=aA→Expr→R V
noncomputable def yZ:Nat→Expr→List Str
 |0,_=>[]
 |k+1,e=>match vw e with
  | .dct _ vs=>vs.flatMap (yZ k)
  | .sub o i=>(match bH o with | some x=>if (yS i).isSome=true then [x] else [] | none=>[])
  |_=>[]
noncomputable def rQ(ev:EV)(F:Nat)(sc:Scope)(σ:aA)(e:Expr)(kr:KR):R V :=
 match bH e with
 |some x=>(match kE sc σ x with
  |some d=>kr (.own d)
  |none=>rb (ev σ e) kr)
 |none=>rb (ev (aA.cl σ (esc F e++yZ F e)) e) kr
noncomputable def nT(ev:EV)(σ:aA)(x:Str)(i e:Expr)(kn:KN):R V :=
 if yD i then .no else
 rb (ev σ e) fun v=>rb (ofP (iD σ x)) fun o=>rb (ev σ i) fun iv=>rb (ofP (setItem o (dOf iv) (dOf v))) fun o=>rb (ofP (cL x (.own o) σ)) kn
noncomputable def y0(ev:EV)(hd:Bool)(σ:aA)(t e:Expr)(kn:KN):R V :=
 if (eP e=true∨(bH e).isSome=true)∧hd=false then rb (ev σ e) fun v=>rb (ofP (aR t (dOf v) σ)) kn else .no
noncomputable def rR(l:List (PyData×PyData)):PyData→P (PyData×PyData)
 | .str k=>(ofO (bS l k)).bind fun d=>.ok (d,.dict (dK l k))
 |_=>.no
noncomputable def nU:PyData→P (List (PyData×PyData))
 | .dict l=>.ok l
 |_=>.no
noncomputable def rS(ev:EV)(σ:aA)(x:Str)(i:Expr)(y:Str)(ap:Pos)(as:List Expr)(cp:Pos)(kn:KN):R V :=
 if (ap.endLine==cp.line)=false∨as.any bad=true∨yD i=true then .no else
 match as with
 | []=>.no
 |k::r=>match r with
  |_::_=>.no
  | []=>rb (ofP ((iD σ y).bind nU)) fun l=>rb (ev σ k) fun kv=>rb (ofP (rR l (dOf kv))) fun q=>rb (ofP (cL y (.own q.2) σ)) fun σ =>
   rb (ofP (iD σ x)) fun o=>rb (ev σ i) fun iv=>rb (ofP (setItem o (dOf iv) q.1)) fun o=>rb (ofP (cL x (.own o) σ)) kn
noncomputable def nV(ev:EV)(F:Nat)(σ:aA)(x:Str)(i e:Expr)(kn:KN):R V :=
 match kJ e with
 |some (y,m,ap,as,cp)=>if m = "pop" then rS ev (aA.cl σ (as.flatMap (esc F))) x i y ap as cp kn else nT ev (aA.cl σ (esc F e)) x i e kn
 |none=>nT ev (aA.cl σ (esc F e)) x i e kn
noncomputable def fD(e:Expr):Bool:=match vw e with
 | .dct ks vs=>ks.isEmpty&&vs.isEmpty
 |_=>false
noncomputable def kK(e:Expr):Option Nat:=match vw e with
 | .lst es=>if es.isEmpty=false∧es.all fD=true∧es.length≤bA then some es.length else none
 |_=>none
noncomputable def rU(σ:aA)(x:Str):P (List PyData) :=
 match aA.get σ x with
 |some o=>(match o with | some v=>(match v with | .pil l=>.ok l | _=>.no) | none=>.no)
 |none=>.no
noncomputable def kL(l:List PyData):PyData→P (Nat×PyData)
 | .int k=>if 0≤k∧k < l.length then (ofO l[k.toNat]?).bind fun o=>.ok (k.toNat,o) else .no
 |_=>.no
noncomputable def nW(ev:EV)(σ:aA)(x:Str)(i j e:Expr)(kn:KN):R V :=
 if bad i=true then .no else
 rb (ev σ e) fun v=>rb (ofP (rU σ x)) fun l=>rb (ev σ i) fun iv=>rb (ofP (kL l (dOf iv))) fun q=>rb (ev σ j) fun jv=>rb (ofP (setItem q.2 (dOf jv) (dOf v))) fun o=>rb (ofP (cL x (.pil (l.set q.1 o)) σ)) kn
noncomputable def jE(e:Expr):Option (Str×Expr):=match vw e with | .sub o i=>(bH o).map fun x=>(x,i) | _=>none
noncomputable def rV(ev:EV)(F:Nat)(hd:Bool)(σ:aA)(t e:Expr)(kn:KN):R V :=
 match vw t with
 | .name x=>(match kK e with
  |some k=>rb (ofP (cL x (.pil (List.replicate k (.dict []))) σ)) kn
  |none=>rb (ev (aA.cl σ (esc F e)) e) fun v=>rb (ofP (cL x v (aA.cl σ (esc F e)))) kn)
 | .sub o i=>(match bH o with
  |some x=>nV ev F σ x i e kn
  |none=>(match jE o with | some (x,i')=>nW ev (aA.cl σ (esc F e)) x i' i e kn | none=>.no))
 | .tup _=>y0 ev hd (aA.cl σ (esc F e)) t e kn
 |_=>.no
noncomputable def nX(ev:EV)(σ:aA)(x m:Str)(ap:Pos)(as:List Expr)(cp:Pos)(kn:KN):R V :=
 if (ap.endLine==cp.line)=false∨as.any bad=true∨3 < as.length then .no else
 rb (ofP (iD σ x)) fun o=>if nS m o then rb (evs (ev σ) as) fun as'=>rb (ofP (gI m o (bY as'))) fun o=>rb (ofP (cL x (.own o) σ)) kn else .no
noncomputable def rW(ev:EV)(F:Nat)(σ:aA)(e:Expr)(kn:KN):R V :=
 match kJ e with
 |some (x,m,ap,as,cp)=>nX ev (aA.cl σ (as.flatMap (esc F))) x m ap as cp kn
 |none=>if fV e then .no else rb (ev (aA.cl σ (esc F e)) e) fun _=>kn (aA.cl σ (esc F e))
noncomputable def nY(ev:EV)(F:Nat)(K:Ctx)(sc:Scope)(σ:aA)(e:Expr):R V :=
 match i8 e with
 |some (c,as)=>if isG sc c=true∧as.any bad=false∧K.hd=false then
   (match K.init c with
   |some (some ps)=>rb (evs (ev (aA.cl σ (as.flatMap (esc F)))) as) fun vs=>if ps.length=vs.length then .exc ⟨c,ps.zip (bY vs)⟩ else .no
   |some none=>rb (evs (ev (aA.cl σ (as.flatMap (esc F)))) as) fun vs=>if vs.length=1 then .exc ⟨c,[]⟩ else .no
   |none=>.no) else .no
 |none=>.no
noncomputable def kM:List Stmt→Option Expr
 | []=>none
 |s::r=>match r with
  | []=>(match sv s with | .ret o=>o | _=>none)
  |_::_=>none
noncomputable def n0:List ExceptHandler→Option (Str×Option Str×Expr)
 | []=>none
 |h::r=>match r with
  | []=>(match h with
   | .ExceptHandler t x b _=>match t with
    |some t=>(match bH t with
     |some c=>(match kM b with | some e=>some (c,x,e) | none=>none)
     |none=>none)
    |none=>none)
  |_::_=>none
noncomputable def n6(b:List Stmt):Option Expr:=match b with
 | []=>none
 |s::r=>match r with
  | []=>(match sv s with | .ex e=>if eP e=true then some e else none | _=>none)
  |_::_=>none
noncomputable def n7(ev ev':EV)(F:Nat)(K:Ctx)(sc:Scope)(σ:aA)(e:Expr)(c z:Str)(e':Expr)(kn:KN)(kr:KR):R V :=
 if isG sc c=true∧(K.init c).isSome=true∧sc.names.lookup z=some .local then match ev (aA.cl σ (esc F e)) e with
  | .no=>.no
  | .ok _=>kn (aA.cl σ (esc F e))
  | .exc y=>if K.sub y.cls c=some true then rb (ofP (cL z (.ex y) (aA.cl σ (esc F e)))) fun σ=>rb (nx (ev' (aA.cl σ (esc F e')) e')) kr else .no
 else .no
noncomputable def y5(ev ev':EV)(F:Nat)(K:Ctx)(sc:Scope)(rec:Stmt→aA→KN→KR→R V)(s:Stmt)(σ:aA)(kn:KN)(kr:KR):R V :=
 match s with
 | .Return o _=>(match o with | none=>kr (.fz .none) | some e=>rQ ev F sc σ e kr)
 | .Assign ts e _=>match ts with
  | []=>.no
  |t::r=>(match r with | []=>rV ev F K.hd σ t e kn | _::_=>.no)
 | .Expr e _=>rW ev F σ e kn
 | .If t b o _=>rb (tst (ev (aA.cl σ (esc F t)) t)) fun c=>if c then blk rec b (aA.cl σ (esc F t)) kn kr else blk rec o (aA.cl σ (esc F t)) kn kr
 | .For t it b o _=>match o with
  | []=>rb (fW (ev (aA.cl σ (esc F it))) K.hd sc t it) fun l=>aQ (blk rec b) t l (aA.cl σ (esc F it)) kn kr
  |_::_=>.no
 | .Raise o c _=>match o with
  |some e=>(match c with | none=>nY ev F K sc σ e | some _=>.no)
  |none=>.no
 | .Try b hs o f _=>match o with
  | []=>(match f with
   | []=>(match n6 b with
    |some e=>(match n0 hs with | some (c,x,e')=>(match x with | some z=>if K.hd then .no else n7 ev ev' F K sc σ e c z e' kn kr | none=>.no) | none=>.no)
    |none=>.no)
   |_::_=>.no)
  |_::_=>.no
 | .Pass _=>kn σ
 |_=>.no
noncomputable def evS(ev ev':EV)(F:Nat)(K:Ctx)(sc:Scope):Nat→Stmt→aA→KN→KR→R V
 |0=>fun _ _ _ _=>.no
 |k+1=>y5 ev ev' F K sc (evS ev ev' F K sc k)
noncomputable def eJ(ps:List Str)(vs:List V):List (Str×NameKind)→aA
 | []=>[]
 | (x,k)::r=>match k with
  | .local=>(x,(ps.zip vs).lookup x)::eJ ps vs r
  | .cell=>(x,(ps.zip vs).lookup x)::eJ ps vs r
  |_=>eJ ps vs r
noncomputable def dZ:Nat:=24
noncomputable def jF:List Str→Bool
 | []=>true
 |x::r=>!r.contains x&&jF r
noncomputable def n8(a:Arguments)(sc:Scope):Bool :=
 a.posonlyargs.isEmpty&&a.vararg.isNone&&a.kwonlyargs.isEmpty&&a.kwarg.isNone&&a.defaults.isEmpty&&a.kw_defaults.isEmpty &&
 sc.kind==.function&&!sc.isGenerator&&!sc.isCoroutine&&jF (sc.names.map (·.1))&&jF (a.args.map (·.arg)) &&
 (sc.names.all fun p=>p.2 != .free)&&(a.args.all fun x=>match sc.names.lookup x.arg with | some .local=>true | some .cell=>true | _=>false) &&
 (sc.names.lookup (Str.ofString "__debug__")).isNone&&(sc.names.lookup (Str.ofString "__classdict__")).isNone
noncomputable def eR(body:List Stmt)(call:Str→List V→R V)(hd:Bool):Ctx :=
 ⟨call,fun f=>(dY f body).isSome,iB body,hd,iC body,fun c=>(bK c body).map (·.2)⟩
noncomputable def run(body:List Stmt):Nat→Bool→Str→List V→R V
 |0,_,_,_=>.no
 |n+1,hd,f,vs=>match dY f body with
  |none=>.no
  |some (a,b,sc) =>
   if a.args.length=vs.length∧n8 a sc=true then
    blk (evS (evE (eR body (run body n hd) hd) dZ sc) (evE (eR body (run body n true) true) dZ sc) dZ (eR body (run body n hd) hd) sc dZ) b (eJ (a.args.map (·.arg)) vs sc.names) (fun _=>.ok (.fz .none)) .ok
   else .no
noncomputable def n9(st:Stmt):Option (Str×Str×Str) :=
 match sv st with
 | .asg ts e=>(match ts with
  | []=>none
  |t::r=>(match r with
   | []=>(kB t).bind fun c=>(bH c.1).bind fun x=>(bH e).bind fun y=>some (x,c.2.1,y)
   |_::_=>none))
 |_=>none
noncomputable def bmV:List Value:=[.type "ValueError", .type "Exception", .type "BaseException", .type "object"]
noncomputable def oA(body:List Stmt):Nat→Str→List Str
 |0,_=>[]
 |n+1,c=>match bK c body with
  |some p=>(match bK p.1 body with | some _=>p.1::oA body n p.1 | none=>[])
  |none=>[]
noncomputable def rX(h:Heap)(n:Str):Value:=(h.nsMap mainGlobals n).getD .none
noncomputable def kN(h:Heap)(bZ:List Str):List Value:=bZ.map (rX h)++bmV
noncomputable def rY(h:Heap)(ns:Addr)(l:List Str):Bool:=l.all fun n=>(h.nsMap ns n).isNone
noncomputable def oB(h:Heap)(l:List Str)(bZ:List Str):Bool:=bZ.all fun n=>match h.clsAt mainGlobals n with
 |some x=>h.isNs x.2.2.ns&&rY h x.2.2.ns l
 |none=>false
noncomputable def Kl(sf:Str)(ps:List Str):FuncBody→Bool
 | .stmts b=>decide (b.map n9=ps.map fun p=>some (sf,p,p))
 |_=>false
noncomputable def rZ(fd:FuncData)(ps:List Str):Bool :=
 match fd.params.args with
 | []=>false
 |a::r=>fd.params.posonlyargs.isEmpty&&fd.params.vararg.isNone&&fd.params.kwonlyargs.isEmpty&&fd.params.kwarg.isNone&&decide (r.map (·.arg)=ps)&&Kl a.arg ps fd.body&&fd.closure.isEmpty&&decide (fd.defaults=.none) &&
  decide (fd.scope.kind=.function)&&!fd.scope.isGenerator&&!fd.scope.isCoroutine&&jF (a.arg::ps)&&((a.arg::ps).all fun x=>decide (fd.scope.names.lookup x=some .local)&&!(x==("__debug__" : Str)))&&decide (ps.length < 50)
noncomputable def r6(h:Heap)(ps:List Str)(oI:Obj):Bool:=decide (oI.cls=.type "function")&&(match oI.data with | .func fd=>h.codeRecOk fd.code fd.qualname&&rZ fd ps | _=>false)
noncomputable def hid:List Str:=[Str.ofString "__getattribute__", Str.ofString "__getattr__"]
noncomputable def y6(h:Heap)(cd:ClassData)(bZ:List Str):Option (List Str)→Bool
 |none=>(h.nsMap cd.ns "__init__").isNone&&oB h [Str.ofString "__init__"] bZ
 |some ps=>cd.hasDict&&(match h.nsMap cd.ns "__init__" with | some (.ref fI)=>(h.get? fI).any (r6 h ps) | _=>false)&&rY h cd.ns (Str.ofString "__setattr__" :: (ps++hid))&&oB h (Str.ofString "__init__" :: Str.ofString "__setattr__" :: (ps++hid)) bZ
noncomputable def oC(h:Heap)(bZ:List Str)(ini:Option (List Str))(x:Addr×Obj×ClassData):Bool :=
 decide (x.2.1.cls=.type "type")&&decide (x.2.2.mro=.ref x.1::kN h bZ)&&!x.2.2.hasDel&&decide (x.2.1.slots.size=6)&&decide (x.2.1.slots[4]?=some (some (.builtin "ValueError.__new__")))&&h.isNs x.2.2.ns&&y6 h x.2.2 bZ ini
noncomputable def Km(s:Stmt):Option Str:=match sv s with
 | .cls n _ _=>some n
 |_=>none
noncomputable def kO(body:List Stmt):List Str:=body.filterMap Km
noncomputable def y7(h:Heap)(body:List Stmt)(c:Str)(C:Addr):Bool:=(kO body).all fun d=>match h.nsMap mainGlobals d with
 |some (.ref D)=>decide ((Value.ref C::kN h (oA body 4 c)).contains (.ref D)=jD body 4 c d)
 |_=>true
noncomputable def Kn(h:Heap)(body:List Stmt)(c:Str)(p:Str×Option (List Str)):Bool:=(h.clsAt mainGlobals c).any fun x=>oC h (oA body 4 c) p.2 x&&y7 h body c x.1
noncomputable def oE(h:Heap)(body:List Stmt):Bool:=(kO body).all fun c=>match bK c body with
 |none=>true
 |some p=>Kn h body c p
end Mine.Internal
namespace Mine.Internal
open PySem PySem.W PyProof.Rows
noncomputable def Ko(s:Stmt):Bool:=match sv s with
 | .asg ts _=>(match ts with
  | []=>true
  |t::r=>(match r with
   | []=>(bH t).elim true fun x=>!(x == "__name__")
   |_::_=>true))
 |_=>true
noncomputable def Kq(p:Program):Program:={ p with main:={ p.main with body:=p.main.body.filter Ko } }
end Mine.Internal
namespace Mine.Internal
open PySem PySem.W
noncomputable def kP(tb:String→Option Builtin)(p:Program)(w:World)(n₀:Nat)(ann:Option Value):Nat→SharedT→Thread→Option SharedT
 |0,_,_=>none
 |n+1,s,t=>match through t with
  |true=>some s
  |false=>match stepOk n₀ ann t with
   |false=>none
   |true=>match stepT (denote tb) p w s t with
    |some r=>kP tb p w n₀ ann n r.1 r.2
    |none=>none
theorem Kr{tb:String→Option Builtin}{p:Program}{w:World}{n₀:Nat}{ann:Option Value}:∀ {n:Nat} {s s':SharedT} {t:Thread},kP tb p w n₀ ann n s t=some s'→topRun tb p w n₀ ann n s.abs t=some s'.abs:=by
 intro v0
 induction v0 with
 |zero =>
  intro _ _ _ h;cases h
 |succ n ih =>
  intro s s' t h;unfold kP at h;unfold topRun;cases he:through t with
  |true=>rw[he] at h;cases h;rfl
  |false =>
   rw[he] at h;cases hk:stepOk n₀ ann t with
   |false=>rw[hk] at h;cases h
   |true =>
    rw[hk] at h;cases hs:stepT (denote tb) p w s t with
    |none=>rw[hs] at h;cases h
    |some r=>obtain⟨s₂,t₂⟩:=r;rw[hs] at h;rw[stepT_spec hs];exact ih h
noncomputable def y8(l:List Obj):BT×Nat:=l.foldl (fun x o=>(x.1.ins x.2 o,x.2+1)) (.nil,0)
noncomputable def kQ(w:World)(os:OsState):SharedT:=⟨(y8 (boot_heap w.params).objs.toList).1,(y8 (boot_heap w.params).objs.toList).2,(boot_heap w.params).life,Array.mk [],boot_drawn,boot_toks,os⟩
noncomputable def sA{α:Type}(p q:Program)(loose:List Str)(Xt:Shared→Bool)(Yf:Shared→α)(g0:Bool)(w:World)(S:SharedT) :=
 (staticsOk (importedModules p.main.body) (boot_heap w.params) S.abs.heap&&namesBound p S.abs.heap&&gensDone S.abs&&laidKept (boot_heap w.params) S.abs.heap,openSeen q loose (importedModules p.main.body) Xt g0 S.abs,Yf S.abs)
theorem Ks{p q:Program}{loose:List Str}{Xt:Shared→Bool}{α:Type}{Yf:Shared→α}{Ya:World→α}{N:Nat}{g0:Bool}
  (ho:∀ w:World,(fencedOpening treeTable p w N).map (fun s=>(s.heap,s.gens,s.drawn,s.toks))=some (boot_heap w.params,Array.mk [],boot_drawn,boot_toks))
  (hb:∀ w os,(kQ w os).abs=⟨boot_heap w.params,Array.mk [],boot_drawn,boot_toks,os⟩) (hns:∀ w:World,(boot_heap w.params).isNs mainGlobals=true)
  (hr:∀ (w:World) (os:OsState),(kP treeTable p w (boot_heap w.params).objs.size ((boot_heap w.params).nsMap mainGlobals "__annotations__") N (kQ w os) (topStub p)).map (sA p q loose Xt Yf g0 w)=some (true,openGood q loose,Ya w)):LeftO p q loose Xt Yf Ya N g0:=fun w=>by
 obtain⟨s,hs,hv⟩:=bf.mp (ho w);obtain⟨S,h1,h2⟩:=bf.mp (hr w s.os);have e:s=(kQ w s.os).abs:=by
  rw[hb];obtain⟨h,g,d,t,os⟩:=s;cases hv;rfl
 have h3:=Kr h1;rw[← e] at h3;have eh:s.heap=boot_heap w.params:=congrArg (·.1) hv;have eg:s.gens=Array.mk []:=congrArg (·.2.1) hv;unfold openEnds;rw[hs];show(topFrom treeTable p w N s).map _=_;unfold topFrom;rw[eh,eg,hns w];unfold sA at h2;obtain⟨k1,k2⟩:=Prod.mk.inj h2;show((topRun treeTable p w (boot_heap w.params).objs.size ((boot_heap w.params).nsMap mainGlobals "__annotations__") N s (topStub p)).bind _).map _=_;rw[h3];show(match (staticsOk (importedModules p.main.body) (boot_heap w.params) S.abs.heap&&namesBound p S.abs.heap&&gensDone S.abs&&laidKept (boot_heap w.params) S.abs.heap) with | true=>some S.abs | false=>none).map _=_;rw[k1];exact congrArg some k2
end Mine.Internal
set_option Elab.async false
namespace Mine.Internal
open PySem PySem.W PyProof.Rows
noncomputable def V14:Program:=Kq PySem.Challenge.rw_uf010037_14.prog
set_option maxRecDepth 100000 in
set_option maxHeartbeats 8000000 in
theorem Kt:∀ w os,(kQ w os).abs=⟨boot_heap w.params,Array.mk [],boot_drawn,boot_toks,os⟩:=fun w os=>by kernel_rfl
set_option maxRecDepth 100000 in
theorem Ku:∀ w:World,(boot_heap w.params).isNs mainGlobals=true:=fun w=>by kernel_rfl
set_option maxRecDepth 100000 in
theorem Kv:∀ w:World,(fencedOpening treeTable PySem.Challenge.rw_uf010037_14.row.prog w 5620).map (fun s=>(s.heap,s.gens,s.drawn,s.toks))=some (boot_heap w.params,Array.mk [],boot_drawn,boot_toks) :=
 boot_open (by kernel_rfl) (by kernel_rfl) fun s=>by kernel_rfl
end Mine.Internal
set_option Elab.async false
namespace Mine.Internal
open PySem PySem.W PyProof.Rows
noncomputable def y9(q:Program)(S:SharedT):=(seen ((recsOf q).map (·.name)) (ownsOf q) [] { S.abs with gens:=#[] },S.abs.heap.bltView)
noncomputable def zA{α:Type}(p q:Program)(loose:List Str)(Xt:Shared→Bool)(Yf:Shared→α)(g0:Bool)(w:World)(S:SharedT) :=
 (staticsOk (importedModules p.main.body) (boot_heap w.params) S.abs.heap&&namesBound p S.abs.heap&&gensDone S.abs&&laidKept (boot_heap w.params) S.abs.heap,
  S.abs.heap.keysOk (looseW q loose) ((recsOf q).map (·.name)) ((litsOf q).map (·.1)) ((clssOf q (looseW q loose)).map (·.name))&&S.abs.heap.accountedOkI (importedModules p.main.body)&&S.abs.heap.isNs mainGlobals&&S.abs.heap.isNs builtinsNs&&tablesOk q S.abs.heap&&Xt S.abs&&(if g0 then S.abs.gens.size==0 else !leftWithCleanup S.abs.gens),Yf S.abs)
noncomputable def sB(q:Program)(loose:List Str)(S:SharedT):=(tabsOk q S.abs,pinSeenD q (drecsOf q) S.abs,plainSeenE q (looseW q loose) S.abs,plainSeenD q loose S.abs,wideSeen q S.abs,clsSeenW q loose S.abs)
theorem Kw{p q:Program}{loose:List Str}{Xt:Shared→Bool}{α:Type}{Yf:Shared→α}{Ya:α}{g0:Bool}{w:World}{o:Option SharedT}
  (h1:o.map (y9 q)=some (expectedOf q,bltViewBooted)) (h2:o.map (zA p q loose Xt Yf g0 w)=some (true,true,Ya)) (h3:o.map (sB q loose)=some (true,pinGoodD (drecsOf q),plainGoodE q (looseW q loose),plainGoodD q loose,wideGood q,clsGoodW q loose)) :
  o.map (sA p q loose Xt Yf g0 w)=some (true,openGood q loose,Ya):=by
 cases o with
 |none=>cases h1
 |some S =>
  obtain⟨a1,a2⟩:=Prod.mk.inj (Option.some.inj h1);obtain⟨b1,b2⟩:=Prod.mk.inj (Option.some.inj h2);obtain⟨b2,b3⟩:=Prod.mk.inj b2;have c:=Option.some.inj h3;show some (_,(_,_,_,sB q loose S),Yf S.abs)=_;rw[b1,a1,a2,b2,c,b3];rfl
noncomputable def sE(w:World)(os:OsState):Option SharedT:=kP treeTable PySem.Challenge.rw_uf010037_14.row.prog w (boot_heap w.params).objs.size ((boot_heap w.params).nsMap mainGlobals "__annotations__") 5620 (kQ w os) (topStub PySem.Challenge.rw_uf010037_14.row.prog)
set_option maxRecDepth 100000 in
set_option maxHeartbeats 8000000 in
theorem Kx:∀ (w:World) (os:OsState),(sE w os).map (y9 V14)=some (expectedOf V14,bltViewBooted):=fun w os=>by kernel_rfl
set_option maxRecDepth 100000 in
set_option maxHeartbeats 8000000 in
theorem Ky:∀ (w:World) (os:OsState),(sE w os).map (zA PySem.Challenge.rw_uf010037_14.row.prog V14 [] (fun s=>(xlAt V14 [] s&&recOk (RowW.records PySem.Challenge.rw_uf010037_14.row.toRowW) s)&&oE s.heap PySem.Challenge.rw_uf010037_14.row.prog.main.body) (Hook.obs Hook.none) true w)=some (true,true,Hook.val Hook.none w):=fun w os=>by kernel_rfl
set_option maxRecDepth 100000 in
set_option maxHeartbeats 8000000 in
theorem Kz:∀ (w:World) (os:OsState),(sE w os).map (sB V14 [])=some (true,pinGoodD (drecsOf V14),plainGoodE V14 (looseW V14 []),plainGoodD V14 [],wideGood V14,clsGoodW V14 []):=fun w os=>by kernel_rfl
theorem K0:LeftO PySem.Challenge.rw_uf010037_14.row.prog V14 [] (fun s=>(xlAt V14 [] s&&recOk (RowW.records PySem.Challenge.rw_uf010037_14.row.toRowW) s)&&oE s.heap PySem.Challenge.rw_uf010037_14.row.prog.main.body) (Hook.obs Hook.none) (Hook.val Hook.none) 5620 :=
 Ks Kv Kt Ku fun w os=>Kw (Kx w os) (Ky w os) (Kz w os)
end Mine.Internal
namespace Mine.Internal
open PySem
def Vw(e:Expr):EW→Prop
 | .name x=>∃ p,e=.Name x p
 | .tup es=>∃ k p,e=.Tuple es k p
 | .call f as kws q=>e=.Call f as kws q
 | .attr o m p=>e=.Attribute o m p
 | .sub o i=>∃ p,e=.Subscript o i p
 | .slice a b c=>∃ p,e=.Slice a b c p
 | .lst es=>∃ p,e=.List es p
 | .dct ks vs=>∃ p,e=.Dict ks vs p
 |_=>True
theorem K1(e:Expr):Vw e (vw e):=by
 cases e<;>first | exact trivial | exact⟨_,rfl⟩ | exact⟨_,_,rfl⟩ | exact rfl
theorem cY{e:Expr}{v:EW}(h:vw e=v):Vw e v:=h▸K1 e
def Sv(s:Stmt):SV→Prop
 | .ret o=>∃ p,s=.Return o p
 | .ex e=>∃ p,s=.Expr e p
 |_=>True
theorem K2(s:Stmt):Sv s (sv s):=by
 cases s<;>first | exact trivial | exact⟨_,rfl⟩
theorem zB{s:Stmt}{v:SV}(h:sv s=v):Sv s v:=h▸K2 s
theorem ob{α β:Type}{o:Option α}{f:α→Option β}{b:β}(h:o.bind f=some b):∃ a,o=some a∧f a=some b:=by
 cases o with
 |none=>exact ns h
 |some a=>exact⟨a,rfl,h⟩
theorem zC{α:Type}{kws:List Keyword}{a b:α}(h:rD kws a=some b):kws=[]∧a=b:=by
 cases kws with
 |nil=>obtain rfl:=si h;exact⟨rfl,rfl⟩
 |cons=>exact ns h
theorem dG{e:Expr}{x:Str}(h:bH e=some x):∃ p,e=.Name x p:=by
 unfold bH at h;generalize hv:vw e=v at h;cases v with
 |name y=>obtain rfl:=si h;exact cY hv
 |_=>exact ns h
theorem sF{e:Expr}{c:Expr×List Expr×List Keyword×Pos}(h:hY e=some c):e=.Call c.1 c.2.1 c.2.2.1 c.2.2.2:=by
 unfold hY at h;generalize hv:vw e=v at h;cases v with
 |call f as kws q=>obtain rfl:=si h;exact cY hv
 |_=>exact ns h
theorem zD{e:Expr}{c:Expr×Str×Pos}(h:kB e=some c):e=.Attribute c.1 c.2.1 c.2.2:=by
 unfold kB at h;generalize hv:vw e=v at h;cases v with
 |attr o m p=>obtain rfl:=si h;exact cY hv
 |_=>exact ns h
theorem K3{e:Expr}{c:Option Expr×Option Expr×Option Expr}(h:kG e=some c):∃ p,e=.Slice c.1 c.2.1 c.2.2 p:=by
 unfold kG at h;generalize hv:vw e=v at h;cases v with
 |slice=>obtain rfl:=si h;exact cY hv
 |_=>exact ns h
theorem zE{v:V}:hX v.cl=false:=by cases v<;>rfl
theorem zF{e:Expr}{env:Env}(h:bad e=false)(x:Value):foldedSetIterable e env x=pure x:=by
 cases e<;>first | rfl | exact btf h
theorem eS{e:Expr}{env:Env}{es:List Expr}(h:bad e=false):starEach (e::es) env=(false,eval e env)::starEach es env:=by
 cases e<;>first | rfl | exact btf h
theorem K4{op:CmpOp}{e:Expr}{t:Sem Value}(h:bad e=false):markedBehindIn op e t=t:=by
 refine markedBehindIn_of_false ?_;cases e<;>first | rfl | exact btf h
theorem zG{e:Expr}{o i:Value}(h:bad e=false):subscripted e false o i=operate [o,i] (PySem.getItem o i):=by
 cases e<;>first | rfl | exact btf h
theorem eT{α:Type}{e:Expr}{r:R α}(hb:bad e=true→r=.no)(h:r≠.no):bad e=false:=by
 cases e':bad e with
 |false=>rfl
 |true=>exact absurd (hb e') h
theorem zH{e:Expr}{c:Str×List Expr}(h:i8 e=some c):∃ p q,e=.Call (.Name c.1 p) c.2 [] q:=by
 obtain⟨c1,h1,h⟩:=ob h;obtain⟨x,h2,h⟩:=ob h;obtain⟨p,e2⟩:=dG h2;exact⟨p,c1.2.2.2,by rw[sF h1,e2,(zC h).1,← (zC h).2]⟩
theorem swz{env:Env}{e:Expr}{t:Option Expr}{line:Nat}(hc:fV e=false):swapsWith e t line env=pure false:=by
 cases e<;>first | rfl | exact btf hc
theorem zI{P:Expr→Prop}{e:Expr}(h:fV e=true)(l:∀ a b c d,P (.ListComp a b c d))(s:∀ a b c d,P (.SetComp a b c d))(g:∀ a b c d f,P (.DictComp a b c d f)):P e:=by
 cases e with
 |ListComp=>exact l ..
 |SetComp=>exact s ..
 |DictComp=>exact g ..
 |_=>exact bft h
def PlT(h:Heap)(a:Addr)(vs:Array Value):Prop:=∃ n,h.get? a=some { cls:=.type "tuple", data:=.seq vs n }
theorem PlT.isTuple{h:Heap}{a:Addr}{vs:Array Value}(x:PlT h a vs):h.IsTuple a vs:=by obtain⟨n,e⟩:=x;exact⟨_,e,rfl,n,rfl⟩
theorem PlT.at{h h':Heap}{a:Addr}{vs:Array Value}(x:PlT h a vs)(hk:∀ o,h.get? a=some o→h'.get? a=some o):PlT h' a vs:=by obtain⟨n,e⟩:=x;exact⟨n,hk _ e⟩
section
variable (O:Program) (w:World)
inductive Rep(h:Heap)(av:Addr→Prop):Value→PyData→Prop where
 |none:Rep h av .none .none
 |bool (b:Bool):Rep h av (.bool b) (.bool b)
 |int (i:Int) (t:Tok):Rep h av (.int i t) (.int i)
 |str (x:Str) (t:Tok):x.length≤sizeLine→Rep h av (.str x t) (.str x)
 |list {a:Addr} {vs:List Value} {ds:List PyData}:¬ av a→h.PlainList a vs.toArray→vs.length=ds.length→vs.length≤sizeLine →
   (∀ (i:Nat) (v:Value) (d:PyData),vs[i]?=some v→ds[i]?=some d→Rep h av v d)→Rep h av (.ref a) (.list ds)
 |tuple {a:Addr} {vs:List Value} {ds:List PyData}:¬ av a→PlT h a vs.toArray→vs.length=ds.length→vs.length≤sizeLine →
   (∀ (i:Nat) (v:Value) (d:PyData),vs[i]?=some v→ds[i]?=some d→Rep h av v d)→Rep h av (.ref a) (.tuple ds)
 |dict {a:Addr} {kvs:List (Str×Value)} {ds:List (PyData×PyData)}:¬ av a→h.DictOf (strKind O w) a kvs→(kvs.length≤sizeLine∧∀ kv∈kvs,kv.1.length≤sizeLine)→(a==sysModules)=false →
   ds.map (·.1)=kvs.map (fun kv=>PyData.str kv.1)→(∀ (i:Nat) (kv:Str×Value) (d:PyData×PyData),kvs[i]?=some kv→ds[i]?=some d→Rep h av kv.2 d.2) →
   Rep h av (.ref a) (.dict ds)
variable {O w}
theorem Rep.mono{h h':Heap}{av av':Addr→Prop}(hk:∀ b o,¬ av b→h.get? b=some o→h'.get? b=some o)(ha:∀ b o,h.get? b=some o→av' b→av b){v:Value}{d:PyData}(r:Rep O w h av v d) :
  Rep O w h' av' v d:=by
 induction r with
 |none=>exact .none
 |bool b=>exact .bool b
 |int i t=>exact .int i t
 |str x t hx=>exact .str x t hx
 |list h1 h2 h3 h4 _ ih=>exact .list (fun x=>h1 (by obtain⟨_,e⟩:=h2;exact ha _ _ e x)) (h2.at fun o e=>hk _ o h1 e) h3 h4 ih
 |tuple h1 h2 h3 h4 _ ih=>exact .tuple (fun x=>h1 (by obtain⟨_,e⟩:=h2;exact ha _ _ e x)) (h2.at fun o e=>hk _ o h1 e) h3 h4 ih
 |dict h1 h2 h3 h4 h5 _ ih =>
  obtain⟨o,es,ep,e,r⟩:=h2;exact .dict (fun x=>h1 (ha _ _ e x)) ⟨o,es,ep,hk _ o h1 e,r⟩ h3 h4 h5 ih
theorem Rep.keeps{h h':Heap}{av:Addr→Prop}(hk:∀ b o,h.get? b=some o→h'.get? b=some o){v:Value}{d:PyData}(r:Rep O w h av v d):Rep O w h' av v d :=
 r.mono (fun b o _ e=>hk b o e) fun _ _ _ x=>x
variable (O w)
inductive BodyL(h:Heap)(av:Addr→Prop)(a:Addr)(ds:List PyData):Prop where
 |mk (vs:List Value) (p:h.PlainList a vs.toArray) (l:vs.length=ds.length) (z:vs.length≤sizeLine) (r:∀ (i:Nat) (v:Value) (d:PyData),vs[i]?=some v→ds[i]?=some d→Rep O w h av v d):BodyL h av a ds
inductive BodyD(h:Heap)(av:Addr→Prop)(a:Addr)(ds:List (PyData×PyData)):Prop where
 |mk (kvs:List (Str×Value)) (p:h.DictOf (strKind O w) a kvs) (z:kvs.length≤sizeLine∧∀ kv∈kvs,kv.1.length≤sizeLine) (m:(a==sysModules)=false) (l:ds.map (·.1)=kvs.map (fun kv=>PyData.str kv.1))
  (r:∀ (i:Nat) (kv:Str×Value) (d:PyData×PyData),kvs[i]?=some kv→ds[i]?=some d→Rep O w h av kv.2 d.2):BodyD h av a ds
def bM(h:Heap)(av:Addr→Prop)(a:Addr):PyData→Prop
 | .list ds=>BodyL O w h av a ds
 | .dict ds=>BodyD O w h av a ds
 |_=>False
variable {O w}
theorem bM.mono{h h':Heap}{av av':Addr→Prop}{a:Addr}(hk:∀ b o,¬ av b→h.get? b=some o→h'.get? b=some o)(ha:∀ b o,h.get? b=some o→av' b→av b)(hs:∀ o,h.get? a=some o→h'.get? a=some o)
  {d:PyData} (r:bM O w h av a d):bM O w h' av' a d:=by
 cases d with
 |list ds=>obtain⟨vs,h1,h2,h3,h4⟩:=r;exact⟨vs,h1.at hs,h2,h3,fun i v d e1 e2=>(h4 i v d e1 e2).mono hk ha⟩
 |dict ds =>
  obtain⟨kvs,⟨o,es,ep,e,r⟩,h2,h3,h4,h5⟩:=r;exact⟨kvs,⟨o,es,ep,hs _ e,r⟩,h2,h3,h4,fun i v d e1 e2=>(h5 i v d e1 e2).mono hk ha⟩
 |_=>exact r.elim
theorem bM.rep{h:Heap}{av:Addr→Prop}{a:Addr}{d:PyData}(ha:¬ av a)(r:bM O w h av a d):Rep O w h av (.ref a) d:=by
 cases d with
 |list ds=>obtain⟨vs,h1,h2,h3,h4⟩:=r;exact .list ha h1 h2 h3 h4
 |dict ds=>obtain⟨kvs,h1,h2,h3,h4,h5⟩:=r;exact .dict ha h1 h2 h3 h4 h5
 |_=>exact r.elim
variable (O w)
def Own(s:Shared)(h:Heap)(av:Addr→Prop)(v:Value)(d:PyData):Prop :=
 ∃ a,v=.ref a∧s.heap.get? a=none∧bM O w h (fun b=>av b∨b=a) a d
def bF(s:Shared)(h:Heap)(av:Addr→Prop)(v:Value):V→Prop
 | .fz d=>Rep O w h av v d
 | .own d=>Own O w s h av v d
 | .ex _=>False
 | .pil _=>False
variable {O w}
theorem Own.rep{s:Shared}{h:Heap}{av:Addr→Prop}{v:Value}{d:PyData}(hlt:∀ b,av b→∃ o,s.heap.get? b=some o)(r:Own O w s h av v d):Rep O w h av v d:=by
 obtain⟨a,rfl,ha,r⟩:=r;exact bM.rep (fun x=>by obtain⟨o,e⟩:=hlt _ x;rw[ha] at e;exact ns e) (r.mono (fun _ _ x e=>e) (fun _ _ _ x=>.inl x) fun _ e=>e)
theorem bF.rep{s:Shared}{h:Heap}{av:Addr→Prop}{v:Value}{u:V}(hlt:∀ b,av b→∃ o,s.heap.get? b=some o)(r:bF O w s h av v u):Rep O w h av v (dOf u):=by
 cases u with
 |fz d'=>exact r
 |own d'=>exact Own.rep hlt r
 |ex x=>exact r.elim
 |pil l=>exact r.elim
def Kp(s s':Shared):Prop:=Keeps s s'
theorem Kp.rfl'(s:Shared):Kp s s:=⟨s.heap,s.toks,rfl,fun _ _ e=>e⟩
theorem Kp.tr{s s' s'':Shared}(x:Kp s s')(y:Kp s' s''):Kp s s'':=by
 obtain⟨h,t,rfl,k⟩:=x;obtain⟨h',t',rfl,k'⟩:=y;exact⟨h',t',rfl,fun b o e=>k' b o (k b o e)⟩
theorem Kp.heap{s s':Shared}(x:Kp s s'):∀ b o,s.heap.get? b=some o→s'.heap.get? b=some o:=by
 obtain⟨h,t,rfl,k⟩:=x;exact k
theorem Kp.tok'(s:Shared)(t:Nat):Kp s { s with toks:=t }:=⟨s.heap,t,rfl,fun _ _ e=>e⟩
theorem Kp.push'(s:Shared)(o:Obj):Kp s { s with heap:=s.heap.push o }:=⟨s.heap.push o,s.toks,rfl,fun _ _ e=>af o e⟩
end
abbrev WP(γ:Type):=(γ→Shared→Prop)→(Value→Shared→Prop)→Prop
def Yd{γ β:Type}(W:WP γ)(R:γ→Shared→β→Prop):P β→Prop
 | .no=>True
 | .ok b=>∀ Q E,(∀ v s',R v s' b→Q v s')→W Q E
theorem Yd.pureBind{γ β β':Type}{W:WP γ}{R:γ→Shared→β'→Prop}{p:P β}{f:β→P β'}(k:∀ b,p=.ok b→Yd W R (f b)):Yd W R (p.bind f):=by
 cases p with
 |no=>exact trivial
 |ok b=>exact k b rfl
theorem Yd.optBind{γ β β':Type}{W:WP γ}{R:γ→Shared→β'→Prop}{p:Option β}{f:β→P β'}(k:∀ b,p=some b→Yd W R (f b)):Yd W R ((ofO p).bind f):=by
 cases p with
 |none=>exact trivial
 |some b=>exact k b rfl
theorem Yd.ite{γ β:Type}{W:WP γ}{R:γ→Shared→β→Prop}{c:Prop}[Decidable c]{p:P β}(k:c→Yd W R p):Yd W R (if c then p else .no):=by
 by_cases h:c
 ·rw[if_pos h];exact k h
 ·rw[if_neg h];exact trivial
theorem Yd.ite2{γ β:Type}{W:WP γ}{R:γ→Shared→β→Prop}{c:Prop}[Decidable c]{p q:P β}(k:c→Yd W R p)(k':¬ c→Yd W R q):Yd W R (if c then p else q):=by
 by_cases h:c
 ·rw[if_pos h];exact k h
 ·rw[if_neg h];exact k' h
def frs(l:List Env)(b:Addr):Prop:=b∈l.filterMap (·.frame)
inductive K(l:List Env)(s s':Shared):Prop where
 |mk (h:Heap) (t:Nat) (e:s'={ s with heap:=h,toks:=t }) (k:∀ b o,¬ frs l b→s.heap.get? b=some o→h.get? b=some o) (u:∀ b o,s.heap.get? b=some o→∃ sl,h.get? b=some { o with slots:=sl }):K l s s'
theorem K.of{l:List Env}{s s':Shared}(x:Kp s s'):K l s s':=by
 obtain⟨h,t,rfl,k⟩:=x;exact⟨h,t,rfl,fun b o _ e=>k b o e,fun b o e=>⟨o.slots,k b o e⟩⟩
theorem K.rf(l:List Env)(s:Shared):K l s s:=K.of (Kp.rfl' s)
theorem K.tr{l:List Env}{s s' s'':Shared}(x:K l s s')(y:K l s' s''):K l s s'':=by
 obtain⟨h,t,rfl,k,u⟩:=x;obtain⟨h',t',rfl,k',u'⟩:=y;exact⟨h',t',rfl,fun b o n e=>k' b o n (k b o n e),fun b o e=>by obtain⟨_,e1⟩:=u b o e;exact by obtain⟨sl,e2⟩:=u' b _ e1;exact⟨sl,e2⟩⟩
theorem K.trp{l:List Env}{s s' s'':Shared}(x:K l s s')(y:Kp s' s''):K l s s'':=x.tr (K.of y)
theorem K.at{l:List Env}{s s':Shared}(x:K l s s'){b:Addr}{o:Obj}(n:¬ frs l b)(e:s.heap.get? b=some o):s'.heap.get? b=some o:=by
 obtain⟨h,t,rfl,k,u⟩:=x;exact k b o n e
theorem K.up{l:List Env}{s s':Shared}(x:K l s s'){b:Addr}{o:Obj}(e:s.heap.get? b=some o):∃ sl,s'.heap.get? b=some { o with slots:=sl }:=by
 obtain⟨h,t,rfl,k,u⟩:=x;exact u b o e
theorem K.upTo{l:List Env}{s s':Shared}(x:K l s s'):s.heap.UpToSlots s'.heap:=fun _ _ e _=>x.up e
theorem K.non{l:List Env}{s s':Shared}(x:K l s s'){b:Addr}(e:s'.heap.get? b=none):s.heap.get? b=none:=by
 refine ocs (s.heap.get? b) (fun h=>?_) fun o h=>?_
 ·try rewrite[h]
  rfl
 ·obtain⟨sl,e'⟩:=x.up h;rw[e] at e';cases e'
def Fin{α β:Type}(r:R α)(k:α→R β)(fin:R β):Prop:=rb r k=fin∧fin≠.no
theorem sG{α β γ:Type}(p:R α)(f:α→R β)(g:β→R γ):rb (rb p f) g=rb p fun a=>rb (f a) g:=by cases p<;>rfl
theorem Fin.b{α β γ:Type}{r:R α}{f:α→R γ}{k:γ→R β}{fin:R β}(h:Fin (rb r f) k fin):Fin r (fun a=>rb (f a) k) fin:=⟨(sG r f k)▸h.1,h.2⟩
theorem Fin.unb{α β γ:Type}{r:R α}{f:α→R γ}{k:γ→R β}{fin:R β}(h:Fin r (fun a=>rb (f a) k) fin):Fin (rb r f) k fin:=⟨(sG r f k).symm▸h.1,h.2⟩
theorem Fin.no{α β:Type}{k:α→R β}{fin:R β}(h:Fin (.no:R α) k fin):False:=h.2 h.1.symm
theorem Fin.ne{α β:Type}{r:R α}{k:α→R β}{fin:R β}(h:Fin r k fin):r≠.no:=fun e=>by subst e;exact h.no
theorem Fin.ok{α β:Type}{a:α}{k:α→R β}{fin:R β}(h:Fin (.ok a) k fin):k a=fin:=h.1
theorem Fin.p{α β:Type}{p:P α}{k:α→R β}{fin:R β}(h:Fin (ofP p) k fin):∃ a,p=.ok a∧k a=fin:=by
 cases p with
 |no=>exact h.no.elim
 |ok a=>exact⟨a,rfl,h.1⟩
theorem Fin.ite{α β:Type}{c:Prop}[Decidable c]{r:R α}{k:α→R β}{fin:R β}(h:Fin (if c then r else .no) k fin):c∧Fin r k fin:=by
 by_cases hc:c
 ·rw[if_pos hc] at h;exact⟨hc,h⟩
 ·rw[if_neg hc] at h;exact h.no.elim
theorem Yd.fin{γ α β:Type}{W:WP γ}{C:γ→Shared→α→Prop}{p:P α}{k:α→R β}{fin:R β}{Q:γ→Shared→Prop}{E:Value→Shared→Prop}(h:Yd W C p)(hf:Fin (ofP p) k fin)(hq:∀ v s' a,C v s' a→k a=fin→Q v s'):W Q E:=by
 obtain⟨a,rfl,e⟩:=hf.p;exact h Q E fun v s' c=>hq v s' a c e
noncomputable def fX(o:Obj):Option Value:=match o.data with | .fields vs=>vs[2]? | _=>none
inductive Hd(A:Around)(h:Heap):Prop where
 |non (e:A.handled=none):Hd A h
 |one (e:Addr) (o:Obj) (h0:A.handled=some (.ref e)) (h1:h.get? e=some o) (h2:fX o=some .none):Hd A h
noncomputable def hdl(A:Around):List Addr:=match A.handled with | some (.ref e)=>[e] | _=>[]
theorem Hd.on{A:Around}{h h':Heap}(x:Hd A h)(k:∀ b∈hdl A,∀ o,h.get? b=some o→h'.get? b=some o):Hd A h':=by
 cases x with
 |non e=>exact .non e
 |one e o h0 h1 h2=>exact .one e o h0 (k e (by unfold hdl;rw[h0];exact List.mem_singleton_self e) o h1) h2
theorem Hd.in1{A:Around}{h:Heap}(x:Hd A h):Hd A.in1 h:=by
 cases x with
 |non e=>exact .non e
 |one e o h0 h1 h2=>exact .one e o h0 h1 h2
theorem Hd.live{A:Around}{h:Heap}(x:Hd A h):∀ b∈hdl A,∃ o,h.get? b=some o∧fX o=some .none:=by
 intro b hb;unfold hdl at hb;cases x with
 |non e=>rw[e] at hb;cases hb
 |one e o h0 h1 h2=>rw[h0] at hb;exact List.mem_singleton.mp hb▸⟨o,h1,h2⟩
theorem sH{o:Obj}{v:Value}(h:fX o=some v):∃ vs,o.data=.fields vs∧vs[2]?=some v:=by
 unfold fX at h;cases e:o.data with
 |fields vs=>simp only[e] at h;exact⟨vs,rfl,h⟩
 |_=>simp only[e] at h;cases h
section
variable (O:Program) (w:World) (mg mb:Str→Option Value) (base:Heap)
noncomputable def sI:List (Str×Value):=[("isinstance", .builtin "isinstance"),("len", .builtin "len"),("all", .builtin "all"),("sorted", .builtin "sorted"),("abs", .builtin "abs"),("min", .builtin "min"),("repr", .builtin "repr"),("list", .type "list"),("tuple", .type "tuple"),("dict", .type "dict"),("set", .type "set"),("int", .type "int"),("str", .type "str"),("bool", .type "bool"),("range", .type "range"),("enumerate", .type "enumerate"),("reversed", .type "reversed")]
noncomputable def jG(x:Str):Option Value:=sI.lookup x
inductive FldsA(h:Heap)(av:Addr→Prop)(od:Option Addr)(fs:List (Str×PyData)):Prop where
 |mk (d:Addr) (m:Str→Option Value) (e:od=some d) (n:¬ av d) (hn:h.Ns d m) (r:∀ p x,(p,x)∈fs→∃ v,m p=some v∧Rep O w h av v x):FldsA h av od fs
def fY(h:Heap)(av:Addr→Prop)(od:Option Addr)(fs:List (Str×PyData)):Prop:=fs=[]∨FldsA O w h av od fs
inductive ExAt(h:Heap)(av:Addr→Prop)(e:Addr)(x:X):Prop where
 |mk (na:¬ av e) (o:Obj) (vs:Array Value) (C:Addr) (he:h.get? e=some o) (hd:o.data=.fields vs) (hc:o.cls=.ref C) (hm:mg x.cls=some (.ref C)) (hx:fY O w h av o.dict x.fields) (h2:fX o=some .none):ExAt h av e x
inductive PilAt(l:List Env)(h:Heap)(av:Addr→Prop)(v:Value)(ds:List PyData):Prop where
 |mk (a:Addr) (bs:List Addr) (e:v=.ref a) (na:¬ frs l a) (p:h.PlainList a (bs.map Value.ref).toArray) (hl:bs.length=ds.length) (z:bs.length≤sizeLine) (nd:bs.Nodup) (nab:a∉bs) (nf:∀ b∈bs,¬ frs l b)
  (r:∀ (i:Nat) (b:Addr) (d:PyData),bs[i]?=some b→ds[i]?=some d→bM O w h av b d):PilAt l h av v ds
def b9(l:List Env)(h:Heap)(av:Addr→Prop)(v:Value):V→Prop
 | .fz d=>Rep O w h av v d
 | .own d=>∃ a,v=.ref a∧¬ frs l a∧bM O w h av a d
 | .ex x=>∃ e,v=.ref e∧ExAt O w mg h av e x
 | .pil ds=>PilAt O w l h av v ds
inductive MadeF(s s':Shared)(dx:Option Addr)(ps:List Str)(vals:List Value):Prop where
 |mk (d:Addr) (m:Str→Option Value) (e:dx=some d) (n:s.heap.get? d=none) (hn:s'.heap.Ns d m) (r:∀ (i:Nat) p v,ps[i]?=some p→vals[i]?=some v→m p=some v):MadeF s s' dx ps vals
inductive MadeAt(s:Shared)(C:Addr)(ini:Option (List Str))(vals:List Value)(v:Value)(s':Shared):Prop where
 |mk (k:Kp s s') (e:Addr) (dx:Option Addr) (t:Addr) (ve:v=.ref e) (n:s.heap.get? e=none) (he:s'.heap.get? e=some { cls:=.ref C,dict:=dx,data:=.fields #[.ref t,.none,.none,.none,.bool false,.none] })
  (f:∀ ps,ini=some ps→ps=[]∨MadeF s s' dx ps vals):MadeAt s C ini vals v s'
def zJ(ini:Option (List Str))(n:Nat):Prop :=
 match ini with
 |some ps=>ps.length=n
 |none=>n=1
inductive ClsObj(base:Heap)(C:Addr)(bm:List Value):Prop where
 |mk (nm q N bs hdct sn sub ab col dd k0 k1 k2 k3 k5 newId) (h:base.get? C=some (excClassObj nm q C N bs bm hdct sn sub ab col dd k0 k1 k2 k3 k5 newId)):ClsObj base C bm
structure ClsOk(C:Addr)(bm:List Value)(ini:Option (List Str)):Prop where
 obj:ClsObj base C bm
 exc:bm.contains (.type "BaseException")=true
 val:bm.contains (.type "ValueError")=true
 make:∀ (A:Around) (vals:List Value) (s:Shared) (E Q:Value→Shared→Prop),A.depth+1 < recursionLimit→(∀ b o,base.get? b=some o→s.heap.get? b=some o)→zJ ini vals.length→(∀ v s',MadeAt s C ini vals v s'→Q v s')→wpAny (model O w) A (call (.ref C) vals) Q E s
 fld:∀ ps,ini=some ps→∀ p∈ps,∀ (A:Around) (s:Shared) (e dx:Addr) (o:Obj) (vs:Array Value) (m:Str→Option Value) (v:Value) (E Q:Value→Shared→Prop),(∀ b o,base.get? b=some o→s.heap.get? b=some o)→s.heap.get? e=some o→o.cls=.ref C→o.data=.fields vs→o.dict=some dx→s.heap.Ns dx m→m p=some v→handedOut v=pure v→(∀ tk,Q v { s with toks:=tk })→wpAny (model O w) A (getAttr (.ref e) p true) Q E s
structure Glo:Prop where
 g:base.Ns mainGlobals mg
 b:base.Ns builtinsNs mb
 nolimit:base.NoLimit
 mods:∃ mm,base.Ns sysModules mm
 fn:∀ f a b sc,dY f O.main.body=some (a,b,sc)→∃ ad o pm cd doc,mg f=some (.ref ad)∧base.get? ad=some o∧o.data=.func (Calls.docDef f a b sc pm cd doc)∧base.CodeRec cd f
 const:∀ x d,iB O.main.body x=some d→∃ v,mg x=some v∧∀ h' av,Rep O w h' av v d
 blt:∀ x v,jG x=some v→mg x=none∧mb x=some v
 cls:∀ c p,bK c O.main.body=some p→∃ C bm,mg c=some (.ref C)∧ClsOk O w base C bm p.2∧∀ d q D,bK d O.main.body=some q→mg d=some (.ref D)→(Value.ref C::bm).contains (.ref D)=jD O.main.body 4 c d
structure Room(n:Nat)(hd:Bool)(l:List Env)(A:Around):Prop where
 held:Hd A base
 depth:A.depth+n+1 < recursionLimit
 units:A.units+16*n+300 < cLine
 handled:hd=false→A.handled=none
 guards:A.guards=some []
 frames:A.frames=some l
def bB(env:Env)(h:Heap)(x:Str)(u:Value):Prop :=
 (env.kindOf x=some .local∧∃ m,h.Ns env.locals m∧m x=some u) ∨
 ((env.kindOf x=some .cell∨env.kindOf x=some .free)∧∃ c,env.cells.lookup x=some c∧h.IsCell c (some u))
structure Gnd(l:List Env)(av:Addr→Prop)(s:Shared):Prop where
 glo:Glo O w mg mb base
 stay:∀ b o,base.get? b=some o→s.heap.get? b=some o
 ff:s.heap.FunFrames base l
 fav:∀ b,frs l b→av b
 avlt:∀ b,av b→∃ o,s.heap.get? b=some o
 avS:av sysModules
 avB:∀ b o,av b→base.get? b=some o→b=sysModules
structure Inv0(l:List Env)(env:Env)(sc:Scope)(σ:aA)(av:Addr→Prop)(s:Shared):Prop where
 gnd:Gnd O w mg mb base l av s
 kind:env.scope.kind=.function
 eg:env.globals=mainGlobals
 eb:env.builtins=builtinsNs
 dbg:sc.names.lookup (Str.ofString "__debug__")=none
 cld:sc.names.lookup (Str.ofString "__classdict__")=none
 glob:∀ x,isG sc x=true→env.kindOf x=some .globalImplicit
 kinds:∀ x,nK (sc.names.lookup x)=true→nK (env.kindOf x)=true∧∃ c,env.cells.lookup x=some c
 get:∀ x v,isL sc x=true→aA.get σ x=some (some v)→∃ u,bB env s.heap x u∧b9 O w mg l s.heap av u v
inductive Tb(s:Shared)(h:Heap)(e:Addr)(fl:Value):Prop where
 |mk (oe vs T oT ts) (a:h.get? e=some oe) (b:oe.data=.fields vs) (c:vs[1]?=some (.ref T)) (d:s.heap.get? T=none) (f:T≠e) (g:h.get? T=some oT) (i:oT.data=.fields ts) (j:ts[3]?=some fl):Tb s h e fl
inductive Fly(l:List Env)(s:Shared)(av:Addr→Prop)(x:X)(v:Value)(s':Shared):Prop where
 |mk (k:K l s s') (e:Addr) (a:v=.ref e) (b:s.heap.get? e=none) (c:ExAt O w mg s'.heap av e x) (d:Tb s s'.heap e .none):Fly l s av x v s'
def QH{β:Type}(l:List Env)(s:Shared)(av:Addr→Prop)(k:V→R β)(fin:R β)(Q:Value→Shared→Prop):Prop :=
 ∀ v s' u,K l s s'→bF O w s s'.heap av v u→k u=fin→Q v s'
def EH{β:Type}(l:List Env)(s:Shared)(av:Addr→Prop)(fin:R β)(E:Value→Shared→Prop):Prop :=
 ∀ x v s',fin=.exc x→Fly O w mg l s av x v s'→E v s'
def aH(n:Nat)(hd:Bool)(l:List Env)(sc:Scope)(σ:aA)(e:Expr)(r:R V):Prop :=
 ∀ (A:Around) (env:Env) (s:Shared) (av:Addr→Prop),Room base n hd l A→Inv0 O w mg mb base l env sc σ av s →
  ∀ {β:Type} {k:V→R β} {fin:R β} {Q:Value→Shared→Prop} {E:Value→Shared→Prop},Fin r k fin→QH O w l s av k fin Q→EH O w mg l s av fin E→wpAny (model O w) A (eval e env) Q E s
variable {O w mg mb base}
theorem Rep.k{l:List Env}{s s':Shared}{av:Addr→Prop}(fav:∀ b,frs l b→av b)(k:K l s s'){v:Value}{d:PyData}(r:Rep O w s.heap av v d):Rep O w s'.heap av v d :=
 r.mono (fun _ _ n e=>k.at (fun f=>n (fav _ f)) e) fun _ _ _ x=>x
theorem bM.k{l:List Env}{s s':Shared}{av:Addr→Prop}(fav:∀ b,frs l b→av b)(k:K l s s'){a:Addr}{d:PyData}(n:¬ frs l a)(r:bM O w s.heap av a d):bM O w s'.heap av a d :=
 r.mono (fun _ _ n e=>k.at (fun f=>n (fav _ f)) e) (fun _ _ _ x=>x) fun _ e=>k.at n e
theorem fY.mono{h h':Heap}{av av':Addr→Prop}(hk:∀ b o,¬ av b→h.get? b=some o→h'.get? b=some o)(ha:∀ b o,h.get? b=some o→av' b→av b){od:Option Addr}{fs:List (Str×PyData)}(r:fY O w h av od fs):fY O w h' av' od fs:=by
 rcases r with r | ⟨d,m,e,n,hn,r⟩
 ·exact .inl r
 ·obtain⟨o,es,ep,ho,hr⟩:=hn;refine .inr ⟨d,m,e,fun x=>n (ha _ _ ho x),⟨o,es,ep,hk _ _ n ho,hr⟩,fun p x hp=>?_⟩;obtain⟨v,e1,e2⟩:=r p x hp;exact⟨v,e1,e2.mono hk ha⟩
theorem ExAt.mono{h h':Heap}{av av':Addr→Prop}(hk:∀ b o,¬ av b→h.get? b=some o→h'.get? b=some o)(ha:∀ b o,h.get? b=some o→av' b→av b){e:Addr}{x:X}(r:ExAt O w mg h av e x):ExAt O w mg h' av' e x:=by
 obtain⟨h1,o,vs,C,h2,h3,h4,h5,h6,h7⟩:=r;exact⟨fun x=>h1 (ha _ _ h2 x),o,vs,C,hk _ _ h1 h2,h3,h4,h5,h6.mono hk ha,h7⟩
theorem b9.k{l:List Env}{s s':Shared}{av:Addr→Prop}(fav:∀ b,frs l b→av b)(k:K l s s'){v:Value}{u:V}(r:b9 O w mg l s.heap av v u):b9 O w mg l s'.heap av v u:=by
 cases u with
 |fz d=>exact Rep.k fav k r
 |own d=>obtain⟨a,e,n,r⟩:=r;exact⟨a,e,n,r.k fav k n⟩
 |ex x=>obtain⟨e,h,r⟩:=r;exact⟨e,h,r.mono (fun _ _ n e=>k.at (fun f=>n (fav _ f)) e) fun _ _ _ x=>x⟩
 |pil ds=>obtain⟨a,bs,e,na,p,hl,z,nd,nab,nf,r⟩:=r;exact⟨a,bs,e,na,p.at fun _ e=>k.at na e,hl,z,nd,nab,nf,fun i b d e1 e2=>(r i b d e1 e2).k fav k (nf b (cc e1))⟩
theorem bB.k{l:List Env}{s s':Shared}(k:K l s s'){env:Env}{x:Str}{u:Value}(v:bB env s.heap x u):bB env s'.heap x u:=by
 rcases v with ⟨h1,m,hn,e⟩ | ⟨h1,c,e,o,hc⟩
 ·exact .inl ⟨h1,m,k.upTo.ns hn,e⟩
 ·exact .inr ⟨h1,c,e,by obtain⟨sl,e⟩:=k.up hc.1;exact⟨_,e,hc.2⟩⟩
theorem Gnd.k{l:List Env}{s s':Shared}{av:Addr→Prop}(I:Gnd O w mg mb base l av s)(k:K l s s'):Gnd O w mg mb base l av s' where
 glo:=I.glo
 avB:=I.avB
 stay:=fun b o e=>k.at (fun f=>by rw[(I.ff.mem f).1] at e;exact ns e) (I.stay b o e)
 ff:=I.ff.of_keeps fun b o e _=>by obtain⟨_,e'⟩:=k.up e;exact⟨_,e',rfl⟩
 fav:=I.fav
 avlt:=fun b hb=>by obtain⟨_,e⟩:=I.avlt b hb;exact by obtain⟨_,e'⟩:=k.up e;exact⟨_,e'⟩
 avS:=I.avS
theorem Inv0.k{l:List Env}{env:Env}{sc:Scope}{σ:aA}{av:Addr→Prop}{s s':Shared}(I:Inv0 O w mg mb base l env sc σ av s)(k:K l s s'):Inv0 O w mg mb base l env sc σ av s' :=
 { I with gnd:=I.gnd.k k,get:=fun x v hl e=>by obtain⟨u,h1,h2⟩:=I.get x v hl e;exact⟨u,h1.k k,h2.k I.gnd.fav k⟩ }
theorem bF.back{l:List Env}{s s':Shared}{h:Heap}{av:Addr→Prop}{v:Value}{u:V}(k:K l s s')(r:bF O w s' h av v u):bF O w s h av v u:=by
 cases u with
 |fz d=>exact r
 |own d=>obtain⟨a,e,hn,r⟩:=r;exact⟨a,e,k.non hn,r⟩
 |ex x=>exact r
 |pil l=>exact r
theorem Own.backp{s s':Shared}{h:Heap}{av:Addr→Prop}{v:Value}{d:PyData}(k:Kp s s')(r:Own O w s' h av v d):Own O w s h av v d :=
 by obtain⟨a,e,hn,r⟩:=r;exact⟨a,e,(K.of (l:=[]) k).non hn,r⟩
theorem Fly.back{l:List Env}{s s' s'':Shared}{av:Addr→Prop}{x:X}{v:Value}(k:K l s s')(f:Fly O w mg l s' av x v s''):Fly O w mg l s av x v s'':=by
 obtain⟨k',e,h1,h2,h3,oe,vs,T,oT,ts,g1,g2,g3,g4,g5,g6,g7,g8⟩:=f;exact⟨k.tr k',e,h1,k.non h2,h3,oe,vs,T,oT,ts,g1,g2,g3,k.non g4,g5,g6,g7,g8⟩
theorem EH.back{β:Type}{l:List Env}{s s':Shared}{av:Addr→Prop}{fin:R β}{E:Value→Shared→Prop}(h:EH O w mg l s av fin E)(k:K l s s'):EH O w mg l s' av fin E :=
 fun x v s'' e f=>h x v s'' e (f.back k)
theorem QH.step{β:Type}{l:List Env}{s s' s'':Shared}{av:Addr→Prop}{k:V→R β}{fin:R β}{Q:Value→Shared→Prop}(h:QH O w l s av k fin Q)(kk:K l s s'){v:Value}{u:V}(r:Kp s' s''∧bF O w s' s''.heap av v u)(e:k u=fin):Q v s'' :=
 h v s'' u (kk.trp r.1) (r.2.back kk) e
theorem QH.back{β:Type}{l:List Env}{s s':Shared}{av:Addr→Prop}{k:V→R β}{fin:R β}{Q:Value→Shared→Prop}(h:QH O w l s av k fin Q)(kk:K l s s'):QH O w l s' av k fin Q :=
 fun v s'' u k' r e=>h v s'' u (kk.tr k') (r.back kk) e
theorem Room.hdd{n:Nat}{hd:Bool}{l:List Env}{A:Around}{av:Addr→Prop}{s:Shared}(h:Room base n hd l A)(G:Gnd O w mg mb base l av s):Hd A s.heap∧∀ b∈hdl A,¬ av b:=by
 refine⟨h.held.on fun b _ o e=>G.stay b o e,fun b hb ha=>?_⟩;obtain⟨o,e,hc⟩:=h.held.live b hb;obtain⟨vs,h1,_⟩:=sH hc;obtain⟨mm,o',es,ep,e',h2⟩:=G.glo.mods;obtain rfl:=G.avB b o ha e;rw[e] at e';obtain rfl:=si e';rw[h1] at h2;exact nomatch h2.1
theorem Room.h0{n:Nat}{l:List Env}{A:Around}(h:Room base n false l A):A.handled=none:=h.handled rfl
theorem Room.units80{n:Nat}{hd:Bool}{l:List Env}{A:Around}(h:Room base n hd l A):A.units+70 < cLine:=by have:=h.units;exact ax0 this
theorem sJ{l:List Env}{env:Env}{sc:Scope}{σ:aA}{av:Addr→Prop}{s:Shared}(I:Inv0 O w mg mb base l env sc σ av s){x:Str}(h:isL sc x=true∨isG sc x=true):(x==("__debug__" : Str))=false:=by
 refine bcs (x==("__debug__" : Str)) (fun hx=>?_) fun hx=>?_
 ·try rewrite[hx]
  rfl
 ·have e:x=Str.ofString "__debug__" := eq_of_beq hx;subst e;rcases h with h | h
  ·simp only[isL,I.dbg] at h;exact bft h
  ·simp only[isG,I.dbg] at h;exact bft h
theorem K5{l:List Env}{env:Env}{sc:Scope}{σ:aA}{av:Addr→Prop}{s:Shared}(I:Inv0 O w mg mb base l env sc σ av s){x:Str}(h:isL sc x=true):(x==("__classdict__" : Str))=false:=by
 refine bcs (x==("__classdict__" : Str)) (fun hx=>?_) fun hx=>?_
 ·try rewrite[hx]
  rfl
 ·have e:x=Str.ofString "__classdict__" := eq_of_beq hx;subst e;simp only[isL,I.cld] at h;exact bft h
theorem fZ{l:List Env}{A:Around}{env:Env}{sc:Scope}{σ:aA}{av:Addr→Prop}{s:Shared}{x:Str}{u:Value}{Q:Value→Shared→Prop}{E:Value→Shared→Prop}{pos:Pos}(I:Inv0 O w mg mb base l env sc σ av s)(hl:isL sc x=true)
  (v:bB env s.heap x u) (h:Q u s):wpAny (model O w) A (eval (.Name x pos) env) Q E s:=by
 refine wpAny_Name ?_ (sJ I (.inl hl));rcases v with ⟨k,m,hn,e⟩ | ⟨k | k,c,e,hc⟩
 ·exact wpAny_loadName_local I.kind k hn e h
 ·exact wpAny_loadName_cell I.kind k e hc h
 ·exact wpAny_loadName_free I.kind k e hc h (K5 I hl)
theorem Gnd.g{l:List Env}{av:Addr→Prop}{s:Shared}(G:Gnd O w mg mb base l av s):s.heap.Ns mainGlobals mg:=G.glo.g.keeps G.stay
theorem oF{l:List Env}{A:Around}{env:Env}{sc:Scope}{σ:aA}{av:Addr→Prop}{s:Shared}{x:Str}{u:Value}{Q:Value→Shared→Prop}{E:Value→Shared→Prop}{pos:Pos}(I:Inv0 O w mg mb base l env sc σ av s)(hg:isG sc x=true)
  (v:mg x=some u) (h:Q u s):wpAny (model O w) A (eval (.Name x pos) env) Q E s :=
 Calls.Name_function_global I.kind (I.glob x hg) (Calls.loadGlobal_global (I.eg▸I.gnd.g) v h) (sJ I (.inr hg))
theorem eU{l:List Env}{A:Around}{env:Env}{sc:Scope}{σ:aA}{av:Addr→Prop}{s:Shared}{x:Str}{u:Value}{Q:Value→Shared→Prop}{E:Value→Shared→Prop}{pos:Pos}(I:Inv0 O w mg mb base l env sc σ av s)(hg:isG sc x=true)
  (v:jG x=some u) (h:Q u s):wpAny (model O w) A (eval (.Name x pos) env) Q E s :=
 Calls.Name_function_global I.kind (I.glob x hg) (Calls.loadGlobal_builtin (I.eg▸I.gnd.g) (I.gnd.glo.blt x u v).1 (I.eb▸I.gnd.glo.b.keeps I.gnd.stay) (I.gnd.glo.blt x u v).2 h) (sJ I (.inr hg))
theorem K6{n:Nat}{hd:Bool}{l:List Env}{C:Ctx}{sc:Scope}{σ:aA}{x:Str}{pos:Pos}(hc:C.const=iB O.main.body):aH O w mg mb base n hd l sc σ (.Name x pos) (ofP (rM C sc σ x)):=by
 intro A env s av hA I β k fin Q E hf hq he;obtain⟨u,e1,e2⟩:=hf.p;unfold rM at e1
 split at e1
 ·rename_i hl;refine ocs (aA.get σ x) (fun e=>?_) fun o e=>?_
  ·rw[e] at e1;exact pno e1
  ·rw[e] at e1;cases o with
   |none=>exact pno e1
   |some v =>
    cases v with
    |fz d =>
     obtain rfl:=pi e1;obtain⟨u,h1,h2⟩:=I.get _ _ hl e;exact fZ I hl h1 (hq _ _ (.fz d) (K.rf l s) h2 e2)
    |_=>exact pno e1
 ·split at e1
  ·rename_i hg;rw[hc] at e1;refine ocs (iB O.main.body x) (fun e=>?_) fun d e=>?_
   ·rw[e] at e1;exact pno e1
   ·rw[e] at e1;obtain rfl:=pi e1;obtain⟨v,h1,h2⟩:=I.gnd.glo.const _ _ e;exact oF I hg h1 (hq _ _ (.fz d) (K.rf l s) (h2 _ _) e2)
  ·exact pno e1
theorem K7{n:Nat}{hd:Bool}{l:List Env}{sc:Scope}{σ:aA}{c:Const}{k:Nat}{pos:Pos}:aH O w mg mb base n hd l sc σ (.Constant c k pos) (ofP (rN c)):=by
 intro A env s av hA I β k fin Q E hf hq he;have key:Yd (fun Q E=>wpAny (model O w) A (eval (.Constant c ‹_› pos) env) Q E s) (fun v s' u=>Kp s s'∧bF O w s s'.heap av v u) (rN c):=by
  cases c with
  |none=>exact fun Q E hq=>wpAny_Constant_none (hq _ _ ⟨Kp.rfl' s,.none⟩)
  |bool b=>exact fun Q E hq=>wpAny_Constant_bool (hq _ _ ⟨Kp.rfl' s,.bool b⟩)
  |int i=>exact fun Q E hq=>wpAny_Constant_int (hq _ _ ⟨Kp.tok' s _,.int i _⟩)
  |str x =>
   show Yd _ _ (mkS x);exact Yd.ite fun hx=>fun Q E hq=>wpAny_Constant_str (hq _ _ ⟨Kp.tok' s _,.str x _ hx⟩)
  |_=>exact trivial
 exact key.fin hf fun v s' u r e=>hq.step (K.rf l s) r e
end
section
variable {O:Program} {w:World}
theorem eV(x:Str)(t:Tok):(strKind O w).is x (.str x t)=true:=by
 show Value.isStrOf x (.str x t)=true;simp[Value.isStrOf]
theorem Rep.str_inv{h:Heap}{av:Addr→Prop}{v:Value}{x:Str}(r:Rep O w h av v (.str x)):∃ t,v=.str x t∧x.length≤sizeLine:=by
 cases r with
 |str _ t hx=>exact⟨t,rfl,hx⟩
theorem Rep.int_inv{h:Heap}{av:Addr→Prop}{v:Value}{i:Int}(r:Rep O w h av v (.int i)):∃ t,v=.int i t:=by
 cases r with
 |int _ t=>exact⟨t,rfl⟩
theorem Rep.bool_inv{h:Heap}{av:Addr→Prop}{v:Value}{b:Bool}(r:Rep O w h av v (.bool b)):v=.bool b:=by cases r;rfl
inductive ListI(O:Program)(w:World)(h:Heap)(av:Addr→Prop)(v:Value)(ds:List PyData):Prop where
 |mk (a:Addr) (vs:List Value) (e:v=.ref a) (n:¬ av a) (p:h.PlainList a (List.toArray vs)) (l:vs.length=ds.length) (z:vs.length≤sizeLine) (r:∀ (i:Nat) (v:Value) (d:PyData),vs[i]?=some v→ds[i]?=some d→Rep O w h av v d):ListI O w h av v ds
inductive TupI(O:Program)(w:World)(h:Heap)(av:Addr→Prop)(v:Value)(ds:List PyData):Prop where
 |mk (a:Addr) (vs:List Value) (e:v=.ref a) (n:¬ av a) (p:PlT h a (List.toArray vs)) (l:vs.length=ds.length) (z:vs.length≤sizeLine) (r:∀ (i:Nat) (v:Value) (d:PyData),vs[i]?=some v→ds[i]?=some d→Rep O w h av v d):TupI O w h av v ds
inductive DictI(O:Program)(w:World)(h:Heap)(av:Addr→Prop)(v:Value)(ds:List (PyData×PyData)):Prop where
 |mk (a:Addr) (kvs:List (Str×Value)) (e:v=.ref a) (n:¬ av a) (p:h.DictOf (strKind O w) a kvs) (z:kvs.length≤sizeLine∧∀ kv∈kvs,kv.1.length≤sizeLine) (m:(a==sysModules)=false)
  (l:ds.map (·.1)=kvs.map (fun kv=>PyData.str kv.1)) (r:∀ (i:Nat) (kv:Str×Value) (d:PyData×PyData),kvs[i]?=some kv→ds[i]?=some d→Rep O w h av kv.2 d.2):DictI O w h av v ds
theorem Rep.list_inv{h:Heap}{av:Addr→Prop}{v:Value}{ds:List PyData}(r:Rep O w h av v (.list ds)):ListI O w h av v ds:=by
 cases r with
 |list h1 h2 h3 h4 h5=>exact⟨_,_,rfl,h1,h2,h3,h4,h5⟩
theorem Rep.tuple_inv{h:Heap}{av:Addr→Prop}{v:Value}{ds:List PyData}(r:Rep O w h av v (.tuple ds)):TupI O w h av v ds:=by
 cases r with
 |tuple h1 h2 h3 h4 h5=>exact⟨_,_,rfl,h1,h2,h3,h4,h5⟩
theorem Rep.dict_inv{h:Heap}{av:Addr→Prop}{v:Value}{ds:List (PyData×PyData)}(r:Rep O w h av v (.dict ds)):DictI O w h av v ds:=by
 cases r with
 |dict h1 h2 h3 h4 h5 h6=>exact⟨_,_,rfl,h1,h2,h3,h4,h5,h6⟩
theorem kR:∀ {ds:List (PyData×PyData)} {kvs:List (Str×Value)} (x:Str),ds.map (·.1)=kvs.map (fun kv=>PyData.str kv.1) →
  (valueAt kvs x=none∧bS ds x=none)∨∃ (i:Nat) (v:Value) (d:PyData),valueAt kvs x=some v∧bS ds x=some d∧kvs[i]?=some (x,v)∧ds[i]?=some (.str x,d)
 := by
 intro ds
 induction ds with
 |nil =>
  intro kvs x h;cases kvs with
  |nil=>exact .inl ⟨rfl,rfl⟩
  |cons=>exact nomatch h
 |cons p ds ih =>
  obtain⟨k,d⟩:=p;intro kvs x h;cases kvs with
  |nil=>exact nomatch h
  |cons q kvs =>
   obtain⟨y,v⟩:=q;obtain⟨rfl,h2⟩:=List.cons.inj h
   by_cases hx:x=y
   ·subst hx;exact .inr ⟨0,v,d,by unfold valueAt;simp only[List.find?_cons,decide_eq_true rfl];rfl,if_pos rfl,rfl,rfl⟩
   ·have hv:valueAt ((y,v)::kvs) x=valueAt kvs x:=by unfold valueAt;simp only[List.find?_cons,decide_eq_false (fun e=>hx e.symm:¬ (y,v).1=x)]
    rcases ih (kvs:=kvs) x h2 with ⟨a,b⟩ | ⟨i,v',d',a,b,c,e⟩
    ·exact .inl ⟨hv.trans a,(if_neg hx).trans b⟩
    ·exact .inr ⟨i+1,v',d',hv.trans a,(if_neg hx).trans b,c,e⟩
theorem iE{h:Heap}{av:Addr→Prop}:∀ {vs:List Value} {ds:List PyData} {ss:List Str},vs.length=ds.length→(∀ (i:Nat) (v:Value) (d:PyData),vs[i]?=some v→ds[i]?=some d→Rep O w h av v d) →
  strs? ds=some ss→∃ ts:List Tok,ts.length=ss.length∧vs=List.zipWith (fun x t=>Value.str x t) ss ts∧∀ x∈ss,x.length≤sizeLine
 := by
 intro vs
 induction vs with
 |nil =>
  intro ds ss hl hr hs;cases ds with
  |nil=>obtain rfl:=si hs;exact⟨[],rfl,rfl,fun x hx=>b5 hx⟩
  |cons=>exact nomatch hl
 |cons v vs ih =>
  intro ds ss hl hr hs;cases ds with
  |nil=>exact nomatch hl
  |cons d ds =>
   have h0:=hr 0 v d rfl rfl;cases d with
   |str x =>
    refine hde fun _ θ=>?_;obtain⟨t,rfl,hx⟩:=h0.str_inv;obtain⟨ss',hs',rfl⟩:=bf.mp (show(strs? ds).map (x::·)=some ss from hs);obtain⟨ts,h1,h2,h3⟩:=ih (ds:=ds) (Nat.succ.inj hl) (fun i v d e1 e2=>hr (i+1) v d e1 e2) hs';apply θ;exact⟨t::ts,congrArg Nat.succ h1,congrArg (Value.str x t::·) h2,fm.mpr ⟨hx,h3⟩⟩
   |_=>exact ns hs
noncomputable def f0(x:Str):Value→Bool
 | .str y _=>y==x
 |_=>false
theorem zK(x:Str):∀ (ss:List Str) (ts:List Tok),ts.length=ss.length→(List.zipWith (fun x t=>Value.str x t) ss ts).any (f0 x)=ss.contains x
 | [],[],_=>rfl
 | [],_::_,h=>by simp at h
 |_::_,[],h=>by simp at h
 |s::ss,t::ts,h=>by
  have ih:=zK x ss ts (by simpa using h);simp only[List.zipWith_cons_cons,List.any_cons,ih,List.contains_cons,f0];simp only[Bool.beq_comm]
theorem zL{A:Around}{s:Shared}(x:Str)(t:Tok):∀ (ss:List Str) (ts:List Tok) (y:Value),y∈List.zipWith (fun x t=>Value.str x t) ss ts→SeqAt.EqAt A s y (.str x t) (f0 x y)
 | [],_,y,h=>by simp at h
 |_::_,[],y,h=>by simp at h
 |s'::ss,t'::ts,y,h=>by
  rcases List.mem_cons.mp h with h | h
  ·subst h;exact SeqAt.EqAt.str_str _ _ _ _
  ·exact zL x t ss ts y h
def CS(O:Program)(w:World)(A:Around)(s:Shared)(op:CmpOp)(va vb:Value)(p:P Bool):Prop :=
 Yd (fun Q E=>wpAny (model O w) A (compareOp op va vb) Q E s) (fun v s' r=>Kp s s'∧v=.bool r) p
theorem CS.ok{A:Around}{s:Shared}{op:CmpOp}{va vb:Value}{b:Bool}(s':Shared)(k:Kp s s')(h:∀ (Q:Value→Shared→Prop) E,Q (.bool b) s'→wpAny (model O w) A (compareOp op va vb) Q E s):CS O w A s op va vb (.ok b) :=
 fun Q E hq=>h Q E (hq _ _ ⟨k,rfl⟩)
theorem oG{A:Around}{s:Shared}{vs:List Value}{l:List PyData}{av:Addr→Prop}{x:Str}{t:Tok}{op:CmpOp}{vb:Value}{g:P Bool→P Bool}(h3:vs.length=l.length)(h5:∀ (i:Nat) (v:Value) (d:PyData),vs[i]?=some v→l[i]?=some d→Rep O w s.heap av v d)
  (hg:g .no=.no) (h:∀ b,(∀ y∈vs.toArray,SeqAt.EqAt A.in1 s y (.str x t) (f0 x y))→vs.toArray.any (f0 x)=b→CS O w A s op (.str x t) vb (g (.ok b))):CS O w A s op (.str x t) vb (g (nC x l)):=by
 unfold nC;cases hs:strs? l with
 |none =>
  have:g ((ofO (none:Option (List Str))).bind fun ss=>.ok (ss.contains x))=.no:=hg;simp only[this];exact trivial
 |some ss =>
  obtain⟨ts,e1,e2,e3⟩:=iE h3 h5 hs;subst e2;exact h _ (fun y hy=>zL x t ss ts y (by simpa using hy)) (by simpa using zK x ss ts e1)
theorem zM{A:Around}{s:Shared}{av:Addr→Prop}{va vb:Value}{a b:PyData}(ra:Rep O w s.heap av va a)(rb:Rep O w s.heap av vb b) :
  CS O w A s .In va vb (contains a b)∧CS O w A s .NotIn va vb (bP (contains a b)):=by
 cases a with
 |str x =>
  obtain⟨t,rfl,hx⟩:=ra.str_inv;cases b with
  |str y =>
   obtain⟨u,rfl,hy⟩:=rb.str_inv;exact⟨CS.ok s (Kp.rfl' s) fun Q E h=>SB.contains h,CS.ok s (Kp.rfl' s) fun Q E h=>SB.notContains h⟩
  |dict l =>
   obtain⟨a,kvs,rfl,h1,h2,h3,h4,h5,h6⟩:=rb.dict_inv;have hsome:(valueAt kvs x).isSome=(bS l x).isSome:=by
    rcases kR x h5 with ⟨e1,e2⟩ | ⟨i,v,d,e1,e2,_⟩<;>rw[e1,e2]<;>rfl
   exact⟨CS.ok _ (Kp.tok' s _) fun Q E h=>wpAny_in_of (eV x t) h4 h2.mapOf (by rw[hsome];exact h),CS.ok _ (Kp.tok' s _) fun Q E h=>wpAny_notIn_of (eV x t) h4 h2.mapOf (by rw[hsome];exact h)⟩
  |list l =>
   obtain⟨a,vs,rfl,h1,h2,h3,h4,h5⟩:=rb.list_inv;exact⟨oG (g:=id) h3 h5 rfl fun b he hb=>CS.ok s (Kp.rfl' s) fun Q E h=>SeqAt.in_listAt (f0 x) h2.isList he (by rw[hb];exact h),
    oG (g:=bP) h3 h5 rfl fun b he hb=>CS.ok s (Kp.rfl' s) fun Q E h=>SeqAt.notIn_listAt (f0 x) h2.isList he (by rw[hb];exact h)⟩
  |tuple l =>
   obtain⟨a,vs,rfl,h1,h2,h3,h4,h5⟩:=rb.tuple_inv;exact⟨oG (g:=id) h3 h5 rfl fun b he hb=>CS.ok s (Kp.rfl' s) fun Q E h=>SeqAt.in_tupleAt (f0 x) h2.isTuple he (by rw[hb];exact h),
    oG (g:=bP) h3 h5 rfl fun b he hb=>CS.ok s (Kp.rfl' s) fun Q E h=>SeqAt.notIn_tupleAt (f0 x) h2.isTuple he (by rw[hb];exact h)⟩
  |_=>exact⟨trivial,trivial⟩
 |_=>exact⟨trivial,trivial⟩
theorem zN{A:Around}{s:Shared}{av:Addr→Prop}{va vb:Value}{a b:PyData}(ra:Rep O w s.heap av va a)(rb:Rep O w s.heap av vb b) :
  CS O w A s .Is va vb (nD a b)∧CS O w A s .IsNot va vb (bP (nD a b)):=by
 cases b with
 |none =>
  cases rb;have hv:(va==Value.none)=dX a:=by cases ra<;>rfl
  exact⟨CS.ok s (Kp.rfl' s) fun Q E h=>is_none (by rw[hv];exact h),CS.ok s (Kp.rfl' s) fun Q E h=>isNot_none (by rw[hv];exact h)⟩
 |_=>exact⟨trivial,trivial⟩
theorem K8{a b:List Str}(h:a.length=b.length):(List.range a.length).all (fun j=>a[j]?==b[j]?)=(a==b):=by
 rw[Bool.eq_iff_iff,be,beq_iff_eq];constructor
 ·intro hh;refine List.ext_getElem? fun i=>?_
  by_cases hi:i < a.length
  ·exact eq_of_beq (hh i (List.mem_range.mpr hi))
  ·rw[gn (Nat.not_lt.mp hi),gn (h▸Nat.not_lt.mp hi)]
 ·intro hh i _;rw[hh];exact beq_self_eq_true _
theorem K9{A:Around}{s:Shared}{h:Heap}{av:Addr→Prop}{vs vs':List Value}{x y:List PyData}{p:Bool}(hl:x.length=y.length)(h3:vs.length=x.length)(h5:∀ (i:Nat) (v:Value) (d:PyData),vs[i]?=some v→x[i]?=some d→Rep O w h av v d)(k3:vs'.length=y.length)
  (k5:∀ (i:Nat) (v:Value) (d:PyData),vs'[i]?=some v→y[i]?=some d→Rep O w h av v d) (he:iW x y=.ok p):∃ e:Nat→Bool,(List.range vs.length).all e=p∧∀ j (h1:j < vs.toArray.size) (h2:j < vs'.toArray.size),SeqAt.EqAt A s vs.toArray[j] vs'.toArray[j] (e j):=by
 unfold iW at he;refine ocs (strs? x) (fun hx=>?_) fun a hx=>?_
 ·simp only[hx] at he;exact pno he
 ·refine ocs (strs? y) (fun hy=>?_) fun b hy=>?_
  ·simp only[hx,hy] at he;exact pno he
  ·simp only[hx,hy] at he;obtain rfl:=pi he;obtain⟨ta,q1,rfl,_⟩:=iE h3 h5 hx;obtain⟨tb,q2,rfl,_⟩:=iE k3 k5 hy;have la:(List.zipWith (fun x t=>Value.str x t) a ta).length=a.length:=by simp[q1]
   have lb:(List.zipWith (fun x t=>Value.str x t) b tb).length=b.length:=by simp[q2]
   refine⟨fun j=>a[j]?==b[j]?,?_,fun j h1 h2=>?_⟩
   ·simp only[la];exact K8 (by simp only[← la,← lb,h3,k3,hl])
   ·have ja:j < a.length:=by simpa[q1] using h1
    have jb:j < b.length:=by simpa[q2] using h2
    have e1:=List.getElem?_eq_getElem ja;have e2:=List.getElem?_eq_getElem jb;simp only[e1,e2,List.getElem_toArray,List.getElem_zipWith];exact SeqAt.EqAt.str_str _ _ _ _
theorem zO{f:PyData→PyData→Bool}:∀ {x y:List PyData},dW f x y=true→x.length=y.length∧∀ (j:Nat) (a b:PyData),x[j]?=some a→y[j]?=some b→f a b=true:=by
 intro x
 induction x with
 |nil =>
  intro y h;cases y with
  |nil=>exact⟨rfl,fun j a b e=>ns e⟩
  |cons=>exact bft h
 |cons a x ih =>
  intro y h;cases y with
  |nil=>exact bft h
  |cons b y =>
   obtain⟨h1,h2⟩:=bl.mp (show(f a b&&dW f x y)=true from h);obtain⟨e1,e2⟩:=ih h2;refine⟨congrArg Nat.succ e1,fun j a' b' g1 g2=>?_⟩;cases j with
   |zero=>obtain rfl:=si g1;obtain rfl:=si g2;exact h1
   |succ j=>exact e2 j a' b' g1 g2
theorem La(n:Nat):((List.range n).all fun _=>true)=true:=be.mpr fun _ _=>rfl
theorem zP(A:Around):A.in1.units=A.units+1:=rfl
def EqW(O:Program)(w:World)(A:Around)(s:Shared)(y x:Value):Prop:=∀ (E:Value→Shared→Prop) (Q:Bool→Shared→Prop),Q true s→wpAny (model O w) A (eqBool y x) Q E s
theorem EqW.of{A:Around}{s:Shared}{y x:Value}(h:SeqAt.EqAt A s y x true):EqW O w A s y x:=fun E Q hq=>h O w E Q hq
theorem EqW.refs{A:Around}{s:Shared}{a b:Addr}(hne:a≠b)(h:∀ (E:Value→Shared→Prop) (Q:Value→Shared→Prop),Q (.bool true) s→wpAny (model O w) A (richCompare .Eq (.ref a) (.ref b)) Q E s):EqW O w A s (.ref a) (.ref b):=fun E Q hq=>by
 unfold eqBool;refine ao (wpAny_ite_split (fun e=>absurd (Value.ref.inj (eq_of_beq e)) hne) fun _=>?_);exact U (h E _ (cj hq))
theorem zQ{A:Around}{s:Shared}{av:Addr→Prop}{a b:PyData}{va vb:Value}(ra:Rep O w s.heap av va a)(rb:Rep O w s.heap av vb b)(h:eN a b=true):SeqAt.EqAt A s va vb true:=by
 cases a with
 |int x =>
  obtain⟨t,rfl⟩:=ra.int_inv;cases b with
  |int y=>obtain⟨u,rfl⟩:=rb.int_inv;have:=SeqAt.EqAt.int_int (A:=A) (s:=s) x t y u;rwa [show(x==y)=true from h] at this
  |_=>exact bft h
 |str x =>
  obtain⟨t,rfl,_⟩:=ra.str_inv;cases b with
  |str y=>obtain⟨u,rfl,_⟩:=rb.str_inv;have:=SeqAt.EqAt.str_str (A:=A) (s:=s) x t y u;rwa [show(x==y)=true from h] at this
  |_=>exact bft h
 |_=>exact bft h
theorem Lb{A:Around}{E:Value→Shared→Prop}{s:Shared}{nm:String}{a b:Addr}{ka kb:List (Str×Value)}{Q:Bool→Shared→Prop}(ha:(a==sysModules)=false)(hb:(b==sysModules)=false)(da:s.heap.DictOf (strKind O w) a ka)(db:s.heap.DictOf (strKind O w) b kb)
  (hl:ka.length=kb.length) (hv:∀ (i:Nat) k v,ka[i]?=some (k,v)→∃ y,valueAt kb k=some y∧EqW O w A s v y) (h:Q true s):wpAny (model O w) A (Builtin.Dict.samePairs nm a b) Q E s:=by
 refine hde fun _ θ=>?_;obtain⟨oa,es,ep,hoa,_,hda,hka,hpa,_⟩:=da;obtain⟨ob,es',ep',hob,_,hdb,hkb,hpb,_⟩:=db;apply θ;have la:es.size=ka.length:=Array.length_toList.symm.trans hpa.length;have lb:es'.size=kb.length:=Array.length_toList.symm.trans hpb.length;have hsz:es.size=es'.size:=la.trans (hl.trans lb.symm);unfold Builtin.Dict.samePairs Builtin.Dict.showsAll;rw[if_neg (by rw[ha];exact eq),if_neg (by rw[hb];exact eq)];refine U (ac (U (ac (U (fq hoa hda (U (fq hob hdb ?_)))))));rw[if_neg (by rw[hsz];simp)];refine U (wpAny_dictEpoch hoa hda (U ?_));rw[Std.Legacy.Range.forIn_eq_forIn_range'];simp only[Std.Legacy.Range.size,Nat.sub_zero,Nat.add_sub_cancel,Nat.div_one];refine wpAny_forIn_list _ (fun rest q s'=>(s'=s∧q=(none,()))∧∀ i∈rest,i < es.size) _ ?_ ?_ _ _ ⟨⟨rfl,rfl⟩,fun i hi=>by rw[List.mem_range'_1] at hi;exact Nat.zero_add es.size▸hi.2⟩
 ·rintro x rest q s' ⟨⟨rfl,rfl⟩,hr⟩
  have hx:=hr x ah;have hx':x < ka.length:=la▸hx;refine U (fq hoa hda ?_);rw[Array.getElem?_eq_getElem hx];refine hde fun _ θ=>?_;obtain⟨hkey,hval⟩:=hpa.get? (i:=x) (e:=es[x]) (k:=ka[x].1) (v:=ka[x].2) (by rw[Array.getElem?_toList];exact Array.getElem?_eq_getElem hx) (List.getElem?_eq_getElem hx');obtain⟨k',hk',hh⟩:=hka es[x] (Array.getElem_mem hx);apply θ;obtain rfl:k'=ka[x].1:=(strKind O w).inj _ _ _ hk' hkey;refine hde fun _ θ=>?_;obtain⟨y,hy,he⟩:=hv x ka[x].1 ka[x].2 (List.getElem?_eq_getElem hx');apply θ;show wpAny _ _ (holding [es[x].key,es[x].val] _ >>= _) _ _ _;rw[hh];refine U (ao (U (wpAny_dictFind_of hkey hob hdb hkb ?_)));have hf:findBy (strKind O w).is es' ka[x].1=some y:=by
   rw[← hy,← hpb.find];obtain⟨l⟩:=es';simp[findBy]
  rw[findBy_of_findIdx?] at hf
  revert hf
  cases hj:es'.findIdx? fun e=>(strKind O w).is ka[x].1 e.key with
  |none=>exact fun hf=>ns hf
  |some j =>
   intro hf;refine hde fun _ θ=>?_;obtain⟨hjlt,_,_⟩:=Array.findIdx?_eq_some_iff_getElem.mp hj;apply θ;have ey:es'[j].val=y:=by simpa[Array.getElem?_eq_getElem hjlt] using hf
   refine U (fq hob hdb ?_);rw[Array.getElem?_eq_getElem hjlt];refine ao ?_;rw[ey,hval];refine he _ _ ?_;show wpAny _ _ (if (!true)=true then _ else _) _ _ _;rw[if_neg (by decide)];refine U (wpAny_dictEpoch hoa hda ?_);rw[if_neg (by simp)];exact ac ⟨⟨rfl,rfl⟩,fun i hi=>hr i (ae _ hi)⟩
 ·rintro q s' ⟨⟨rfl,rfl⟩,_⟩
  exact ac h
theorem Lc{s:Shared}{av:Addr→Prop}:∀ {n:Nat} {A:Around} {a b:PyData} {va vb:Value},A.units+n < cLine→Rep O w s.heap av va a→Rep O w s.heap av vb b→eG n a b=true→EqW O w A s va vb:=by
 intro n
 induction n with
 |zero=>intro A a b va vb _ _ _ hh;exact bft hh
 |succ n ih =>
  intro A a b va vb hu ra rb hh;have hu0:A.units < cLine:=al (ak _ _) hu;have hu1:A.in1.units+n < cLine:=by simp only[zP];exact ax1 hu
  cases a with
  |list x =>
   cases b with
   |list y =>
    obtain⟨p,vs,rfl,h1,h2,h3,h4,h5⟩:=ra.list_inv;obtain⟨q,vs',rfl,k1,k2,k3,k4,k5⟩:=rb.list_inv
    by_cases hpq:p=q
    ·subst hpq;exact .of (SeqAt.EqAt.same _)
    ·obtain⟨hl,e2⟩:=zO hh;have:=SeqAt.RcAt.lists (A:=A) (s:=s) (e:=fun _=>true) h2.isList k2.isList (h3.trans (hl.trans k3.symm)) hu0 fun j j1 j2=>zQ (h5 j vs[j] (x[j]'(h3▸j1)) (List.getElem?_eq_getElem j1) (List.getElem?_eq_getElem _)) (k5 j vs'[j] (y[j]'(k3▸j2)) (List.getElem?_eq_getElem j2) (List.getElem?_eq_getElem _)) (e2 j _ _ (List.getElem?_eq_getElem _) (List.getElem?_eq_getElem _));simp only[La] at this;exact .of (SeqAt.EqAt.of_refs hpq this)
   |_=>exact bft hh
  |dict x =>
   cases b with
   |dict y =>
    obtain⟨p,ka,rfl,h1,h2,h3,h4,h5,h6⟩:=ra.dict_inv;obtain⟨q,kb,rfl,k1,k2,k3,k4,k5,k6⟩:=rb.dict_inv
    by_cases hpq:p=q
    ·subst hpq;exact .of (SeqAt.EqAt.same _)
    ·obtain⟨hl,hv⟩:=bl.mp (show(x.length==y.length&&x.all (nB (eG n) y))=true from hh);have e1:=congrArg List.length h5;have e2:=congrArg List.length k5;simp only[List.length_map,List.length_map] at e1 e2;refine EqW.refs hpq fun E Q hq=>?_;refine wpAny_richCompare_same_room (op:=.Eq) h2.typeIs k2.typeIs PySem.F.slot_dict_eq (de PySem.F.slot_dict_eq h2.typeIs PySem.F.entry_dict_eq ?_ (PySem.F.args_dict_eq_2 _ _)) hu0;show wpAny _ _ (Builtin.Dict.dictSlotArgs "__eq__" ⟨[.ref p,.ref q],[]⟩ >>= _) _ _ s;refine U ?_;unfold Builtin.Dict.dictSlotArgs;refine U (wpAny_notOrdered_dict h2.typeIs ?_);show wpAny _ _ (pure (Value.ref p,Value.ref q)) _ _ s;refine ac (U (wpAny_isInstance (T := "dict") k2.typeIs PySem.F.sub_dict_dict ?_));simp only[Bool.not_true,Bool.false_eq_true,if_false];refine U (ac (U (ac (U (Lb h4 k4 h2 k2 (e1.symm.trans ((eq_of_beq hl).trans e2)) (fun i k v hi=>?_) (ac ⟨_,rfl,(fun x=>nomatch x),hq⟩))))));have hx:i < x.length:=e1▸(bg.mp hi).1;have hk:x[i].1=.str k:=by
      have:=congrArg (·[i]?) h5;simp only[List.getElem?_map,hi,List.getElem?_eq_getElem hx,Option.map_some] at this;exact si this
     have hs:=be.mp hv x[i] (dg hx);unfold nB at hs;simp only[hk] at hs;replace hs:(bS y k).any (eG n x[i].2)=true:=hs;rcases kR k k5 with ⟨_,g⟩ | ⟨j,v',d',g1,g2,g3,g4⟩
     ·simp only[g] at hs;exact bft hs
     ·simp only[g2] at hs;exact⟨v',g1,ih hu1 (h6 i _ _ hi (List.getElem?_eq_getElem hx)) (k6 j _ _ g3 g4) hs⟩
   |_=>exact bft hh
  |_=>exact .of (zQ ra rb hh)
theorem zR{A:Around}{E:Value→Shared→Prop}{s:Shared}{xs ys:List Value}{β:Type}{b0:β}{f:Value×Value→β→Sem (ForInStep β)}{Q:β→Shared→Prop}(hf:∀ x y,EqW O w A s x y→wpAny (model O w) A (f (x,y) b0) (fun r s'=>r=.yield b0∧s'=s) E s)
  (he:∀ (j:Nat) x y,xs[j]?=some x→ys[j]?=some y→EqW O w A s x y) (hq:Q b0 s):wpAny (model O w) A (forIn (xs.zip ys) b0 f) Q E s:=by
 refine wpAny_forIn_list _ (fun rest b s'=>(b=b0∧s'=s)∧∀ p∈rest,EqW O w A s p.1 p.2) _ ?_ ?_ _ _ ⟨⟨rfl,rfl⟩,fun p hp=>?_⟩
 ·rintro⟨x,y⟩ rest b s' ⟨⟨rfl,rfl⟩,hr⟩
  refine aq (hf x y (hr _ ah)) (fun r s' h=>?_) fun _ _ h=>h;obtain⟨rfl,rfl⟩:=h;exact⟨⟨rfl,rfl⟩,fun p hp=>hr p (ae _ hp)⟩
 ·rintro b s' ⟨⟨rfl,rfl⟩,_⟩
  exact hq
 ·obtain⟨j,hj⟩:=gq.mp hp;obtain⟨h1,h2⟩:=List.getElem?_zip_eq_some.mp hj;exact he j p.1 p.2 h1 h2
theorem Ld{A:Around}{E:Value→Shared→Prop}{s:Shared}{a b:Addr}{xs ys:List Value}{Q:Value→Shared→Prop}(ta:PlT s.heap a xs.toArray)(tb:PlT s.heap b ys.toArray)(hz:xs.length=ys.length)(hu:A.units < cLine)
  (he:∀ (j:Nat) x y,xs[j]?=some x→ys[j]?=some y→EqW O w A.in1 s x y) (hq:Q (.bool true) s):wpAny (model O w) A (richCompare .Eq (.ref a) (.ref b)) Q E s:=by
 obtain⟨n,ea⟩:=ta;obtain⟨n',eb⟩:=tb;have f2:=AutoSeq1.sub_tuple_tuple;refine wpAny_richCompare_same_room (op:=.Eq) ⟨_,ea,rfl⟩ ⟨_,eb,rfl⟩ F.slot_tuple_eq (de F.slot_tuple_eq ⟨_,ea,rfl⟩ F.entry_tuple_eq ?_ (F.args_tuple_eq_2 _ _)) hu;obtain⟨hp,g,d,tk,os⟩:=s
 wp_walk using wpAny_loadPart' ea,wpAny_loadPart' eb,zR
 ·exact fun x y h=>U (h _ _ (ac ⟨rfl,rfl⟩))
 ·exact fun j x y h1 h2=>he j x y h1 h2
 ·wp_walk
  refine⟨_,rfl,?_⟩;rw[show xs.toArray.size=ys.toArray.size from hz];simpa[Builtin.Tuple.tupleCompareSizes] using hq
theorem Le{A:Around}{E:Value→Shared→Prop}{s:Shared}{a b:Addr}{xs ys:List Value}{Q:Value→Shared→Prop}(ta:PlT s.heap a xs.toArray)(tb:PlT s.heap b ys.toArray)(hz:xs.length=ys.length)(hu:A.units < cLine)
  (he:∀ (j:Nat) x y,xs[j]?=some x→ys[j]?=some y→EqW O w A.in1 s x y) (hq:Q (.bool false) s):wpAny (model O w) A (richCompare .NotEq (.ref a) (.ref b)) Q E s:=by
 obtain⟨n,ea⟩:=ta;obtain⟨n',eb⟩:=tb;have f2:=AutoSeq1.sub_tuple_tuple;refine wpAny_richCompare_same_room (op:=.NotEq) ⟨_,ea,rfl⟩ ⟨_,eb,rfl⟩ F.slot_tuple_ne (de F.slot_tuple_ne ⟨_,ea,rfl⟩ F.entry_tuple_ne ?_ (F.args_tuple_ne_2 _ _)) hu;obtain⟨hp,g,d,tk,os⟩:=s
 wp_walk using wpAny_loadPart' ea,wpAny_loadPart' eb,zR
 ·exact fun x y h=>U (h _ _ (ac ⟨rfl,rfl⟩))
 ·exact fun j x y h1 h2=>he j x y h1 h2
 ·wp_walk
  refine⟨_,rfl,?_⟩;rw[show xs.toArray.size=ys.toArray.size from hz];simpa[Builtin.Tuple.tupleCompareSizes] using hq
theorem zS{A:Around}{s:Shared}{av:Addr→Prop}{va vb:Value}{a b:PyData}(hu:A.units+70 < cLine)(ra:Rep O w s.heap av va a)(rb:Rep O w s.heap av vb b) :
  CS O w A s .Eq va vb (eqO a b)∧CS O w A s .NotEq va vb (bP (eqO a b)):=by
 have hu0:A.units < cLine:=by exact ax2 hu
 cases a with
 |int x =>
  obtain⟨t,rfl⟩:=ra.int_inv;cases b with
  |int y =>
   obtain⟨u,rfl⟩:=rb.int_inv;exact⟨CS.ok s (Kp.rfl' s) fun Q E h=>SeqAt.RcAt.int_int x t y u O w E Q h,CS.ok s (Kp.rfl' s) fun Q E h=>SeqAt.RcNeAt.int_int x t y u O w E Q h⟩
  |_=>exact⟨trivial,trivial⟩
 |str x =>
  obtain⟨t,rfl,_⟩:=ra.str_inv;cases b with
  |str y =>
   obtain⟨u,rfl,_⟩:=rb.str_inv;exact⟨CS.ok s (Kp.rfl' s) fun Q E h=>SeqAt.RcAt.str_str x t y u O w E Q h,CS.ok s (Kp.rfl' s) fun Q E h=>SeqAt.RcNeAt.str_str x t y u O w E Q h⟩
  |_=>exact⟨trivial,trivial⟩
 |bool x =>
  obtain rfl:=ra.bool_inv;cases b with
  |bool y =>
   obtain rfl:=rb.bool_inv;exact⟨CS.ok s (Kp.rfl' s) fun Q E h=>SeqAt.RcAt.bool_bool x y O w E Q h,CS.ok s (Kp.rfl' s) fun Q E h=>SeqAt.RcNeAt.bool_bool x y O w E Q h⟩
  |_=>exact⟨trivial,trivial⟩
 |list x =>
  obtain⟨a,vs,rfl,h1,h2,h3,h4,h5⟩:=ra.list_inv;cases b with
  |list y =>
   obtain⟨a',vs',rfl,k1,k2,k3,k4,k5⟩:=rb.list_inv
   by_cases hl:x.length=y.length
   ·have e0:eqO (.list x) (.list y)=iW x y:=if_pos hl;rw[e0];refine pcs (iW x y) (fun he=>?_) fun p he=>?_
    ·try rewrite[he]
     exact⟨trivial,trivial⟩
    ·try rewrite[he]
     obtain⟨e,q1,q2⟩:=K9 (A:=A.in1) (s:=s) hl h3 h5 k3 k5 he;have hsz:vs.toArray.size=vs'.toArray.size:=by simp[h3,k3,hl]
     subst q1;exact⟨CS.ok s (Kp.rfl' s) fun Q E h=>SeqAt.RcAt.lists h2.isList k2.isList hsz hu0 q2 O w E Q (by simpa using h),
      CS.ok s (Kp.rfl' s) fun Q E h=>SeqAt.RcNeAt.lists h2.isList k2.isList hsz hu0 q2 O w E Q (by simpa using h)⟩
   ·have e0:eqO (.list x) (.list y)=.ok false:=if_neg hl;rw[e0];have hsz:(vs.toArray.size != vs'.toArray.size)=true:=by simp[h3,k3,hl]
    exact⟨CS.ok s (Kp.rfl' s) fun Q E h=>SeqAt.RcAt.lists_lengths h2.isList k2.isList hsz hu0 O w E Q h,
     CS.ok s (Kp.rfl' s) fun Q E h=>SeqAt.RcNeAt.lists_lengths h2.isList k2.isList hsz hu0 O w E Q h⟩
  |_=>exact⟨trivial,trivial⟩
 |tuple x =>
  obtain⟨a,vs,rfl,h1,h2,h3,h4,h5⟩:=ra.tuple_inv;cases b with
  |tuple y =>
   obtain⟨a',vs',rfl,k1,k2,k3,k4,k5⟩:=rb.tuple_inv
   by_cases hc:dW (eG 24) x y=true
   ·rw[show eqO (.tuple x) (.tuple y)=.ok true from if_pos hc];obtain⟨hl,e2⟩:=zO hc;have hz:vs.length=vs'.length:=h3.trans (hl.trans k3.symm);have q3:∀ (j:Nat) u u',vs[j]?=some u→vs'[j]?=some u'→EqW O w A.in1 s u u':=fun j u u' v1 v2=>by
     have x1:j < x.length:=h3▸(bg.mp v1).1;have y1:j < y.length:=k3▸(bg.mp v2).1;exact Lc (by rw[zP];exact ax3 hu) (h5 j u x[j] v1 (List.getElem?_eq_getElem x1)) (k5 j u' y[j] v2 (List.getElem?_eq_getElem y1)) (e2 j x[j] y[j] (List.getElem?_eq_getElem x1) (List.getElem?_eq_getElem y1))
    exact⟨CS.ok s (Kp.rfl' s) fun Q E h=>Ld h2 k2 hz hu0 q3 h,CS.ok s (Kp.rfl' s) fun Q E h=>Le h2 k2 hz hu0 q3 h⟩
   ·rw[show eqO (.tuple x) (.tuple y)=.no from if_neg hc];exact⟨trivial,trivial⟩
  |_=>exact⟨trivial,trivial⟩
 |_=>exact⟨trivial,trivial⟩
theorem oH{A:Around}{s:Shared}{av:Addr→Prop}{va vb:Value}{a b:PyData}{op:CmpOp}{f:Int→Int→Bool}(ra:Rep O w s.heap av va a)(rb:Rep O w s.heap av vb b)
  (h:∀ x t y u (Q:Value→Shared→Prop) E,Q (.bool (f x y)) s→wpAny (model O w) A (compareOp op (.int x t) (.int y u)) Q E s):CS O w A s op va vb (j9 f a b):=by
 cases a with
 |int x =>
  obtain⟨t,rfl⟩:=ra.int_inv;cases b with
  |int y =>
   obtain⟨u,rfl⟩:=rb.int_inv;exact CS.ok s (Kp.rfl' s) fun Q E hq=>h x t y u Q E hq
  |_=>exact trivial
 |_=>exact trivial
theorem Lf{A:Around}{s:Shared}{av:Addr→Prop}{op:CmpOp}{va vb:Value}{a b:PyData}(hu:A.units+70 < cLine)(ra:Rep O w s.heap av va a)(rb:Rep O w s.heap av vb b):CS O w A s op va vb (cmp op a b):=by
 cases op with
 |Eq=>exact(zS hu ra rb).1
 |NotEq=>exact(zS hu ra rb).2
 |In=>exact(zM ra rb).1
 |NotIn=>exact(zM ra rb).2
 |Is=>exact(zN ra rb).1
 |IsNot=>exact(zN ra rb).2
 |Lt=>exact oH ra rb fun x t y u Q E h=>PyProof.Rows.lt_int h
 |LtE=>exact oH ra rb fun x t y u Q E h=>P.le_int h
 |Gt=>exact oH ra rb fun x t y u Q E h=>PyProof.Rows.gt_int h
 |GtE=>exact oH ra rb fun x t y u Q E h=>P.ge_int h
end
section
variable {O:Program} {w:World}
theorem bU(h:Heap):h.get? h.objs.size=none:=by
 refine ocs (h.get? h.objs.size) (fun e=>?_) fun o e=>?_
 ·try rewrite[e]
  rfl
 ·exact absurd (bh e) (Nat.lt_irrefl _)
theorem Rep.apart{h:Heap}{av:Addr→Prop}{v:Value}{d:PyData}{a:Addr}(hn:h.get? a=Option.none)(r:Rep O w h av v d):Rep O w h (fun b=>av b∨b=a) v d :=
 r.mono (fun _ _ _ e=>e) fun b o e x=>x.elim id fun x=>by subst x;rw[hn] at e;exact ns e
theorem cM(h:Heap)(o:Obj)(ho:o.isFreed=false):(h.push o).get? h.objs.size=some o:=eu h ho
theorem zT{h:Heap}{av:Addr→Prop}{xs ys:List Value}{as bs:List PyData}(hx:xs.length=as.length)(_hy:ys.length=bs.length)
  (rx:∀ (i:Nat) (v:Value) (d:PyData),xs[i]?=some v→as[i]?=some d→Rep O w h av v d) (ry:∀ (i:Nat) (v:Value) (d:PyData),ys[i]?=some v→bs[i]?=some d→Rep O w h av v d) :
  ∀ (i:Nat) (v:Value) (d:PyData),(xs++ys)[i]?=some v→(as++bs)[i]?=some d→Rep O w h av v d:=by
 intro i v d e1 e2
 by_cases hi:i < xs.length
 ·rw[List.getElem?_append_left hi] at e1;rw[List.getElem?_append_left (hx▸hi)] at e2;exact rx i v d e1 e2
 ·rw[List.getElem?_append_right (by exact ax4 hi)] at e1;rw[List.getElem?_append_right (by exact ax5 hx hi),← hx] at e2;exact ry _ v d e1 e2
theorem sK{s s₁:Shared}{av:Addr→Prop}{vs:List Value}{ds:List PyData}(k:Kp s s₁)(hl:vs.length=ds.length)(hz:vs.length≤sizeLine)
  (hr:∀ (i:Nat) (v:Value) (d:PyData),vs[i]?=some v→ds[i]?=some d→Rep O w s₁.heap av v d) :
  Kp s { s₁ with heap:=s₁.heap.push { cls:=.type "list", data:=.seq vs.toArray } } ∧
   bF O w s (s₁.heap.push { cls:=.type "list", data:=.seq vs.toArray }) av (.ref s₁.heap.objs.size) (.own (.list ds)):=by
 refine⟨k.tr (Kp.push' _ _),Own.backp k ⟨_,rfl,bU _,vs,⟨0,cM _ _ rfl⟩,hl,hz,fun i v d e1 e2=>?_⟩⟩;exact(((hr i v d e1 e2).apart (bU _)).keeps fun b o e=>af _ e)
theorem zU{s s₁:Shared}{av:Addr→Prop}{vs:List Value}{ds:List PyData}(k:Kp s s₁)(ha:∀ b,av b→∃ o,s₁.heap.get? b=some o)(hl:vs.length=ds.length)(hz:vs.length≤sizeLine)
  (hr:∀ (i:Nat) (v:Value) (d:PyData),vs[i]?=some v→ds[i]?=some d→Rep O w s₁.heap av v d) :
  Kp s { s₁ with heap:=s₁.heap.push { cls:=.type "tuple", data:=.seq vs.toArray } } ∧
   bF O w s (s₁.heap.push { cls:=.type "tuple", data:=.seq vs.toArray }) av (.ref s₁.heap.objs.size) (.fz (.tuple ds)):=by
 refine⟨k.tr (Kp.push' _ _),Rep.tuple (fun x=>?_) ⟨0,cM _ _ rfl⟩ hl hz fun i v d e1 e2=>(hr i v d e1 e2).keeps fun b o e=>af _ e⟩;obtain⟨o,e⟩:=ha _ x;rw[bU] at e;exact ns e
theorem Lg{x y:Int}(hy:y.natAbs < 2 ^ 63):Builtin.divisionGoesByPylong x y=false:=by
 unfold Builtin.divisionGoesByPylong;have:(if (y==0)=true then 0 else y.natAbs.log2 / 30+1)≤300:=by
  split
  ·exact ax6
  ·rename_i h0;have hn:y.natAbs≠0:=by simpa using h0
   have:y.natAbs.log2 < 63:=(Nat.log2_lt hn).mpr hy;exact ax7 this
 simp only[Bool.and_eq_false_iff,decide_eq_false_iff_not];left;exact ax8 this
theorem zV{x:Int}(h:x.natAbs < 2 ^ 63):Builtin.Int.intBits x≤64:=by
 have h2:(x.natAbs:Int) < 2 ^ 64:=dz (ci.mpr h) (by decide);exact intBits_le_64 (Int.neg_lt_of_neg_lt (cw (Int.natAbs_neg x▸Int.le_natAbs (a:=-x)) h2)) (cw Int.le_natAbs h2)
theorem Lh{x:Str}{n:Int}(hn:n≤1024)(hx:x.length≤1024):(j8 x n).length≤sizeLine:=by
 unfold j8
 split
 ·exact aj _
 ·split
  ·rw[sizeLine_eq];exact ax9 hx
  ·have hf:∀ (k:Nat) (acc:Array Nat),((List.replicate k x.cps).foldl (·++·) acc).size=acc.size+k*x.cps.size:=by
    intro k
    induction k with
    |zero=>intro acc;simp
    |succ k ih=>intro acc;rw[List.replicate_succ,List.foldl_cons,ih,Array.size_append,Nat.succ_mul];exact Fg
   show((List.replicate n.toNat x.cps).foldl (·++·) #[]).size≤sizeLine;rw[hf];have h1:n.toNat≤1024:=by exact Fh hn
   have h2:x.cps.size≤1024:=hx;have h3:n.toNat*x.cps.size≤1024*1024:=Nat.mul_le_mul h1 h2;rw[sizeLine_eq];simp;exact Fi h3
theorem zW{op:Operator}(h:iV op=true):op=.Add:=by
 cases op<;>first | rfl | cases h
theorem Lj{op:Operator}(h:xY op=true):op=.Mult:=by
 cases op<;>first | rfl | cases h
def OS(O:Program)(w:World)(A:Around)(s:Shared)(av:Addr→Prop)(op:Operator)(va vb:Value)(p:P V):Prop :=
 Yd (fun Q E=>wpAny (model O w) A (binaryOp op va vb) Q E s) (fun v s' u=>Kp s s'∧bF O w s s'.heap av v u) p
theorem Lk{A:Around}{s:Shared}{av:Addr→Prop}{op:Operator}(x y:Int)(t u:Tok):OS O w A s av op (.int x t) (.int y u) (xX op x y):=by
 cases op with
 |Add=>exact fun Q E hq=>PyProof.Rows.add_int (hq _ _ ⟨Kp.tok' s _,.int _ _⟩)
 |Sub=>exact fun Q E hq=>PyProof.Rows.sub_int (hq _ _ ⟨Kp.tok' s _,.int _ _⟩)
 |Mult=>exact Yd.ite fun h Q E hq=>P.mul_int (hq _ _ ⟨Kp.tok' s _,.int _ _⟩) (h.elim (fun h=>.of_left (zV h)) fun h=>.of_right (zV h))
 |FloorDiv=>exact Yd.ite fun h Q E hq=>PyProof.Rows.floordiv_int h.1 (hq _ _ ⟨Kp.tok' s _,.int _ _⟩) (.inl (Lg h.2))
 |Mod=>exact Yd.ite fun h Q E hq=>PyProof.Rows.mod_int' h (hq _ _ ⟨Kp.tok' s _,.int _ _⟩)
 |Pow=>exact Yd.ite fun h Q E hq=>PyProof.Rows.pow_int_small h.1 (by exact Fj h) (by omega) (hq _ _ ⟨Kp.tok' s _,.int _ _⟩)
 |_=>exact trivial
theorem Ll{x:Str}{n:Int}(h1:1≤n)(h2:n≤1024)(hx:x.length≤1024):(x.length:Int)≤(2 ^ 63 - 1) / n :=
 Int.le_ediv_of_mul_le (by exact Fk h1) (bb (Int.mul_le_mul (bk.mpr hx) h2 (by exact Fl h1) (by decide)) (by decide))
theorem Lm{A:Around}{s:Shared}{av:Addr→Prop}(x:Str)(n:Int)(t u:Tok)(h:-100≤n∧n≤1024∧x.length≤1024):OS O w A s av .Mult (.str x t) (.int n u) (.ok (.fz (.str (j8 x n)))):=by
 intro Q E hq;have hlen:=Lh h.2.1 h.2.2;refine P.mul_str (by simp only[Bool.or_eq_false_iff,decide_eq_false_iff_not];lia) (fun h1 _=>?_) (fun h1 _=>?_) ?_
 ·have:=Ll (by exact Fm h1) h.2.1 h.2.2;exact Fn this
 ·exact decide_eq_false (Nat.not_lt.mpr (aa (Nat.mul_le_mul h.2.2 (by exact Fo h:n.toNat≤1024)) (by decide)))
 ·unfold j8 at hlen hq
  split
  ·rename_i hn;rw[if_pos hn] at hq hlen;exact⟨hlen,hq _ _ ⟨Kp.tok' s _,.str _ _ hlen⟩⟩
  ·rename_i hn;rw[if_neg hn] at hq hlen
   split
   ·rename_i h1;rw[if_pos h1] at hq hlen;exact hq _ _ ⟨Kp.rfl' s,.str _ _ hlen⟩
   ·rename_i h1;rw[if_neg h1] at hq hlen;exact⟨hlen,hq _ _ ⟨Kp.tok' s _,.str _ _ hlen⟩⟩
theorem Ln{A:Around}{s:Shared}{av:Addr→Prop}{va vb:Value}{l m:List PyData}(ra:Rep O w s.heap av va (.list l))(rb:Rep O w s.heap av vb (.list m))(h:l.length+m.length≤bA):OS O w A s av .Add va vb (.ok (.own (.list (l++m)))):=by
 obtain⟨a,vs,rfl,h1,⟨n,e⟩,h3,h4,h5⟩:=ra.list_inv;obtain⟨a',vs',rfl,k1,⟨n',e'⟩,k3,k4,k5⟩:=rb.list_inv;intro Q E hq;have hz:(vs++vs').length≤sizeLine:=by rw[List.length_append,h3,k3];exact h
 have:=sK (O:=O) (w:=w) (vs:=vs++vs') (ds:=l++m) (Kp.rfl' s) (by simp[h3,k3]) hz (zT h3 k3 h5 k5);refine P.add_list e e' ?_ (by simpa using hz);rw[List.append_toArray];exact hq _ _ this
theorem Lo{A:Around}{s:Shared}{av:Addr→Prop}{op:Operator}{va vb:Value}{a b:PyData}(ra:Rep O w s.heap av va a)(rb:Rep O w s.heap av vb b):OS O w A s av op va vb (aF op a b):=by
 cases a with
 |int x =>
  obtain⟨t,rfl⟩:=ra.int_inv;cases b with
  |int y =>
   obtain⟨u,rfl⟩:=rb.int_inv;exact Lk x y t u
  |_=>exact trivial
 |str x =>
  obtain⟨t,rfl,hx⟩:=ra.str_inv;cases b with
  |str y =>
   obtain⟨u,rfl,hy⟩:=rb.str_inv;exact Yd.ite fun h Q E hq=>by
    cases zW h.1;exact SB.add (fun t' k=>hq _ _ ⟨Kp.tok' s _,.str _ _ (by rw[strLen_append];exact h.2)⟩) h.2
  |int y =>
   obtain⟨u,rfl⟩:=rb.int_inv;exact Yd.ite fun h=>by
    cases Lj h.1;exact Lm x y t u h.2
  |_=>exact trivial
 |list l =>
  cases b with
  |list m=>exact Yd.ite fun h=>by cases zW h.1;exact Ln ra rb h.2
  |_=>exact trivial
 |_=>exact trivial
end
section
variable {O:Program} {w:World} {mg mb:Str→Option Value} {base:Heap}
theorem jH{u:V}{b:Bool}(h:c8 u=.ok b):u=.fz (.bool b):=by
 cases u with
 |fz d=>cases d<;>first | (cases h;rfl) | cases h
 |_=>exact pno h
theorem bF.cl{l:List Env}{s:Shared}{h:Heap}{av:Addr→Prop}{v:Value}{u:V}(hlt:∀ b,av b→∃ o,s.heap.get? b=some o)(r:bF O w s h av v u):b9 O w mg l h av v u.cl:=by
 cases u with
 |fz d=>exact r
 |own d=>exact Own.rep hlt r
 |ex x=>exact r.elim
 |pil l=>exact r.elim
variable {n:Nat} {hd:Bool} {l:List Env} {sc:Scope} {σ:aA}
theorem Lp{a b:Expr}{op:Operator}{pos:Pos}{pl pr:R V}(hl:aH O w mg mb base n hd l sc σ a pl)(hr:aH O w mg mb base n hd l sc σ b pr) :
  aH O w mg mb base n hd l sc σ (.BinOp a op b pos) (rb pl fun a=>rb pr fun b=>ofP (aF op (dOf a) (dOf b))):=by
 intro A env s av hA I β k fin Q E hf hq he;refine wpAny_BinOp (hl A env s av hA I hf.b (fun va s₁ a k1 ra h1=>?_) he);have I1:=I.k k1;refine hr A env s₁ av hA I1 (Fin.b ⟨h1,hf.2⟩) (fun vb s₂ b k2 rb h2=>?_) (he.back k1);exact(Lo ((ra.rep I.gnd.avlt).k I.gnd.fav k2) (rb.rep I1.gnd.avlt)).fin ⟨h2,hf.2⟩ fun v s' u r e=>hq.step (k1.tr k2) r e
theorem zX{x:Expr}{op:UnaryOp}{pos:Pos}{p:R V}(hx:aH O w mg mb base n hd l sc σ x p):aH O w mg mb base n hd l sc σ (.UnaryOp op x pos) (rb p fun v=>ofP (fC op v)):=by
 intro A env s av hA I β k fin Q E hf hq he;refine wpAny_UnaryOp (hx A env s av hA I hf.b (fun va s₁ a k1 ra h1=>?_) he);obtain⟨u,e1,e2⟩:=Fin.p ⟨h1,hf.2⟩;cases op with
 |Not =>
  refine pcs (c8 a) (fun ht=>?_) fun b ht=>?_
  ·simp only[fC,ht] at e1;exact pno e1
  ·simp only[fC,ht] at e1;obtain rfl:=pi e1;cases jH ht;cases (show Rep O w s₁.heap av va (.bool b) from ra).bool_inv;exact not_value (cj (hq _ _ (.fz (.bool _)) k1 (.bool _) e2))
 |USub =>
  have r:=ra.rep I.gnd.avlt;have e1:yP (dOf a)=.ok u:=e1;generalize dOf a=d at r e1;cases d with
  |int i =>
   obtain rfl:=pi e1;obtain⟨t,rfl⟩:=r.int_inv;exact P.neg_int (hq _ _ (.fz (.int _)) (k1.trp (Kp.tok' _ _)) (.int _ _) e2)
  |_=>exact pno e1
 |_=>exact pno e1
def cC(O:Program)(w:World)(mg mb:Str→Option Value)(base:Heap)(n:Nat)(hd:Bool)(l:List Env)(sc:Scope)(σ:aA)(e:Expr)(r:R V):Prop :=
 ∀ (A:Around) (env:Env) (s:Shared) (av:Addr→Prop),Room base n hd l A→Inv0 O w mg mb base l env sc σ av s →
  ∀ {β:Type} {k:Bool→R β} {fin:R β} {Q:Bool→Shared→Prop} {E:Value→Shared→Prop},Fin (tst r) k fin→(∀ b s',K l s s'→k b=fin→Q b s')→EH O w mg l s av fin E→wpAny (model O w) A (isTrue e env (eval e env)) Q E s
theorem Lq{t b o:Expr}{pos:Pos}{pt pb po:R V}(ht:cC O w mg mb base n hd l sc σ t pt)(hb:aH O w mg mb base n hd l sc σ b pb)(ho:aH O w mg mb base n hd l sc σ o po) :
  aH O w mg mb base n hd l sc σ (.IfExp t b o pos) (rb (tst pt) fun c=>if c then pb else po):=by
 intro A env s av hA I β k fin Q E hf hq he;refine wpAny_IfExp (ht A env s av hA I hf.b (fun c s₁ k1 h1=>?_) he);cases c with
 |true=>exact hb A env s₁ av hA (I.k k1) ⟨h1,hf.2⟩ (hq.back k1) (he.back k1)
 |false=>exact ho A env s₁ av hA (I.k k1) ⟨h1,hf.2⟩ (hq.back k1) (he.back k1)
theorem zY{e:Expr}{r:R V}(h:aH O w mg mb base n hd l sc σ e r)(he:∀ env whole,isTrue e env whole=(do let v ← whole;standAt e.pos;holding [v] (truthy v))):cC O w mg mb base n hd l sc σ e r:=by
 intro A env s av hA I β k fin Q E hf hq hE;refine wpAny_isTrue_value (h A env s av hA I hf.b (fun v s₁ a k1 ra h1=>?_) hE) (he env _);obtain⟨b,e1,e2⟩:=Fin.p ⟨h1,hf.2⟩;cases jH e1;cases (show Rep O w s₁.heap av v (.bool b) from ra).bool_inv;exact cj (hq _ _ k1 e2)
theorem Lr{x:Expr}{pos:Pos}{p:R V}(hx:cC O w mg mb base n hd l sc σ x p):cC O w mg mb base n hd l sc σ (.UnaryOp .Not x pos) (rb p fun v=>ofP (fC .Not v)):=by
 intro A env s av hA I β k fin Q E hf hq hE;refine wpAny_isTrue_Not (hx A env s av hA I (k:=fun b=>k !b) ⟨?_,hf.2⟩ (fun b s₁ k1 h1=>hq _ _ k1 h1) hE);simp only[← hf.1];cases p with
 |ok v =>
  show rb (ofP (c8 v)) _=rb (tst (ofP (fC .Not v))) k;unfold fC;cases c8 v<;>rfl
 |_=>rfl
theorem Ls{t b o:Expr}{pos:Pos}{pt pb po:R V}(ht:cC O w mg mb base n hd l sc σ t pt)(hb:cC O w mg mb base n hd l sc σ b pb)(ho:cC O w mg mb base n hd l sc σ o po) :
  cC O w mg mb base n hd l sc σ (.IfExp t b o pos) (rb (tst pt) fun c=>if c then pb else po):=by
 intro A env s av hA I β k fin Q E hf hq hE;refine U (ht A env s av hA I hf.b.b (fun c s₁ k1 h1=>?_) hE);cases c with
 |true=>exact hb A env s₁ av hA (I.k k1) (Fin.unb ⟨h1,hf.2⟩) (fun b s' k2 e=>hq b s' (k1.tr k2) e) (hE.back k1)
 |false=>exact ho A env s₁ av hA (I.k k1) (Fin.unb ⟨h1,hf.2⟩) (fun b s' k2 e=>hq b s' (k1.tr k2) e) (hE.back k1)
theorem Lu{rec:Expr→R V}{A:Around}{env:Env}{av:Addr→Prop}{pos:Pos}(hA:Room base n hd l A):∀ {vs:List Expr} {s:Shared},(∀ e∈vs,aH O w mg mb base n hd l sc σ e (rec e))→Inv0 O w mg mb base l env sc σ av s →
  ∀ {β:Type} {k:V→R β} {fin:R β} {Q:Value→Shared→Prop} {E:Value→Shared→Prop},Fin (kC rec vs) k fin→QH O w l s av k fin Q→EH O w mg l s av fin E→wpAny (model O w) A (boolOp pos .And (evalEach vs env)) Q E s:=by
 intro v0
 induction v0 with
 |nil =>
  intro _ _ _ _ _ _ _ _ hf _ _;exact hf.no.elim
 |cons e r0 ih =>
  cases r0 with
  |nil =>
   intro s h I _ _ _ _ _ hf hq he;exact h e ah A env s av hA I hf hq he
  |cons e' r =>
   intro s h I _ _ _ _ _ hf hq he;refine U (h e ah A env s av hA I (Fin.b hf) (fun v s₁ a k1 ra h1=>U (bw (U (ao ?_)))) he);obtain⟨b,e1,e2⟩:=Fin.p (Fin.b ⟨h1,hf.2⟩);cases jH e1;cases (show Rep O w s₁.heap av v (.bool b) from ra).bool_inv;cases b with
   |true=>exact cj (ih (fun x hx=>h x (ae _ hx)) (I.k k1) ⟨e2,hf.2⟩ (hq.back k1) (he.back k1))
   |false=>exact cj (ac (hq _ _ (.fz (.bool _)) k1 (.bool _) e2))
theorem Lv{rec:Expr→R V}{A:Around}{env:Env}{av:Addr→Prop}{pos:Pos}(hA:Room base n hd l A):∀ {vs:List Expr} {s:Shared},(∀ e∈vs,aH O w mg mb base n hd l sc σ e (rec e))→Inv0 O w mg mb base l env sc σ av s →
  ∀ {β:Type} {k:V→R β} {fin:R β} {Q:Value→Shared→Prop} {E:Value→Shared→Prop},Fin (kD rec vs) k fin→QH O w l s av k fin Q→EH O w mg l s av fin E→wpAny (model O w) A (boolOp pos .Or (evalEach vs env)) Q E s:=by
 intro v0
 induction v0 with
 |nil =>
  intro _ _ _ _ _ _ _ _ hf _ _;exact hf.no.elim
 |cons e r0 ih =>
  cases r0 with
  |nil =>
   intro s h I _ _ _ _ _ hf hq he;exact h e ah A env s av hA I hf hq he
  |cons e' r =>
   intro s h I _ _ _ _ _ hf hq he;refine U (h e ah A env s av hA I (Fin.b hf) (fun v s₁ a k1 ra h1=>U (bw (U (ao ?_)))) he);obtain⟨b,e1,e2⟩:=Fin.p (Fin.b ⟨h1,hf.2⟩);cases jH e1;cases (show Rep O w s₁.heap av v (.bool b) from ra).bool_inv;cases b with
   |false=>exact cj (ih (fun x hx=>h x (ae _ hx)) (I.k k1) ⟨e2,hf.2⟩ (hq.back k1) (he.back k1))
   |true=>exact cj (ac (hq _ _ (.fz (.bool _)) k1 (.bool _) e2))
theorem Lw{rec:Expr→R V}{A:Around}{env:Env}{av:Addr→Prop}(hA:Room base n hd l A):∀ {vs:List Expr} {s:Shared},(∀ e∈vs,cC O w mg mb base n hd l sc σ e (rec e))→Inv0 O w mg mb base l env sc σ av s →
  ∀ {β:Type} {k:Bool→R β} {fin:R β} {Q:Bool→Shared→Prop} {E:Value→Shared→Prop},Fin (tst (kC rec vs)) k fin→(∀ b s',K l s s'→k b=fin→Q b s')→EH O w mg l s av fin E→wpAny (model O w) A (allTrue .And vs env) Q E s:=by
 intro v0
 induction v0 with
 |nil =>
  intro _ _ _ _ _ _ _ _ hf _ _;exact hf.no.elim
 |cons e r0 ih =>
  cases r0 with
  |nil =>
   intro s h I _ _ _ _ _ hf hq he;exact wpAny_allTrue_And_cons (h e ah A env s av hA I hf (fun b s₁ k1 h1=>by
    cases b with
    |true=>exact wpAny_allTrue_And_nil (hq _ _ k1 h1)
    |false=>exact hq _ _ k1 h1) he)
  |cons e' r =>
   intro s h I _ k _ _ _ hf hq he;exact wpAny_allTrue_And_cons (h e ah A env s av hA I (k:=fun b=>if b then rb (tst (kC rec (e'::r))) k else k false) ⟨by
    simp only[← hf.1];show rb (tst (rec e)) _=rb (rb (rb (rec e) _) _) k;cases rec e with
    |ok v =>
     show rb (ofP (c8 v)) _=rb (rb (rb (ofP (c8 v)) _) _) k;cases ht:c8 v with
     |ok b=>cases jH ht;cases b<;>rfl
     |_=>rfl
    |_=>rfl,hf.2⟩ (fun b s₁ k1 h1=>by
    cases b with
    |true=>exact ih (fun x hx=>h x (ae _ hx)) (I.k k1) ⟨h1,hf.2⟩ (fun b s' k2 e=>hq b s' (k1.tr k2) e) (he.back k1)
    |false=>exact hq _ _ k1 h1) he)
theorem Lx{rec:Expr→R V}{A:Around}{env:Env}{av:Addr→Prop}(hA:Room base n hd l A):∀ {vs:List Expr} {s:Shared},(∀ e∈vs,cC O w mg mb base n hd l sc σ e (rec e))→Inv0 O w mg mb base l env sc σ av s →
  ∀ {β:Type} {k:Bool→R β} {fin:R β} {Q:Bool→Shared→Prop} {E:Value→Shared→Prop},Fin (tst (kD rec vs)) k fin→(∀ b s',K l s s'→k b=fin→Q b s')→EH O w mg l s av fin E→wpAny (model O w) A (allTrue .Or vs env) Q E s:=by
 intro v0
 induction v0 with
 |nil =>
  intro _ _ _ _ _ _ _ _ hf _ _;exact hf.no.elim
 |cons e r0 ih =>
  cases r0 with
  |nil =>
   intro s h I _ _ _ _ _ hf hq he;exact wpAny_allTrue_Or_cons (h e ah A env s av hA I hf (fun b s₁ k1 h1=>by
    cases b with
    |true=>exact hq _ _ k1 h1
    |false=>exact wpAny_allTrue_Or_nil (hq _ _ k1 h1)) he)
  |cons e' r =>
   intro s h I _ k _ _ _ hf hq he;exact wpAny_allTrue_Or_cons (h e ah A env s av hA I (k:=fun b=>if b then k true else rb (tst (kD rec (e'::r))) k) ⟨by
    simp only[← hf.1];show rb (tst (rec e)) _=rb (rb (rb (rec e) _) _) k;cases rec e with
    |ok v =>
     show rb (ofP (c8 v)) _=rb (rb (rb (ofP (c8 v)) _) _) k;cases ht:c8 v with
     |ok b=>cases jH ht;cases b<;>rfl
     |_=>rfl
    |_=>rfl,hf.2⟩ (fun b s₁ k1 h1=>by
    cases b with
    |false=>exact ih (fun x hx=>h x (ae _ hx)) (I.k k1) ⟨h1,hf.2⟩ (fun b s' k2 e=>hq b s' (k1.tr k2) e) (he.back k1)
    |true=>exact hq _ _ k1 h1) he)
end
section
variable {O:Program} {w:World} {mg mb:Str→Option Value} {base:Heap} {n:Nat} {hd:Bool} {l:List Env} {sc:Scope} {σ:aA}
theorem zZ{M:Model}{A:Around}{vs:List Value}{m:Sem Value}{Q:Value→Shared→Prop}{E:Value→Shared→Prop}{s:Shared}(h:wpAny M A m Q E s):wpAny M A (operate vs m) Q E s :=
 fun Γ p hΓ=>by rw[Sem.wp_operate];exact h Γ p hΓ
theorem z0{M:Model}{A:Around}{vs ks:List Value}{Q:Unit→Shared→Prop}{E:Value→Shared→Prop}{s:Shared}(h:Q () s):wpAny M A (release vs ks) Q E s :=
 fun Γ p hΓ=>by rw[Sem.wp_release];exact h
theorem oJ{A:Around}{s₁:Shared}{av:Addr→Prop}{op:CmpOp}{va vb:Value}{a b:PyData}{β:Type}{k:Bool→R β}{fin:R β}{Q:Value→Shared→Prop}{E:Value→Shared→Prop}(hA:Room base n hd l A)(ra:Rep O w s₁.heap av va a)(rb:Rep O w s₁.heap av vb b)
  (hf:Fin (ofP (cmp op a b)) k fin) (hq:∀ b s',Kp s₁ s'→k b=fin→Q (.bool b) s'):wpAny (model O w) A (compareOp op va vb) Q E s₁ :=
 Yd.fin (Lf hA.units80 ra rb) hf fun v s' b r e=>by rw[r.2];exact hq b s' r.1 e
theorem sL{rec:Expr→R V}(hbad:∀ e,bad e=true→rec e=.no){e:Expr}{op:CmpOp}{A:Around}{env:Env}{s:Shared}{av:Addr→Prop}{pos:Pos}{va:Value}{a:PyData}
  (h:aH O w mg mb base n hd l sc σ e (rec e)) (hA:Room base n hd l A) (I:Inv0 O w mg mb base l env sc σ av s) (ra:Rep O w s.heap av va a) {β:Type} {k:Bool→R β} {fin:R β} {E:Value→Shared→Prop} (hf:Fin (rE rec a op e) k fin) (he:EH O w mg l s av fin E) :
  (∀ {Q:Value→Shared→Prop},(∀ b s',K l s s'→k b=fin→Q (.bool b) s')→wpAny (model O w) A (compareChain pos va [op] [markedBehindIn op e (eval e env)]) Q E s) ∧
  (∀ {Q:Bool→Shared→Prop},(∀ b s',K l s s'→k b=fin→Q b s')→wpAny (model O w) A (testChain pos va [op] [markedBehindIn op e (eval e env)]) Q E s):=by
 rw[K4 (eT (hbad e) (Fin.b hf).ne)];constructor<;>intro Q hq
 ·refine U (ao (h A env s av hA I (Fin.b hf) (fun vb s₁ u k1 rb h1=>U (bw (zZ ?_))) he));exact oJ hA (ra.k I.gnd.fav k1) (rb.rep I.gnd.avlt) ⟨h1,hf.2⟩ fun b s' kk e=>hq b s' (k1.trp kk) e
 ·refine U (ao (h A env s av hA I (Fin.b hf) (fun vb s₁ u k1 rb h1=>U (bw (U (zZ ?_)))) he));exact oJ hA (ra.k I.gnd.fav k1) (rb.rep I.gnd.avlt) ⟨h1,hf.2⟩ fun b s' kk e=>ao (cj (hq b s' (k1.trp kk) e))
theorem z4{rec:Expr→R V}(hbad:∀ e,bad e=true→rec e=.no){es:List Expr}{ops:List CmpOp}{A:Around}{env:Env}{s:Shared}{av:Addr→Prop}{pos:Pos}{va:Value}{a:PyData}
  (h:∀ e∈es,aH O w mg mb base n hd l sc σ e (rec e)) (hA:Room base n hd l A) (I:Inv0 O w mg mb base l env sc σ av s) (ra:Rep O w s.heap av va a) {β:Type} {k:Bool→R β} {fin:R β} {E:Value→Shared→Prop} (hf:Fin (nF rec a ops es) k fin) (he:EH O w mg l s av fin E) :
  (∀ {Q:Value→Shared→Prop},(∀ b s',K l s s'→k b=fin→Q (.bool b) s')→wpAny (model O w) A (compareChain pos va ops (markedEach ops es (evalEach es env))) Q E s) ∧
  (∀ {Q:Bool→Shared→Prop},(∀ b s',K l s s'→k b=fin→Q b s')→wpAny (model O w) A (testChain pos va ops (markedEach ops es (evalEach es env))) Q E s):=by
 cases ops with
 |nil=>exact hf.no.elim
 |cons op ops =>
  cases es with
  |nil=>exact hf.no.elim
  |cons e es =>
   have h1:=h e ah;cases ops with
   |nil =>
    cases es with
    |nil=>exact sL hbad h1 hA I ra hf he
    |cons=>exact hf.no.elim
   |cons op' ops =>
    cases es with
    |nil=>exact hf.no.elim
    |cons e' es =>
     have h2:=h e' (ae _ ah);cases ops with
     |cons=>exact hf.no.elim
     |nil =>
      cases es with
      |cons=>exact hf.no.elim
      |nil =>
       constructor<;>intro Q hq
       ·refine U (ao (h1 A env s av hA I (Fin.b hf) (fun vb s₁ u k1 rb g1=>U (bw (U (ao ?_)))) he));have r1:=rb.rep I.gnd.avlt;refine oJ hA (ra.k I.gnd.fav k1) r1 (Fin.b ⟨g1,hf.2⟩) fun t s₂ kk g2=>U (z0 (U (ao (cj ?_))));have k2:=k1.trp kk;cases t with
        |false=>exact ac (hq _ _ k2 g2)
        |true=>exact(sL hbad h2 hA (I.k k2) (r1.keeps kk.heap) ⟨g2,hf.2⟩ (he.back k2)).1 fun b s' k3 g3=>hq _ _ (k2.tr k3) g3
       ·refine U (ao (h1 A env s av hA I (Fin.b hf) (fun vb s₁ u k1 rb g1=>U (bw (U (ao ?_)))) he));have r1:=rb.rep I.gnd.avlt;refine oJ hA (ra.k I.gnd.fav k1) r1 (Fin.b ⟨g1,hf.2⟩) fun t s₂ kk g2=>U (z0 (U (ao (cj ?_))));have k2:=k1.trp kk;cases t with
        |false=>exact ac (hq _ _ k2 g2)
        |true=>exact(sL hbad h2 hA (I.k k2) (r1.keeps kk.heap) ⟨g2,hf.2⟩ (he.back k2)).2 fun b s' k3 g3=>hq _ _ (k2.tr k3) g3
theorem Ly{rec:Expr→R V}(hbad:∀ e,bad e=true→rec e=.no){e:Expr}{ops:List CmpOp}{es:List Expr}{pos:Pos}(hl:aH O w mg mb base n hd l sc σ e (rec e))
  (h:∀ e∈es,aH O w mg mb base n hd l sc σ e (rec e)):aH O w mg mb base n hd l sc σ (.Compare e ops es pos) (rb (rec e) fun a=>aN (nF rec (dOf a) ops es)):=by
 intro A env s av hA I β k fin Q E hf hq he;refine U (hl A env s av hA I hf.b (fun va s₁ a k1 ra h1=>?_) he);exact(z4 hbad h hA (I.k k1) (ra.rep I.gnd.avlt) (Fin.b ⟨h1,hf.2⟩) (he.back k1)).1 fun b s' k2 e=>hq _ _ (.fz (.bool b)) (k1.tr k2) (.bool b) e
theorem Lz{rec:Expr→R V}(hbad:∀ e,bad e=true→rec e=.no){e:Expr}{ops:List CmpOp}{es:List Expr}{pos:Pos}(hl:aH O w mg mb base n hd l sc σ e (rec e))
  (h:∀ e∈es,aH O w mg mb base n hd l sc σ e (rec e)):cC O w mg mb base n hd l sc σ (.Compare e ops es pos) (rb (rec e) fun a=>aN (nF rec (dOf a) ops es)):=by
 intro A env s av hA I β k fin Q E hf hq he;refine U (hl A env s av hA I (Fin.b (Fin.b hf)) (fun va s₁ a k1 ra h1=>?_) he);exact(z4 hbad h hA (I.k k1) (ra.rep I.gnd.avlt) (Fin.b ⟨h1,hf.2⟩) (he.back k1)).2 fun b s' k2 e=>hq _ _ (k1.tr k2) e
def sM(O:Program)(w:World)(mg mb:Str→Option Value)(base:Heap)(n:Nat)(hd:Bool)(l:List Env)(sc:Scope)(σ:aA)(av:Addr→Prop)(C:Shared→Value→V→Prop)(e:Expr)(r:R V):Prop :=
 ∀ (A:Around) (env:Env) (s:Shared),Room base n hd l A→Inv0 O w mg mb base l env sc σ av s →
  ∀ {β:Type} {k:V→R β} {fin:R β} {Q:Value→Shared→Prop} {E:Value→Shared→Prop},Fin r k fin→(∀ v s' u,K l s s'→C s' v u.cl→k u=fin→Q v s')→EH O w mg l s av fin E→wpAny (model O w) A (eval e env) Q E s
def f6(C:Shared→Value→V→Prop)(s:Shared):List Value→List V→Prop
 | [],[]=>True
 |v::vs,u::us=>C s v u∧f6 C s vs us
 |_,_=>False
theorem f6.len{C:Shared→Value→V→Prop}{s:Shared}:∀ {vs:List Value} {us:List V},f6 C s vs us→vs.length=us.length
 | [],[],_=>rfl
 |_::_,_::_,h=>congrArg Nat.succ h.2.len
 | [],_::_,h=>h.elim
 |_::_,[],h=>h.elim
theorem f6.at{C:Shared→Value→V→Prop}{s:Shared}:∀ {vs:List Value} {us:List V},f6 C s vs us→∀ (i:Nat) (v:Value) (u:V),vs[i]?=some v→us[i]?=some u→C s v u
 |_::_,_::_,h,0,_,_,e1,e2=>by obtain rfl:=si e1;obtain rfl:=si e2;exact h.1
 |_::_,_::_,h,i+1,_,_,e1,e2=>h.2.at i _ _ e1 e2
 | [],[],_,i,_,_,e1,_=>by exact ns e1
 | [],_::_,h,_,_,_,_,_=>h.elim
 |_::_,[],h,_,_,_,_,_=>h.elim
theorem z5{rec:Expr→R V}(hbad:∀ e,bad e=true→rec e=.no){A:Around}{env:Env}{av:Addr→Prop}{C:Shared→Value→V→Prop}(hC:∀ s s' v u,K l s s'→C s v u→C s' v u){pos:Pos}(hA:Room base n hd l A):∀ {es:List Expr} {s:Shared},(∀ e∈es,sM O w mg mb base n hd l sc σ av C e (rec e))→Inv0 O w mg mb base l env sc σ av s →
  ∀ {β:Type} {k:List V→R β} {fin:R β} {Q:List Value→Shared→Prop} {E:Value→Shared→Prop},Fin (evs rec es) k fin→(∀ vs s' us,K l s s'→f6 C s' vs us→k us=fin→Q vs s')→EH O w mg l s av fin E →
   wpAny (model O w) A (spliced (backTo pos (starEach es env))) Q E s:=by
 intro v0
 induction v0 with
 |nil =>
  intro s _ _ _ _ _ _ _ hf hq _;exact ft (hq _ _ [] (K.rf l s) trivial hf.ok)
 |cons e es ih =>
  intro s h I _ _ _ _ _ hf hq he;have hst:starEach (e::es) env=_:=eS (eT (hbad e) (Fin.b hf).ne);refine fu (h e ah A env s hA I (Fin.b hf) (fun v s₁ u k1 r h1=>?_) he) hst;refine ih (fun x hx=>h x (ae _ hx)) (I.k k1) (Fin.b ⟨h1,hf.2⟩) (fun vs s₂ us k2 rs h2=>?_) (he.back k1);exact hq _ _ (u.cl::us) (k1.tr k2) ⟨hC _ _ _ _ k2 r,rs⟩ h2
theorem L0(u:V):dOf u.cl=dOf u:=by cases u<;>rfl
abbrev CD(O:Program)(w:World)(av:Addr→Prop)(s:Shared)(v:Value)(u:V):Prop:=Rep O w s.heap av v (dOf u)
theorem aH.item{av:Addr→Prop}{e:Expr}{r:R V}(h:aH O w mg mb base n hd l sc σ e r):sM O w mg mb base n hd l sc σ av (CD O w av) e r :=
 fun A env s hA I _ _ _ _ _ hf hq he=>h A env s av hA I hf (fun v s' u k r e=>hq v s' u k (show Rep _ _ _ _ _ _ from (L0 u).symm▸r.rep I.gnd.avlt) e) he
theorem z6{s:Shared}{av:Addr→Prop}{vs:List Value}{us:List V}(r:f6 (CD O w av) s vs us):vs.length=(bY us).length∧∀ (i:Nat) (v:Value) (d:PyData),vs[i]?=some v→(bY us)[i]?=some d→Rep O w s.heap av v d:=by
 refine⟨by rw[bY,List.length_map];exact r.len,fun i v d e1 e2=>?_⟩;rw[bY,List.getElem?_map,bf] at e2;obtain⟨u,e,rfl⟩:=e2;exact r.at i v u e1 e
theorem jI{rec:Expr→R V}(hbad:∀ e,bad e=true→rec e=.no){A:Around}{env:Env}{s:Shared}{av:Addr→Prop}{pos:Pos}(hA:Room base n hd l A){es:List Expr}(h:∀ e∈es,aH O w mg mb base n hd l sc σ e (rec e))(I:Inv0 O w mg mb base l env sc σ av s)
  {β:Type} {k:List V→R β} {fin:R β} {Q:List Value→Shared→Prop} {E:Value→Shared→Prop} (hf:Fin (evs rec es) k fin)
  (hq:∀ vs s' us,K l s s'→vs.length=(bY us).length→(∀ (i:Nat) (v:Value) (d:PyData),vs[i]?=some v→(bY us)[i]?=some d→Rep O w s'.heap av v d)→k us=fin→Q vs s') (he:EH O w mg l s av fin E) :
   wpAny (model O w) A (spliced (backTo pos (starEach es env))) Q E s :=
 z5 (C:=CD O w av) hbad (fun _ _ _ _ k r=>Rep.k I.gnd.fav k r) hA (fun e m=>(h e m).item) I hf (fun vs s' us k r e=>hq vs s' us k (z6 r).1 (z6 r).2 e) he
theorem L3{rec:Expr→R V}(hbad:∀ e,bad e=true→rec e=.no){es:List Expr}{pos:Pos}(h:∀ e∈es,aH O w mg mb base n hd l sc σ e (rec e)) :
  aH O w mg mb base n hd l sc σ (.List es pos) (rb (evs rec es) fun l=>if l.length≤bA then .ok (.own (.list (bY l))) else .no):=by
 intro A env s av hA I β k fin Q E hf hq he;refine wpAny_List (jI hbad hA h I hf.b (fun vs s₁ us k1 h1 h2 e1=>?_) he);obtain⟨hz,e2⟩:=Fin.ite ⟨e1,hf.2⟩;have hz:vs.length≤sizeLine:=by rw[h1,bY,List.length_map];exact hz
 exact⟨hz,hq.step k1 (sK (Kp.rfl' _) h1 hz h2) e2.ok⟩
theorem L4{rec:Expr→R V}(hbad:∀ e,bad e=true→rec e=.no){es:List Expr}{t:Nat}{pos:Pos}(h:∀ e∈es,aH O w mg mb base n hd l sc σ e (rec e)) :
  aH O w mg mb base n hd l sc σ (.Tuple es t pos) (rb (evs rec es) fun l=>if l.length≤bA then .ok (.fz (.tuple (bY l))) else .no):=by
 intro A env s av hA I β k fin Q E hf hq he;refine wpAny_Tuple (jI hbad hA h I hf.b (fun vs s₁ us k1 h1 h2 e1=>?_) he);obtain⟨hz,e2⟩:=Fin.ite ⟨e1,hf.2⟩;have hz:vs.length≤sizeLine:=by rw[h1,bY,List.length_map];exact hz
 exact⟨hz,hq.step k1 (zU (Kp.rfl' _) (I.gnd.k k1).avlt h1 hz h2) e2.ok⟩
end
section
variable {O:Program} {w:World} {mg mb:Str→Option Value} {base:Heap} {n:Nat} {hd:Bool} {l:List Env} {sc:Scope} {σ:aA}
def cN(O:Program)(w:World)(h:Heap)(av:Addr→Prop)(v:Value)(d:PyData):Prop:=Rep O w h av v d∨∃ a,v=.ref a∧bM O w h av a d
theorem cN.keeps{h h':Heap}{av:Addr→Prop}{v:Value}{d:PyData}(hk:∀ b o,h.get? b=some o→h'.get? b=some o)(r:cN O w h av v d):cN O w h' av v d :=
 r.imp (·.keeps hk) fun hh=>by obtain⟨a,e,r⟩:=hh;exact⟨a,e,r.mono (fun b o _ e=>hk b o e) (fun _ _ _ x=>x) fun o e=>hk _ o e⟩
theorem Rep.ref_not{h:Heap}{av:Addr→Prop}{v:Value}{d:PyData}{a:Addr}(r:Rep O w h av v d)(e:v=.ref a):¬ av a:=by
 cases r with
 |list h1=>cases e;exact h1
 |tuple h1=>cases e;exact h1
 |dict h1=>cases e;exact h1
 |_=>cases e
theorem cN.k{s s':Shared}{av:Addr→Prop}{v:Value}{d:PyData}(fav:∀ b,frs l b→av b)(k:K l s s')(r:cN O w s.heap av v d∧(∀ a,v=.ref a→¬ frs l a)):cN O w s'.heap av v d∧(∀ a,v=.ref a→¬ frs l a) :=
 ⟨r.1.imp (·.k fav k) fun hh=>by obtain⟨a,e,b⟩:=hh;exact⟨a,e,b.k fav k (r.2 a e)⟩,r.2⟩
inductive TopL(O:Program)(w:World)(h:Heap)(av:Addr→Prop)(v:Value)(ds:List PyData):Prop where
 |mk (a:Addr) (vs:List Value) (e:v=.ref a) (p:h.PlainList a (List.toArray vs)) (l:vs.length=ds.length) (z:vs.length≤sizeLine) (r:∀ (i:Nat) (v:Value) (d:PyData),vs[i]?=some v→ds[i]?=some d→Rep O w h av v d):TopL O w h av v ds
inductive TopT(O:Program)(w:World)(h:Heap)(av:Addr→Prop)(v:Value)(ds:List PyData):Prop where
 |mk (a:Addr) (vs:List Value) (e:v=.ref a) (p:PlT h a (List.toArray vs)) (l:vs.length=ds.length) (z:vs.length≤sizeLine) (r:∀ (i:Nat) (v:Value) (d:PyData),vs[i]?=some v→ds[i]?=some d→Rep O w h av v d):TopT O w h av v ds
theorem cN.list{h:Heap}{av:Addr→Prop}{v:Value}{ds:List PyData}(r:cN O w h av v (.list ds)):TopL O w h av v ds:=by
 rcases r with r | ⟨a,e,vs,r1,r2,r3,r4⟩
 ·cases r with
  |list h1 h2 h3 h4 h5=>exact⟨_,_,rfl,h2,h3,h4,h5⟩
 ·exact⟨a,vs,e,r1,r2,r3,r4⟩
theorem cN.tuple{h:Heap}{av:Addr→Prop}{v:Value}{ds:List PyData}(r:cN O w h av v (.tuple ds)):TopT O w h av v ds:=by
 rcases r with r | ⟨a,e,r⟩
 ·cases r with
  |tuple h1 h2 h3 h4 h5=>exact⟨_,_,rfl,h2,h3,h4,h5⟩
 ·exact r.elim
inductive TopD(O:Program)(w:World)(h:Heap)(av:Addr→Prop)(v:Value)(ds:List (PyData×PyData)):Prop where
 |mk (a:Addr) (kvs:List (Str×Value)) (e:v=.ref a) (p:h.DictOf (strKind O w) a kvs) (z:kvs.length≤sizeLine∧∀ kv∈kvs,kv.1.length≤sizeLine) (m:(a==sysModules)=false)
  (l:ds.map (·.1)=kvs.map (fun kv=>PyData.str kv.1)) (r:∀ (i:Nat) (kv:Str×Value) (d:PyData×PyData),kvs[i]?=some kv→ds[i]?=some d→Rep O w h av kv.2 d.2):TopD O w h av v ds
theorem cN.dict{h:Heap}{av:Addr→Prop}{v:Value}{ds:List (PyData×PyData)}(r:cN O w h av v (.dict ds)):TopD O w h av v ds:=by
 rcases r with r | ⟨a,e,kvs,r1,r2,r3,r4,r5⟩
 ·obtain⟨a,kvs,e,_,r1,r2,r3,r4,r5⟩:=r.dict_inv;exact⟨a,kvs,e,r1,r2,r3,r4,r5⟩
 ·exact⟨a,kvs,e,r1,r2,r3,r4,r5⟩
theorem cN.str{h:Heap}{av:Addr→Prop}{v:Value}{x:Str}(r:cN O w h av v (.str x)):∃ t,v=.str x t∧x.length≤sizeLine:=by
 rcases r with r | ⟨a,e,r⟩
 ·exact r.str_inv
 ·exact r.elim
theorem Yd.frz{γ:Type}{W:WP γ}{R:γ→Shared→V→Prop}{o:Option PyData}(k:∀ d,o=some d→Yd W R (.ok (.fz d))):Yd W R (frz o):=by
 cases o with
 |none=>exact trivial
 |some d=>exact k d rfl
def z7(s:Shared)(v:Value):Prop:=∃ T id,s.TypeIs v T∧typeLookup (.type T) "__getitem__" = pure (some (.builtin id))
def GS(O:Program)(w:World)(A:Around)(s:Shared)(av:Addr→Prop)(va vi:Value)(p:P V):Prop :=
 Yd (fun Q E=>z7 s va∧wpAny (model O w) A (PySem.getItem va vi) Q E s) (fun v s' u=>Kp s s'∧bF O w s s'.heap av v u) p
theorem z8{α β:Type}{xs:List α}{ys:List β}(hl:xs.length=ys.length){i:Nat}{y:β}(e:ys[i]?=some y):∃ x,xs[i]?=some x :=
 ⟨_,List.getElem?_eq_getElem (hl▸(bg.mp e).1)⟩
theorem sN{k:Int}{n:Nat}(h:0≤k∧k < n)(hn:n≤sizeLine):-2 ^ 63≤k∧k < 2 ^ 63:=by
 have hs:(n:Int)≤16777216:=bk.mpr (aa hn (ca sizeLine_eq));exact⟨bb (by decide) h.1,bv h.2 (bb hs (by decide))⟩
theorem L5{A:Around}{s:Shared}{av:Addr→Prop}{va vi:Value}{a i:PyData}(ra:cN O w s.heap av va a)(ri:Rep O w s.heap av vi i):GS O w A s av va vi (getItem a i):=by
 cases i with
 |int k =>
  obtain⟨t,rfl⟩:=ri.int_inv;cases a with
  |list l =>
   obtain⟨ad,vs,rfl,h2,h3,h4,h5⟩:=ra.list;refine Yd.ite2 (fun _=>Yd.ite fun c=>Yd.frz fun d e=>?_) fun _=>Yd.ite fun c=>Yd.frz fun d e=>?_<;>obtain⟨v,e1⟩:=z8 h3 e
   ·exact fun Q E hq=>⟨⟨"list", _,h2.isList.typeIs,list_getitem_lookup⟩,wpAny_getItem_list h2.isList c.1 (sN (h3▸c) h4).2 (by simpa using e1) (hq _ _ ⟨Kp.rfl' s,h5 _ _ _ e1 e⟩)⟩
   ·rw[← h3] at c e1;exact fun Q E hq=>⟨⟨"list", _,h2.isList.typeIs,list_getitem_lookup⟩,wpAny_getItem_list_neg h2.isList c.1 c.2 (by have:=sizeLine_eq;lia) (by simpa using e1) (hq _ _ ⟨Kp.rfl' s,h5 _ _ _ e1 (h3▸e)⟩)⟩
  |tuple l =>
   obtain⟨ad,vs,rfl,h2,h3,h4,h5⟩:=ra.tuple;refine Yd.ite fun c=>Yd.frz fun d e=>?_;obtain⟨v,e1⟩:=z8 h3 e;have hf:=sN (h3▸c) h4;exact fun Q E hq=>⟨⟨"tuple", _,h2.isTuple.typeIs,PyProof.Rows.slot_tuple_getitem.lookup⟩,by obtain⟨n,h2⟩:=h2;exact P.getItem_tuple h2 hf.1 hf.2 (k:=k.toNat) (seqIndex_of c.1 (h3▸c).2) (by simpa using e1) (hq _ _ ⟨Kp.rfl' s,h5 _ _ _ e1 e⟩)⟩
  |str x =>
   obtain⟨t',rfl,hx⟩:=ra.str;refine Yd.ite fun c=>Yd.frz fun d e=>?_;obtain⟨ch,e1,rfl⟩:=bf.mp e;have hf:=sN c hx;exact fun Q E hq=>⟨⟨"str", _,rfl,PyProof.Rows.slot_str_getitem.lookup⟩,PyProof.Rows.getItem_str (Bool.or_eq_false_iff.mpr ⟨decide_eq_false (cv.mpr hf.1),decide_eq_false (Int.not_le.mpr hf.2)⟩) (c:=ch)
    (by rw[show seqIndex? k x.length=some k.toNat from seqIndex_of c.1 c.2];exact e1) (hq _ _ ⟨Kp.tok' s _,.str _ _ (by rw[sizeLine_eq];exact ew rfl)⟩)⟩
  |_=>exact trivial
 |str x =>
  obtain⟨t,rfl,hx⟩:=ri.str_inv;cases a with
  |dict l =>
   obtain⟨ad,kvs,rfl,h2,h3,h4,h5,h6⟩:=ra.dict;refine Yd.frz fun d e=>?_;rcases kR x h5 with ⟨e1,e2⟩ | ⟨i,v,d',e1,e2,e3,e4⟩
   ·rw[e2] at e;exact ns e
   ·rw[e2] at e;obtain rfl:=si e;exact fun Q E hq=>⟨⟨"dict", _,h2.typeIs,F.slot_dict_getitem.lookup⟩,wpAny_getItem_of (eV x t) h2.mapOf e1 (hq _ _ ⟨Kp.tok' s _,h6 i _ _ e3 e4⟩)⟩
  |_=>exact trivial
 |_=>exact trivial
theorem sO{A:Around}{E:Value→Shared→Prop}{s:Shared}{env:Env}{value slice:Expr}{pos:Pos}{Q:Value→Shared→Prop}(hs:∃ f:Value→Value→List Value,∀ o i,subscripted slice false o i=operate (f o i) (PySem.getItem o i))
  (h:wpAny (model O w) A (eval value env) (fun o s₁=>wpAny (model O w) A (eval slice env) (fun i s₂=>z7 s₂ o∧wpAny (model O w) A (PySem.getItem o i) Q E s₂) E s₁) E s) :
  wpAny (model O w) A (eval (.Subscript value slice pos) env) Q E s:=by
 rw[eval_Subscript];refine U (aq h (fun o s₁ h₁=>U (ao (aq h₁ (fun i s₂ h₂=>U (bw ?_)) fun _ _ x=>x))) fun _ _ x=>x);refine hde fun _ θ=>?_;obtain⟨⟨T,id,hT,hl⟩,hg⟩:=h₂;apply θ;refine U ?_;rw[getitemInPython_of_ne hT.not_modules];refine U (wpAny_specialOf hT hl ?_);have fin:wpAny (model O w) A (subscripted slice false o i) (fun r s₃=>wpAny (model O w) A (letTemporaryGo value o r >>= fun _=>pure r) Q E s₃) E s₂:=by
  obtain⟨f,hs⟩:=hs;rw[hs];exact wpAny_operating (aq hg (fun r s₃ h₃=>U (wpAny_letTemporaryGo (ac h₃))) fun _ _ x=>x)
 first
  |exact ac (U fin)
  |exact U (ac (U fin))
  |exact U fin
theorem z9{o:Option (Option V)}{α:Type}{f:V→Option α}{d:α}(h:(match o with | some o=>(match o with | some v=>f v | none=>none) | none=>none)=some d):∃ v,o=some (some v)∧f v=some d:=by
 cases o with
 |none=>exact ns h
 |some o =>
  cases o with
  |none=>exact ns h
  |some v=>exact⟨v,rfl,h⟩
theorem Aa{c:Prop}[Decidable c]{α:Type}{a b:α}(h:(if c then some a else none)=some b):c∧a=b:=by
 by_cases hc:c
 ·rw[if_pos hc] at h;obtain rfl:=si h;exact⟨hc,rfl⟩
 ·rw[if_neg hc] at h;exact ns h
theorem Ab{x:Str}{d:PyData}(h:kE sc σ x=some d):isL sc x=true∧aA.get σ x=some (some (.own d)):=by
 obtain⟨v,e,h⟩:=z9 (f:=fun v=>match v with | .own d=>if isL sc x then some d else none | _=>none) h;cases v with
 |own d'=>obtain⟨hl,rfl⟩:=Aa h;exact⟨hl,e⟩
 |_=>exact ns h
theorem L6{x:Str}{d:X}(h:yH sc σ x=some d):isL sc x=true∧aA.get σ x=some (some (.ex d)):=by
 obtain⟨v,e,h⟩:=z9 (f:=fun v=>match v with | .ex d=>if isL sc x then some d else none | _=>none) h;cases v with
 |ex d'=>obtain⟨hl,rfl⟩:=Aa h;exact⟨hl,e⟩
 |_=>exact ns h
theorem L7{e:Expr}{d:PyData}(h:nI sc σ e=some d):∃ x p,e=.Name x p∧isL sc x=true∧aA.get σ x=some (some (.own d)):=by
 unfold nI at h;refine ocs (bH e) (fun hn=>?_) fun x hn=>?_
 ·rw[hn] at h;exact ns h
 ·rw[hn] at h;obtain⟨p,rfl⟩:=dG hn;exact⟨x,p,rfl,Ab h⟩
theorem L8{e:Expr}{d:X}(h:kF sc σ e=some d):∃ x p,e=.Name x p∧isL sc x=true∧aA.get σ x=some (some (.ex d)):=by
 unfold kF at h;refine ocs (bH e) (fun hn=>?_) fun x hn=>?_
 ·rw[hn] at h;exact ns h
 ·rw[hn] at h;obtain⟨p,rfl⟩:=dG hn;exact⟨x,p,rfl,L6 h⟩
theorem Ac{rec:Expr→R V}{o:Expr}(h:aH O w mg mb base n hd l sc σ o (rec o)){A:Around}{env:Env}{s:Shared}{av:Addr→Prop}(hA:Room base n hd l A)(I:Inv0 O w mg mb base l env sc σ av s)
  {β:Type} {k:PyData→R β} {fin:R β} {Q:Value→Shared→Prop} {E:Value→Shared→Prop} (hf:Fin (nJ rec sc σ o) k fin) (hq:∀ v s' d,K l s s'→cN O w s'.heap av v d∧(∀ a,v=.ref a→¬ frs l a)→k d=fin→Q v s') (he:EH O w mg l s av fin E):wpAny (model O w) A (eval o env) Q E s:=by
 unfold nJ at hf;refine ocs (nI sc σ o) (fun e=>?_) fun d e=>?_
 ·rw[e] at hf;exact h A env s av hA I hf.b (fun v s₁ u k1 r h1=>hq _ _ _ k1 ⟨.inl (r.rep I.gnd.avlt),fun a ha f=>(r.rep I.gnd.avlt).ref_not ha (I.gnd.fav _ f)⟩ h1) he
 ·rw[e] at hf;refine hde fun _ θ=>?_;obtain⟨x,pos,rfl,hl,e⟩:=L7 e;obtain⟨u,h1,a,rfl,n1,h2⟩:=I.get _ _ hl e;apply θ;exact fZ I hl h1 (hq _ _ _ (K.rf l s) ⟨.inr ⟨a,rfl,h2⟩,fun a' ha=>by cases ha;exact n1⟩ hf.ok)
theorem L9{α:Type}(l:List α)(lo hi:Option Int):(slice l lo hi).length≤l.length:=by
 unfold slice;rw[List.length_take,gr];exact Fp
theorem Ma{α β:Type}{l:List α}{m:List β}(hl:l.length=m.length){lo hi:Option Int}{i:Nat}{x:α}{y:β}(e1:(slice l lo hi)[i]?=some x)(e2:(slice m lo hi)[i]?=some y) :
  ∃ j:Nat,l[j]?=some x∧m[j]?=some y:=by
 unfold slice at e1 e2;rw[← hl] at e2;rw[List.getElem?_take] at e1 e2
 split at e1
 ·rename_i h;rw[if_pos h] at e2;rw[List.getElem?_drop] at e1 e2;exact⟨_,e1,e2⟩
 ·exact ns e1
theorem Mb{α β:Type}{l:List α}{m:List β}(hl:l.length=m.length)(lo hi:Option Int):(slice l lo hi).length=(slice m lo hi).length:=by
 unfold slice;rw[List.length_take,List.length_take,gr,gr,hl]
def sP(v:Value)(k:Option Int):Prop:=IsPart v k∧∃ p,v=partValue p∧p.map (·.1)=k
theorem Ad{rec:Expr→R V}{e:Option Expr}(h:∀ x,e=some x→aH O w mg mb base n hd l sc σ x (rec x)){A:Around}{env:Env}{s:Shared}{av:Addr→Prop}(hA:Room base n hd l A)(I:Inv0 O w mg mb base l env sc σ av s)
  {β:Type} {k:Option Int→R β} {fin:R β} {Q:Value→Shared→Prop} {E:Value→Shared→Prop} (hf:Fin (rO rec e) k fin) (hq:∀ v s' d,K l s s'→sP v d→k d=fin→Q v s') (he:EH O w mg l s av fin E):wpAny (model O w) A (evalPart e env) Q E s:=by
 cases e with
 |none=>exact wpAny_evalPart_none (hq _ _ none (K.rf l s) ⟨.none,none,rfl,rfl⟩ hf.ok)
 |some x =>
  refine wpAny_evalPart_some (h x rfl A env s av hA I (Fin.b hf) (fun v s₁ u k1 r h1=>?_) he);obtain⟨i,e1,e2⟩:=Fin.p ⟨h1,hf.2⟩;cases u with
  |fz d =>
   cases d with
   |int i =>
    obtain rfl:=pi e1;obtain⟨t,rfl⟩:=(show Rep O w s₁.heap av v (.int i) from r).int_inv;exact hq _ _ _ k1 ⟨.int i t,some (i,t),rfl,rfl⟩ e2
   |_=>exact pno e1
  |_=>exact pno e1
noncomputable def sQ(s:Shared)(vl vu:Value):Shared:={ s with heap:=s.heap.push { cls:=.type "slice", data:=.fields #[vl,vu,.none] } }
theorem Mc{A:Around}{s:Shared}{av:Addr→Prop}{va vl vu:Value}{a:PyData}{kl kh:Option Int}(hav:∀ b,av b→∃ o,s.heap.get? b=some o)(rt:cN O w (sQ s vl vu).heap av va a)(rl:sP vl kl)(rh:sP vu kh) :
  GS O w A (sQ s vl vu) av va (.ref s.heap.objs.size) (iX a kl kh):=by
 cases a with
 |list l =>
  obtain⟨ad,vs,rfl,p2,p3,p4,p5⟩:=rt.list;refine fun Q E hq=>⟨⟨"list", _,p2.isList.typeIs,list_getitem_lookup⟩,wpAny_getItem_list_slice p2.isList (Heap.IsSliceOf.new ..) rl.1 rh.1 .none (by simp) ?_ (by simpa using p4)⟩
  have e:slicePick vs.toArray kl kh none=(slice vs kl kh).toArray:=by rw[slicePick_plain];simp[slice]
  rw[e];exact hq _ _ (sK (Kp.rfl' _) (Mb p3 kl kh) (aa (L9 _ _ _) p4) fun i v d e1 e2=>by obtain⟨j,e3,e4⟩:=Ma p3 e1 e2;exact p5 j v d e3 e4)
 |_=>exact trivial
theorem Md{rec:Expr→R V}{o i:Expr}{pos:Pos}(ho:aH O w mg mb base n hd l sc σ o (rec o))(hidx:aH O w mg mb base n hd l sc σ i (rec i))
  (hs:∀ c,kG i=some c→(∀ x,c.1=some x→aH O w mg mb base n hd l sc σ x (rec x))∧(∀ x,c.2.1=some x→aH O w mg mb base n hd l sc σ x (rec x))) :
  aH O w mg mb base n hd l sc σ (.Subscript o i pos) (rP rec sc σ o i):=by
 intro A env s av hA I β k fin Q E hf hq he;unfold rP at hf;cases hv:kG i with
 |some c =>
  rw[hv] at hf;obtain⟨g1,g2⟩:=hs c hv;obtain⟨p,rfl⟩:=K3 hv;obtain⟨lo,hi,st⟩:=c;cases st with
  |some x=>exact hf.no.elim
  |none =>
   refine sO ⟨_,fun _ _=>rfl⟩ (Ac ho hA I (Fin.b hf) (fun va s₁ a k1 ra h1=>?_) he);have I1:=I.k k1;refine wpAny_Slice (Ad g1 hA I1 (Fin.b ⟨h1,hf.2⟩) (fun vl s₂ kl k2 rl h2=>Ad g2 hA (I1.k k2) (Fin.b ⟨h2,hf.2⟩) (fun vu s₃ kh k3 rh h3=>wpAny_evalPart_none ?_) (he.back (k1.tr k2))) (he.back k1));have kk:=(k1.tr k2).tr k3;have hp:Kp s₃ (sQ s₃ vl vu):=Kp.push' s₃ _;exact Yd.fin (Mc (A:=A) (I.gnd.k kk).avlt ((cN.k I.gnd.fav k3 (cN.k I.gnd.fav k2 ra)).1.keeps hp.heap) rl rh) ⟨h3,hf.2⟩ fun v s' u r e=>hq.step (kk.trp hp) r e
 |none =>
  rw[hv] at hf;refine bcs (bad i) (fun hb=>?_) fun hb=>?_
  ·rw[hb] at hf;refine sO ⟨_,fun _ _=>zG hb⟩ (Ac ho hA I (Fin.b hf) (fun va s₁ a k1 ra h1=>?_) he);have I1:=I.k k1;exact hidx A env s₁ av hA I1 (Fin.b ⟨h1,hf.2⟩) (fun vi s₂ u k2 r h2=>Yd.fin (L5 (A:=A) (cN.k I.gnd.fav k2 ra).1 (r.rep I1.gnd.avlt)) ⟨h2,hf.2⟩ fun v s' u r e=>hq.step (k1.tr k2) r e) (he.back k1)
  ·rw[hb] at hf;exact hf.no.elim
end
section
variable {O:Program} {w:World} {mg mb:Str→Option Value} {base:Heap}
def iF(O:Program)(w:World)(A:Around)(s:Shared)(v:Value)(T:String)(b:Bool):Prop :=
 ∀ (Q:Value→Shared→Prop) (E:Value→Shared→Prop),(∀ tk,Q (.bool b) { s with toks:=tk })→wpAny (model O w) A (call (.builtin "isinstance") [v,.type T]) Q E s
theorem Me{A:Around}{s:Shared}{av:Addr→Prop}{v:Value}{d:PyData}(r:Rep O w s.heap av v d) :
  iF O w A s v "dict" (bT d)∧iF O w A s v "int" (fU d)∧iF O w A s v "bool" (gE d)∧iF O w A s v "str" (q8 d)∧iF O w A s v "list" (xZ d)∧iF O w A s v "tuple" (nE d):=by
 cases r with
 |none=>exact⟨fun Q E hq=>IsiPair.NoneType_dict (hq _),fun Q E hq=>IsiPair.NoneType_int (hq _),fun Q E hq=>IsiPair.NoneType_bool (hq _),fun Q E hq=>IsiPair.NoneType_str (hq _),fun Q E hq=>IsiPair.NoneType_list (hq _),fun Q E hq=>IsiPair.NoneType_tuple (hq _)⟩
 |bool _=>exact⟨fun Q E hq=>IsiPair.bool_dict (hq _),fun Q E hq=>IsiPair.bool_int (hq _),fun Q E hq=>IsiPair.bool_bool (hq _),fun Q E hq=>IsiPair.bool_str (hq _),fun Q E hq=>IsiPair.bool_list (hq _),fun Q E hq=>IsiPair.bool_tuple (hq _)⟩
 |int _ _=>exact⟨fun Q E hq=>IsiPair.int_dict (hq _),fun Q E hq=>IsiPair.int_int (hq _),fun Q E hq=>IsiPair.int_bool (hq _),fun Q E hq=>IsiPair.int_str (hq _),fun Q E hq=>IsiPair.int_list (hq _),fun Q E hq=>IsiPair.int_tuple (hq _)⟩
 |str _ _ _=>exact⟨fun Q E hq=>IsiPair.str_dict (hq _),fun Q E hq=>IsiPair.str_int (hq _),fun Q E hq=>IsiPair.str_bool (hq _),fun Q E hq=>IsiPair.str_str (hq _),fun Q E hq=>IsiPair.str_list (hq _),fun Q E hq=>IsiPair.str_tuple (hq _)⟩
 |list _ h2=>obtain⟨n,e⟩:=h2;exact⟨fun Q E hq=>IsiPair.list_dict e rfl (hq _),fun Q E hq=>IsiPair.list_int e rfl (hq _),fun Q E hq=>IsiPair.list_bool e rfl (hq _),fun Q E hq=>IsiPair.list_str e rfl (hq _),fun Q E hq=>IsiPair.list_list e rfl (hq _),fun Q E hq=>IsiPair.list_tuple e rfl (hq _)⟩
 |tuple _ h2=>obtain⟨n,e⟩:=h2;exact⟨fun Q E hq=>IsiPair.tuple_dict e rfl (hq _),fun Q E hq=>IsiPair.tuple_int e rfl (hq _),fun Q E hq=>IsiPair.tuple_bool e rfl (hq _),fun Q E hq=>IsiPair.tuple_str e rfl (hq _),fun Q E hq=>IsiPair.tuple_list e rfl (hq _),fun Q E hq=>IsiPair.tuple_tuple e rfl (hq _)⟩
 |dict _ h2=>obtain⟨o,es,ep,e,c,_⟩:=h2;exact⟨fun Q E hq=>IsiPair.dict_dict e c.1 (hq _),fun Q E hq=>IsiPair.dict_int e c.1 (hq _),fun Q E hq=>IsiPair.dict_bool e c.1 (hq _),fun Q E hq=>IsiPair.dict_str e c.1 (hq _),fun Q E hq=>IsiPair.dict_list e c.1 (hq _),fun Q E hq=>IsiPair.dict_tuple e c.1 (hq _)⟩
theorem Kp.mk'{s:Shared}{h':Heap}{tk:Nat}(k:∀ b o,s.heap.get? b=some o→h'.get? b=some o):Kp s { s with heap:=h',toks:=tk }:=⟨h',tk,rfl,k⟩
theorem Kp.mkh{s:Shared}{h':Heap}(k:∀ b o,s.heap.get? b=some o→h'.get? b=some o):Kp s { s with heap:=h' }:=⟨h',s.toks,rfl,k⟩
theorem oK{s s₁ s':Shared}{av:Addr→Prop}{a:Addr}{vs:List Value}{ds:List PyData}(k0:Kp s s₁)(k:Kp s₁ s')(hn:s₁.heap.get? a=none)(hp:s'.heap.PlainList a vs.toArray)(hl:vs.length=ds.length)(hz:vs.length≤sizeLine)
  (h:∀ (i:Nat) (v:Value) (d:PyData),vs[i]?=some v→ds[i]?=some d→Rep O w s₁.heap av v d):Kp s s'∧bF O w s s'.heap av (.ref a) (.own (.list ds)):=by
 refine⟨k0.tr k,Own.backp k0 ⟨a,rfl,hn,vs,hp,hl,hz,fun i v d e1 e2=>((h i v d e1 e2).apart hn).keeps k.heap⟩⟩
theorem Ae{s s₁ s':Shared}{av:Addr→Prop}{a:Addr}{kvs:List (Str×Value)}{ds:List (PyData×PyData)}(k0:Kp s s₁)(k:Kp s₁ s')(hn:s₁.heap.get? a=none)(hm:(a==sysModules)=false)(hp:s'.heap.DictOf (strKind O w) a kvs)
  (hz:kvs.length≤sizeLine∧∀ kv∈kvs,kv.1.length≤sizeLine) (hl:ds.map (·.1)=kvs.map (fun kv=>PyData.str kv.1))
  (h:∀ (i:Nat) (kv:Str×Value) (d:PyData×PyData),kvs[i]?=some kv→ds[i]?=some d→Rep O w s₁.heap av kv.2 d.2):Kp s s'∧bF O w s s'.heap av (.ref a) (.own (.dict ds)):=by
 refine⟨k0.tr k,Own.backp k0 ⟨a,rfl,hn,kvs,hp,hz,hm,hl,fun i v d e1 e2=>((h i v d e1 e2).apart hn).keeps k.heap⟩⟩
theorem oM{l:List Env}{av:Addr→Prop}{s:Shared}(G:Gnd O w mg mb base l av s):(s.heap.objs.size==sysModules)=false:=by
 have:sysModules < s.heap.objs.size:=PyProof.Rows.modules_low (G.glo.nolimit.keeps G.stay);exact beq_eq_false_iff_ne.mpr (cu this)
def leS(x y:Str):Prop:=¬ (y.cps.toList < x.cps.toList)
theorem Af{x y z:Str}(h:leS x y)(h':leS y z):leS x z:=by
 have a:x.cps.toList≤y.cps.toList:=dh.mp h;have b:y.cps.toList≤z.cps.toList:=dh.mp h';exact dh.mpr (List.le_trans a b)
theorem Mf{x y:Str}(h:leS x y)(h':leS y x):x=y:=by
 have a:x.cps.toList≤y.cps.toList:=dh.mp h;have b:y.cps.toList≤x.cps.toList:=dh.mp h';have:=List.le_antisymm a b;cases x;cases y;simp_all [Array.toList_inj]
theorem sR(a:Str):∀ l,(dU a l).Perm (a::l)
 | []=>.refl _
 |b::r=>by
  show(if b.cps.toList < a.cps.toList then b::dU a r else a::b::r).Perm _
  split
  ·exact((sR a r).cons b).trans (.swap a b r)
  ·exact .refl _
theorem sS:∀ l,(aZ l).Perm l
 | []=>.refl _
 |a::r=>(sR a _).trans ((sS r).cons a)
theorem Ag(a:Str):∀ {l},l.Pairwise leS→(dU a l).Pairwise leS
 | [],_=>List.pairwise_singleton _ _
 |b::r,h=>by
  rw[ce] at h;show(if b.cps.toList < a.cps.toList then b::dU a r else a::b::r).Pairwise leS
  split
  ·rename_i hlt;rw[ce];refine⟨fun x hx=>?_,Ag a h.2⟩;rcases List.mem_cons.mp ((sR a r).mem_iff.mp hx) with rfl | hx
   ·exact dh.mpr (List.le_of_lt hlt)
   ·exact h.1 x hx
  ·rename_i hlt;rw[ce];refine⟨fun x hx=>?_,by rw[ce];exact h⟩;rcases List.mem_cons.mp hx with rfl | hx
   ·exact hlt
   ·exact Af hlt (h.1 x hx)
theorem Ah:∀ l,(aZ l).Pairwise leS
 | []=>.nil
 |a::r=>Ag a (Ah r)
theorem Ai:∀ (p:Str) (l:List Str),PyProof.Rows.risingS p l=true→(p::l).Pairwise leS
 |p,[],_=>List.pairwise_singleton _ _
 |p,x::r,h=>by
  unfold PyProof.Rows.risingS at h;simp only[Bool.and_eq_true,Bool.not_eq_true'] at h;have hr:=Ai x r h.2;have hpx:leS p x:=by
   have:=PyProof.Rows.lt_meets x p;rw[h.1,decide_eq_false_iff_not] at this;exact this
  rw[ce];refine⟨fun y hy=>?_,hr⟩;rcases List.mem_cons.mp hy with rfl | hy
  ·exact hpx
  ·exact Af hpx ((ce.mp hr).1 y hy)
theorem Mg{l:List Str}(h:PyProof.Rows.sortedS l=true):l.Pairwise leS:=by
 cases l with
 |nil=>exact .nil
 |cons x r=>exact Ai x r h
theorem Mh{l l':List Str}(h:PyProof.Rows.sortedS l'=true)(p:l'.Perm l):l'=aZ l :=
 List.Perm.eq_of_pairwise (le:=leS) (fun _ _ _ _ a b=>Mf a b) (Mg h) (Ah l) (p.trans (sS l).symm)
theorem Aj:∀ {ss:List Str} {ts:List Tok},ts.length=ss.length→PyProof.Rows.StrsAre (List.zipWith (fun x t=>Value.str x t) ss ts) ss
 | [],[],_=>.nil
 | [],_::_,h=>by simp at h
 |_::_,[],h=>by simp at h
 |s::ss,t::ts,h=>.cons s t (Aj (by simpa using h))
theorem Mi{h:Heap}{av:Addr→Prop}:∀ {vs:List Value} {ss:List Str},PyProof.Rows.StrsAre vs ss→(∀ x∈ss,x.length≤sizeLine) →
  vs.length=(ss.map PyData.str).length∧∀ (i:Nat) (v:Value) (d:PyData),vs[i]?=some v→(ss.map PyData.str)[i]?=some d→Rep O w h av v d
 := by
 intro vs ss r
 induction r with
 |nil=>exact fun _=>⟨rfl,fun i v d e=>nomatch e⟩
 |cons y t r ih =>
  intro hx;obtain⟨h1,h2⟩:=ih fun x hx'=>hx x (ae _ hx');refine⟨congrArg Nat.succ h1,fun i v d e1 e2=>?_⟩;cases i with
  |zero=>obtain rfl:=si e1;obtain rfl:=si e2;exact .str y t (hx y ah)
  |succ i=>exact h2 i v d e1 e2
theorem jJ{n:Nat}(h:n≤sizeLine):((n:Nat):Int) < 2 ^ 63:=by
 exact cw (bk.mpr (aa h (ca sizeLine_eq)):(n:Int)≤16777216) (by decide)
abbrev YV(O:Program)(w:World)(A:Around)(s:Shared)(av:Addr→Prop)(t:Sem Value)(p:P V):Prop :=
 Yd (fun Q E=>wpAny (model O w) A t Q E s) (fun v s' u=>Kp s s'∧bF O w s s'.heap av v u) p
theorem Mj{A:Around}{s:Shared}{av:Addr→Prop}{v:Value}{d:PyData}(r:Rep O w s.heap av v d):YV O w A s av (call (.builtin "len") [v]) (bL d):=by
 cases d with
 |list l =>
  obtain⟨a,vs,rfl,h1,h2,h3,h4,h5⟩:=r.list_inv;show YV O w A s av _ (fz (.int l.length));rw[← h3];exact fun Q E hq=>Calls.call_len_list h2.isList (by simpa using jJ h4) (hq _ _ ⟨Kp.tok' s _,.int _ _⟩)
 |tuple l =>
  obtain⟨a,vs,rfl,h1,⟨n,e⟩,h3,h4,h5⟩:=r.tuple_inv;show YV O w A s av _ (fz (.int l.length));rw[← h3];exact fun Q E hq=>P.len_tuple e (by simpa using jJ h4) (hq _ _ ⟨Kp.tok' s _,.int _ _⟩)
 |str x =>
  obtain⟨t,rfl,hx⟩:=r.str_inv;exact fun Q E hq=>P.len_str (Int.not_le.mpr (jJ hx)) (hq _ _ ⟨Kp.tok' s _,Rep.int _ _⟩)
 |dict m =>
  obtain⟨a,kvs,rfl,h1,h2,h3,h4,h5,h6⟩:=r.dict_inv;have hl:m.length=kvs.length:=by simpa using congrArg List.length h5
  show YV O w A s av _ (fz (.int m.length));rw[hl];exact fun Q E hq=>call_len_dict h4 h2 (jJ h3.1) (hq _ _ ⟨Kp.tok' s _,.int _ _⟩)
 |_=>exact trivial
theorem Ml{h:Heap}{av:Addr→Prop}:∀ {vs:List Value} {ds:List PyData} {bs:List Bool},vs.length=ds.length→(∀ (i:Nat) (v:Value) (d:PyData),vs[i]?=some v→ds[i]?=some d→Rep O w h av v d) →
  bools? ds=some bs→vs=bs.map Value.bool
 := by
 intro vs
 induction vs with
 |nil =>
  intro ds bs hl h e;cases ds with
  |nil=>obtain rfl:=si e;rfl
  |cons=>exact nomatch hl
 |cons v vs ih =>
  intro ds bs hl h e;cases ds with
  |nil=>exact nomatch hl
  |cons d ds =>
   cases d with
   |bool b =>
    obtain⟨bs',hb,rfl⟩:=bf.mp (show(bools? ds).map (b::·)=some bs from e);rw[ih (ds:=ds) (Nat.succ.inj hl) (fun i v d e1 e2=>h (i+1) v d e1 e2) hb,(h 0 v _ rfl rfl).bool_inv];rfl
   |_=>exact ns e
theorem Mm(bs:List Bool):(List.range bs.length).all (fun i=>(bs[i]?).getD true)=bs.all id:=by
 rw[Bool.eq_iff_iff,be,be];constructor
 ·intro h b hb;obtain⟨i,hi,rfl⟩:=List.mem_iff_getElem.mp hb;have:=h i (List.mem_range.mpr hi);simpa[List.getElem?_eq_getElem hi] using this
 ·intro h i hi;have hi':=List.mem_range.mp hi;rw[List.getElem?_eq_getElem hi'];exact h _ (dg hi')
theorem Mo{A:Around}{s:Shared}{av:Addr→Prop}{v:Value}{d:PyData}(hh:A.handled=none)(r:Rep O w s.heap av v d):YV O w A s av (call (.builtin "all") [v]) (cJ d):=by
 cases r with
 | @list a vs ds h1 h2 h3 h4 h5 =>
  show YV O w A s av _ (((ofO (bools? ds)).bind fun bs=>.ok (bs.all id)).bind fun b=>.ok (.fz (.bool b)));refine ocs (bools? ds) (fun hb=>?_) fun bs hb=>?_
  ·try rewrite[hb]
   exact trivial
  ·try rewrite[hb]
   have hv:=Ml h3 h5 hb;subst hv;intro Q E hq;have hli:s.heap.IsList a (bs.map Value.bool).toArray:=h2.isList;have hne:a≠s.heap.objs.size:=fun e=>by
    obtain⟨o,ho,_⟩:=hli;rw[e,bU] at ho;exact ns ho
   refine call_all_walk (gt hli ⟨s.heap.objs.size,_,_,_,_,_,fun i=>(bs[i]?).getD true,rfl,Walks.list (by exact hh) s.heap.objs.size a hne (bs.map Value.bool).toArray,
    ⟨⟨_,cM _ _ rfl,rfl,rfl⟩,by obtain⟨o,e,r⟩:=hli;exact⟨o,af _ e,r⟩⟩,fun i v s Q E hP hQ=>?_,fun h' tk hk=>?_⟩)
   ·have hP:(bs.map Value.bool).toArray[i]?=some v:=hP;rw[List.getElem?_toArray,List.getElem?_map] at hP;refine ocs (bs[i]?) (fun hbi=>?_) fun b hbi=>?_
    ·rw[hbi] at hP;exact ns hP
    ·rw[hbi] at hP;obtain rfl:=si hP;exact cj (by simpa[hbi] using hQ)
   ·have e:(List.range ((bs.map Value.bool).toArray.size)).all (fun i=>(bs[i]?).getD true)=bs.all id:=by simpa using Mm bs
    rw[e];refine hq _ _ ⟨⟨h',tk,rfl,fun b o e=>hk b o (fun hb=>?_) (af _ e)⟩,.bool _⟩;rw[List.mem_singleton.mp hb,bU] at e;exact ns e
 |_=>exact trivial
theorem Ak{s s':Shared}{av:Addr→Prop}{a:Addr}{out:Array Value}{ss ss':List Str}(k:Kp s s')(hn:s.heap.get? a=none)(he:∃ e,s'.heap.get? a=some (PyProof.Rows.seqObj "list" out e))(hS:PyProof.Rows.StrsAre out.toList ss')(hp:ss'.Perm ss)(hso:PyProof.Rows.sortedS ss'=true)
  (h3:∀ x∈ss,x.length≤sizeLine) (hlt:ss.length < 64):Kp s s'∧bF O w s s'.heap av (.ref a) (.own (.list ((aZ ss).map .str))):=by
 obtain rfl:=Mh hso hp;obtain⟨q1,q2⟩:=Mi (O:=O) (w:=w) (h:=s.heap) (av:=av) hS fun x hx=>h3 x (hp.mem_iff.mp hx);obtain⟨e,he⟩:=he;refine oK (vs:=out.toList) (Kp.rfl' s) k hn ⟨e,by simpa using he⟩ q1 ?_ q2;simp only[q1,List.length_map,(sS ss).length_eq];exact aa (bz hlt) (by decide)
theorem Mp{kvs:List (Str×Value)}{acc:List Value}(hl:acc.length=kvs.length)(h:∀ (i:Nat) (v:Value),acc[i]?=some v→∃ k x,kvs[i]?=some (k,x)∧(strKind O w).is k v=true):PyProof.Rows.StrsAre acc (kvs.map (·.1)):=by
 induction kvs generalizing acc with
 |nil=>cases acc with
  |nil=>exact .nil
  |cons=>cases hl
 |cons kv r ih =>
  cases acc with
  |nil=>cases hl
  |cons v acc =>
   obtain⟨k,x,e,hk⟩:=h 0 v rfl;obtain rfl:=si e;obtain⟨t,rfl⟩:=Value.isStrOf_shape hk;exact .cons k t (ih (Nat.succ.inj hl) fun i v e=>h (i+1) v e)
theorem Mq(kvs:List (Str×Value)):strs? (kvs.map fun kv=>PyData.str kv.1)=some (kvs.map (·.1)):=by
 induction kvs with
 |nil=>rfl
 |cons kv r ih =>
  show(strs? (r.map _)).map _=_;simp only[ih];rfl
theorem Mr{A:Around}{s:Shared}{av:Addr→Prop}{v:Value}{d:PyData}(hh:A.handled=none)(r:Rep O w s.heap av v d):YV O w A s av (call (.builtin "sorted") [v]) (cI d):=by
 cases d with
 |list l =>
  obtain⟨a,vs,rfl,h1,h2,h3,h4,h5⟩:=r.list_inv;refine Yd.optBind fun ss hs=>Yd.ite fun hlt=>?_;obtain⟨ts,e1,rfl,e3⟩:=iE h3 h5 hs;intro Q E hq;refine PyProof.Rows.sorted_strs h2.isList (Aj e1) (by simpa[e1] using hlt) fun out ss' hS hp hso=>?_;exact hq _ _ (Ak (Kp.mkh fun b o e=>PyProof.Rows.sortedAll_old e) (cy (ak _ _)) (PyProof.Rows.sortedAll_at s.heap _ out) hS hp hso e3 hlt)
 |dict l =>
  obtain⟨a,kvs,rfl,h1,⟨o,es,ep,hd⟩,h3,h4,h5,h6⟩:=r.dict_inv;show YV O w A s av _ (eO (l.map (·.1)));unfold eO;rw[h5,Mq];refine Yd.ite fun hlt=>?_;intro Q E hq;refine Calls.call_function_entry PyProof.Rows.kind_sorted PyProof.Rows.plain_sorted PyProof.Rows.entry_sorted (PyProof.Rows.args_sorted1 _) ?_;unfold Builtin.«sorted»;refine U (m:=checkCount "sorted" 1 1 _) (ac ?_);refine U (W.kdu_collect (A:=A.in1) (W.kdl_dict (knd:=strKind O w) (kvs:=kvs) (ep:=ep) h4) hh ⟨o,es,hd⟩ h3.1 fun h' tk acc hk hacc=>?_);have hl:acc.toList.length=kvs.length:=by rw[Array.length_toList];exact hacc.1
  refine U (wpAny_newList ?_ (by rw[hl];exact h3.1));have hS:=Mp hl fun i v e=>hacc.2 i v (by rw[← Array.getElem?_toList];exact e);have hoL:(h'.push { cls:=.type "list", data:=.seq acc.toList.toArray }).get? h'.objs.size=some (PyProof.Rows.seqObj "list" acc.toList.toArray 0):=eu _ rfl;have h64:acc.toList.length < 64:=by rw[hl];simpa using hlt
  refine U (ao (de PyProof.Rows.slot_list_sort ⟨_,hoL,rfl⟩ PyProof.Rows.entry_list_sort (PyProof.Rows.list_sort_treeK PyProof.Rows.strKind_oneLt hoL hS.keysOf (fun v₁ v₂ rest e=>PyProof.Rows.keyKind_strs (by rw[← e];exact hS)) h64 fun st' hp hs=>⟨_,rfl,?_⟩) (PyProof.Rows.args_list_sort _)));obtain⟨ss',g1,g2,g3⟩:=PyProof.Rows.sorted_out_str hS hp hs;have hold:∀ b o,s.heap.get? b=some o→(PyProof.Rows.sortedHeap (h'.push { cls:=.type "list", data:=.seq acc.toList.toArray }) h'.objs.size acc.toList ((PyProof.Rows.arrOf st').map (·.2))).get? b=some o:=fun b o e=>by
   have e1:=hk b o e;have hlt:=bh e1;rw[PyProof.Rows.sortedHeap_old (bx hlt) (by rw[PyProof.Rows.size_push'];exact fc hlt)];exact af _ e1
  have hn:s.heap.get? h'.objs.size=none:=by
   refine ocs (s.heap.get? h'.objs.size) (fun hb=>?_) fun o hb=>?_
   ·try rewrite[hb]
    rfl
   ·exact absurd (bh (hk _ _ hb)) (Nat.lt_irrefl _)
  have hz:∀ x∈kvs.map (·.1),x.length≤sizeLine:=fun x hx=>by
   obtain⟨kv,hkv,rfl⟩:=bi.mp hx;exact h3.2 kv hkv
  have kk:=Kp.mk' (tk:=tk) hold;have at':=PyProof.Rows.sortedHeap_at (out:=(PyProof.Rows.arrOf st').map (·.2)) hoL;generalize PyProof.Rows.sortedHeap (h'.push { cls:=.type "list", data:=.seq acc.toList.toArray }) h'.objs.size acc.toList ((PyProof.Rows.arrOf st').map (·.2))=H at kk at';exact ac ⟨_,rfl,hq _ _ (Ak kk hn at' g1 g2 g3 hz hlt)⟩
 |_=>exact trivial
theorem Ms{A:Around}{s:Shared}{av:Addr→Prop}{v:Value}{d:PyData}(hh:A.handled=none)(r:Rep O w s.heap av v d):YV O w A s av (call (.type "list") [v]) (dF d):=by
 cases d with
 |dict l =>
  obtain⟨a,kvs,rfl,h1,⟨o,es,ep,hd⟩,h3,h4,h5,h6⟩:=r.dict_inv;intro Q E hq;refine W.kdl_call (W.kdl_dict (knd:=strKind O w) (kvs:=kvs) (ep:=ep) h4) hh ⟨o,es,hd⟩ h3.1 fun h' tk acc c' hk he hit=>?_;have hsz:acc.toList.length=kvs.length:=by simpa using hit.1
  refine hq _ _ (oK (vs:=acc.toList) (Kp.rfl' s) (Kp.mk' hk) (bU _) ⟨c',by simpa using he⟩ (by simp only[hsz,h5,List.length_map]) (hsz▸h3.1) fun i v d e1 e2=>?_);obtain⟨k,x,e3,e4⟩:=hit.2 i v (by simpa using e1);obtain⟨t,rfl⟩:=Value.isStrOf_shape e4;simp only[h5,List.getElem?_map,e3] at e2;obtain rfl:=si e2;exact .str k t (h3.2 _ (cc e3))
 |list l =>
  obtain⟨a,vs,rfl,h1,⟨n,h2⟩,h3,h4,h5⟩:=r.list_inv;intro Q E hq;exact call_list_seq a (.inl rfl) h2 rfl rfl (fun h' c' hk he=>hq _ _ (oK (Kp.rfl' s) (Kp.mkh hk) (bU _) ⟨c',he⟩ h3 h4 h5)) (by simpa using h4)
 |_=>exact trivial
theorem Mt{A:Around}{s:Shared}{av:Addr→Prop}{v:Value}{d:PyData}(r:Rep O w s.heap av v d):YV O w A s av (call (.type "list") [v]) (jA d):=by
 cases d with
 |list l =>
  obtain⟨a,vs,rfl,h1,⟨n,h2⟩,h3,h4,h5⟩:=r.list_inv;intro Q E hq;exact call_list_seq a (.inl rfl) h2 rfl rfl (fun h' c' hk he=>hq _ _ (oK (Kp.rfl' s) (Kp.mkh hk) (bU _) ⟨c',he⟩ h3 h4 h5)) (by simpa using h4)
 |_=>exact trivial
theorem Mu{A:Around}{s:Shared}{av:Addr→Prop}{v:Value}{d:PyData}(ha:∀ b,av b→∃ o,s.heap.get? b=some o)(r:Rep O w s.heap av v d):YV O w A s av (call (.type "tuple") [v]) (fA d):=by
 cases d with
 |list l =>
  obtain⟨a,vs,rfl,h1,h2,h3,h4,h5⟩:=r.list_inv;intro Q E hq;refine call_tuple_list h2.isList (fun h' hk=>?_) (by simpa using h4);exact hq _ _ (zU (s₁:={ s with heap:=h' }) (Kp.mkh hk) (fun b hb=>by obtain⟨o,e⟩:=ha b hb;exact⟨o,hk _ _ e⟩) h3 h4 fun i v d e1 e2=>(h5 i v d e1 e2).keeps hk)
 |_=>exact trivial
theorem Mv{h h':Heap}{o:Obj}(hs:Heap.SameBut h.objs.size (h.push o) h'):∀ b o',h.get? b=some o'→h'.get? b=some o':=by
 intro b o' e;have hb:b≠h.objs.size:=fun hh=>by rw[hh,bU] at e;exact ns e
 rw[hs.2 b hb];exact af _ e
theorem Mw{A:Around}{s:Shared}{av:Addr→Prop}{v:Value}{d:PyData}(r:Rep O w s.heap av v d):YV O w A s av (call (.type "int") [v]) (gF d):=by
 cases d with
 |bool b =>
  obtain rfl:=r.bool_inv;exact fun Q E hq=>call_int_bool (hq _ _ ⟨Kp.tok' s _,.int _ _⟩)
 |str x =>
  obtain⟨t,rfl,hx⟩:=r.str_inv;exact Yd.ite fun hl=>Yd.optBind fun i hi Q E hq=>W.KIN.call_text hi hl (hq _ _ ⟨Kp.tok' s _,.int _ _⟩)
 |_=>exact trivial
theorem Mx{A:Around}{s:Shared}{av:Addr→Prop}{v:Value}{d:PyData}(r:Rep O w s.heap av v d):YV O w A s av (call (.type "str") [v]) (yA d):=by
 cases d with
 |str x =>
  obtain⟨t,rfl,hx⟩:=r.str_inv;exact fun Q E hq=>P.str_of_str (hq _ _ ⟨Kp.rfl' s,.str x t hx⟩)
 |int i =>
  obtain⟨t,rfl⟩:=r.int_inv;exact Yd.ite fun hl Q E hq=>P.str_of_int hl (hq _ _ ⟨Kp.tok' s _,.str _ _ (int_text_fits hl)⟩)
 |_=>exact trivial
theorem My{A:Around}{s:Shared}{av:Addr→Prop}{v:Value}{d:PyData}(r:Rep O w s.heap av v d):YV O w A s av (call (.builtin "abs") [v]) (q9 d):=by
 cases d with
 |int i =>
  obtain⟨t,rfl⟩:=r.int_inv;exact fun Q E hq=>PyProof.Rows.call_abs_int fun u tk=>hq _ _ ⟨Kp.tok' s _,.int _ _⟩
 |_=>exact trivial
end
theorem Mz:entryFor table "proto.unchain" = some Builtin.«proto.unchain»:=entryFor_of_tree (by kernel_rfl)
theorem M0:plainId "proto.unchain" = true:=by decide +kernel
section
variable {O:Program} {w:World} {A:Around} {E:Value→Shared→Prop}
theorem Al{α:Type}{s:Shared}{h₀:Heap}{a:Addr}{o:Obj}{vs:Array Value}{Q:α→Shared→Prop}(hh:Hd A h₀)(hk:∀ b o,h₀.get? b=some o→s.heap.get? b=some o)(hn:h₀.get? a=none)(ho:s.heap.get? a=some o)(hd:o.data=.fields vs)(hz:2 < vs.size)
  (hq:∀ h' o' vs',Heap.SameBut a s.heap h'→h'.get? a=some o'→o'.cls=o.cls→o'.data=.fields vs'→E (.ref a) { s with heap:=h' }):wpAny (model O w) A (raiseNew (.ref a):Sem α) Q E s:=by
 unfold raiseNew;refine U (wpAny_handled ?_);cases hh with
 |non e =>
  rw[e];refine U (ac (wpAny_throw (hq s.heap o vs ?_ ho rfl hd)));exact⟨rfl,fun _ _=>rfl⟩
 |one e oe h0 h1 hc =>
  obtain⟨ve,h2,h3⟩:=sH hc;rw[h0];have hne:(Value.ref e != Value.ref a)=true:=by
   rw[bne_iff_ne];intro q;obtain rfl:=Value.ref.inj q;rw[h1] at hn;cases hn
  show wpAny _ _ (if (Value.ref e != Value.ref a)=true then _ else _) _ _ s;rw[if_pos hne];refine U (ao (wpAny_runValue (codeAny_builtin Mz ?_)));rw[Around.under_plainId M0 _];show wpAny _ _ (field (.ref e) 2 >>= _) _ _ s;refine U (wpAny_field (hk _ _ h1) h2 h3 ?_);rw[if_pos (show(Value.none==Value.none)=true from rfl)];refine U (ac ?_);refine ac ?_;refine U (wpAny_setField (i:=2) ho hd hz ?_);refine wpAny_throw ?_;obtain⟨c,d,dt,sl⟩:=o;obtain rfl:dt=.fields vs:=hd;exact hq _ _ _ (Heap.SameBut.update ..) (fw _ ho rfl) rfl rfl
end
section
variable {O:Program} {w:World} {A:Around} {E:Value→Shared→Prop} {s:Shared}
theorem Am{α:Type}{Q:α→Shared→Prop}(hh:Hd A s.heap)
  (hq:∀ h' e,(∀ b o,s.heap.get? b=some o→h'.get? b=some o)→Shared.TypeIs { s with heap:=h' } (.ref e) "StopIteration" → E (.ref e) { s with heap:=h' }):wpAny (model O w) A (Builtin.SmallTypes.stopIteration:Sem α) Q E s:=by
 unfold Builtin.SmallTypes.stopIteration newExc newTuple;refine U (U (fx ?_ (by size_fits)));refine U (m:=firstArgMember _ _) (wpAny_of_eq (a:=Value.none) (by first | rfl | (simp only[firstArgMember];rfl)) ?_);refine fx ?_ (by size_fits);have lt:∀ {b:Addr} {o:Obj},s.heap.get? b=some o→b≠s.heap.objs.size+1:=fun e=>bx (fc (bh e));have sz:∀ o:Obj,(s.heap.push o).objs.size=s.heap.objs.size+1:=fun o=>by simp
 refine Al (a:=(s.heap.push _).objs.size) hh (fun b o e=>af _ (af _ e)) ?_ (eu _ rfl) rfl (by rw[Array.size_append];exact cx (by decide:2 < 6) (ak ..)) fun h' o' vs' hs ho' hc _=>hq h' _ (fun b o e=>?_) ⟨o',ho',hc⟩
 ·exact ocs (s.heap.get? _) (fun h=>h) fun o h=>absurd (sz _) (lt h)
 ·rw[hs.2 b fun h=>lt e (h.trans (sz _))];exact af _ (af _ e)
theorem M1{it l:Addr}{items:Array Value}{i:Nat}{Q:Option Value→Shared→Prop}(hh:Hd A s.heap)(hI:it∉hdl A)
  (hit:s.heap.IsListIter it l i) (hl:s.heap.IsList l items) (hx:items[i]?=none)
  (hQ:∀ h',Heap.ExtBut it s.heap h'→Q none { s with heap:=h' }):wpAny (model O w) A (pyNext (.ref it)) Q E s:=by
 refine hde fun _ θ=>?_;obtain⟨o,ho,hc,hd⟩:=id hit;obtain⟨ol,hol,_,nl,hdl⟩:=hl;apply θ;unfold pyNext;refine U (wpAny_attempt (wpAny_callSpecial?_slot (name:=Str.ofString "__next__") hit.typeIs slot_listiter_next (de slot_listiter_next hit.typeIs entry_listiter_next ?_ (args_listiter_next _))));show wpAny _ _ (field (.ref it) 0 >>= _) _ _ s;refine U (wpAny_field ho hd (x:=.ref l) rfl ?_);show wpAny _ _ (if (Value.ref l==Value.none)=true then _ else _) _ _ s;rw[if_neg (show ¬ ((Value.ref l==Value.none)=true) from eq)];show wpAny _ _ (field (.ref it) 1 >>= _) _ _ s;refine U (wpAny_field ho hd (x:=.int i 0) rfl (U (wpAny_seqItems hol hdl ?_)));simp only[Int.toNat_natCast,hx];refine U (wpAny_rule (U (wpAny_setField ho hd (by simp) ?_)));exact Am (hh.on fun b hb o e=>(fe _ _ fun h:it=b=>hI (h.symm▸hb)).trans e).in1 fun h' e k t=>U (wpAny_isInstance (b:=true) t isSubtype_stop (ac (hQ _ fun b o hb e=>k b o ((fe _ _ fun h=>hb h.symm).trans e))))
theorem M2{K:Type}[DecidableEq K]{knd:KeyKind O w K}{it d:Addr}{i ep:Nat}{kvs:List (K×Value)}{Q:Option Value→Shared→Prop}(hh:Hd A s.heap)(hI:it∉hdl A)
  (hit:s.heap.IsKeyIter it d i kvs.length ep) (hm:s.heap.DictAt knd d kvs ep) (hx:kvs[i]?=none) (hQ:∀ h',Heap.ExtBut it s.heap h'→Q none { s with heap:=h' }):wpAny (model O w) A (pyNext (.ref it)) Q E s:=by
 refine hde fun _ θ=>?_;obtain⟨o,ho,hc,hd⟩:=id hit;obtain⟨od,es,hod,hcd,hdd,hkk,hp,hnd⟩:=id hm;apply θ;have hsz:es.size=kvs.length:=by rw[← hp.length];simp
 have hge:es.size≤i:=by rw[hsz];simpa using hx
 unfold pyNext;refine U (wpAny_attempt (wpAny_callSpecial?_slot (name:=Str.ofString "__next__") hit.typeIs F.slot_dict_keyiterator_next (de F.slot_dict_keyiterator_next hit.typeIs F.entry_dict_keyiterator_next ?_ (F.args_dict_keyiterator_next_1 _))));refine U (ac (U (U (U (wpAny_typeNameOfWhole_keyiter hit.typeIs (ac (U (wpAny_fieldsOf ho hd ?_))))))));rw[show Builtin.Dict_items.ownsTuple "dict_keyiterator" = false by decide];refine U (ac (U (fq hod hdd ?_)));rw[if_neg (by rw[hsz];simp)];refine U (ac (U (wpAny_dictEpoch hod hdd ?_)));rw[if_neg (by simp)];refine ac ?_;simp only[show ¬ ((i:Int) < 0) from cv.mpr (co i),if_false,Int.toNat_natCast,Array.getElem?_eq_none hge];refine U (U (wpAny_typeNameOfWhole_keyiter hit.typeIs (ac (U (wpAny_setField (i:=0) ho hd (by simp) ?_)))));exact Am (hh.on fun b hb o e=>(fe _ _ fun h:it=b=>hI (h.symm▸hb)).trans e).in1 fun h' e k t=>U (wpAny_isInstance (b:=true) t isSubtype_stop (ac (hQ _ fun b o hb e=>k b o ((fe _ _ fun h=>hb h.symm).trans e))))
theorem M3(I ax:Addr)(hne:ax≠I)(hI:I∉hdl A)(items:Array Value) :
  Walks O w A I (I::ax::hdl A) [I] items.size (fun i v=>items[i]?=some v) (fun i h=>(h.IsListIter I ax i∧h.IsList ax items)∧Hd A h) where
 sub:=fun b hb=>List.mem_cons.mpr (.inl (List.mem_singleton.mp hb))
 frame:=fun _ _ _ st hk=>⟨⟨st.1.1.at fun o e=>hk I (by simp) o e,st.1.2.at fun o e=>hk ax (by simp) o e⟩,st.2.on fun b hb o e=>hk b (.tail _ (.tail _ hb)) o e⟩
 item:=fun i s Q E hi st hQ=>wpAny_pyNext_list_item st.1.1 st.1.2 (x:=items[i]) (by simp[hi]) fun h' hit' hs'=>hQ _ h' s.toks (by simp[hi]) ⟨⟨hit',st.1.2.extBut hs'.extBut hne⟩,st.2.on fun b hb o e=>hs'.extBut b o (fun h=>hI (h▸hb)) e⟩ fun b o hb e=>hs'.extBut b o (fun h=>hb (by simp[h])) e
 done:=fun s Q E st hQ=>M1 st.2 hI st.1.1 st.1.2 (by simp) fun h' he'=>hQ h' s.toks fun b o hb e=>he' b o (fun h=>hb (by simp[h])) e
 self:=fun _ _ _ _ st hQ=>wpAny_pyIter_listiter st.1.1 hQ
theorem M4{K:Type}[DecidableEq K]{knd:KeyKind O w K}(I d:Addr)(hne:d≠I)(hI:I∉hdl A)(kvs:List (K×Value))(ep:Nat) :
  Walks O w A I (I::d::hdl A) [I] kvs.length (fun i v=>∃ k x,kvs[i]?=some (k,x)∧knd.is k v=true) (fun i h=>(h.IsKeyIter I d i kvs.length ep∧h.DictAt knd d kvs ep)∧Hd A h) where
 sub:=fun b hb=>List.mem_cons.mpr (.inl (List.mem_singleton.mp hb))
 frame:=fun _ _ _ st hk=>⟨⟨st.1.1.at fun o e=>hk I (by simp) o e,st.1.2.at' fun o e=>hk d (by simp) o e⟩,st.2.on fun b hb o e=>hk b (.tail _ (.tail _ hb)) o e⟩
 item:=fun i s Q E hi st hQ=>wpAny_pyNext_dict_item st.1.1 st.1.2 (k:=kvs[i].1) (v:=kvs[i].2) (by simp[hi]) fun key h' hkey hit' hs'=>hQ key h' s.toks ⟨_,_,by simp[hi];rfl,hkey⟩ ⟨⟨hit',st.1.2.extBut hs'.extBut hne⟩,st.2.on fun b hb o e=>hs'.extBut b o (fun h=>hI (h▸hb)) e⟩ fun b o hb e=>hs'.extBut b o (fun h=>hb (by simp[h])) e
 done:=fun s Q E st hQ=>M2 st.2 hI st.1.1 st.1.2 (by simp) fun h' he'=>hQ h' s.toks fun b o hb e=>he' b o (fun h=>hb (by simp[h])) e
 self:=fun _ _ _ _ st hQ=>wpAny_pyIter_keyiter st.1.1 hQ
theorem M5{α:Type}{v:Value}{name msg:Str}{Q:α→Shared→Prop}(hh:Hd A s.heap)
  (h:∀ h' tk e d dt sl,(∀ b o,s.heap.get? b=some o→h'.get? b=some o)→h'.get? e=some { cls:=.type "AttributeError", dict:=d,data:=dt,slots:=sl }→E (.ref e) { s with heap:=h',toks:=tk }) (hm:msg.length≤sizeLine) :
  wpAny (model O w) A (raiseAttrError v name msg:Sem α) Q E s:=by
 unfold raiseAttrError;refine U (wpAny_mkStr (U ?_) hm);unfold newExc newTuple;refine U (fx ?_ (by size_fits));refine U (m:=firstArgMember _ _) (wpAny_of_eq (a:=Value.none) (by simp only[firstArgMember,attrError_no_first];rfl) ?_);simp only[ownMembersOf_AttributeError];refine fx ?_ (by size_fits);obtain⟨hp,g,d,tk,os⟩:=s;have f1:=sub_AttributeError
 repeat (any_goals (first | assumption | wp_step))
 have lt:∀ {b:Addr} {o:Obj},hp.get? b=some o→b≠hp.objs.size+1:=fun e=>bx (fc (bh e));have sz:∀ o:Obj,(hp.push o).objs.size=hp.objs.size+1:=fun o=>by simp
 have kp:∀ (o₁ o₂:Obj) (f:Obj→Obj) b o,hp.get? b=some o→(((hp.push o₁).push o₂).update (hp.push o₁).objs.size f).get? b=some o:=fun o₁ o₂ f b o e =>
  (fe _ _ fun h=>lt e (h.symm.trans (sz _))).trans (af _ (af _ e))
 refine Al hh (kp _ _ _) ?_ (fw _ (eu _ rfl) rfl) rfl (by simp only[Array.size_append];exact ew rfl) fun h' o' vs' hs ho' hc _=>?_
 ·exact ocs (hp.get? _) (fun h=>h) fun o h=>absurd (sz _) (lt h)
 ·obtain⟨c,dd,dt,sl⟩:=o';obtain rfl:c=_:=hc;exact h h' _ _ dd dt sl (fun b o e=>by simp only[hs.2 b fun h=>lt e (h.trans (sz _))];exact kp _ _ _ b o e) ho'
end
theorem M6:typeLookup (.type "list") "keys" = pure none:=by rw[typeLookup_type,builtinLookup_eq_fast];kernel_rfl
theorem M7:typeLookup (.type "list") "__getattr__" = pure none:=by rw[typeLookup_type,builtinLookup_eq_fast];kernel_rfl
section
variable {O:Program} {w:World} {A:Around} {E:Value→Shared→Prop} {h:Heap} {g:Array GenState} {d:Drawn} {t:Nat} {os:OsState} {a:Addr} {xs:Array Value} {n:Nat}
theorem M8{tk:Tok}{Q:PySem.Fin→Shared→Prop}(hx:h.get? a=some { cls:=.type "list", data:=.seq xs n })(hh:Hd A h)
  (hq:∀ h' tk' e d' dt sl,(∀ b o,h.get? b=some o→h'.get? b=some o)→h'.get? e=some { cls:=.type "AttributeError", dict:=d',data:=dt,slots:=sl }→E (.ref e) ⟨h',g,d,tk',os⟩) :
  wpAny (model O w) A (Builtin.«object.__getattribute__» ⟨[.ref a,.str "keys" tk],[]⟩) Q E ⟨h,g,d,t,os⟩:=by
 have hT:(⟨h,g,d,t,os⟩:Shared).TypeIs (.ref a) "list" := ⟨_,hx,rfl⟩
 have f4:=M6
 repeat (any_goals (first | assumption | wp_step))
 exact M5 hh hq (attrMsg_fits (by decide +kernel) (by decide +kernel))
theorem M9{tk:Tok}{R:Result→Shared→Prop}(hx:h.get? a=some { cls:=.type "list", data:=.seq xs n })(hh:Hd A h)
  (hq:∀ h' tk' e d' dt sl,(∀ b o,h.get? b=some o→h'.get? b=some o)→h'.get? e=some { cls:=.type "AttributeError", dict:=d',data:=dt,slots:=sl }→R (.error (.ref e)) ⟨h',g,d,tk',os⟩) :
  codeAny (model O w) A (.call (.builtin "list.__getattribute__") ⟨[.ref a,.str "keys" tk],[]⟩) R ⟨h,g,d,t,os⟩ :=
 codeAny_call_builtin F.slot_list_getattribute.plain F.entry_list_ga (F.slot_list_getattribute.check _ _ _ _ _ _ _ _ (show(⟨h,g,d,t,os⟩:Shared).TypeIs (.ref a) "list" from ⟨_,hx,rfl⟩) (F.args_list_getattribute_2 _ _) (M8 hx hh.in1 hq))
theorem Na{Q:Option Value→Shared→Prop}(hx:h.get? a=some { cls:=.type "list", data:=.seq xs n })(hh:Hd A h)
  (hq:∀ h' tk',(∀ b o,h.get? b=some o→h'.get? b=some o)→Q none ⟨h',g,d,tk',os⟩):wpAny (model O w) A (getAttr? (.ref a) "keys") Q E ⟨h,g,d,t,os⟩:=by
 have hT:(⟨h,g,d,t,os⟩:Shared).TypeIs (.ref a) "list" := ⟨_,hx,rfl⟩
 have f1:=sub_AttributeError;have f2:=F.slot_list_getattribute.lookup;have f3:=F.slot_list_getattribute.bind (.ref a);have f5:=M7;unfold getAttr? getAttrBy? getAttrBy
 repeat (any_goals (first | assumption | wp_step))
 refine M9 hx hh fun h' tk' e d' dt sl hk he=>?_
 repeat (any_goals (first | assumption | wp_step))
 exact hq _ _ hk
end
theorem An:entryFor table "dict.update.loop" = some Builtin.«dict.update.loop»:=entryFor_of_tree (by kernel_rfl)
theorem oN:plainId "dict.update.loop" = true:=by decide +kernel
section
variable {O:Program} {w:World}
def iG(h:Heap):List Value→List (Str×Value)→Prop
 | [],[]=>True
 |v::vs,kv::kvs=>(∃ a t,v=.ref a∧PlT h a #[.str kv.1 t,kv.2])∧iG h vs kvs
 |_,_=>False
theorem iG.at{h:Heap}:∀ {vs:List Value} {kvs:List (Str×Value)},iG h vs kvs→∀ {i:Nat} {v:Value},vs[i]?=some v→∃ kv a t,kvs[i]?=some kv∧v=.ref a∧PlT h a #[.str kv.1 t,kv.2]
 |_::_,_::_,p,0,_,e=>by obtain rfl:=si e;obtain⟨a,t,h1,h2⟩:=p.1;exact⟨_,a,t,rfl,h1,h2⟩
 |_::_,_::_,p,i+1,_,e=>p.2.at (i:=i) e
 | [],[],_,i,_,e=>by exact ns e
 | [],_::_,p,_,_,_=>p.elim
 |_::_,[],p,_,_,_=>p.elim
theorem iG.len{h:Heap}:∀ {vs:List Value} {kvs:List (Str×Value)},iG h vs kvs→vs.length=kvs.length
 | [],[],_=>rfl
 |_::_,_::_,p=>congrArg Nat.succ p.2.len
 | [],_::_,p=>p.elim
 |_::_,[],p=>p.elim
theorem Nb{A:Around}{R:Result→Shared→Prop}{I l D:Addr}(hI:I∉hdl A.in1)(hD:D∉hdl A.in1)(hlI:l≠I)(hDI:D≠I)(hDl:D≠l){vs:List Value}{kvs:List (Str×Value)}(hn:kvs.length≤sizeLine){h₀:Heap}(hp:iG h₀ vs kvs)(hD0:h₀.get? D=none)(hI0:h₀.get? I=none) :
  ∀ (k i:Nat) (s:Shared),kvs.length - i=k→i≤kvs.length→(s.heap.IsListIter I l i∧s.heap.IsList l vs.toArray)∧Hd A.in1 s.heap→(∀ b o,h₀.get? b=some o→s.heap.get? b=some o)→s.heap.DictOf (strKind O w) D (merged [] (kvs.take i)) →
   (∀ h' tk,(∀ b o,h₀.get? b=some o→h'.get? b=some o)→h'.DictOf (strKind O w) D (merged [] kvs)→R (.ok (.ret .none)) { s with heap:=h',toks:=tk }) →
   codeAny (model O w) A (.builtin "dict.update.loop" ⟨[.ref D,.ref I,rawInt i,.none],[]⟩) R s:=by
 have W:=M3 (O:=O) (w:=w) (A:=A.in1) I l hlI hI vs.toArray;have hlen:=hp.len;have new:∀ b o,h₀.get? b=some o→b≠D∧b≠I:=fun b o e=>⟨fun x=>by (rw[x,hD0] at e;exact ns e),fun x=>by (rw[x,hI0] at e;exact ns e)⟩
 intro k
 induction k with
 |zero =>
  intro i s hk hi hst hkeep hd hR;have hin:i=kvs.length:=by exact wY hk hi
  subst hin;refine codeAny_builtin An ?_;rw[Around.under_plainId oN _];show wpAny _ A.in1 (pyNext (.ref I) >>= _) _ _ s;refine U (W.done s _ _ (by rw[gu,hlen];exact hst) fun h' tk hk'=>?_);rw[List.take_length] at hd;refine U (ac (ac (hR h' tk (fun b o e=>hk' b o (fun hb=>(new b o e).2 (List.mem_singleton.mp hb)) (hkeep b o e)) ?_)));refine hde fun _ θ=>?_;obtain⟨o,es,ep,e,r⟩:=hd;apply θ;exact⟨o,es,ep,hk' _ _ (fun hb=>hDI (List.mem_singleton.mp hb)) e,r⟩
 |succ k ih =>
  intro i s hk hi hst hkeep hd hR;have hlt:i < kvs.length:=by exact wZ hk
  refine codeAny_builtin An ?_;rw[Around.under_plainId oN _];show wpAny _ A.in1 (pyNext (.ref I) >>= _) _ _ s;refine U (W.item i s _ _ (by rw[gu,hlen];exact hlt) hst fun v h' tk hP hst' hm=>?_);refine hde fun _ θ=>?_;obtain⟨kv,a,t,e1,rfl,n,e2⟩:=hp.at (by simpa using hP);apply θ;have hm':∀ b o,h₀.get? b=some o→h'.get? b=some o:=fun b o e=>hm b o (fun hb=>(new b o e).2 (List.mem_singleton.mp hb)) (hkeep b o e);have hd':h'.DictOf (strKind O w) D (merged [] (kvs.take i)):=by
   obtain⟨o,es,ep,e,r⟩:=hd;exact⟨o,es,ep,hm _ _ (fun hb=>hDI (List.mem_singleton.mp hb)) e,r⟩
  have ha:=hm' _ _ e2;refine U (ao (U (wpAny_tryCatch ?_)));unfold Builtin.Dict.pairItems;refine U (wpAny_typeOf (T := "tuple") ⟨_,ha,rfl⟩ ?_);rw[if_pos (by decide)];refine U (wpAny_seqItems ha rfl (ac ?_));show wpAny _ _ (holding [Value.str kv.1 t,kv.2] (dictSet D (.str kv.1 t) kv.2)) _ _ _;have hz:(merged ([]:List (Str×Value)) (kvs.take i)).length≤sizeLine:=aa (merged_length_le _ _) (by simp;exact Fq hn);refine ao (wpAny_dictSet_pairs (knd:=strKind O w) (eV kv.1 t) hd' (fun h'' hd'' hs=>?_) hz);rw[← merged_take_succ [] kvs i kv e1] at hd'';have ks:∀ b o,b≠D→h'.get? b=some o→h''.get? b=some o:=fun b o hb e=>by rw[hs.2 b hb];exact e
  refine ac ⟨plainId_quiet oN _,?_⟩;refine ih (i+1) _ (by exact xA hk) hlt ?_ (fun b o e=>ks b o (new b o e).1 (hm' b o e)) hd'' hR;exact W.frame _ h' _ hst' fun b hb o e=>ks b o (fun x=>by
   subst x;rcases List.mem_cons.mp hb with hb | hb
   ·exact hDI hb
   ·exact(List.mem_cons.mp hb).elim hDl hD) e
end
section
variable {O:Program} {w:World}
def KV(O:Program)(w:World)(h:Heap)(av:Addr→Prop):List (Str×Value)→List (PyData×PyData)→Prop
 | [],[]=>True
 |kv::r,d::t=>d.1=.str kv.1∧Rep O w h av kv.2 d.2∧KV O w h av r t
 |_,_=>False
theorem KV.out{h:Heap}{av:Addr→Prop}:∀ {kvs:List (Str×Value)} {ds:List (PyData×PyData)},KV O w h av kvs ds →
  ds.map (·.1)=kvs.map (fun kv=>PyData.str kv.1)∧∀ (i:Nat) (kv:Str×Value) (d:PyData×PyData),kvs[i]?=some kv→ds[i]?=some d→Rep O w h av kv.2 d.2
 | [],[],_=>⟨rfl,fun i kv d e=>by simp at e⟩
 |kv::r,d::t,x=>by
  refine hde fun _ θ=>?_;obtain⟨x1,x2,x3⟩:=x;obtain⟨y1,y2⟩:=KV.out x3;apply θ;refine⟨by simp[x1,y1],fun i kv' d' e1 e2=>?_⟩;cases i with
  |zero=>simp at e1 e2;subst e1;subst e2;exact x2
  |succ i=>exact y2 i kv' d' (by simpa using e1) (by simpa using e2)
 | [],_::_,x=>x.elim
 |_::_,[],x=>x.elim
theorem KV.of{h:Heap}{av:Addr→Prop}:∀ {kvs:List (Str×Value)} {ds:List (PyData×PyData)},ds.map (·.1)=kvs.map (fun kv=>PyData.str kv.1) →
  (∀ (i:Nat) (kv:Str×Value) (d:PyData×PyData),kvs[i]?=some kv→ds[i]?=some d→Rep O w h av kv.2 d.2)→KV O w h av kvs ds
 | [],[],_,_=>trivial
 |kv::r,d::t,e,x=>by
  simp at e;exact⟨e.1,x 0 kv d rfl rfl,KV.of (by simpa using e.2) fun i kv d e1 e2=>x (i+1) kv d (by simpa using e1) (by simpa using e2)⟩
 | [],_::_,e,_=>by simp at e
 |_::_,[],e,_=>by simp at e
theorem KV.mono{h h':Heap}{av av':Addr→Prop}(hk:∀ b o,¬ av b→h.get? b=some o→h'.get? b=some o)(ha:∀ b o,h.get? b=some o→av' b→av b):∀ {kvs:List (Str×Value)} {ds:List (PyData×PyData)},
  KV O w h av kvs ds→KV O w h' av' kvs ds
 | [],[],_=>trivial
 |_::_,_::_,x=>⟨x.1,x.2.1.mono hk ha,x.2.2.mono hk ha⟩
 | [],_::_,x=>x.elim
 |_::_,[],x=>x.elim
theorem Nc{y:Str}{v0:Value}{r:List (Str×Value)}{k:Str}{v:Value}(hn:(((y,v0)::r).map (·.1)).Nodup):stored ((y,v0)::r) k v=if k=y then (y,v)::r else (y,v0)::stored r k v:=by
 unfold stored
 by_cases h:k=y
 ·subst h;simp only[List.any_cons,decide_true,Bool.true_or,if_true,List.map_cons];congr 1;have hn':k∉r.map (·.1):=(aw.mp (show(k::r.map (·.1)).Nodup from hn)).1;have:∀ kv∈r,(if kv.1=k then (kv.1,v) else kv)=kv:=fun kv hkv=>by
   rw[if_neg];intro e;exact hn' (e▸fy hkv)
  exact(List.map_congr_left this).trans (List.map_id' r)
 ·rw[if_neg h];have hne:¬ y=k:=fun e=>h e.symm;simp only[List.any_cons,hne,decide_false,Bool.false_or,List.map_cons,if_false,List.cons_append]
  split<;>rfl
theorem Nd{kvs:List (Str×Value)}{k:Str}{v:Value}(hn:(kvs.map (·.1)).Nodup):((stored kvs k v).map (·.1)).Nodup:=by
 unfold stored
 split
 ·have:(kvs.map (fun kv=>if kv.1=k then (kv.1,v) else kv)).map (·.1)=kvs.map (·.1):=by
   rw[List.map_map];refine List.map_congr_left fun kv _=>?_;show(if kv.1=k then (kv.1,v) else kv).1=kv.1
   split<;>rfl
  rw[this];exact hn
 ·rename_i h;rw[dj,List.nodup_append];refine⟨hn,by simp,fun a ha b hb hab=>?_⟩;simp at hb;subst hb;subst hab;obtain⟨kv,hkv,rfl⟩:=bi.mp ha;exact h (List.any_eq_true.mpr ⟨kv,hkv,by simp⟩)
theorem Ao{kvs:List (Str×Value)}{k:Str}{v:Value}(hx:∀ kv∈kvs,kv.1.length≤sizeLine)(hk:k.length≤sizeLine):∀ kv∈stored kvs k v,kv.1.length≤sizeLine:=by
 intro kv h;unfold stored at h
 split at h
 ·obtain⟨kv',h',rfl⟩:=bi.mp h
  split
  ·exact hx kv' h'
  ·exact hx kv' h'
 ·rcases List.mem_append.mp h with h | h
  ·exact hx kv h
  ·simp at h;subst h;exact hk
theorem KV.set{h:Heap}{av:Addr→Prop}{k:Str}{v:Value}{d:PyData}(hv:Rep O w h av v d):∀ {kvs:List (Str×Value)} {ds:List (PyData×PyData)},(kvs.map (·.1)).Nodup→KV O w h av kvs ds→KV O w h av (stored kvs k v) (eF ds k d)
 | [],[],_,_=>⟨rfl,hv,trivial⟩
 | (y,v0)::r,(dk,d0)::t,hn,x=>by
  obtain⟨x1,x2,x3⟩:=x;have x1:dk=.str y:=x1;subst x1;rw[Nc hn];show KV O w h av _ (if k=y then (.str y,d)::t else (.str y,d0)::eF t k d)
  split
  ·exact⟨rfl,hv,x3⟩
  ·exact⟨rfl,x2,KV.set hv (aw.mp (show(y::r.map (·.1)).Nodup from hn)).2 x3⟩
 | [],_::_,_,x=>x.elim
 |_::_,[],_,x=>x.elim
def PS(O:Program)(w:World)(h:Heap)(av:Addr→Prop):List (Str×Value)→List (Str×PyData)→Prop
 | [],[]=>True
 |kv::r,p::t=>kv.1=p.1∧kv.1.length≤sizeLine∧Rep O w h av kv.2 p.2∧PS O w h av r t
 |_,_=>False
theorem KV.sets{h:Heap}{av:Addr→Prop}:∀ {kvs:List (Str×Value)} {ps:List (Str×PyData)} {acc:List (Str×Value)} {dacc:List (PyData×PyData)},PS O w h av kvs ps→(acc.map (·.1)).Nodup→KV O w h av acc dacc→(∀ kv∈acc,kv.1.length≤sizeLine) →
  KV O w h av (merged acc kvs) (dA ps dacc)∧∀ kv∈merged acc kvs,kv.1.length≤sizeLine
 | [],[],_,_,_,_,x,hz=>⟨x,hz⟩
 | (k,v)::r,(k',d)::t,acc,dacc,y,hn,x,hz=>by
  obtain⟨y1,y2,y3,y4⟩:=y;obtain rfl:k=k':=y1;exact(KV.sets (kvs:=r) (ps:=t) y4 (Nd hn) (KV.set y3 hn x) (Ao hz y2):KV O w h av (merged (stored acc k v) r) (dA t (eF dacc k d))∧_)
 | [],_::_,_,_,x,_,_,_=>x.elim
 |_::_,[],_,_,x,_,_,_=>x.elim
theorem PS.length{h:Heap}{av:Addr→Prop}:∀ {kvs:List (Str×Value)} {ps:List (Str×PyData)},PS O w h av kvs ps→kvs.length=ps.length
 | [],[],_=>rfl
 |_::r,_::t,x=>congrArg (·+1) (PS.length (kvs:=r) (ps:=t) x.2.2.2)
 | [],_::_,x=>x.elim
 |_::_,[],x=>x.elim
theorem Ap{s s₁ s':Shared}{av:Addr→Prop}{a:Addr}{kvs:List (Str×Value)}{ps:List (Str×PyData)}(k0:Kp s s₁)(k:Kp s₁ s')(hn:s₁.heap.get? a=none)(hm:(a==sysModules)=false)(hp:s'.heap.DictOf (strKind O w) a (merged [] kvs))
  (hl:ps.length≤sizeLine) (x:PS O w s₁.heap av kvs ps):Kp s s'∧bF O w s s'.heap av (.ref a) (.own (.dict (dA ps []))):=by
 obtain⟨y1,y2⟩:=KV.sets x (acc:=[]) cm (show KV O w s₁.heap av [] [] from trivial) (fun x hx=>b5 hx);obtain⟨z1,z2⟩:=y1.out;exact Ae k0 k hn hm hp ⟨aa (merged_length_le [] kvs) (by rw[x.length];simpa using hl),y2⟩ z1 z2
end
section
variable {O:Program} {w:World}
theorem Aq(r:List Str)(x:Str):(cH (x::r)).length=if r.contains x then (cH r).length else (cH r).length+1:=by
 show(if r.contains x then cH r else x::cH r).length=_
 split<;>rfl
theorem sU:∀ l:List Str,(cH l).length≤l.length
 | []=>ay _
 |a::r=>by
  rw[Aq];have:=sU r
  split
  ·exact bp this
  ·exact am this
noncomputable def met(ss:List Str)(i:Nat):List Str:=(ss.take i).reverse
theorem Ar{ss:List Str}{i:Nat}{x:Str}(h:ss[i]?=some x):met ss (i+1)=x::met ss i:=by
 unfold met;rw[List.take_add_one,h];simp
theorem As(ss:List Str)(i:Nat):(met ss i).length≤ss.length:=by
 unfold met;simp;exact Fs
theorem Nf{A:Around}{R:Result→Shared→Prop}{I:Addr}{fp wr:List Addr}{ss:List Str}{P:Nat→Value→Prop}{St:Nat→Heap→Prop}(W:Walks O w A.in1 I fp wr ss.length P St)(S:Addr)(hSf:S∉fp)
  (hval:∀ i v,P i v→∃ x t,ss[i]?=some x∧v=.str x t) (hb:ss.length+1 < scanBound) :
  ∀ (k i:Nat) (s:Shared),ss.length - i=k→i≤ss.length→St i s.heap→s.heap.SetOf (strKind O w) S (fun k'=>(met ss i).contains k') (cH (met ss i)).length →
   (∀ h' tk,(∀ b o,b∉S::wr→s.heap.get? b=some o→h'.get? b=some o)→h'.SetOf (strKind O w) S (fun k'=>(met ss ss.length).contains k') (cH (met ss ss.length)).length→R (.ok (.ret .none)) { s with heap:=h',toks:=tk }) →
   codeAny (model O w) A (.builtin "set.update.loop" ⟨[.ref S,.ref I],[]⟩) R s:=by
 have hSw:S∉wr:=fun h=>hSf (W.sub _ h);intro k
 induction k with
 |zero =>
  intro i s hk hi hst hS hR;have hin:i=ss.length:=by exact wY hk hi
  subst hin;refine codeAny_builtin PyProof.Rows.F.entry_set_update_loop ?_;rw[Around.under_plainId PyProof.Rows.F.plain_set_update_loop _];show wpAny _ A.in1 (pyNext (.ref I) >>= _) _ _ s;refine U (W.done s _ _ hst fun h' tk hm=>?_);refine ac (hR h' tk (fun b o hb e=>hm b o (fun h=>hb (ae _ h)) e) ?_);refine hde fun _ θ=>?_;obtain⟨o,es,ep,t,ho,rest⟩:=hS;apply θ;exact⟨o,es,ep,t,hm S _ hSw ho,rest⟩
 |succ k ih =>
  intro i s hk hi hst hS hR;have hlt:i < ss.length:=by exact wZ hk
  refine codeAny_builtin PyProof.Rows.F.entry_set_update_loop ?_;rw[Around.under_plainId PyProof.Rows.F.plain_set_update_loop _];show wpAny _ A.in1 (pyNext (.ref I) >>= _) _ _ s;refine U (W.item i s _ _ hlt hst fun v h' tk hP hst' hm=>?_);obtain⟨x,t,hx,rfl⟩:=hval i v hP;have hS':h'.SetOf (strKind O w) S (fun k'=>(met ss i).contains k') (cH (met ss i)).length:=by
   obtain⟨o,es,ep,tb,ho,rest⟩:=hS;exact⟨o,es,ep,tb,hm S _ hSw ho,rest⟩
  show wpAny _ A.in1 (holding [Value.str x t] (setAdd S (.str x t)) >>= _) _ _ _;refine U (ao ?_);unfold setAdd;refine ao ?_;refine U ((strKind O w).pyHash (k:=x) (eV x t) ?_);have hroom:(cH (met ss i)).length+1 < scanBound:=by have:=sU (met ss i);have:=As ss i;lia
  refine wpAny_setAddHashed_of (knd:=strKind O w) (s:={ s with heap:=h',toks:=tk+1 }) (eV x t) rfl hS' hroom fun h'' hsb hS2=>?_;have hSi:h''.SetOf (strKind O w) S (fun k'=>(met ss (i+1)).contains k') (cH (met ss (i+1))).length :=
   PyProof.Rows.SetOf_congr hS2 (fun k'=>by rw[Ar hx,List.contains_cons,Bool.or_comm];congr 1) (by rw[Ar hx,Aq])
  refine ac ⟨plainId_quiet PyProof.Rows.F.plain_set_update_loop _,ih (i+1) _ (by exact xA hk) hlt (W.frame _ h' _ hst' fun b hb o e=>?_) hSi fun h3 tk3 hk3 hS3=>hR h3 tk3 (fun b o hb e=>hk3 b o hb ?_) hS3⟩
  ·rw[hsb.2 b (fun h:b=S=>hSf (by rw[← h];exact hb))];exact e
  ·rw[hsb.2 b (fun h:b=S=>hb (by rw[h];exact ah))];exact hm b o (fun h=>hb (ae _ h)) e
set_option maxHeartbeats 3200000 in
theorem Au{A:Around}{E:Value→Shared→Prop}{s:Shared}{l:Addr}{T:String}{items:Array Value}{nl:Nat}{ss:List Str}{Q:Value→Shared→Prop}{oI:Obj}{St:Addr→Nat→Heap→Prop}(hh:A.handled=none)(hol:s.heap.get? l=some { cls:=.type T,data:=.seq items nl })
  (hsls:isSubtype (.type T) (.type "set")=pure false) (hslf:isSubtype (.type T) (.type "frozenset")=pure false) (hne:(Value.type T==Value.type "dict")=false) (hsz:items.size=ss.length)
  (hit:∀ (A':Around) (s':Shared) (Q:Value→Shared→Prop) (E:Value→Shared→Prop),s'.heap.get? l=some { cls:=.type T,data:=.seq items nl }→Q (.ref s'.heap.objs.size) { s' with heap:=s'.heap.push oI }→wpAny (model O w) A' (pyIter (.ref l)) Q E s')
  (hW:∀ (A':Around) (I:Addr),A'.handled=none→l≠I→Walks O w A' I [I,l] [I] items.size (fun i v=>items[i]?=some v) (St I))
  (hst:∀ (h:Heap),h.get? l=some { cls:=.type T,data:=.seq items nl }→St h.objs.size 0 (h.push oI))
  (hval:∀ (i:Nat) (v:Value),items[i]?=some v→∃ x t,ss[i]?=some x∧v=.str x t) (hb:ss.length+1 < scanBound)
  (h:∀ (h':Heap) (tk:Nat),h'.SetOf (strKind O w) s.heap.objs.size (fun k'=>(met ss ss.length).contains k') (cH (met ss ss.length)).length →
   (∀ b o,s.heap.get? b=some o→h'.get? b=some o)→Q (.ref s.heap.objs.size) { s with heap:=h',toks:=tk }) :
  wpAny (model O w) A (call (.type "set") [.ref l]) Q E s:=by
 obtain⟨c,tl,hmro⟩:=F.called_set.mro;have hmade:=F.called_set.made;have hsub:=F.called_set.sub;refine wpAny_call (codeAny_of_tree ?_);show wpAny _ _ (callAny (.type "set") _) _ _ _;refine ac ⟨Code.quiet_builtin _ (by decide +kernel),codeAny_builtin F.entry_type_call ?_⟩;rw[Around.under_plain (weight_type_call_type "set" [.ref l] []) rfl];have h1:=F.called_set.notType;have h2:=F.called_set.canCreate;have hct:=F.typeCall_set_1 (.ref l)
 repeat (any_goals (first | assumption | wp_step))
 refine codeAny_mono (code_set_new_1 (.ref l) (E:=E) (Q₁:=fun obj s₁=>∃ led:Bool,obj=.ref s.heap.objs.size∧s₁={ s with heap:=s.heap.push { cls:=.type "set", dict:=none,data:=.set #[] 0 (.fresh 0 0 led) } }) fun led=>⟨led,rfl,rfl⟩) fun r s₁ hr=>?_;cases r with
 |error e=>exact hr
 |ok fl =>
  cases fl with
  |ret obj =>
   obtain⟨led,rfl,rfl⟩:=hr;have hS:(s.heap.push { cls:=.type "set", dict:=none,data:=.set #[] 0 (.fresh 0 0 led) }).get? s.heap.objs.size=some { cls:=.type "set", dict:=none,data:=.set #[] 0 (.fresh 0 0 led) }:=eu _ rfl;have hT:Shared.TypeIs { s with heap:=s.heap.push { cls:=.type "set", dict:=none,data:=.set #[] 0 (.fresh 0 0 led) } } (.ref s.heap.objs.size) "set" := ⟨_,hS,rfl⟩
   have hli:=F.called_set.init.lookup;have hbi:=F.called_set.init.bind (.ref s.heap.objs.size)
   repeat (any_goals (first | assumption | wp_step))
   refine codeAny_mono (codeAny_call_builtin (R:=wants (fun r s₂=>r=.none∧∃ h' tk,s₂={ s with heap:=h',toks:=tk } ∧
     h'.SetOf (strKind O w) s.heap.objs.size (fun k'=>(met ss ss.length).contains k') (cH (met ss ss.length)).length ∧
     (∀ b o,s.heap.get? b=some o→h'.get? b=some o)) E) F.called_set.init.plain F.entry_set_init (check_set_init_1 hT ?_)) fun r₂ s₂ hr₂=>?_
   ·have hol':(s.heap.push { cls:=.type "set", dict:=none,data:=.set #[] 0 (.fresh 0 0 led) }).get? l=some { cls:=.type T,data:=.seq items nl }:=af _ hol;unfold Builtin.«set.__init__» noKeywords Builtin.Frozenset.updateFrom;generalize hPI:pyIter=PI
    wp_walk
    subst hPI;refine hit _ _ _ _ hol' ?_;refine U (wpAny_runValue ?_);have hlS:l < s.heap.objs.size:=bh hol;have hneI:l≠(s.heap.push { cls:=.type "set", dict:=none,data:=.set #[] 0 (.fresh 0 0 led) }).objs.size:=by
     rw[gc];exact bx (fc hlS)
    have hSf:s.heap.objs.size∉[(s.heap.push { cls:=.type "set", dict:=none,data:=.set #[] 0 (.fresh 0 0 led) }).objs.size,l]:=by
     rw[gc];simp only[List.mem_cons,List.mem_singleton,List.not_mem_nil,or_false,not_or];exact⟨bx (dy _),cu hlS⟩
    refine Nf (hsz▸hW _ _ (by simp[hh]) hneI) s.heap.objs.size hSf hval hb ss.length 0 _ rfl (aj _) (hst _ hol') ?hS0 fun h' tk' hk hS'=>?hR
    case hS0 =>
     exact PyProof.Rows.SetOf_congr ((PyProof.Rows.setObjOf_fresh (knd:=strKind O w) led).setOf (af _ hS) (by unfold scanBound;exact Ft)) (fun _=>rfl) rfl
    case hR =>
     show wpAny _ _ _ _ _ _;refine ac ?_;show wpAny _ _ (ret Value.none) _ _ _;refine ac ⟨rfl,h',tk',rfl,hS',fun b o e=>?_⟩;have hb:=bh e;refine hk b o ?_ (af _ (af _ e));rw[gc];intro hm;rcases List.mem_cons.mp hm with hm | hm
     ·exact absurd hb (by rw[hm];exact Nat.lt_irrefl _)
     ·exact absurd hb (by rw[List.mem_singleton.mp hm];exact Nat.not_lt.mpr (ai _))
   ·cases r₂ with
    |error e=>exact hr₂
    |ok fl₂ =>
     cases fl₂ with
     |ret r =>
      obtain⟨rfl,h',tk,rfl,hS',hk'⟩:=hr₂
      repeat (any_goals (first | assumption | wp_step))
      exact h _ _ hS' hk'
     |_=>exact hr₂.elim
  |_=>exact hr.elim
end
section
variable {O:Program} {w:World} {mg mb:Str→Option Value} {base:Heap}
theorem Ng{d:PyData}{p:PyData×PyData}(e:two d=some p):d=.tuple [p.1,p.2]:=by
 cases d with
 |tuple ds =>
  rcases ds with _ | ⟨a,_ | ⟨b,_ | ⟨c,r⟩⟩⟩
  ·exact ns e
  ·exact ns e
  ·obtain rfl:=si e;rfl
  ·exact ns e
 |_=>exact ns e
theorem Nh{α:Type}{l:List α}(h:l.length=2):∃ x y,l=[x,y]:=by
 rcases l with _ | ⟨a,_ | ⟨b,_ | ⟨c,r⟩⟩⟩
 ·cases h
 ·cases h
 ·exact⟨a,b,rfl⟩
 ·cases h
theorem Rep.two{h:Heap}{av:Addr→Prop}{v:Value}{d:PyData}{p:PyData×PyData}(r:Rep O w h av v d)(e:two d=some p):∃ a x y,v=.ref a∧PlT h a #[x,y]∧Rep O w h av x p.1∧Rep O w h av y p.2:=by
 rw[Ng e] at r;obtain⟨a,vs,rfl,h1,h2,h3,h4,h5⟩:=r.tuple_inv;obtain⟨x,y,rfl⟩:=Nh h3;exact⟨a,x,y,rfl,h2,h5 0 _ _ rfl rfl,h5 1 _ _ rfl rfl⟩
theorem Ni{h:Heap}{av:Addr→Prop}:∀ {vs:List Value} {ds:List PyData} {ps:List (PyData×PyData)} {qs:List (Str×PyData)},vs.length=ds.length→(∀ (i:Nat) (v:Value) (d:PyData),vs[i]?=some v→ds[i]?=some d→Rep O w h av v d) →
  twos? ds=some ps→keys? ps=some qs→∃ kvs,iG h vs kvs∧PS O w h av kvs qs:=by
 intro vs
 induction vs with
 |nil =>
  intro ds ps qs hl hr e1 e2;cases ds with
  |nil=>obtain rfl:=si e1;obtain rfl:=si e2;exact⟨[],trivial,trivial⟩
  |cons=>exact nomatch hl
 |cons v vs ih =>
  intro ds ps qs hl hr e1 e2;cases ds with
  |nil=>exact nomatch hl
  |cons d ds =>
   replace e1:((two d).bind fun p=>(twos? ds).map (p::·))=some ps:=e1;refine ocs (two d) (fun hp=>?_) fun p hp=>?_
   ·rw[hp] at e1;exact ns e1
   ·rw[hp] at e1;refine hde fun _ θ=>?_;obtain⟨ps',e1',rfl⟩:=bf.mp (show(twos? ds).map (p::·)=some ps from e1);obtain⟨a,x,y,rfl,g1,g2,g3⟩:=(hr 0 v d rfl rfl).two hp;obtain⟨p1,p2⟩:=p;apply θ;cases p1 with
    |str k =>
     refine hde fun _ θ=>?_;obtain⟨qs',e2',rfl⟩:=bf.mp (show(keys? ps').map ((k,p2)::·)=some qs from e2);obtain⟨t,hx,hk⟩:=(show Rep O w h av x (.str k) from g2).str_inv;subst hx;obtain⟨kvs,z1,z2⟩:=ih (ds:=ds) (Nat.succ.inj hl) (fun i v d e1 e2=>hr (i+1) v d e1 e2) e1' e2';apply θ;exact⟨(k,y)::kvs,⟨⟨a,t,rfl,g1⟩,z1⟩,rfl,hk,g3,z2⟩
    |_=>exact ns e2
theorem Av{ss:List Str}{ts:List Tok}(e1:ts.length=ss.length){i:Nat}{v:Value}(e:(List.zipWith (fun x t=>Value.str x t) ss ts)[i]?=some v):∃ x t,ss[i]?=some x∧v=.str x t:=by
 rw[List.getElem?_zipWith] at e;cases hs:ss[i]? with
 |none=>rw[hs] at e;exact ns e
 |some x =>
  cases ht:ts[i]? with
  |none=>rw[hs,ht] at e;exact ns e
  |some t=>rw[hs,ht] at e;obtain rfl:=si e;exact⟨x,t,rfl,rfl⟩
theorem Nj{l:List Env}{A:Around}{s:Shared}{av:Addr→Prop}{v:Value}{d:PyData}(hh:Hd A s.heap)(G:Gnd O w mg mb base l av s)(r:Rep O w s.heap av v d):YV O w A s av (call (.type "dict") [v]) (bG d):=by
 cases d with
 |dict m =>
  obtain⟨a,kvs,rfl,h1,h2,h3,h4,h5,h6⟩:=r.dict_inv;intro Q E hq;exact kt_call_dict (knd:=strKind O w) h4 h2 h3.1 fun h' hd hs=>hq _ _ (Ae (Kp.rfl' s) (Kp.mkh (Mv hs)) (bU _) (oM G) hd h3 h5 h6)
 |list m =>
  obtain⟨a,vs,rfl,h1,⟨nn,h2⟩,h3,h4,h5⟩:=r.list_inv;refine Yd.optBind fun ps hps=>Yd.optBind fun qs hqs=>Yd.ite fun hlt=>?_;obtain⟨kvs,g1,g2⟩:=Ni h3 h5 hps hqs;have hz:kvs.length≤sizeLine:=by rw[g2.length];exact aa (bz hlt) (by decide)
  intro Q E hq;refine callType_codes (Q₁:=fun obj s₁=>obj=.ref s.heap.objs.size∧s₁={ s with heap:=s.heap.push { cls:=.type "dict", data:=.dict #[] } }) F.kt_called_dict (F.kt_typeCall_dict_1 _) F.entry_dict_init (kt_code_dict_new _ ⟨rfl,rfl⟩) ?_
  rintro obj s₁ ⟨rfl,rfl⟩
  have hnew:(s.heap.push { cls:=.type "dict", data:=.dict #[] }).DictOf (strKind O w) s.heap.objs.size []:=Heap.DictOf.new s.heap;have h2':(s.heap.push { cls:=.type "dict", data:=.dict #[] }).get? a=some _:=af _ h2;refine⟨hnew.typeIs,F.args_dict_init_2 _ _,?_⟩;unfold Builtin.«dict.__init__»;refine U ?_;unfold Builtin.Dict.selfAndRest;refine U (wpAny_notOrdered_dict hnew.typeIs ?_);show wpAny _ _ (pure (s.heap.objs.size,[Value.ref a])) _ _ _;refine ac ?_;show wpAny _ _ (Builtin.Dict.updateFrom "dict.__init__" s.heap.objs.size (.ref a) [] .none) _ _ _;unfold Builtin.Dict.updateFrom;refine U (wpAny_typeOf (T := "list") ⟨_,h2',rfl⟩ ?_);rw[if_pos (by decide)];refine U (Na h2' (hh.on fun b _ o e=>af _ e).in1.in1 fun h' tk hk=>?_);rw[if_pos (show(none:Option Value).isNone=true from rfl)];refine U (wpAny_rule ?_);have hD:=hnew.keep hk;have h2'':=hk _ _ h2';refine U (gt ⟨_,h2'',rfl,nn,rfl⟩ (ac ⟨plainId_quiet oN _,?_⟩));have lt1:s.heap.objs.size < h'.objs.size:=(by obtain⟨o,_,_,e,_⟩:=hD;exact bh e)
  have lt2:a < s.heap.objs.size:=bh h2;have old:∀ b o,s.heap.get? b=some o→(h'.push { cls:=.type "list_iterator", data:=.fields #[Value.ref a,rawInt 0] }).get? b=some o:=fun b o e=>af _ (hk _ _ (af _ e));have nw:∀ {b:Addr},s.heap.objs.size≤b→b∉hdl A:=fun hb h=>by obtain⟨o,e,_⟩:=hh.live _ h;exact absurd (bh e) (Nat.not_lt.mpr hb)
  refine Nb (A:=A.in1) (I:=h'.objs.size) (l:=a) (D:=s.heap.objs.size) (vs:=vs) (kvs:=kvs) (fun h=>nw (bz lt1) h) (fun h=>nw (ay _) h) (bx (Nat.lt_trans lt2 lt1)) (bx lt1) (cu lt2) hz g1 (bU _) (cy (bz lt1)) kvs.length 0 _ rfl (aj _)
   ⟨⟨⟨_,cM _ _ rfl,rfl,rfl⟩,⟨_,af _ h2'',rfl,nn,rfl⟩⟩,(hh.on fun b _ o e=>old b o e).in1.in1⟩ old (hD.push _) fun h'' tk' hk'' hd''=>⟨rfl,hq _ _ ?_⟩
  exact Ap (Kp.rfl' s) (Kp.mk' hk'') (bU _) (oM G) hd'' (by rw[← g2.length];exact hz) g2
 |_=>exact trivial
theorem Nk{A:Around}{s:Shared}{av:Addr→Prop}{v:Value}{d:PyData}(hh:A.handled=none)(hav:∀ b,av b→∃ o,s.heap.get? b=some o)(r:Rep O w s.heap av v d) :
  Yd (fun Q E=>wpAny (model O w) A (call (.builtin "dict.items") [v]) (fun x s₁=>wpAny (model O w) A (call (.type "list") [x]) Q E s₁) E s) (fun v s' u=>Kp s s'∧bF O w s s'.heap av v u) (fB d):=by
 cases d with
 |dict m =>
  refine hde fun _ θ=>?_;obtain⟨a,kvs,rfl,h1,h2,h3,h4,h5,h6⟩:=r.dict_inv;apply θ;intro Q E hq;refine call_meetsIn F.slot_dict_items h2.typeIs F.entry_dict_items (F.args_dict_items_1 _) (meets_dict_items (strKind O w) a h4) ⟨⟨kvs,h2⟩,?_⟩;refine hde fun _ θ=>?_;obtain⟨o,es,ep,hd⟩:=h2;apply θ;have hp:∀ b o,s.heap.get? b=some o→(s.heap.push { cls:=.type "dict_items", data:=.fields #[.ref a] }).get? b=some o:=fun b o e=>af _ e;have fr:∀ {x:Addr},s.heap.objs.size < x→s.heap.get? x=none:=fun hx=>cy (bz hx);have hlen:m.length=kvs.length:=by simpa using congrArg List.length h5
  refine W.kdx_call (knd:=strKind O w) (kvs:=kvs) (ep:=ep) hh ⟨_,cM _ _ rfl,rfl,rfl⟩ ⟨o,es,hp _ _ hd.1,hd.2⟩ h3.1 fun h' tk acc c as hk hl' hlas hG hacc=>?_;have hk':∀ b o,s.heap.get? b=some o→h'.get? b=some o:=fun b o e=>hk _ _ (hp _ _ e);have hlt:s.heap.objs.size < (s.heap.push { cls:=.type "dict_items", data:=.fields #[.ref a] }).objs.size:=by rw[gc];exact dy _
  have hn:s.heap.get? (s.heap.push { cls:=.type "dict_items", data:=.fields #[.ref a] }).objs.size=none:=fr hlt;refine hq _ _ ⟨Kp.mk' hk',⟨_,rfl,hn,acc.toList,⟨c,by simpa using hl'⟩,by rw[hacc,List.length_map,List.length_map,hlas,hlen],by rw[hacc,List.length_map,hlas];exact h3.1,fun i v d e1 e2=>?_⟩⟩;rw[hacc,List.getElem?_map] at e1;refine hde fun _ θ=>?_;obtain⟨ta,e1',rfl⟩:=bf.mp e1;rw[List.getElem?_map] at e2;obtain⟨p,e2',rfl⟩:=bf.mp e2;apply θ;clear e1 e2;refine hde fun _ θ=>?_;obtain⟨key,k,x,e3,e4,e5⟩:=hG.pairs i ta e1';obtain⟨t,rfl⟩:=Value.isStrOf_shape e4;apply θ;have hp1:p.1=.str k:=by
   have:=congrArg (fun l=>l[i]?) h5;simp only[List.getElem?_map,e2',e3,Option.map_some] at this;exact Option.some.inj this
  have hgt:(s.heap.push { cls:=.type "dict_items", data:=.fields #[.ref a] }).objs.size < ta:=hG.above ta (cc e1');have hta:s.heap.get? ta=none:=fr (Nat.lt_trans hlt hgt);have rx:Rep O w h' (fun b=>av b∨b=(s.heap.push { cls:=.type "dict_items", data:=.fields #[.ref a] }).objs.size) x p.2:=((h6 i _ _ e3 e2').apart hn).keeps hk';refine .tuple (fun hx=>?_) ⟨0,by simpa using e5⟩ rfl (by rw[sizeLine_eq];exact ew rfl) fun j v d f1 f2=>?_
  ·rcases hx with hx | hx
   ·obtain⟨o,e⟩:=hav _ hx;rw[hta] at e;exact ns e
   ·exact absurd hgt (by rw[hx];exact Nat.lt_irrefl _)
  ·match j,f1,f2 with
   |0,f1,f2=>obtain rfl:=si f1;obtain rfl:=si f2;rw[hp1];exact .str k t (h3.2 _ (cc e3))
   |1,f1,f2=>obtain rfl:=si f1;obtain rfl:=si f2;exact rx
 |_=>exact trivial
theorem Nl:isSubtype (.type "tuple") (.type "set")=pure false:=by rw[isSubtype_type];kernel_rfl
theorem Nm:isSubtype (.type "tuple") (.type "frozenset")=pure false:=by rw[isSubtype_type];kernel_rfl
theorem Nn{A:Around}{s:Shared}{av:Addr→Prop}{v:Value}{d:PyData}(hh:A.handled=none)(r:Rep O w s.heap av v d) :
  Yd (fun Q E=>wpAny (model O w) A (call (.type "set") [v]) (fun x s₁=>wpAny (model O w) A (call (.builtin "len") [x]) Q E s₁) E s) (fun v s' u=>Kp s s'∧bF O w s s'.heap av v u) (eI d):=by
 have key:∀ {ss:List Str} {Q:Value→Shared→Prop} {E:Value→Shared→Prop} (_:ss.length < 64),(∀ v s',Kp s s'∧bF O w s s'.heap av v (.fz (.int (cH ss.reverse).length))→Q v s')→∀ (h':Heap) (tk:Nat),h'.SetOf (strKind O w) s.heap.objs.size (fun k'=>(met ss ss.length).contains k') (cH (met ss ss.length)).length →
   (∀ b o,s.heap.get? b=some o→h'.get? b=some o)→wpAny (model O w) A (call (.builtin "len") [.ref s.heap.objs.size]) Q E { s with heap:=h',toks:=tk }:=by
  intro ss Q E hlt hq h' tk hS hk;refine hde fun _ θ=>?_;obtain⟨o,es,ep,t,ho,hex,hd,hel,hmem,hb,hf,hn⟩:=hS;apply θ;have hz:(es.size:Int) < 2 ^ 63:=by
   have:=sU (met ss ss.length);have:=As ss ss.length;lia
  refine call_len_set ho hex hd hf hz (hq _ _ ⟨Kp.mk' hk,?_⟩);rw[hn];unfold met;rw[List.take_length];exact .int _ _
 cases d with
 |list m =>
  refine hde fun _ θ=>?_;obtain⟨a,vs,rfl,h1,⟨nn,h2⟩,h3,h4,h5⟩:=r.list_inv;apply θ;refine Yd.optBind fun ss hs=>Yd.ite fun hlt=>?_;refine hde fun _ θ=>?_;obtain⟨ts,e1,rfl,e3⟩:=iE h3 h5 hs;apply θ;intro Q E hq;refine Au (T := "list") (ss:=ss) hh h2 F.sub_list_set F.sub_list_frozenset rfl (by simp[e1]) (fun A' s' Q E e hq=>gt ⟨_,e,rfl,_,rfl⟩ hq) (fun A' I hA' hne=>Walks.list hA' I a hne _) (fun h e=>⟨⟨_,cM _ _ rfl,rfl,rfl⟩,⟨_,af _ e,rfl,_,rfl⟩⟩) (fun i v e=>?_) (by unfold scanBound;exact xB hlt) (key hlt hq);exact Av e1 (by simpa using e)
 |tuple m =>
  refine hde fun _ θ=>?_;obtain⟨a,vs,rfl,h1,⟨nn,h2⟩,h3,h4,h5⟩:=r.tuple_inv;apply θ;refine Yd.optBind fun ss hs=>Yd.ite fun hlt=>?_;refine hde fun _ θ=>?_;obtain⟨ts,e1,rfl,e3⟩:=iE h3 h5 hs;apply θ;intro Q E hq;refine Au (T := "tuple") (ss:=ss) hh h2 Nl Nm rfl (by simp[e1]) (fun A' s' Q E e hq=>wpAny_pyIter_tuple ⟨_,e,rfl,_,rfl⟩ hq) (fun A' I hA' hne=>Walks.tuple hA' I a hne _) (fun h e=>⟨⟨_,cM _ _ rfl,rfl,rfl⟩,⟨_,af _ e,rfl,_,rfl⟩⟩) (fun i v e=>?_) (by unfold scanBound;exact xB hlt) (key hlt hq);exact Av e1 (by simpa using e)
 |_=>exact trivial
end
section
variable {O:Program} {w:World} {mg mb:Str→Option Value} {base:Heap} {n:Nat} {hd:Bool} {l:List Env} {sc:Scope} {σ:aA}
def CA(O:Program)(w:World)(mg:Str→Option Value)(l:List Env)(av:Addr→Prop)(s:Shared)(v:Value)(u:V):Prop:=b9 O w mg l s.heap av v u∧hX u=false
structure KSound(O:Program)(w:World)(mg mb:Str→Option Value)(base:Heap)(n:Nat)(C:Ctx):Prop where
 const:C.const=iB O.main.body
 init:C.init=fun c=>(bK c O.main.body).map (·.2)
 sub:C.sub=iC O.main.body
 has:∀ f,C.has f=true→∃ a b sc,dY f O.main.body=some (a,b,sc)
 call:∀ f us ad,mg f=some (.ref ad)→C.has f=true→∀ (A:Around) (l:List Env) (s:Shared) (av:Addr→Prop) (vs:List Value),Room base n C.hd l A→Gnd O w mg mb base l av s→f6 (CA O w mg l av) s vs us →
  ∀ {β:Type} {k:V→R β} {fin:R β} {Q:Value→Shared→Prop} {E:Value→Shared→Prop},Fin (C.call f us) k fin→QH O w l s av k fin Q→EH O w mg l s av fin E→wpAny (model O w) A (call (.ref ad) vs) Q E s
theorem sV{M:Model}{A:Around}{f:Value}{env:Env}{es:List Expr}{pos:Pos}{Q:Args→Shared→Prop}{E:Value→Shared→Prop}{s:Shared}(hs:es.any bad=false)
  (h:wpAny M A (spliced (backTo pos (starEach es env))) (fun vs s'=>Q ⟨vs,[]⟩ s') E s):wpAny M A (evalArgs f true (backTo pos (starEach es env)) []) Q E s:=by
 cases es with
 |nil =>
  have e0:backTo pos (starEach [] env)=[]:=rfl;rw[e0] at h ⊢;unfold evalArgs;refine U (U (aq h (fun vs s' h'=>?_) fun _ _ x=>x));refine ac (ao ?_);exact U (ac (ac h'))
 |cons e r =>
  rw[eS (Bool.or_eq_false_iff.mp hs).1] at h ⊢;exact Calls.evalArgs_plain h
theorem sW{env:Env}{pos:Pos}:∀ {es:List Expr},es.any bad=false→(backTo pos (starEach es env)).any (·.1)=false:=by
 intro v0
 induction v0 with
 |nil =>
  intro _;exact rfl
 |cons e es ih =>
  intro h;obtain⟨h1,h2⟩:=Bool.or_eq_false_iff.mp h;rw[eS h1];show(false||(backTo pos (starEach es env)).any (·.1))=false;rw[ih h2];rfl
theorem No{rec:Expr→R V}(hbad:∀ e,bad e=true→rec e=.no)(e:Expr)(h:bad e=true):jB rec sc σ e=.no:=by
 have h0:=h;unfold jB kF bH;unfold bad at h;generalize hv:vw e=v at h;cases v with
 |name x=>exact bft h
 |_=>exact hbad e h0
theorem Np{av:Addr→Prop}{rec:Expr→R V}{e:Expr}(h:aH O w mg mb base n hd l sc σ e (rec e)):sM O w mg mb base n hd l sc σ av (CA O w mg l av) e (jB rec sc σ e):=by
 intro A env s hA I β k fin Q E hf hq he;unfold jB at hf;refine ocs (kF sc σ e) (fun hx=>?_) fun x hx=>?_
 ·rw[hx] at hf;exact h A env s av hA I hf (fun v s' u k r e=>hq v s' u k ⟨r.cl I.gnd.avlt,zE⟩ e) he
 ·rw[hx] at hf;refine hde fun _ θ=>?_;obtain⟨y,p,rfl,hl,e⟩:=L8 hx;obtain⟨u,h1,h2⟩:=I.get _ _ hl e;apply θ;exact fZ I hl h1 (hq _ _ (.ex x) (K.rf l s) ⟨h2,rfl⟩ hf.ok)
theorem Nq{C:Ctx}(hK:KSound O w mg mb base n C){rec:Expr→R V}(hbad:∀ e,bad e=true→rec e=.no){f:Str}{as:List Expr}{p pos:Pos}(hg:isG sc f=true)(hns:as.any bad=false)(hh:C.has f=true)
  (h:∀ e∈as,aH O w mg mb base n C.hd l sc σ e (rec e)):aH O w mg mb base n C.hd l sc σ (.Call (.Name f p) as [] pos) (rb (evs (jB rec sc σ) as) fun vs=>C.call f vs):=by
 intro A env s av hA I β k fin Q E hf hq he;refine hde fun _ θ=>?_;obtain⟨a,b,sc',hd⟩:=hK.has f hh;obtain⟨ad,o,pm,cd,doc,h1,h2,h3,h4⟩:=I.gnd.glo.fn f a b sc' hd;apply θ;refine wpAny_Call_NameR (oF I hg h1 (Calls.callWith_function (o:=o) (fd:=Calls.docDef f a b sc' pm cd doc) (sV hns (z5 (C:=CA O w mg l av) (No hbad) (fun _ _ _ _ k r=>⟨r.1.k I.gnd.fav k,r.2⟩) hA (fun e m=>Np (h e m)) I hf.b (fun vs s₁ us k1 r e1=>?_) he))));exact⟨⟨(I.gnd.k k1).stay _ _ h2,h3⟩,hK.call f us ad h1 hh A l s₁ av vs hA (I.gnd.k k1) r ⟨e1,hf.2⟩ (hq.back k1) (he.back k1)⟩
theorem gJ{M:Model}{A:Around}{fv:Value}(hf:(∃ id,fv=.builtin id)∨∃ T,fv=.type T){pos:Pos}{t:Sem Value}{Q:Value→Shared→Prop}{E:Value→Shared→Prop}{s:Shared}
  (h:wpAny M A t (fun v s₁=>wpAny M A (call fv [v]) Q E s₁) E s):wpAny M A (callWith pos fv [] [(false,t)] []) Q E s:=by
 rcases hf with ⟨id,rfl⟩ | ⟨T,rfl⟩
 ·exact PySem.callWith_builtin1 h
 ·exact PySem.callWith_type1 h
theorem Nr{f:Str}{fv:Value}(hv:jG f=some fv){A:Around}{s:Shared}{av:Addr→Prop}{v:Value}{d:PyData}(hh:rJ f=true→A.handled=none)(hH:Hd A s.heap)(G:Gnd O w mg mb base l av s)
  (r:Rep O w s.heap av v d):YV O w A s av (call fv [v]) (rA f d) :=
 Yd.ite2 (fun e=>by subst e;obtain rfl:=si hv;exact Mj r) fun _ =>
 Yd.ite2 (fun e=>by subst e;obtain rfl:=si hv;exact Mo (hh rfl) r) fun _ =>
 Yd.ite2 (fun e=>by subst e;obtain rfl:=si hv;exact Mr (hh rfl) r) fun _ =>
 Yd.ite2 (fun e=>by subst e;obtain rfl:=si hv;exact Ms (hh rfl) r) fun _ =>
 Yd.ite2 (fun e=>by subst e;obtain rfl:=si hv;exact Mu G.avlt r) fun _ =>
 Yd.ite2 (fun e=>by subst e;obtain rfl:=si hv;exact Nj hH G r) fun _ =>
 Yd.ite2 (fun e=>by subst e;obtain rfl:=si hv;exact Mw r) fun _ =>
 Yd.ite2 (fun e=>by subst e;obtain rfl:=si hv;exact Mx r) fun _ =>
 Yd.ite2 (fun e=>by subst e;obtain rfl:=si hv;exact My r) fun _=>trivial
theorem Nt{f:Str}(h:iY f=true):∃ fv,jG f=some fv∧((∃ id,fv=.builtin id)∨∃ T,fv=.type T):=by
 unfold iY at h;simp only[Bool.or_eq_true,beq_iff_eq] at h;rcases h with (((((((h | h) | h) | h) | h) | h) | h) | h) | h<;>subst h
 all_goals first
  |exact⟨.builtin _,rfl,.inl ⟨_,rfl⟩⟩
  |exact⟨.type _,rfl,.inr ⟨_,rfl⟩⟩
theorem Nu{rec:Expr→R V}(hbad:∀ e,bad e=true→rec e=.no){f:Str}{a:Expr}{p pos:Pos}(hg:isG sc f=true)(hb:iY f=true)(h:aH O w mg mb base n hd l sc σ a (rec a)) :
  aH O w mg mb base n hd l sc σ (.Call (.Name f p) [a] [] pos) (gH rec hd f a):=by
 intro A env s av hA I β k fin Q E hf hq he;obtain⟨fv,hv,hfv⟩:=Nt hb;unfold gH at hf;refine bcs (hd&&rJ f) (fun hn=>?_) fun hn=>?_
 ·rw[hn] at hf;have hf:Fin (rb (rec a) fun v=>ofP (rA f (dOf v))) k fin:=hf;refine PySem.Call_name1 (eS (eT (hbad a) hf.b.ne)) (eU I hg hv (gJ hfv (h A env s av hA I hf.b (fun v s₁ u k1 r h1=>?_) he)));exact Yd.fin (Nr hv (fun hne=>hA.handled (by rw[hne,Bool.and_true] at hn;exact hn)) (hA.hdd (I.gnd.k k1)).1 (I.gnd.k k1) (r.rep I.gnd.avlt)) ⟨h1,hf.2⟩ fun v s' u r e=>hq.step k1 r e
 ·rw[hn] at hf
  by_cases hl:f = "list"
  ·subst hl;have hf:Fin (rb (rec a) fun v=>ofP (jA (dOf v))) k fin:=hf;obtain rfl:=si hv;refine PySem.Call_name1 (eS (eT (hbad a) hf.b.ne)) (eU I hg rfl (gJ hfv (h A env s av hA I hf.b (fun v s₁ u k1 r h1=>?_) he)));exact Yd.fin (Mt (r.rep I.gnd.avlt)) ⟨h1,hf.2⟩ fun v s' u r e=>hq.step k1 r e
  ·replace hf:Fin (if f = "list" then rb (rec a) fun v=>ofP (jA (dOf v)) else R.no) k fin:=hf;rw[if_neg hl] at hf;exact hf.no.elim
theorem jK{M:Model}{A:Around}{id:String}{env:Env}{as:List Expr}{pos:Pos}{first:List Value}{Q:Value→Shared→Prop}{E:Value→Shared→Prop}{s:Shared}(hs:as.any bad=false)
  (h:wpAny M A (spliced (backTo pos (starEach as env))) (fun vs s₁=>wpAny M A (call (.builtin id) (first++vs)) Q E s₁) E s):wpAny M A (callWith pos (.builtin id) first (backTo pos (starEach as env)) []) Q E s :=
 Calls.callWith_builtin (sW hs) (sV hs h)
theorem sX{u:V}{d:PyData}(h:iA u=.ok d):u=.fz d:=by
 cases u with
 |fz=>obtain rfl:=pi h;rfl
 |_=>exact pno h
def RL(O:Program)(w:World)(h:Heap)(av:Addr→Prop)(vs:List Value)(ds:List PyData):Prop :=
 vs.length=ds.length∧∀ (i:Nat) (v:Value) (d:PyData),vs[i]?=some v→ds[i]?=some d→Rep O w h av v d
theorem RL.cons{h:Heap}{av:Addr→Prop}{vs:List Value}{d:PyData}{ds:List PyData}(r:RL O w h av vs (d::ds)):∃ v vs',vs=v::vs'∧Rep O w h av v d∧RL O w h av vs' ds:=by
 cases vs with
 |nil=>cases r.1
 |cons v vs=>exact⟨v,vs,rfl,r.2 0 v d rfl rfl,Nat.succ.inj r.1,fun i v d e1 e2=>r.2 (i+1) v d e1 e2⟩
theorem RL.nil{h:Heap}{av:Addr→Prop}{vs:List Value}(r:RL O w h av vs []):vs=[]:=List.length_eq_zero_iff.mp r.1
theorem Nv{A:Around}{s:Shared}{av:Addr→Prop}{vs:List Value}{us:List V}(hh:A.handled=none)(r:RL O w s.heap av vs (bY us)):YV O w A s av (call (.builtin "min") vs) (nN us):=by
 cases us with
 |nil=>exact trivial
 |cons a us =>
  cases us with
  |nil=>exact trivial
  |cons b us =>
   cases us with
   |cons=>exact trivial
   |nil =>
    obtain⟨v1,vs,rfl,r1,r⟩:=r.cons;obtain⟨v2,vs,rfl,r2,r⟩:=r.cons;obtain rfl:=r.nil;refine Yd.pureBind fun x hx=>Yd.pureBind fun y hy=>?_;cases sX hx;cases sX hy;cases x with
    |int x =>
     cases y with
     |int y =>
      obtain⟨t,rfl⟩:=(show Rep O w s.heap av v1 (.int x) from r1).int_inv;obtain⟨u,rfl⟩:=(show Rep O w s.heap av v2 (.int y) from r2).int_inv;refine fun Q E hq=>min_two_ints hh fun h' tk hk=>hq _ _ ⟨Kp.mk' hk,?_⟩;show Rep O w _ av _ (.int (if y < x then y else x))
      split<;>exact .int _ _
     |_=>exact trivial
    |_=>exact trivial
theorem Nw{rec:Expr→R V}(hbad:∀ e,bad e=true→rec e=.no){as:List Expr}{p pos:Pos}(hg:isG sc "min" = true)(hns:as.any bad=false)(hh:hd=false)
  (h:∀ e∈as,aH O w mg mb base n hd l sc σ e (rec e)):aH O w mg mb base n hd l sc σ (.Call (.Name "min" p) as [] pos) (rb (evs rec as) fun vs=>ofP (nN vs)):=by
 intro A env s av hA I β k fin Q E hf hq he;refine wpAny_Call_NameR (eU I hg rfl (jK hns (jI hbad hA h I hf.b (fun vs s₁ us k1 r1 r2 e1=>?_) he)));exact Yd.fin (Nv (hA.handled hh) ⟨r1,r2⟩) ⟨e1,hf.2⟩ fun v s' u r e=>hq.step k1 r e
theorem Nx{rec:Expr→R V}{a:Expr}{t:Str}{p p' pos:Pos}(hbad:∀ e,bad e=true→rec e=.no)(hg:isG sc "isinstance" = true)
  (ht:isG sc t=true) (h:aH O w mg mb base n hd l sc σ a (rec a)):aH O w mg mb base n hd l sc σ (.Call (.Name "isinstance" p) [a,.Name t p'] [] pos) (rb (rec a) fun v=>ofP (nO t (dOf v))):=by
 intro A env s av hA I β k fin Q E hf hq he;have hb:=eT (hbad a) hf.b.ne;refine wpAny_Call_NameR (eU I hg rfl (jK (by show(bad a||false)=false;rw[hb];rfl) ?_));refine fu (h A env s av hA I hf.b (fun v s₁ u k1 r h1=>fu ?_ rfl) he) (eS hb);refine hde fun _ θ=>?_;obtain⟨h1',h2,h3,h4,h5,h6⟩:=Me (O:=O) (w:=w) (A:=A) (r.rep I.gnd.avlt);apply θ;have fin:∀ {T:String} {b},jG t=some (.type T)→iF O w A s₁ v T b→Yd (fun Q E=>wpAny (model O w) A (eval (.Name t p') env) (fun c s₂=>wpAny (model O w) A (call (.builtin "isinstance") [v,c]) Q E s₂) E s₁) (fun v s' u=>Kp s₁ s'∧bF O w s₁ s'.heap av v u) (fz (.bool b)) :=
  fun hT hc Q E hq=>eU (I.k k1) ht hT (hc _ _ fun tk=>hq _ _ ⟨Kp.tok' s₁ tk,.bool _⟩)
 have key:Yd (fun Q E=>wpAny (model O w) A (eval (.Name t p') env) (fun c s₂=>wpAny (model O w) A (call (.builtin "isinstance") [v,c]) Q E s₂) E s₁) (fun v s' u=>Kp s₁ s'∧bF O w s₁ s'.heap av v u) (nO t (dOf u)) :=
  Yd.ite2 (fun e=>fin (e▸rfl) h1') fun _=>Yd.ite2 (fun e=>fin (e▸rfl) h2) fun _=>Yd.ite2 (fun e=>fin (e▸rfl) h3) fun _=>Yd.ite2 (fun e=>fin (e▸rfl) h4) fun _=>Yd.ite2 (fun e=>fin (e▸rfl) h5) fun _=>Yd.ite2 (fun e=>fin (e▸rfl) h6) fun _=>trivial
 exact aq (key.fin (Q:=Q) ⟨h1,hf.2⟩ fun v s' u r e=>hq.step k1 r e) (fun c s₂ h₂=>ft h₂) fun _ _ x=>x
theorem Ny{rec:Expr→R V}{as:List Expr}{p p' pos pos':Pos}(hbad:∀ e,bad e=true→rec e=.no)(hg:isG sc "len" = true)(hh:hd=false)(h:∀ e∈as,aH O w mg mb base n hd l sc σ e (rec e)) :
  aH O w mg mb base n hd l sc σ (.Call (.Name "len" p) [.Call (.Name "set" p') as [] pos'] [] pos) (yI rec sc as):=by
 intro A env s av hA I β k fin Q E hf hq he;cases as with
 |nil=>exact hf.no.elim
 |cons x r =>
  cases r with
  |cons=>exact hf.no.elim
  |nil =>
   obtain⟨hc,hf⟩:=Fin.ite hf;refine PySem.Call_name1 rfl (eU I hg rfl (gJ (.inl ⟨_,rfl⟩) (PySem.Call_name1 (eS (eT (hbad x) hf.b.ne)) (eU I hc rfl (gJ (.inr ⟨_,rfl⟩) (h x ah A env s av hA I hf.b (fun v s₁ u k1 r h1=>?_) he))))));exact Yd.fin (Nn (hA.handled hh) (r.rep I.gnd.avlt)) ⟨h1,hf.2⟩ fun v s' u r e=>hq.step k1 r e
end
section
variable {O:Program} {w:World} {mg mb:Str→Option Value} {base:Heap} {n:Nat} {hd:Bool} {l:List Env} {sc:Scope} {σ:aA}
theorem Rep.getD{h:Heap}{av:Addr→Prop}{ds:List (PyData×PyData)}{kvs:List (Str×Value)}{x:Str}{dv:Value}{dd:PyData}(h5:ds.map (·.1)=kvs.map (fun kv=>PyData.str kv.1))
  (h6:∀ (i:Nat) (kv:Str×Value) (d:PyData×PyData),kvs[i]?=some kv→ds[i]?=some d→Rep O w h av kv.2 d.2) (hd:Rep O w h av dv dd):Rep O w h av ((valueAt kvs x).getD dv) ((bS ds x).getD dd):=by
 rcases kR x h5 with ⟨e1,e2⟩ | ⟨i,v,d,e1,e2,e3,e4⟩
 ·rw[e1,e2];exact hd
 ·rw[e1,e2];exact h6 i _ _ e3 e4
theorem Nz{A:Around}{s:Shared}{av:Addr→Prop}{o:Value}{l:List (PyData×PyData)}{vs:List Value}{k:PyData}{ds:List PyData}(ro:Rep O w s.heap av o (.dict l))(r:RL O w s.heap av vs (k::ds)) :
  YV O w A s av (call (.builtin "dict.get") (o::vs)) (yB l ds k):=by
 obtain⟨v,vs,rfl,rk,r1⟩:=r.cons;clear r;cases k with
 |str k =>
  obtain⟨t,rfl,hk⟩:=rk.str_inv;obtain⟨a,kvs,rfl,_,h2,h3,h4,h5,h6⟩:=ro.dict_inv;cases ds with
  |nil =>
   obtain rfl:=r1.nil;exact fun Q E hq=>call_meetsIn F.slot_dict_get h2.typeIs F.entry_dict_get (F.args_dict_get_2 _ _) (meets_dict_get (strKind O w) a (eV k t) h4) ⟨_,h2.mapOf,hq _ _ ⟨Kp.tok' s _,Rep.getD h5 h6 .none⟩⟩
  |cons d ds =>
   obtain⟨u,vs,rfl,ru,r2⟩:=r1.cons;cases ds with
   |cons=>exact trivial
   |nil =>
    obtain rfl:=r2.nil;exact fun Q E hq=>call_meetsIn F.slot_dict_get h2.typeIs F.entry_dict_get (F.args_dict_get_3 _ _ _) (meets_dict_get_default (strKind O w) a (eV k t) h4 u) ⟨_,h2.mapOf,hq _ _ ⟨Kp.tok' s _,Rep.getD h5 h6 ru⟩⟩
 |_=>exact trivial
theorem N0{ss:List Str}{ts:List Tok}(e:ts.length=ss.length):strValues (ss.zip ts)=List.zipWith (fun x t=>Value.str x t) ss ts∧(ss.zip ts).map (·.1)=ss :=
 ⟨by unfold strValues;rw[List.zip,List.map_zipWith],List.map_fst_zip (ca e.symm)⟩
theorem N1{A:Around}{s:Shared}{av:Addr→Prop}{o:Value}{x:Str}{vs:List Value}{k:PyData}{ds:List PyData}(ro:Rep O w s.heap av o (.str x))(r:RL O w s.heap av vs (k::ds)) :
  YV O w A s av (call (.builtin "str.join") (o::vs)) (yC x ds k):=by
 obtain⟨t,rfl,hx⟩:=ro.str_inv;obtain⟨v,vs,rfl,rk,r1⟩:=r.cons;clear r;cases ds with
 |cons=>exact trivial
 |nil =>
  obtain rfl:=r1.nil;cases k with
  |list l =>
   obtain⟨a,vl,rfl,h1,h2,h3,h4,h5⟩:=rk.list_inv;refine Yd.optBind fun ss hs=>Yd.ite fun hok=>?_;refine hde fun _ θ=>?_;obtain⟨ts,e1,rfl,e3⟩:=iE h3 h5 hs;obtain⟨z1,z2⟩:=N0 e1;apply θ;exact fun Q E hq=>SC.join (l:=ss.zip ts) (by rw[z1];exact h2.isList) z2 hok fun t' k=>hq _ _ ⟨Kp.tok' s _,.str _ _ (joinOk_length hok)⟩
  |_=>exact trivial
theorem Aw{s:Shared}{a:Addr}{kvs:List (Str×Value)}(h2:s.heap.DictOf (strKind O w) a kvs):∀ b,Value.ref a=.ref b→∃ ob,s.heap.get? b=some ob∧ob.dict=none:=by
 intro b hb;cases hb;obtain⟨ob,es,ep,e,c,_⟩:=h2;exact⟨ob,e,c.2.1⟩
theorem N2{m:Str}{od:PyData}(hm:mOk m od=true){s:Shared}{av:Addr→Prop}{o:Value}(ro:Rep O w s.heap av o od):∃ T id,PlainAttrs T∧Slot T m id∧typeOf (.builtin id)=pure (.type "method_descriptor") ∧
  s.TypeIs o T∧(∀ a,o=.ref a→∃ ob,s.heap.get? a=some ob∧ob.dict=none) ∧
  ∀ (A:Around) (s':Shared) (vs:List Value) (ds:List PyData),Rep O w s'.heap av o od→RL O w s'.heap av vs ds→YV O w A s' av (call (.builtin id) (o::vs)) (eH od ds):=by
 cases od with
 |dict l =>
  obtain rfl:=of_decide_eq_true hm;obtain⟨a,kvs,rfl,_,h2,_⟩:=ro.dict_inv;refine⟨"dict", "dict.get", F.plainAttrs_dict,F.slot_dict_get,by kernel_rfl,h2.typeIs,Aw h2,fun A s' vs ds ro r=>?_⟩;cases ds with
  |nil=>exact trivial
  |cons k ds=>exact Nz ro r
 |str x =>
  obtain rfl:=of_decide_eq_true hm;refine hde fun _ θ=>?_;obtain⟨t,rfl,_⟩:=ro.str_inv;apply θ;refine⟨"str", "str.join", F.plainAttrs_str,F.slot_str_join,by kernel_rfl,rfl,fun a ha=>by (cases ha),fun A s' vs ds ro r=>?_⟩;cases ds with
  |nil=>exact trivial
  |cons k ds=>exact N1 ro r
 |_=>exact bft hm
theorem Ax{o:Expr}(h:nP o=true)(name:Str)(env:Env):attributeBase o name env (eval o env)=eval o env:=by
 cases o with
 |Call f as kws q =>
  cases f with
  |Name=>exact bft h
  |_=>rfl
 |_=>rfl
theorem oO{as:List Expr}(hs:as.any bad=false)(hl:as.length≤3)(pos:Pos)(env:Env):((backTo pos (starEach as env)).all (fun x=>!x.1)&&(backToKw pos (keywordEach [] env)).all (fun x=>x.1.isSome)
   && decide (as.length+([]:List Keyword).length+(if ([]:List Keyword).isEmpty then 0 else 1) < 30))=true:=by
 have h1:=sW (env:=env) (pos:=pos) hs;have h2:(backTo pos (starEach as env)).all (fun x=>!x.1)=true:=by
  rw[be];intro x hx;have:=List.any_eq_false.mp h1 x hx;simpa using this
 rw[h2];have:(backToKw pos (keywordEach [] env)).all (fun x=>x.1.isSome)=true:=rfl;rw[this];simp;exact Fu hl
theorem N3{rec:Expr→R V}(hbad:∀ e,bad e=true→rec e=.no){o:Expr}{m:Str}{as:List Expr}{ap cp:Pos}(ho:aH O w mg mb base n hd l sc σ o (rec o))
  (h:∀ e∈as,aH O w mg mb base n hd l sc σ e (rec e)):aH O w mg mb base n hd l sc σ (.Call (.Attribute o m ap) as [] cp) (kH rec o m ap as cp):=by
 intro A env s av hA I β k fin Q E hf hq he;unfold kH at hf
 by_cases hc:m = "items" ∨ nP o=false∨(ap.endLine==cp.line)=false∨as.any bad=true∨3 < as.length
 ·rw[if_pos hc] at hf;exact hf.no.elim
 rw[if_neg hc] at hf;simp only[not_or,Bool.not_eq_true,Bool.not_eq_false,Nat.not_lt] at hc;refine hde fun _ θ=>?_;obtain⟨_,c2,c3,c4,c5⟩:=hc;apply θ;refine gv (Ax c2 m env) (oO c4 c5 cp env) c3 (ho A env s av hA I hf.b (fun ov s₁ u k1 r h1=>?_) he);refine hde fun _ θ=>?_;obtain⟨hm,hf1⟩:=Fin.ite ⟨h1,hf.2⟩;have ro:=r.rep I.gnd.avlt;obtain⟨T,id,t1,t2,t3,q1,q2,t5⟩:=N2 (O:=O) (w:=w) hm ro;apply θ;refine⟨T,id,t1,t2,t3,q1,q2,jK c4 (jI hbad hA h (I.k k1) hf1.b (fun vs s₂ us k2 r1 r2 e2=>?_) (he.back k1))⟩;exact Yd.fin (t5 A s₂ vs _ (ro.k I.gnd.fav k2) ⟨r1,r2⟩) ⟨e2,hf.2⟩ fun v s' u r e=>hq.step (k1.tr k2) r e
theorem N4{rec:Expr→R V}{o:Expr}{as:List Expr}{p pos ap cp:Pos}(hg:isG sc "list" = true)(hh:hd=false)(h:aH O w mg mb base n hd l sc σ o (rec o)) :
  aH O w mg mb base n hd l sc σ (.Call (.Name "list" p) [.Call (.Attribute o "items" ap) as [] cp] [] pos) (yJ rec o ap cp as):=by
 intro A env s av hA I β k fin Q E hf hq he;cases as with
 |cons=>exact hf.no.elim
 |nil =>
  obtain⟨hc,hf⟩:=Fin.ite hf;refine PySem.Call_name1 rfl (eU I hg rfl (gJ (.inr ⟨_,rfl⟩) (gv (Ax hc.1 "items" env) (oO rfl (aj _) cp env) hc.2 (h A env s av hA I hf.b (fun ov s₁ u k1 r h1=>?_) he))));have ro:=r.rep I.gnd.avlt;generalize dOf u=d at ro h1;cases d with
  |dict l =>
   obtain⟨a,kvs,rfl,_,h2,_⟩:=ro.dict_inv;exact⟨"dict", "dict.items", F.plainAttrs_dict,F.slot_dict_items,by kernel_rfl,h2.typeIs,Aw h2,jK rfl (ft (Yd.fin (Nk (hA.handled hh) (I.gnd.k k1).avlt ro) ⟨h1,hf.2⟩ fun v s' u r e=>hq.step k1 r e))⟩
  |_=>exact(Fin.no ⟨h1,hf.2⟩).elim
theorem N5{rec:Expr→R V}(hbad:∀ e,bad e=true→rec e=.no){f:Str}{a:Expr}{p pos:Pos}(hg:isG sc f=true)(hb:iY f=true)(h:aH O w mg mb base n hd l sc σ a (rec a))
  (hsub:∀ g as kws q,a=.Call g as kws q→(∀ x∈as,aH O w mg mb base n hd l sc σ x (rec x))∧∀ o m ap,g=.Attribute o m ap→aH O w mg mb base n hd l sc σ o (rec o)) :
  aH O w mg mb base n hd l sc σ (.Call (.Name f p) [a] [] pos) (rK rec hd sc f a):=by
 have B:=Nu (p:=p) (pos:=pos) hbad hg hb h;unfold rK;cases hv:hY a with
 |some c =>
  obtain⟨g,as,kws,cp⟩:=c;have ea:a=.Call g as kws cp:=sF hv;obtain⟨s1,s2⟩:=hsub g as kws cp ea;show aH O w mg mb base n hd l sc σ _ (yM rec hd sc f a as kws cp (vw g));cases hw:vw g with
  |name g' =>
   obtain⟨gp,eg⟩:=cY hw;intro A env s av hA I β k fin Q E hf hq he;replace hf:Fin (if g' = "set" then yK rec hd sc f as kws else gH rec hd f a) k fin:=hf
   by_cases e:g' = "set"
   ·rw[if_pos e] at hf;obtain⟨c,hf1⟩:=Fin.ite hf;clear hf;cases kws with
    |cons=>exact hf1.no.elim
    |nil =>
     obtain⟨rfl,c2⟩:=c;subst e eg ea;exact Ny hbad hg c2 s1 A env s av hA I hf1 hq he
   ·rw[if_neg e] at hf;exact B A env s av hA I hf hq he
  |attr o m ap =>
   have eg:g=_:=cY hw;intro A env s av hA I β k fin Q E hf hq he;replace hf:Fin (if m = "items" then yL rec hd f o ap cp as kws else gH rec hd f a) k fin:=hf
   by_cases e:m = "items"
   ·rw[if_pos e] at hf;obtain⟨c,hf1⟩:=Fin.ite hf;clear hf;cases kws with
    |cons=>exact hf1.no.elim
    |nil =>
     obtain⟨rfl,c2⟩:=c;subst e eg ea;exact N4 hg c2 (s2 o _ ap rfl) A env s av hA I hf1 hq he
   ·rw[if_neg e] at hf;exact B A env s av hA I hf hq he
  |_=>exact B
 |none=>exact B
theorem N6{rec:Expr→R V}(hbad:∀ e,bad e=true→rec e=.no){as:List Expr}{p pos:Pos}(hg:isG sc "isinstance" = true)(h:∀ e∈as,aH O w mg mb base n hd l sc σ e (rec e)) :
  aH O w mg mb base n hd l sc σ (.Call (.Name "isinstance" p) as [] pos) (yO rec sc as):=by
 intro A env s av hA I β k fin Q E hf hq he;cases as with
 |nil=>exact hf.no.elim
 |cons a r =>
  cases r with
  |nil=>exact hf.no.elim
  |cons b r =>
   replace hf:Fin (yN rec sc a r (bH b)) k fin:=hf;refine ocs (bH b) (fun hn=>?_) fun t hn=>?_
   ·rw[hn] at hf;exact hf.no.elim
   ·rw[hn] at hf;cases r with
    |cons=>exact hf.no.elim
    |nil =>
     obtain⟨ht,hf1⟩:=Fin.ite hf;obtain⟨q,rfl⟩:=dG hn;exact Nx hbad hg ht (h a ah) A env s av hA I hf1 hq he
theorem N7{C:Ctx}(hK:KSound O w mg mb base n C){rec:Expr→R V}(hbad:∀ e,bad e=true→rec e=.no){f:Str}{as:List Expr}{p pos:Pos}
  (h:∀ e∈as,aH O w mg mb base n C.hd l sc σ e (rec e))
  (hsub:∀ a∈as,∀ g bs kws q,a=.Call g bs kws q→(∀ x∈bs,aH O w mg mb base n C.hd l sc σ x (rec x))∧∀ o m ap,g=.Attribute o m ap→aH O w mg mb base n C.hd l sc σ o (rec o)):aH O w mg mb base n C.hd l sc σ (.Call (.Name f p) as [] pos) (nQ rec C sc σ f as):=by
 intro A env s av hA I β k fin Q E hf0 hq he;obtain⟨hg,hf⟩:=Fin.ite hf0;clear hf0
 by_cases e:f = "isinstance"
 ·rw[if_pos e] at hf;subst e;exact N6 hbad hg h A env s av hA I hf hq he
 rw[if_neg e] at hf
 by_cases e:f = "min"
 ·rw[if_pos e] at hf
  by_cases c:as.any bad=true∨C.hd=true
  ·rw[if_pos c] at hf;exact hf.no.elim
  ·rw[if_neg c] at hf;simp only[not_or,Bool.not_eq_true] at c;subst e;exact Nw hbad hg c.1 c.2 h A env s av hA I hf hq he
 rw[if_neg e] at hf
 by_cases hb:iY f=true
 ·rw[if_pos hb] at hf;cases as with
  |nil=>exact hf.no.elim
  |cons a r =>
   cases r with
   |cons=>exact hf.no.elim
   |nil=>exact N5 hbad hg hb (h a ah) (hsub a ah) A env s av hA I hf hq he
 rw[if_neg hb] at hf
 by_cases c:as.any bad=true∨C.has f=false
 ·rw[if_pos c] at hf;exact hf.no.elim
 ·rw[if_neg c] at hf;simp only[not_or,Bool.not_eq_true,Bool.not_eq_false] at c;exact Nq hK hbad hg c.1 c.2 h A env s av hA I hf hq he
end
section
variable {O:Program} {w:World} {mg mb:Str→Option Value} {base:Heap} {n:Nat} {hd:Bool} {l:List Env} {sc:Scope} {σ:aA}
def PR(O:Program)(w:World)(h:Heap)(av:Addr→Prop):List (Value×Value)→List (PyData×PyData)→Prop
 | [],[]=>True
 |kv::r,d::t=>Rep O w h av kv.1 d.1∧Rep O w h av kv.2 d.2∧PR O w h av r t
 |_,_=>False
noncomputable def oP(env:Env)(pos:Pos):List (Option Expr)→List Expr→List (Sem Value×Sem Value)
 |some k::ks,e::es=>(eval k env,(do let x ← eval e env;standAt pos;pure x))::oP env pos ks es
 |_,_=>[]
theorem Ay(env:Env)(pos:Pos):∀ {ks:List (Option Expr)} {es:List Expr},ks.all Option.isSome=true→ks.length=es.length →
  (evalEachOpt ks env).zip ((evalEach es env).map fun v=>do let x ← v;standAt pos;pure x)=(oP env pos ks es).map (fun p=>(some p.1,p.2))∧(oP env pos ks es).length=es.length
 | [],[],_,_=>⟨rfl,rfl⟩
 | [],_::_,_,h=>by cases h
 |_::_,[],_,h=>by cases h
 |none::ks,e::es,h,_=>by exact bft h
 |some k::ks,e::es,h,h'=>by
  obtain⟨i1,i2⟩:=Ay env pos (ks:=ks) (es:=es) h (Nat.succ.inj h');exact⟨congrArg ((some (eval k env),_)::·) i1,congrArg Nat.succ i2⟩
theorem N8{rec:Expr→R V}{env:Env}{pos:Pos}{A:Around}{av:Addr→Prop}(hA:Room base n hd l A):∀ {ks:List (Option Expr)} {es:List Expr} {s:Shared},(∀ k,some k∈ks→aH O w mg mb base n hd l sc σ k (rec k)) →
  (∀ e∈es,aH O w mg mb base n hd l sc σ e (rec e))→Inv0 O w mg mb base l env sc σ av s →
  ∀ {β:Type} {k:List (PyData×PyData)→R β} {fin:R β} {Q:List (Value×Value)→Shared→Prop} {E:Value→Shared→Prop},Fin (nG rec ks es) k fin→(∀ vs s' ds,K l s s'→PR O w s'.heap av vs ds→ds.length=es.length→k ds=fin→Q vs s')→EH O w mg l s av fin E →
   wpAny (model O w) A (evalPairs (oP env pos ks es)) Q E s
 := by
 intro ks
 induction ks with
 |nil =>
  intro es s _ _ _ β k fin Q E hf hq _;cases es with
  |nil=>exact evalPairs_nil (hq _ _ [] (K.rf l s) trivial rfl hf.ok)
  |cons=>exact hf.no.elim
 |cons ko ks ih =>
  intro es s hk he I β k fin Q E hf hq hE;cases ko with
  |none =>
   cases es with
   |nil=>exact hf.no.elim
   |cons=>exact hf.no.elim
  |some kx =>
   cases es with
   |nil=>exact hf.no.elim
   |cons e es =>
    refine evalPairs_cons (hk kx ah A env s av hA I (Fin.b hf) (fun kv s₁ u k1 r h1=>?_) hE);have I1:=I.k k1;refine U (he e ah A env s₁ av hA I1 (Fin.b ⟨h1,hf.2⟩) (fun vv s₂ u2 k2 r2 h2=>U (bw (ac ?_))) (hE.back k1));refine ih (fun x hx=>hk x (ae _ hx)) (fun x hx=>he x (ae _ hx)) (I1.k k2) (Fin.b ⟨h2,hf.2⟩) (fun vs s₃ ds k3 r3 hl h3=>?_) (hE.back (k1.tr k2));exact hq _ _ ((dOf u,dOf u2)::ds) ((k1.tr k2).tr k3) ⟨((r.rep I.gnd.avlt).k I.gnd.fav k2).k I.gnd.fav k3,(r2.rep I1.gnd.avlt).k I.gnd.fav k3,r3⟩ (congrArg Nat.succ hl) h3
theorem b9.mono{h h':Heap}{av av':Addr→Prop}(hk:∀ b o,h.get? b=some o→h'.get? b=some o)(ha:∀ b o,h.get? b=some o→av' b→av b){v:Value}{u:V}(r:b9 O w mg l h av v u):b9 O w mg l h' av' v u:=by
 cases u with
 |fz d=>exact(show Rep O w h av v d from r).mono (fun b o _ e=>hk b o e) ha
 |own d=>obtain⟨a,e,f,r⟩:=r;exact⟨a,e,f,r.mono (fun b o _ e=>hk b o e) ha fun o e=>hk _ o e⟩
 |ex x=>obtain⟨e,h,r⟩:=r;exact⟨e,h,r.mono (fun b o _ e=>hk b o e) ha⟩
 |pil ds=>obtain⟨a,bs,e,na,p,hl,z,nd,nab,nf,r⟩:=r;exact⟨a,bs,e,na,p.at fun o e=>hk _ o e,hl,z,nd,nab,nf,fun i b d e1 e2=>(r i b d e1 e2).mono (fun b o _ e=>hk b o e) ha fun o e=>hk _ o e⟩
theorem bB.keeps{env:Env}{h h':Heap}{x:Str}{u:Value}(v:bB env h x u)(hk:∀ b o,h.get? b=some o→h'.get? b=some o):bB env h' x u:=by
 rcases v with ⟨k,m,hn,e⟩ | ⟨k,c,e,hc⟩
 ·exact .inl ⟨k,m,hn.keeps hk,e⟩
 ·exact .inr ⟨k,c,e,hc.keeps hk⟩
theorem Gnd.apart{av:Addr→Prop}{s:Shared}(G:Gnd O w mg mb base l av s)(o:Obj)(ho:o.isFreed=false):Gnd O w mg mb base l (fun b=>av b∨b=s.heap.objs.size) { s with heap:=s.heap.push o } where
 glo:=G.glo
 stay:=fun b o e=>af _ (G.stay b o e)
 ff:=(G.k (K.of (Kp.push' s o))).ff
 fav:=fun b f=>.inl (G.fav b f)
 avlt:=fun b hb=>hb.elim (fun hb=>by obtain⟨o,e⟩:=G.avlt b hb;exact⟨o,af _ e⟩) fun hb=>⟨o,hb▸cM _ _ ho⟩
 avS:=.inl G.avS
 avB:=fun b o hb e=>hb.elim (fun hb=>G.avB b o hb e) fun hb=>by have:=G.stay b o e;rw[hb,bU] at this;exact ns this
theorem Inv0.apart{env:Env}{av:Addr→Prop}{s:Shared}(I:Inv0 O w mg mb base l env sc σ av s)(o:Obj)(ho:o.isFreed=false) :
  Inv0 O w mg mb base l env sc σ (fun b=>av b∨b=s.heap.objs.size) { s with heap:=s.heap.push o } :=
 { I with
  gnd:=I.gnd.apart o ho
  get:=fun x v hl e=>let ⟨u,h1,h2⟩:=I.get x v hl e
   ⟨u,h1.keeps fun b o e=>af _ e,h2.mono (fun b o e=>af _ e) fun b o e hb=>hb.elim id fun hb=>by (rw[hb,bU] at e;exact ns e)⟩ }
theorem ExAt.less{h:Heap}{av av':Addr→Prop}(ha:∀ b,av' b→av b){e:Addr}{x:X}(r:ExAt O w mg h av e x):ExAt O w mg h av' e x:=r.mono (fun _ _ _ e=>e) fun b _ _ x=>ha b x
theorem EH.apart{β:Type}{s:Shared}{av:Addr→Prop}{fin:R β}{E:Value→Shared→Prop}(h:EH O w mg l s av fin E)(o:Obj):EH O w mg l { s with heap:=s.heap.push o } (fun b=>av b∨b=s.heap.objs.size) fin E :=
 fun x v s'' e f=>h x v s'' e (by obtain⟨k',e,h1,h2,h3,h4⟩:=f;exact Fly.back (K.of (Kp.push' s o)) ⟨k',e,h1,h2,h3.less fun _ x=>.inl x,h4⟩)
theorem N9{h:Heap}{av:Addr→Prop}:∀ {vs:List (Value×Value)} {ds:List (PyData×PyData)} {ps:List (Str×PyData)},PR O w h av vs ds→keys? ds=some ps→(∃ kvs,Carries (strKind O w) vs kvs∧PS O w h av kvs ps)∧ps.length=ds.length
 := by
 intro vs
 induction vs with
 |nil =>
  intro ds ps x e;cases ds with
  |nil=>obtain rfl:=si e;exact⟨⟨[],trivial,trivial⟩,rfl⟩
  |cons=>exact x.elim
 |cons p vs ih =>
  obtain⟨key,v⟩:=p;intro ds ps x e;cases ds with
  |nil=>exact x.elim
  |cons q ds =>
   obtain⟨dk,d⟩:=q;obtain⟨x1,x2,x3⟩:=x;cases dk with
   |str k =>
    obtain⟨t,e1,hk⟩:=x1.str_inv;obtain rfl:key=.str k t:=e1;obtain⟨ps',e',rfl⟩:=bf.mp (show(keys? ds).map ((k,d)::·)=some ps from e);obtain⟨⟨kvs,y1,y2⟩,y3⟩:=ih x3 e';exact⟨⟨(k,v)::kvs,⟨eV k t,rfl,y1⟩,rfl,hk,x2,y2⟩,congrArg Nat.succ y3⟩
   |_=>exact ns e
theorem K.but{s s₁:Shared}{o:Obj}{h':Heap}{tk:Nat}(k:K l { s with heap:=s.heap.push o } s₁)(hs:Heap.SameBut s.heap.objs.size s₁.heap h'):K l s { s₁ with heap:=h',toks:=tk }:=by
 obtain⟨hh,tt,rfl,kk,uu⟩:=k;have ne:∀ b o',s.heap.get? b=some o'→b≠s.heap.objs.size:=fun b o' e x=>by rw[x,bU] at e;exact ns e
 refine⟨h',tk,rfl,fun b o' f e=>?_,fun b o' e=>?_⟩
 ·rw[hs.2 b (ne b o' e)];exact kk b o' f (af _ e)
 ·rw[hs.2 b (ne b o' e)];exact uu b o' (af _ e)
theorem Oa{h h':Heap}{D:Addr}{av:Addr→Prop}(hs:Heap.SameBut D h h'):∀ b o,¬ (av b∨b=D)→h.get? b=some o→h'.get? b=some o:=fun b o hb e=>by
 rw[hs.2 b (fun x=>hb (.inr x))];exact e
theorem Ob{rec:Expr→R V}{ks:List (Option Expr)}{es:List Expr}{pos:Pos}(hk:∀ k,some k∈ks→aH O w mg mb base n hd l sc σ k (rec k))(he:∀ e∈es,aH O w mg mb base n hd l sc σ e (rec e)) :
  aH O w mg mb base n hd l sc σ (.Dict ks es pos) (if ks.all Option.isSome=true∧ks.length=es.length∧es.length≤15 then rb (nG rec ks es) fun l=>ofP (iZ l) else .no):=by
 intro A env s av hA I β k fin Q E hf hq hE;obtain⟨⟨c1,c2,c3⟩,hf⟩:=Fin.ite hf;obtain⟨g1,g2⟩:=Ay env pos c1 c2;cases es with
 |nil =>
  obtain rfl:ks=[]:=List.length_eq_zero_iff.mp c2;exact wpAny_Dict_empty (hq.step (u:=.own (.dict [])) (K.rf l s) (Ap (kvs:=[]) (ps:=[]) (Kp.rfl' s) (Kp.push' s _) (bU _) (oM I.gnd) (Heap.DictOf.new s.heap) (aj _) trivial) hf.1)
 |cons e es =>
  refine wpAny_Dict_pairs (knd:=strKind O w) g1 (fun h=>by rw[h] at g2;cases g2) (g2.symm▸c3) (N8 hA hk he (I.apart _ rfl) hf.b (fun vs s₁ ds k1 r hl h1=>?_) (hE.apart _));obtain⟨v,e1,e2⟩:=Fin.p ⟨h1,hf.2⟩;unfold iZ at e1;refine ocs (keys? ds) (fun hds=>?_) fun ps hds=>?_
  ·rw[hds] at e1;exact pno e1
  ·rw[hds] at e1;obtain rfl:=pi e1;obtain⟨⟨kvs,q1,q2⟩,q3⟩:=N9 r hds;have hd0:s₁.heap.DictOf (strKind O w) s.heap.objs.size []:=by
    obtain⟨o,es,ep,e,r⟩:=Heap.DictOf.new (knd:=strKind O w) s.heap;exact⟨o,es,ep,k1.at (fun f=>by obtain⟨o,e⟩:=I.gnd.avlt _ (I.gnd.fav _ f);rw[bU] at e;exact ns e) e,r⟩
   refine⟨kvs,q1,hd0,fun h' hd hs=>hq _ _ (.own (.dict (dA ps []))) (K.but k1 hs) ?_ e2⟩;obtain⟨y1,y2⟩:=KV.sets q2 (acc:=[]) cm (show KV O w s₁.heap _ [] [] from trivial) nofun;have hkv:=(y1.mono (h':=h') (av':=fun b=>av b∨b=s.heap.objs.size) (Oa hs) fun _ _ _ x=>x).out;refine⟨s.heap.objs.size,rfl,bU _,merged [] kvs,hd,⟨aa (merged_length_le [] kvs) ?_,y2⟩,oM I.gnd,hkv.1,hkv.2⟩;rw[q2.length,q3,hl];exact aa (by simpa using c3) (by decide:15≤sizeLine)
end
section
variable {O:Program} {w:World} {mg mb:Str→Option Value} {base:Heap} {n:Nat} {hd:Bool} {l:List Env} {sc:Scope} {σ:aA}
structure Src(O:Program)(w:World)(A:Around)(h0:Heap)(av0:Addr→Prop)(target:Expr)(it:Value)(wr:Addr→Prop)(St:Nat→Heap→Prop)(ds:List PyData):Prop where
 live:∀ i h,St i h→∀ b,wr b→∃ o,h.get? b=some o
 frame:∀ i h h',St i h→(∀ b o,wr b→h.get? b=some o→h'.get? b=some o)→(∀ b o,h0.get? b=some o→¬ av0 b→h'.get? b=some o)→St i h'
 item:∀ i d (s:Shared) (E:Value→Shared→Prop) (Q:Value→Shared→Prop),ds[i]?=some d→St i s.heap →
  (∀ v h' tk,(∀ b o,¬ wr b→s.heap.get? b=some o→h'.get? b=some o)→St (i+1) h' →
   (∀ avn:Addr→Prop,(∀ b,avn b→∃ o,s.heap.get? b=some o)→(∀ b o,h0.get? b=some o→avn b→av0 b)→Rep O w h' avn v d)→Q v { s with heap:=h',toks:=tk }) →
  wpAny (model O w) A (pyNext it) (fun r s₁=>match r with | none=>False | some v=>wpAny (model O w) A (letOwnedTupleGo target it v) (fun _ s₂=>Q v s₂) E s₁) E s
 done:∀ (s:Shared) (E:Value→Shared→Prop) (Q:Shared→Prop),St ds.length s.heap→(∀ h' tk,(∀ b o,¬ wr b→s.heap.get? b=some o→h'.get? b=some o)→Q { s with heap:=h',toks:=tk }) →
  wpAny (model O w) A (pyNext it) (fun r s₁=>match r with | none=>Q s₁ | some _=>False) E s
 self:∀ i (s:Shared) (Q:Value→Shared→Prop) (E:Value→Shared→Prop),St i s.heap→Q it s→wpAny (model O w) A (pyIter it) Q E s
noncomputable def sY(n:String):Bool:=["enumerate", "zip", "dict_itemiterator", "dict_reverseitemiterator", "odict_iterator", "itertools.zip_longest", "itertools.pairwise"].contains n
theorem Oc{M:Model}{A:Around}{E:Value→Shared→Prop}{s:Shared}{target:Expr}{I:Addr}{v:Value}{o:Obj}{n:String}{Q:Unit→Shared→Prop}(hI:s.heap.get? I=some o)(hc:o.cls=.type n)(hn:sY n=false)(h:Q () s) :
  wpAny M A (letOwnedTupleGo target (.ref I) v) Q E s:=by
 have key:wpAny M A (match (Value.ref I,v) with
  | (.ref r,.ref a)=>(do
   let o ← load r
   match o.cls,o.data with
   | .type n,.fields vs=>if ["enumerate", "zip", "dict_itemiterator", "dict_reverseitemiterator", "odict_iterator", "itertools.zip_longest", "itertools.pairwise"].contains n&&vs[0]?==some (rawInt a) then do
     rule "for.unpacks-the-owned-tuple"; updateField r 0 .none else pure ()
   |_,_=>pure ():Sem Unit)
  |_=>pure ()) Q E s:=by
  cases v with
  |ref a =>
   refine U (wpAny_load hI ?_);rw[hc];cases o.data<;>first | exact ac h | skip;have:["enumerate", "zip", "dict_itemiterator", "dict_reverseitemiterator", "odict_iterator", "itertools.zip_longest", "itertools.pairwise"].contains n=false:=hn;simp only[this,Bool.false_and,Bool.false_eq_true,if_false];exact ac h
  |_=>exact ac h
 cases target with
 |Tuple=>exact key
 |List=>exact key
 |_=>exact ac h
theorem sZ{α:Type}{ds:List α}{i:Nat}{d:α}(h:ds[i]?=some d):i < ds.length:=(bg.mp h).1
theorem Src.ofWalks{A:Around}{h0:Heap}{av0:Addr→Prop}{target:Expr}{I:Addr}{fp:List Addr}{ds:List PyData}{n:Nat}{P:Nat→Value→Prop}{St0:Nat→Heap→Prop}(W:Walks O w A I fp [I] n P St0)(hn:n=ds.length)
  (hfp:∀ b∈fp,b=I∨((∃ o,h0.get? b=some o)∧¬ av0 b)) (hcls:∀ i h,St0 i h→∃ o T,h.get? I=some o∧o.cls=.type T∧sY T=false)
  (hI0:h0.get? I=none) (hP:∀ i v d,P i v→ds[i]?=some d→Rep O w h0 av0 v d) :
  Src O w A h0 av0 target (.ref I) (fun b=>b=I) (fun i h=>St0 i h∧∀ b o,h0.get? b=some o→¬ av0 b→h.get? b=some o) ds where
 live:=fun i h st b hb=>by obtain⟨o,T,e,_⟩:=hcls i h st.1;exact⟨o,(show b=I from hb)▸e⟩
 frame:=fun i h h' st hk hk0=>⟨W.frame i h h' st.1 fun b hb o e=>by
  rcases hfp b hb with rfl | ⟨⟨o',e'⟩,hav⟩
  ·exact hk b o rfl e
  ·have:=st.2 b o' e' hav;simp only[e] at this;obtain rfl:=si this;exact hk0 b o e' hav,hk0⟩
 item:=fun i d s E Q hd st hQ=>by
  refine W.item i s _ E (hn▸sZ hd) st.1 fun v h' tk hPv st' hk=>?_;refine hde fun _ θ=>?_;obtain⟨o,T,e1,e2,e3⟩:=hcls _ _ st';apply θ;have hk':∀ b o,¬ (b=I)→s.heap.get? b=some o→h'.get? b=some o:=fun b o hb e=>hk b o (fun h=>hb (List.mem_singleton.mp h)) e;have hkk:∀ b o,h0.get? b=some o→¬ av0 b→h'.get? b=some o:=fun b o e hav=>hk' b o (fun x=>by simp only[x,hI0] at e;exact ns e) (st.2 b o e hav);refine Oc (s:={ s with heap:=h',toks:=tk }) e1 e2 e3 (hQ v h' tk hk' ⟨st',hkk⟩ fun avn hlive hsub=>?_);exact(hP i v d hPv hd).mono (fun b o hb e=>hkk b o e hb) hsub
 done:=fun s E Q st hQ=>W.done s _ E (show St0 n s.heap from hn▸st.1) fun h' tk hk=>hQ h' tk fun b o hb e=>hk b o (fun h=>hb (List.mem_singleton.mp h)) e
 self:=fun i s Q E st hQ=>W.self i s Q E st.1 hQ
inductive IterAt(O:Program)(w:World)(A:Around)(l:List Env)(target:Expr)(s:Shared)(av:Addr→Prop)(it:Value)(s':Shared)(ds:List PyData):Prop where
 |mk (s₁ wr St) (a:K l s s₁) (b:Src O w A s₁.heap av target it wr St ds) (c:St 0 s'.heap) (d:∀ b,wr b→s₁.heap.get? b=none∧∃ o,s'.heap.get? b=some o) (e:Kp s₁ s') (f:ds.length≤sizeLine):IterAt O w A l target s av it s' ds
theorem kS{h:Heap}{a:Addr}{o:Obj}(e:h.get? a=some o):a≠h.objs.size:=fun x=>by simp only[x,bU] at e;exact ns e
theorem iH{A:Around}{target:Expr}{s₀ s:Shared}{av:Addr→Prop}{ds:List PyData}{o:Obj}(k0:K l s₀ s)(ho:o.isFreed=false){fp:List Addr}{n:Nat}{P:Nat→Value→Prop}{St0:Nat→Heap→Prop}
  (W:Walks O w A s.heap.objs.size fp [s.heap.objs.size] n P St0) (hn:n=ds.length) (hz:ds.length≤sizeLine)
  (hfp:∀ b∈fp,b=s.heap.objs.size∨((∃ o,s.heap.get? b=some o)∧¬ av b)) (hcls:∀ i h,St0 i h→∃ o T,h.get? s.heap.objs.size=some o∧o.cls=.type T∧sY T=false)
  (hP:∀ i v d,P i v→ds[i]?=some d→Rep O w s.heap av v d) (hst:St0 0 (s.heap.push o)) :
  IterAt O w A l target s₀ av (.ref s.heap.objs.size) { s with heap:=s.heap.push o } ds :=
 ⟨s,_,_,k0,Src.ofWalks W hn hfp hcls (bU _) hP,⟨hst,fun b o' e _=>af _ e⟩,fun b hb=>(show b=s.heap.objs.size from hb)▸⟨bU _,o,cM _ _ ho⟩,Kp.push' s o,hz⟩
theorem fp2{s:Shared}{av:Addr→Prop}{a:Addr}{o:Obj}(e:s.heap.get? a=some o)(h1:¬ av a):∀ b∈[s.heap.objs.size,a],b=s.heap.objs.size∨((∃ o,s.heap.get? b=some o)∧¬ av b):=fun b hb=>by
 rcases List.mem_cons.mp hb with hb | hb
 ·exact .inl hb
 ·exact .inr (List.mem_singleton.mp hb▸⟨⟨_,e⟩,h1⟩)
theorem Az{A:Around}{target:Expr}{s₀ s:Shared}{av:Addr→Prop}{v:Value}{dl:List (PyData×PyData)}(k0:K l s₀ s)(hh:Hd A s.heap)(hv:∀ b∈hdl A,¬ av b)(r:Rep O w s.heap av v (.dict dl))
  {Q:Value→Shared→Prop} {E:Value→Shared→Prop} (hq:∀ it s',IterAt O w A l target s₀ av it s' (dl.map (·.1))→Q it s'):wpAny (model O w) A (pyIter v) Q E s:=by
 obtain⟨a,kvs,rfl,h1,⟨o,es,ep,e,hd⟩,h3,h4,h5,h6⟩:=r.dict_inv;have hl:dl.length=kvs.length:=by simpa using congrArg List.length h5
 refine wpAny_pyIter_dict (knd:=strKind O w) (kvs:=kvs) (ep:=ep) h4 ⟨o,es,e,hd⟩ (hq _ _ (iH k0 rfl (M4 (knd:=strKind O w) s.heap.objs.size a (kS e) (fun h=>by obtain⟨o',e',_⟩:=hh.live _ h;exact kS e' rfl) kvs ep) (by simp[hl]) (by simpa[hl] using h3.1) (fun b hb=>?_) (fun i h st=>by obtain⟨⟨⟨o,e,c,_⟩,_⟩,_⟩:=st;exact⟨o,_,e,c,by decide⟩)
  (fun i v d hP hd=>?_) ⟨⟨⟨_,cM _ _ rfl,rfl,rfl⟩,⟨o,es,af _ e,hd⟩⟩,hh.on fun b _ o e=>af _ e⟩))
 ·rcases List.mem_cons.mp hb with hb | hb
  ·exact .inl hb
  ·rcases List.mem_cons.mp hb with hb | hb
   ·exact .inr (hb▸⟨⟨_,e⟩,h1⟩)
   ·obtain⟨o',e',_⟩:=hh.live b hb;exact .inr ⟨⟨_,e'⟩,hv b hb⟩
 ·obtain⟨k,x,e3,e4⟩:=hP;obtain⟨t,rfl⟩:=Value.isStrOf_shape e4;simp only[h5,List.getElem?_map,e3] at hd;obtain rfl:=si hd;exact .str k t (h3.2 _ (cc e3))
theorem Od{A:Around}{target:Expr}{s₀ s:Shared}{av:Addr→Prop}{v:Value}{d:PyData}{ds:List PyData}(k0:K l s₀ s)(hh:A.handled=none)(r:Rep O w s.heap av v d)(hi:items d=.ok ds)
  {Q:Value→Shared→Prop} {E:Value→Shared→Prop} (hq:∀ it s',IterAt O w A l target s₀ av it s' ds→Q it s'):wpAny (model O w) A (pyIter v) Q E s:=by
 cases d with
 |list dl =>
  obtain rfl:=pi hi;obtain⟨a,vs,rfl,h1,⟨n,e⟩,h3,h4,h5⟩:=r.list_inv;exact gt ⟨_,e,rfl,_,rfl⟩ (hq _ _ (iH k0 rfl (Walks.list hh s.heap.objs.size a (kS e) vs.toArray) (by simpa using h3) (h3▸h4) (fp2 e h1) (fun i h st=>by obtain⟨⟨o,e,c,_⟩,_⟩:=st;exact⟨o,_,e,c,by decide⟩)
   (fun i v d hP hd=>h5 i v d (by simpa using hP) hd) ⟨⟨_,cM _ _ rfl,rfl,rfl⟩,⟨_,af _ e,rfl,_,rfl⟩⟩))
 |tuple dl =>
  obtain rfl:=pi hi;obtain⟨a,vs,rfl,h1,⟨n,e⟩,h3,h4,h5⟩:=r.tuple_inv;exact wpAny_pyIter_tuple ⟨_,e,rfl,_,rfl⟩ (hq _ _ (iH k0 rfl (Walks.tuple hh s.heap.objs.size a (kS e) vs.toArray) (by simpa using h3) (h3▸h4) (fp2 e h1) (fun i h st=>by obtain⟨⟨o,e,c,_⟩,_⟩:=st;exact⟨o,_,e,c,by decide⟩)
   (fun i v d hP hd=>h5 i v d (by simpa using hP) hd) ⟨⟨_,cM _ _ rfl,rfl,rfl⟩,⟨_,af _ e,rfl,_,rfl⟩⟩))
 |dict dl =>
  obtain rfl:=pi hi;exact Az k0 (.non hh) (fun b hb=>by unfold hdl at hb;rw[hh] at hb;exact b5 hb) r hq
 |str x =>
  obtain rfl:=pi hi;obtain⟨t,rfl,hx⟩:=r.str_inv;refine wpAny_pyIter_strU (hq _ _ ?_);have hP:∀ (i:Nat) (v:Value) (d:PyData),SignAt x i v→(x.cps.toList.map b8)[i]?=some d→Rep O w s.heap av v d:=fun i v d hP hd=>by
   obtain⟨c,u,e1,rfl⟩:=hP;rw[List.getElem?_map,Array.getElem?_toList,e1] at hd;obtain rfl:=si hd;exact .str _ u (by rw[sizeLine_eq];exact ew rfl)
  have hfp:∀ b∈[s.heap.objs.size],b=s.heap.objs.size∨((∃ o,s.heap.get? b=some o)∧¬ av b):=fun b hb=>.inl (List.mem_singleton.mp hb);have hz:(x.cps.toList.map b8).length≤sizeLine:=by simpa using (show x.cps.size≤sizeLine from hx)
  by_cases ha:x.cps.all (· < 128)=true
  ·rw[show strIterType x = "str_ascii_iterator" from if_pos ha];exact iH k0 rfl (Walks.strAscii hh s.heap.objs.size x t) (by simp) hz hfp (fun i h st=>by obtain⟨o,e,c,_⟩:=st;exact⟨o,_,e,c,by decide⟩) hP ⟨_,cM _ _ rfl,rfl,rfl⟩
  ·rw[show strIterType x = "str_iterator" from if_neg ha];exact iH k0 rfl (Walks.strWide hh s.heap.objs.size x t) (by simp) hz hfp (fun i h st=>by obtain⟨o,e,c,_⟩:=st;exact⟨o,_,e,c,by decide⟩) hP ⟨_,cM _ _ rfl,rfl,rfl⟩
 |_=>exact pno hi
end
section
variable {O:Program} {w:World} {mg mb:Str→Option Value} {base:Heap} {n:Nat} {hd:Bool} {l:List Env} {sc:Scope} {σ:aA}
theorem A0:∀ (n:Nat) (a:Int) (i:Nat) (d:PyData),(dE a n)[i]?=some d→d=.int (a+i)
 |0,a,i,d,h=>by exact ns h
 |n+1,a,0,d,h=>by obtain rfl:=si h;rw[show a+((0:Nat):Int)=a from Int.add_zero a]
 |n+1,a,i+1,d,h=>by
  rw[A0 n (a+1) i d h];congr 1;push_cast;exact xC
theorem A1:∀ (n:Nat) (a:Int),(dE a n).length=n:=by
 intro v0
 induction v0 with
 |zero =>
  intro _;exact rfl
 |succ n ih =>
  intro a;exact congrArg Nat.succ (ih (a+1))
theorem Oe{A:Around}{target:Expr}{s₀ s:Shared}{av:Addr→Prop}{r:Addr}{b:Int}{t u v:Tok}(k0:K l s₀ s)(hh:A.handled=none)(hr:IsRange s.heap r 0 b 1 t u v)(h4:b≤4096)
  {Q:Value→Shared→Prop} {E:Value→Shared→Prop} (hq:∀ it s',IterAt O w A l target s₀ av it s' (dE 0 b.toNat)→Q it s') (hb:-10000≤b):wpAny (model O w) A (pyIter (.ref r)) Q E s:=by
 have hsz:Builtin.Range.rangeSize 0 b 1=(b.toNat:Int):=by
  rw[rangeSize_one,Int.sub_zero]
  by_cases h:0 < b
  ·rw[if_pos h,Int.toNat_of_nonneg (cq h)]
  ·rw[if_neg h,Int.toNat_of_nonpos (cv.mp h)];rfl
 have hsm:Builtin.Range.small 0 b 1=true:=by
  unfold Builtin.Range.small;rw[hsz];have f:∀ i:Int,-10000≤i→i≤10000→Builtin.Range.rangeFitsLong i=true:=fun i q1 q2=>by
   unfold Builtin.Range.rangeFitsLong;simp only[Bool.and_eq_true,decide_eq_true_eq];exact⟨bb (by decide) q1,cw q2 (by decide)⟩
  rw[f 0 Fv (by decide),f b hb (Fw h4),f 1 Fx (by decide),f _ Fy (Fz h4)];have:((1:Int) > 0):=by decide
  simp only[this,if_true,Bool.and_self,Bool.true_and];rw[f (b+(1 - 1)) (by exact F0 hb) (by exact F1 h4)];simp
 refine wpAny_pyIter_range hr hsm (hq _ _ (iH k0 rfl (Walks.range hh s.heap.objs.size 0 1 b.toNat) (by rw[A1]) (by rw[A1,sizeLine_eq];exact F2 h4) (fun x hx=>.inl (List.mem_singleton.mp hx)) (fun i h st=>⟨_,_,st,rfl,by decide⟩) (fun i v d hP hd=>?_) ?_))
 ·obtain⟨t,rfl⟩:=hP;rw[A0 _ _ _ _ hd,Int.mul_one];exact .int _ _
 ·show(s.heap.push _).get? _=_;rw[cM _ _ rfl,hsz];simp
def gK(O:Program)(w:World)(mg mb:Str→Option Value)(base:Heap)(n:Nat)(hd:Bool)(l:List Env)(sc:Scope)(σ:aA)(target e:Expr)(r:R (List PyData)):Prop :=
 ∀ (A:Around) (env:Env) (s:Shared) (av:Addr→Prop),Room base n hd l A→Inv0 O w mg mb base l env sc σ av s →
  ∀ {β:Type} {k:List PyData→R β} {fin:R β} {Q:Value→Shared→Prop} {E:Value→Shared→Prop},Fin r k fin→(∀ it s' ds,IterAt O w A l target s av it s' ds→k ds=fin→Q it s')→EH O w mg l s av fin E →
   wpAny (model O w) A (eval e env) (fun x s₁=>wpAny (model O w) A (pyIter x) Q E s₁) E s
theorem Of{rec:Expr→R V}{target e:Expr}(hh:hd=false)(h:aH O w mg mb base n hd l sc σ e (rec e)):gK O w mg mb base n hd l sc σ target e (i7 rec e):=by
 intro A env s av hA I β k fin Q E hf hq he;refine h A env s av hA I (Fin.b hf) (fun v s₁ u k1 r h1=>?_) he;obtain⟨ds,e1,e2⟩:=Fin.p ⟨h1,hf.2⟩;exact Od k1 (hA.handled hh) (r.rep I.gnd.avlt) e1 fun it s' x=>hq _ _ _ x e2
theorem Og{rec:Expr→R V}{target a:Expr}{p q:Pos}(hbad:∀ e,bad e=true→rec e=.no)(hh:hd=false)(hg:isG sc "range" = true)(h:aH O w mg mb base n hd l sc σ a (rec a)) :
  gK O w mg mb base n hd l sc σ target (.Call (.Name "range" p) [a] [] q) (rF rec a):=by
 intro A env s av hA I β k fin Q E hf hq he;refine PySem.Call_name1 (eS (eT (hbad a) (Fin.b hf).ne)) (eU I hg rfl (gJ (.inr ⟨_,rfl⟩) (h A env s av hA I (Fin.b hf) (fun v s₁ u k1 r h1=>?_) he)));obtain⟨ds,e1,e2⟩:=Fin.p ⟨h1,hf.2⟩;refine pcs (iA u) (fun hu=>?_) fun d hu=>?_
 ·rw[hu] at e1;exact pno e1
 ·rw[hu] at e1;cases sX hu;cases d with
  |int i =>
   obtain⟨t,rfl⟩:=(show Rep O w s₁.heap av v (.int i) from r).int_inv;have e1:(if -4096≤i∧i≤4096 then P.ok (dE 0 i.toNat) else .no)=.ok ds:=e1
   by_cases hc:-4096≤i∧i≤4096
   ·rw[if_pos hc] at e1;obtain rfl:=pi e1;refine call_range_1 ?_;exact Oe (k1.trp (Kp.mk' fun b o e=>af _ e)) (hA.handled hh) (cM _ _ rfl) hc.2 (fun it s' x=>hq _ _ _ x e2) (by exact F3 hc)
   ·rw[if_neg hc] at e1;exact pno e1
  |_=>exact pno e1
theorem A2:∀ (l:List PyData) (a:Int) (i:Nat) (d:PyData),(c9 a l)[i]?=some d→∃ x,l[i]?=some x∧d=.tuple [.int (a+i),x]
 | [],a,i,d,h=>by exact ns h
 |x::l,a,0,d,h=>by obtain rfl:=si h;exact⟨x,rfl,by rw[show a+((0:Nat):Int)=a from Int.add_zero a]⟩
 |x::l,a,i+1,d,h=>by
  obtain⟨y,h1,h2⟩:=A2 l (a+1) i d h;refine⟨y,h1,?_⟩;rw[h2,show a+1+(i:Int)=a+((i+1:Nat):Int) by push_cast;exact xC]
theorem s5:∀ (l:List PyData) (a:Int),(c9 a l).length=l.length:=by
 intro v0
 induction v0 with
 |nil =>
  intro _;exact rfl
 |cons x l ih =>
  intro a;exact congrArg Nat.succ (ih (a+1))
theorem Oh{A:Around}{elts:List Expr}{kk:Nat}{pos:Pos}{s₀ s:Shared}{h':Heap}{av:Addr→Prop}{ad:Addr}{vs:List Value}{m:List PyData}{nn:Nat}{old:Value}(k0:K l s₀ s)(hh:A.handled=none)(e:s.heap.get? ad=some { cls:=.type "list", data:=.seq vs.toArray nn })(h1:¬ av ad)
  (h3:vs.length=m.length) (h4:vs.length≤sizeLine) (h5:∀ (i:Nat) (v:Value) (d:PyData),vs[i]?=some v→m[i]?=some d→Rep O w s.heap av v d)
  (he:IsEnum h' (s.heap.objs.size+1) s.heap.objs.size 0 old) (hit:h'.IsListIter s.heap.objs.size ad 0) (hk:∀ b o,s.heap.get? b=some o→h'.get? b=some o) :
  IterAt O w A l (.Tuple elts kk pos) s₀ av (.ref (s.heap.objs.size+1)) { s with heap:=h' } (c9 0 m):=by
 have halt:=bh e;have hei:s.heap.objs.size+1≠s.heap.objs.size:=cu (dy _);have hle:ad≠s.heap.objs.size+1:=bx (fc halt);have hli:ad≠s.heap.objs.size:=bx halt;have hn:∀ b,(b=s.heap.objs.size+1∨b=s.heap.objs.size)→s.heap.get? b=none:=fun b hb=>hb.elim (fun x=>x▸cy (ai _)) fun x=>x▸bU _;refine⟨s,fun b=>b=s.heap.objs.size+1∨b=s.heap.objs.size,fun i h=>(∃ old,IsEnum h (s.heap.objs.size+1) s.heap.objs.size i old)∧h.IsListIter s.heap.objs.size ad i∧∀ b o,s.heap.get? b=some o→¬ av b→h.get? b=some o,k0,
  ⟨fun i h st b hb=>?_,fun i h g st hk' hk0=>?_,fun i d s₁ E Q hd st hQ=>?_,fun s₁ E Q st hQ=>?_,fun i s₁ Q E st hQ=>?_⟩,⟨⟨old,he⟩,hit,fun b o e _=>hk b o e⟩,fun b hb=>⟨hn b hb,?_⟩,Kp.mkh hk,by simp only[s5,← h3];exact h4⟩
 ·obtain⟨⟨old,he⟩,⟨o,hit,_⟩,_⟩:=st;rcases hb with rfl | rfl
  ·exact⟨_,he⟩
  ·exact⟨o,hit⟩
 ·obtain⟨⟨old,he⟩,hit,hl⟩:=st;exact⟨⟨old,hk' _ _ (.inl rfl) he⟩,hit.at fun o x=>hk' _ o (.inr rfl) x,hk0⟩
 ·obtain⟨⟨old,he⟩,hit,hl⟩:=st;have hil:i < vs.length:=by have:=sZ hd;simp only[s5] at this;simp only[h3];exact this
  have hL:s₁.heap.IsList ad vs.toArray:=⟨_,hl ad _ e h1,rfl,_,rfl⟩
  have hx:vs.toArray[i]?=some vs[i]:=by simp[hil]
  refine wpAny_pyNext_enum_item he hit hL hx hei fun h2 ho hit' hT hsz hk2=>?_;refine wpAny_letOwnedTupleGo_enum ho fun h3' he' hs'=>?_;have helt:s.heap.objs.size+1 < s₁.heap.objs.size:=bh he;have kept:∀ b o,¬ (b=s.heap.objs.size+1∨b=s.heap.objs.size)→s₁.heap.get? b=some o→h3'.get? b=some o:=fun b o hb e=>(hs'.2 b fun x=>hb (.inl x)).trans (hk2 b o (fun x=>hb (.inl x)) (fun x=>hb (.inr x)) e);have keep0:∀ b o,s.heap.get? b=some o→¬ av b→h3'.get? b=some o:=fun b o e hav=>kept b o (fun hb=>by simp only[hn b hb] at e;exact ns e) (hl b o e hav);refine hQ (.ref s₁.heap.objs.size) h3' _ kept ⟨⟨_,by simpa using he'⟩,hit'.at fun o y=>(hs'.2 _ hei.symm).trans y,keep0⟩ fun avn hlive hsub=>?_;obtain⟨y,hy,rfl⟩:=A2 _ _ _ _ hd;refine Rep.tuple (vs:=[.int i s₁.toks,vs[i]]) (fun hx=>?_) ⟨_,(hs'.2 _ (cu helt)).trans hT⟩ rfl (by simp only[sizeLine_eq];exact ew rfl) fun j v e e2 e3=>?_
  ·obtain⟨o,e⟩:=hlive _ hx;simp only[bU] at e;exact ns e
  ·match j,e2,e3 with
   |0,e2,e3=>obtain rfl:=si e2;obtain rfl:=si e3;simp only[Int.zero_add];exact .int _ _
   |1,e2,e3=>obtain rfl:=si e2;obtain rfl:=si e3;exact(h5 i _ _ (List.getElem?_eq_getElem hil) hy).mono (fun b o hb e=>keep0 b o e hb) hsub
 ·obtain⟨⟨old,he⟩,hit,hl⟩:=st;have hL:s₁.heap.IsList ad vs.toArray:=⟨_,hl ad _ e h1,rfl,_,rfl⟩
  simp only[s5,← h3] at he hit;exact wpAny_pyNext_enum_end hh he hit hL (Array.getElem?_eq_none (by simp)) fun h'' hx=>hQ h'' s₁.toks fun b o hb y=>hx b o (fun e'=>hb (.inr e')) y
 ·obtain⟨⟨old,he⟩,_,_⟩:=st;exact wpAny_pyIter_enum he hQ
 ·rcases hb with rfl | rfl
  ·exact⟨_,he⟩
  ·obtain⟨o,eo,_⟩:=hit;exact⟨o,eo⟩
theorem Oi{rec:Expr→R V}{target a:Expr}{p q:Pos}(hbad:∀ e,bad e=true→rec e=.no)(hh:hd=false)(hg:isG sc "enumerate" = true)(ht:kA target=true)(h:aH O w mg mb base n hd l sc σ a (rec a)) :
  gK O w mg mb base n hd l sc σ target (.Call (.Name "enumerate" p) [a] [] q) (rH rec a):=by
 intro A env s av hA I β k fin Q E hf hq he;refine PySem.Call_name1 (eS (eT (hbad a) (Fin.b hf).ne)) (eU I hg rfl (gJ (.inr ⟨_,rfl⟩) (h A env s av hA I (Fin.b hf) (fun v s₁ u k1 r h1=>?_) he)));obtain⟨ds,e1,e2⟩:=Fin.p ⟨h1,hf.2⟩;have rd:=r.rep I.gnd.avlt;generalize dOf u=d at rd e1;cases d with
 |list m =>
  obtain rfl:=pi e1;obtain⟨ad,vs,rfl,h1,⟨nn,e⟩,h3,h4,h5⟩:=rd.list_inv;refine call_enumerate_list ⟨_,e,rfl,_,rfl⟩ fun h' he' hit hsz hk=>?_;unfold kA at ht;generalize hv:vw target=tv at ht;cases tv with
  |tup elts =>
   obtain⟨kk,pos,rfl⟩:=cY hv;exact wpAny_pyIter_enum he' (hq _ _ _ (Oh k1 (hA.handled hh) e h1 h3 h4 h5 he' hit hk) e2)
  |_=>exact bft ht
 |_=>exact pno e1
theorem Oj{rec:Expr→R V}{target a:Expr}{p q:Pos}(hbad:∀ e,bad e=true→rec e=.no)(hh:hd=false)(hg:isG sc "reversed" = true)(h:aH O w mg mb base n hd l sc σ a (rec a)) :
  gK O w mg mb base n hd l sc σ target (.Call (.Name "reversed" p) [a] [] q) (rG rec a):=by
 intro A env s av hA I β k fin Q E hf hq he;refine PySem.Call_name1 (eS (eT (hbad a) (Fin.b hf).ne)) (eU I hg rfl (gJ (.inr ⟨_,rfl⟩) (h A env s av hA I (Fin.b hf) (fun v s₁ u k1 r h1=>?_) he)));obtain⟨ds,e1,e2⟩:=Fin.p ⟨h1,hf.2⟩;have rd:=r.rep I.gnd.avlt;generalize dOf u=d at rd e1;cases d with
 |list m =>
  obtain rfl:=pi e1;obtain⟨ad,vs,rfl,h1,⟨nn,e⟩,h3,h4,h5⟩:=rd.list_inv;have hlt:=bh e;have W:=Walks.listRev (prog:=O) (w:=w) (hA.handled hh) s₁.heap.objs.size ad (bx hlt) vs.toArray;have hst:0≤vs.toArray.size∧(s₁.heap.push (revObj ad ((vs.toArray.size:Int) - 1))).IsRevIter s₁.heap.objs.size ad ((vs.toArray.size:Int) - 1 - ((0:Nat):Int))∧(s₁.heap.push (revObj ad ((vs.toArray.size:Int) - 1))).IsList ad vs.toArray :=
   ⟨aj _,⟨_,cM _ _ rfl,rfl,by simp[revObj]⟩,⟨_,af _ e,rfl,nn,rfl⟩⟩
  refine call_reversed_list ⟨_,e,rfl,nn,rfl⟩ (wpAny_pyIter_revIter hst.2.1 (hq _ _ _ (iH (o:=revObj ad ((vs.toArray.size:Int) - 1)) k1 rfl W (by simp[h3]) (by simp only[List.length_reverse,← h3];exact h4) (fp2 e h1) (fun i h st=>let ⟨_,⟨o,ho,hc,_⟩,_⟩:=st;⟨o,_,ho,hc,by decide⟩) (fun i v d hP hd'=>?_) hst) e2));have hi:i < m.length:=by simpa using sZ hd'
  simp only[List.getElem?_reverse hi] at hd';exact h5 (m.length - 1 - i) v d (by simpa[h3] using hP) hd'
 |_=>exact pno e1
theorem A3{rec:Expr→R V}(hbad:∀ e,bad e=true→rec e=.no){target e:Expr}(h:aH O w mg mb base n hd l sc σ e (rec e))
  (hsub:∀ f as kws q,e=.Call f as kws q→∀ a∈as,aH O w mg mb base n hd l sc σ a (rec a)):gK O w mg mb base n hd l sc σ target e (fW rec hd sc target e):=by
 unfold fW;cases hd with
 |true=>exact fun A env s av hA I _ _ _ _ _ hf _ _=>hf.no.elim
 |false =>
  rw[if_neg eq];have P:=Of (target:=target) rfl h;refine ocs (i8 e) (fun hc=>?_) fun c hc=>?_
  ·try rewrite[hc]
   exact P
  ·obtain⟨x,as⟩:=c;obtain⟨p,q,rfl⟩:=zH hc;show gK O w mg mb base n false l sc σ target _ (if x = "range" ∨ x = "enumerate" ∨ x = "reversed" ∨ x = "zip" then _ else i7 rec _)
   by_cases hx:x = "range" ∨ x = "enumerate" ∨ x = "reversed" ∨ x = "zip"
   ·rw[if_pos hx];intro A env s av hA I β k fin Q E hf hq he;obtain⟨hg,hf1⟩:=Fin.ite hf;clear hf;cases as with
    |nil=>exact hf1.no.elim
    |cons a r =>
     cases r with
     |cons=>exact hf1.no.elim
     |nil =>
      have ha:=hsub _ _ _ _ rfl a ah;replace hf1:Fin (if x = "range" then rF rec a else if x = "enumerate" ∧ kA target=true then rH rec a else if x = "reversed" then rG rec a else .no) k fin:=hf1
      by_cases h1:x = "range"
      ·rw[if_pos h1] at hf1;subst h1;exact Og hbad rfl hg ha A env s av hA I hf1 hq he
      rw[if_neg h1] at hf1
      by_cases h2:x = "enumerate" ∧ kA target=true
      ·rw[if_pos h2] at hf1;obtain⟨rfl,h2⟩:=h2;exact Oi hbad rfl hg h2 ha A env s av hA I hf1 hq he
      rw[if_neg h2] at hf1
      by_cases h3:x = "reversed"
      ·rw[if_pos h3] at hf1;subst h3;exact Oj hbad rfl hg ha A env s av hA I hf1 hq he
      ·rw[if_neg h3] at hf1;exact hf1.no.elim
   ·rw[if_neg hx];exact P
theorem Ok{d:PyData}{l:List PyData}(h:rI d=.ok l):∃ m,d=.dict m∧l=m.map (·.1):=by
 cases d with
 |dict m=>exact⟨m,rfl,(pi h).symm⟩
 |_=>exact pno h
theorem Ol{rec:Expr→R V}{target e:Expr}(h:aH O w mg mb base n hd l sc σ e (rec e)):gK O w mg mb base n hd l sc σ target e (yG rec e):=by
 intro A env s av hA I β k fin Q E hf hq he;refine h A env s av hA I (Fin.b hf) (fun v s₁ u k1 r h1=>?_) he;obtain⟨ds,e1,e2⟩:=Fin.p ⟨h1,hf.2⟩;obtain⟨m,em,rfl⟩:=Ok e1;have rr:=r.rep I.gnd.avlt;simp only[em] at rr;obtain⟨h3,h4⟩:=hA.hdd (I.gnd.k k1);exact Az k1 h3 h4 rr fun it s' x=>hq _ _ _ x e2
theorem Om{rec:Expr→R V}(hbad:∀ e,bad e=true→rec e=.no){target e:Expr}(h:aH O w mg mb base n hd l sc σ e (rec e))
  (hsub:∀ f as kws q,e=.Call f as kws q→∀ a∈as,aH O w mg mb base n hd l sc σ a (rec a)):gK O w mg mb base n hd l sc σ target e (i9 rec hd sc target e):=by
 unfold i9;cases hd with
 |true=>exact Ol h
 |false=>exact A3 hbad h hsub
end
section
variable {O:Program} {w:World} {mg mb:Str→Option Value} {base:Heap} {n:Nat} {hd:Bool} {l:List Env}
theorem On{env:Env}:∀ (names:List (Str×NameKind)) (acc:List (Str×Addr)),(∀ p∈names,p.2=.free→∃ c,env.cells.lookup p.1=some c)→(∀ q∈acc,env.cells.lookup q.1=some q.2) →
  ∃ cl,(forIn names acc (fun (x:Str×NameKind) (cs:List (Str×Addr))=>if (x.2==NameKind.free)=true then (do let c ← cellOf env x.1;pure (ForInStep.yield ((x.1,c)::cs))) else pure (ForInStep.yield cs)):Sem (List (Str×Addr)))=pure cl ∧
   (∀ q∈cl,env.cells.lookup q.1=some q.2)∧(∀ q∈acc,q∈cl)∧∀ p∈names,p.2=.free→∃ c,(p.1,c)∈cl:=by
 intro v0
 induction v0 with
 |nil =>
  intro acc _ ha;exact⟨acc,by simp,ha,fun _ h=>h,fun _ h=>by simp at h⟩
 |cons pp r ih =>
  obtain⟨x,k⟩:=pp;intro acc hn ha;rw[List.forIn_cons]
  by_cases hk:k=.free
  ·subst hk;refine hde fun _ θ=>?_;obtain⟨c,hc⟩:=hn (x,.free) (by simp) rfl;obtain⟨cl,h1,h2,h3,h4⟩:=ih ((x,c)::acc) (fun p hp=>hn p (ae _ hp)) (fun q hq=>by
    rcases List.mem_cons.mp hq with rfl | hq
    ·exact hc
    ·exact ha q hq)
   apply θ;refine⟨cl,?_,h2,fun q hq=>h3 q (ae _ hq),fun p hp hpk=>?_⟩
   ·have e:cellOf env x=pure c:=by unfold cellOf;rw[hc]
    simp only[e];exact h1
   ·rcases List.mem_cons.mp hp with rfl | hp
    ·exact⟨c,h3 _ (by simp)⟩
    ·exact h4 p hp hpk
  ·obtain⟨cl,h1,h2,h3,h4⟩:=ih acc (fun p hp=>hn p (ae _ hp)) ha;refine⟨cl,?_,h2,h3,fun p hp hpk=>?_⟩
   ·have e:(k==NameKind.free)=false:=beq_eq_false_iff_ne.mpr hk;simp only[e];exact h1
   ·rcases List.mem_cons.mp hp with rfl | hp
    ·exact absurd hpk hk
    ·exact h4 p hp hpk
theorem A4{α:Type}:∀ {l:List (Str×α)} {x:Str} {c:α},(x,c)∈l→∃ c',l.lookup x=some c'∧(x,c')∈l
 | (y,d)::r,x,c,h=>by
  by_cases hxy:x=y
  ·subst hxy;exact⟨d,by simp[List.lookup],by simp⟩
  ·rcases List.mem_cons.mp h with h | h
   ·exact absurd (congrArg Prod.fst h) hxy
   ·obtain⟨c',h1,h2⟩:=A4 h;have:(x==y)=false:=beq_eq_false_iff_ne.mpr hxy;exact⟨c',by simp only[List.lookup,this];exact h1,ae _ h2⟩
theorem fE{α:Type}:∀ {l:List (Str×α)} {x:Str} {c:α},l.lookup x=some c→(x,c)∈l
 | (y,d)::r,x,c,h=>by
  by_cases hxy:x=y
  ·subst hxy;simp[List.lookup] at h;simp[h]
  ·have:(x==y)=false:=beq_eq_false_iff_ne.mpr hxy;simp only[List.lookup,this] at h;exact ae _ (fE h)
theorem Oo{env:Env}{scope:Scope}(h:∀ p∈scope.names,p.2=.free→∃ c,env.cells.lookup p.1=some c):∃ cl,closureFor scope env=pure cl∧∀ x c,(x,NameKind.free)∈scope.names→env.cells.lookup x=some c→cl.lookup x=some c:=by
 refine hde fun _ θ=>?_;obtain⟨cl,h1,h2,_,h4⟩:=On (env:=env) scope.names [] h (by simp);apply θ;refine⟨cl,?_,fun x c hx hc=>?_⟩
 ·unfold closureFor;show(forIn scope.names [] _:Sem _) >>= _=_;have:(forIn scope.names [] (fun (x:Str×NameKind) (cs:List (Str×Addr))=>if (x.2==NameKind.free)=true then (do let c ← cellOf env x.1;pure (ForInStep.yield ((x.1,c)::cs))) else pure (ForInStep.yield cs)):Sem (List (Str×Addr)))=pure cl:=h1;rw[show(forIn scope.names [] (fun (x:Str×NameKind) (cs:List (Str×Addr))=>_):Sem (List (Str×Addr)))=pure cl from this];rfl
 ·obtain⟨c',hc'⟩:=h4 (x,.free) hx rfl;refine hde fun _ θ=>?_;obtain⟨c'',e1,e2⟩:=A4 hc';apply θ;have:=h2 _ e2;rw[hc] at this;rw[e1];exact this.symm▸rfl
def CpE(O:Program)(w:World)(A:Around)(acc:Value)(G:Shared→Prop)(X:Value→Shared→Prop):Value→Shared→Prop:=fun x s=>wpAny (model O w) A (call (.builtin "list.append") [acc,x]) (fun _ s=>G s) X s
def CpT(O:Program)(w:World)(A:Around)(elt:Expr)(env:Env)(acc:Value)(G:Shared→Prop)(X:Value→Shared→Prop):Bool→Shared→Prop:=fun ok s=>if ok=true then wpAny (model O w) A (eval elt env) (CpE O w A acc G X) X s else G s
def CpA(O:Program)(w:World)(A:Around)(ifs:List Expr)(elt:Expr)(env:Env)(acc:Value)(G:Shared→Prop)(X:Value→Shared→Prop):Unit→Shared→Prop:=fun _ s =>
 wpAny (model O w) A (forIn ifs true fun c r=>if r=true then do let ok ← isTrue c env (eval c env);pure (ForInStep.yield ok) else pure (ForInStep.yield r)) (CpT O w A elt env acc G X) X s
def CpN(O:Program)(w:World)(A:Around)(R:Result→Shared→Prop)(target:Expr)(it:Value)(ifs:List Expr)(elt:Expr)(env:Env)(acc:Value)(G:Shared→Prop)(X:Value→Shared→Prop):Option Value→Shared→Prop:=fun r s=>match r with
 |none=>R (.ok .next) s
 |some v=>wpAny (model O w) A (letOwnedTupleGo target it v) (fun _ s=>wpAny (model O w) A (assign target env v) (CpA O w A ifs elt env acc G X) X s) X s
theorem Op{A:Around}{R:Result→Shared→Prop}{s:Shared}{elt target iter:Expr}{ifs:List Expr}{scope:Scope}{pos:Pos}{it acc:Value}{env:Env}(I:Nat→Shared→Prop)
  (turn:∀ n s,I n s→wpAny (model O w) A (pyNext it) (CpN O w A R target it ifs elt env acc (fun s=>∃ m,m < n∧I m s) (notedBy (model O w) A env fun e s'=>R (.error e) s')) (notedBy (model O w) A env fun e s'=>R (.error e) s') s)
  (n:Nat) (h:I n s) :
  codeAny (model O w) A (.compLoop (.ListComp elt [⟨target,iter,ifs,0⟩] scope pos) 0 it acc env) R s:=by
 refine codeAny_loop rfl I (fun n s hI=>?_) n h;show wpAny _ A ((compTurn (.ListComp elt [⟨target,iter,ifs,0⟩] scope pos) 0 it acc env).onRaise (fun x=>do noteFrame x env;theTreesLotGoes x)) _ _ s;refine wpAny_noted ?_;rw[compTurn_list];refine U (bw (U (aq (turn n s hI) (fun r s₁ h₁=>?_) fun _ _ h'=>h')));cases r with
 |none=>exact ac h₁
 |some v =>
  refine U (aq h₁ (fun _ s₁ h₁=>?_) fun _ _ h'=>h');refine U (aq h₁ (fun _ s₂ h₂=>U (aq h₂ (fun ok s₃ h₃=>?_) fun _ _ h'=>h')) fun _ _ h'=>h');cases ok with
  |false=>exact ac ⟨rfl,h₃⟩
  |true =>
   replace h₃:wpAny (model O w) A (eval elt env) (CpE O w A acc _ _) _ s₃:=h₃;exact U (U (aq h₃ (fun x s₄ h₄=>U (aq h₄ (fun _ s₅ h₅=>ac (ac ⟨rfl,h₅⟩)) fun _ _ h'=>h')) fun _ _ h'=>h'))
noncomputable def iI(env:Env)(x:Str)(k:NameKind):NameKind:=if (k==NameKind.free&&env.scope.kind==ScopeKind.function&&env.kindOf x==some NameKind.cell)=true then NameKind.cell else k
theorem Oq(f:Str→NameKind→NameKind)(x:Str):∀ (names:List (Str×NameKind)),(names.map fun p=>(p.1,f p.1 p.2)).lookup x=(names.lookup x).map (f x):=by
 intro v0
 induction v0 with
 |nil =>
  exact rfl
 |cons pp r ih =>
  obtain⟨y,k⟩:=pp
  by_cases hxy:x=y
  ·subst hxy;simp[List.lookup]
  ·have h2:(x==y)=false:=beq_eq_false_iff_ne.mpr hxy;simp only[List.map_cons,List.lookup,h2];exact ih
theorem Os(env:Env)(sc':Scope):(relabel sc' env).names=sc'.names.map fun p=>(p.1,iI env p.1 p.2):=by
 unfold relabel;show List.map _ sc'.names=_;refine List.map_congr_left fun p _=>?_;obtain⟨n,k⟩:=p;show(if _ then (n,NameKind.cell) else (n,k))=(n,iI env n k);unfold iI
 split<;>rfl
theorem kT{sc':Scope}{cl:List (Str×Addr)}{C:Addr}{env:Env}(x:Str):(compEnvC sc' cl C env).kindOf x=(sc'.names.lookup x).map (iI env x):=by
 show(relabel sc' env).names.lookup x=_;rw[Os];exact Oq (iI env) x sc'.names
structure CompOk(sc sc':Scope)(x:Str):Prop where
 kind:sc'.kind=.function
 loc:∀ p∈sc'.names,p.2=.local→(p.1 = ".0" ∨ p.1=x)∧sc'.names.lookup p.1=some .local
 cell:∀ p∈sc'.names,p.2≠.cell
 free:∀ p∈sc'.names,p.2=.free→nK (sc.names.lookup p.1)=true
 ne:x ≠ ".0"
 tgt:sc'.names.lookup x=some .local
 dbg:sc'.names.lookup (Str.ofString "__debug__")=none
 cld:sc'.names.lookup (Str.ofString "__classdict__")=none
theorem Ot{sc sc':Scope}{x:Str}(h:nL sc sc' x=true):CompOk sc sc' x:=by
 unfold nL at h;simp only[Bool.and_eq_true] at h;obtain⟨⟨⟨⟨⟨h1,h2⟩,h3⟩,h4⟩,h5⟩,h6⟩:=h;have h2':=be.mp h2;refine⟨eq_of_beq h1,fun p hp hk=>?_,fun p hp hk=>?_,fun p hp hk=>?_,bne_iff_ne.mp h3,eq_of_beq h4,Option.isNone_iff_eq_none.mp h5,Option.isNone_iff_eq_none.mp h6⟩<;>have:=h2' p hp<;>rw[hk] at this
 ·simp only[Bool.and_eq_true,Bool.or_eq_true,beq_iff_eq] at this;exact this
 ·exact bft this
 ·exact this
theorem aA.get_cons_ne{x y:Str}{v:Option V}{σ:aA}(h:x≠y):aA.get ((y,v)::σ) x=aA.get σ x:=by
 show(if x=y then some v else aA.get σ x)=_;rw[if_neg h]
theorem aA.get_cons_eq{x:Str}{v:Option V}{σ:aA}:aA.get ((x,v)::σ) x=some v:=by
 show(if x=x then some v else aA.get σ x)=_;rw[if_pos rfl]
theorem A5{x:Str}{d:PyData}{σ:aA}:aA.get (bnd x d σ) ".0" = some none∧∀ y:Str,y ≠ ".0" → y≠x→aA.get (bnd x d σ) y=aA.get σ y :=
 ⟨aA.get_cons_eq,fun y h0 hy=>(aA.get_cons_ne h0).trans (aA.get_cons_ne hy)⟩
theorem Inv0.comp{env:Env}{sc sc':Scope}{σ:aA}{av avn:Addr→Prop}{s s':Shared}{z:Str}{d:PyData}{cl:List (Str×Addr)}{C:Addr}{m:Str→Option Value}(I:Inv0 O w mg mb base l env sc σ av s)(hok:CompOk sc sc' z)
  (hcl:∀ x c,(x,NameKind.free)∈sc'.names→env.cells.lookup x=some c→cl.lookup x=some c) (k:K l s s') (hav:∀ b o,s.heap.get? b=some o→avn b→av b) (hva:∀ b,av b→avn b)
  (hlive:∀ b,avn b→∃ o,s'.heap.get? b=some o) (hns:s'.heap.Ns C m) (hm:∃ u,m z=some u∧Rep O w s'.heap avn u d) :
  Inv0 O w mg mb base l (compEnvC sc' cl C env) sc' (bnd z d σ) avn s' where
 gnd:={ I.gnd.k k with fav:=fun b f=>hva b (I.gnd.fav b f),avlt:=hlive,avS:=hva _ I.gnd.avS,avB:=fun b o h e=>I.gnd.avB b o (hav b o (I.gnd.stay b o e) h) e }
 kind:=hok.kind
 eg:=I.eg
 eb:=I.eb
 dbg:=hok.dbg
 cld:=hok.cld
 glob:=fun x hx=>by
  unfold isG at hx;rw[kT,eq_of_beq hx];rfl
 kinds:=fun x hx=>by
  refine ocs (sc'.names.lookup x) (fun hl=>?_) fun k hl=>?_
  ·rw[hl] at hx;exact bft hx
  ·rw[hl] at hx;have hmem:=fE hl;cases k with
   |free =>
    obtain⟨h1,c,h2⟩:=I.kinds x (hok.free _ hmem rfl);rw[kT,hl];refine⟨?_,c,hcl x c hmem h2⟩;simp only[Option.map_some];unfold iI
    split<;>rfl
   |cell=>exact absurd rfl (hok.cell _ hmem)
   |_=>exact bft hx
 get:=fun x v hl hg=>by
  have hx0:x ≠ ".0" := fun e=>by rw[e,A5.1] at hg;cases hg
  unfold isL at hl;cases hk':sc'.names.lookup x with
  |none=>rw[hk'] at hl;exact bft hl
  |some kk =>
   rw[hk'] at hl;have hmem:=fE hk';cases kk with
   | «local» =>
    obtain rfl:x=z:=(hok.loc _ hmem rfl).1.resolve_left hx0;obtain⟨u,h1,h2⟩:=hm;rw[bnd,aA.get_cons_ne hx0,aA.get_cons_eq] at hg;cases hg;exact⟨u,.inl ⟨by rw[kT,hk'];rfl,m,hns,h1⟩,h2⟩
   |cell=>exact absurd rfl (hok.cell _ hmem)
   |free =>
    have hcf:=hok.free _ hmem rfl;have hnt:x≠z:=fun ht=>by have:=hok.tgt;rw[← ht,hk'] at this;cases this
    rw[A5.2 x hx0 hnt] at hg;have hsl:isL sc x=true:=by
     unfold isL;refine ocs (sc.names.lookup x) (fun h=>?_) fun k h=>?_
     ·rw[h] at hcf;exact bft hcf
     ·try rewrite[h]
      cases k<;>first | rfl | (rw[h] at hcf;cases hcf)
    obtain⟨u,h1,h2⟩:=I.get x v hsl hg;obtain⟨k1,c,k2⟩:=I.kinds x hcf;refine⟨u,?_,?_⟩
    ·rcases h1.k k with ⟨e,_⟩ | ⟨_,c',e1,e2⟩
     ·rw[e] at k1;exact bft k1
     ·refine .inr ⟨?_,c',hcl x c' hmem e1,e2⟩;rw[kT,hk'];simp only[Option.map_some];unfold iI
      split
      ·exact .inl rfl
      ·exact .inr rfl
    ·exact(b9.mono (fun _ _ e=>e) hav h2).k (av:=avn) (fun b f=>hva b (I.gnd.fav b f)) k
   |_=>exact bft hl
theorem Ou{A:Around}{E:Value→Shared→Prop}{s:Shared}{env:Env}{x:Str}{p:Pos}{d:PyData}{avn:Addr→Prop}{v:Value}{m:Str→Option Value}{Q:Unit→Shared→Prop}
  (hv:Rep O w s.heap avn v d) (hC:avn env.locals) (hn:s.heap.Ns env.locals m) (hl:env.kindOf x=some .local) (hf:env.scope.kind=.function)
  (h:∀ h' tk m',h'.Ns env.locals m'→(∀ b o,b≠env.locals→s.heap.get? b=some o→h'.get? b=some o)→(∃ u,m' x=some u∧Rep O w h' avn u d)→Q () { s with heap:=h',toks:=tk }) :
  wpAny (model O w) A (assign (.Name x p) env v) Q E s:=by
 refine gz (wpAny_storeName_local hl hn (fun h' hn' hs'=>?_) (by rw[hf];rfl));exact h h' _ _ hn' (fun b o hb e=>by rw[hs'.2 b hb];exact e) ⟨v,if_pos rfl,hv.mono (fun b o hb e=>by rw[hs'.2 b (fun x=>hb (x▸hC))];exact e) fun _ _ _ x=>x⟩
end
section
variable {O:Program} {w:World} {mg mb:Str→Option Value} {base:Heap} {n:Nat} {hd:Bool} {l:List Env}
theorem Fin.nx{α β:Type}{r:R α}{k:α→R β}{fin:R β}(h:Fin (nx r) k fin):∃ a,r=.ok a∧k a=fin:=by
 cases r with
 |ok a=>exact⟨a,rfl,h.1⟩
 |_=>exact(Fin.no h).elim
theorem EH.ok{β:Type}{s:Shared}{av:Addr→Prop}{b:β}{E:Value→Shared→Prop}:EH O w mg l s av (.ok b) E:=fun _ _ _ e=>nomatch e
def oQ(O:Program)(w:World)(mg mb:Str→Option Value)(base:Heap)(n:Nat)(hd:Bool)(l:List Env)(sc:Scope)(σ:aA)(ifs:List Expr)(r:R Bool):Prop :=
 ∀ (A:Around) (env:Env) (s:Shared) (av:Addr→Prop),Room base n hd l A→Inv0 O w mg mb base l env sc σ av s→∀ {b:Bool} {Q:Bool→Shared→Prop} {E:Value→Shared→Prop},r=.ok b→(∀ s',K l s s'→Q b s') →
  wpAny (model O w) A (forIn ifs true fun c r=>if r=true then do let ok ← isTrue c env (eval c env);pure (ForInStep.yield ok) else pure (ForInStep.yield r)) Q E s
theorem aH.val{sc:Scope}{σ:aA}{e:Expr}{r:R V}(h:aH O w mg mb base n hd l sc σ e r){A:Around}{env:Env}{s:Shared}{av:Addr→Prop}(hA:Room base n hd l A)(I:Inv0 O w mg mb base l env sc σ av s){u:V}{Q:Value→Shared→Prop}{E:Value→Shared→Prop}(hr:r=.ok u)
  (hq:∀ v s',K l s s'→bF O w s s'.heap av v u→Q v s'):wpAny (model O w) A (eval e env) Q E s :=
 h A env s av hA I (k:=.ok) (fin:=.ok u) ⟨by rw[hr];rfl,nofun⟩ (fun v s' u' k r e=>by cases e;exact hq v s' k r) EH.ok
theorem Ov{sc:Scope}{σ:aA}:oQ O w mg mb base n hd l sc σ [] (.ok true):=fun A env s av _ _ _ _ _ hr hq=>by cases hr;exact wpAny_tests_nil (hq _ (K.rf l s))
theorem Ow{sc:Scope}{σ:aA}{c:Expr}{r:R V}(h:cC O w mg mb base n hd l sc σ c r):oQ O w mg mb base n hd l sc σ [c] (tst r):=fun A env s av hA I b _ _ hr hq =>
 wpAny_tests_one (h A env s av hA I (k:=.ok) (fin:=.ok b) ⟨by rw[hr];rfl,nofun⟩ (fun b' s' k e=>by cases e;exact hq s' k) EH.ok)
structure Cst(O:Program)(w:World)(l:List Env)(s₁:Shared)(avn:Addr→Prop)(D C:Addr)(xs:List PyData)(st:Shared):Prop where
 k:K l s₁ st
 ns:∃ m,st.heap.Ns C m
 lst:∃ ys:List Value,st.heap.PlainList D ys.toArray∧ys.length=xs.length∧∀ (j:Nat) (v:Value) (d:PyData),ys[j]?=some v→xs[j]?=some d→Rep O w st.heap avn v d
theorem K.on{s s':Shared}{h':Heap}{tk:Nat}{c:Addr}(k:K l s s')(hc:s.heap.get? c=none)(hk:∀ b o,b≠c→s'.heap.get? b=some o→h'.get? b=some o):K l s { s' with heap:=h',toks:=tk }:=by
 obtain⟨h,t,rfl,k1,k2⟩:=k;have ne:∀ b o,s.heap.get? b=some o→b≠c:=fun b o e x=>by rw[x,hc] at e;exact ns e
 exact⟨h',tk,rfl,fun b o n e=>hk b o (ne b o e) (k1 b o n e),fun b o e=>by obtain⟨sl,e'⟩:=k2 b o e;exact⟨sl,hk b _ (ne b o e) e'⟩⟩
theorem K.onw{s s':Shared}{h':Heap}{tk:Nat}{c:Addr→Prop}(k:K l s s')(hc:∀ b,c b→s.heap.get? b=none)(hk:∀ b o,¬ c b→s'.heap.get? b=some o→h'.get? b=some o):K l s { s' with heap:=h',toks:=tk }:=by
 obtain⟨h,t,rfl,k1,k2⟩:=k;have ne:∀ b o,s.heap.get? b=some o→¬ c b:=fun b o e x=>by rw[hc b x] at e;exact ns e
 exact⟨h',tk,rfl,fun b o n e=>hk b o (ne b o e) (k1 b o n e),fun b o e=>by obtain⟨sl,e'⟩:=k2 b o e;exact⟨sl,hk b _ (ne b o e) e'⟩⟩
theorem A6{h:Heap}{av:Addr→Prop}{ys:List Value}{xs:List PyData}{v:Value}{x:PyData}(hl:ys.length=xs.length)(hr:∀ (j:Nat) (v:Value) (d:PyData),ys[j]?=some v→xs[j]?=some d→Rep O w h av v d)(hx:Rep O w h av v x) :
  ∀ (j:Nat) (v':Value) (d:PyData),(ys++[v])[j]?=some v'→(xs++[x])[j]?=some d→Rep O w h av v' d :=
 zT hl (bs:=[x]) rfl hr fun j v' d e1 e2=>by
  cases j with
  |zero=>obtain rfl:=si e1;obtain rfl:=si e2;exact hx
  |succ j=>exact ns e1
inductive CTurn(O:Program)(w:World)(l:List Env)(s₁:Shared)(av':Addr→Prop)(D C:Addr)(n:Nat)(St:Nat→Heap→Prop)(P:Nat→List PyData→Prop)(m:Nat)(st:Shared):Prop where
 |mk (i:Nat) (xs:List PyData) (hi:i+m=n) (hx:xs.length≤i) (F:Cst O w l s₁ av' D C xs st) (hs:St i st.heap) (hp:P i xs):CTurn O w l s₁ av' D C n St P m st
theorem Ox{A:Around}{env:Env}{sc sc':Scope}{σ:aA}{av:Addr→Prop}{s₁:Shared}{z:Str}{zp:Pos}{elt iter:Expr}{ifs:List Expr}{pos:Pos}{cl:List (Str×Addr)}{it:Value}{wr:Addr→Prop}{St:Nat→Heap→Prop}{ds:List PyData}{D C:Addr}
  {test:aA→R Bool} {eltF:aA→R V} (hA:Room base n hd l A) (I:Inv0 O w mg mb base l env sc σ av s₁) (hok:CompOk sc sc' z) (hcl:∀ x c,(x,NameKind.free)∈sc'.names→env.cells.lookup x=some c→cl.lookup x=some c)
  (hT:∀ d,oQ O w mg mb base n hd l sc' (bnd z d σ) ifs (test (bnd z d σ))) (hE:∀ d,aH O w mg mb base n hd l sc' (bnd z d σ) elt (eltF (bnd z d σ)))
  (S:Src O w A s₁.heap av (.Name z zp) it wr St ds) (hwr:∀ b,wr b→s₁.heap.get? b=none)
  (hD:s₁.heap.get? D=none) (hC:s₁.heap.get? C=none) (hDC:D≠C) (hlen:ds.length≤sizeLine) (hDwr:¬ wr D) (hCwr:¬ wr C)
  {R:Result→Shared→Prop} {β:Type} {k:List PyData→Internal.R β} {fin:Internal.R β} (hne:fin≠.no) (hR:∀ xs st',xs.length≤sizeLine→Cst O w l s₁ (fun b=>av b∨wr b∨b=D∨b=C) D C xs st'→k xs=fin→R (.ok .next) st')
  {st:Shared} (h:Cst O w l s₁ (fun b=>av b∨wr b∨b=D∨b=C) D C [] st) (hst:St 0 st.heap) (hf:rb (gG test eltF z σ ds) k=fin) :
  codeAny (model O w) A (.compLoop (.ListComp elt [⟨.Name z zp,iter,ifs,0⟩] sc' pos) 0 it (.ref D) (compEnvC sc' cl C env)) R st:=by
 have nf:∀ b,(wr b∨b=D∨b=C)→¬ frs l b:=fun b hb f=>by
  obtain⟨o,e⟩:=I.gnd.avlt _ (I.gnd.fav _ f);rcases hb with hb | rfl | rfl
  ·rw[hwr b hb] at e;exact ns e
  ·rw[hD] at e;exact ns e
  ·rw[hC] at e;exact ns e
 have new:∀ b o,s₁.heap.get? b=some o→(av b∨wr b∨b=D∨b=C)→av b:=fun b o e hb=>by
  rcases hb with hb | hb | rfl | rfl
  ·exact hb
  ·rw[hwr b hb] at e;exact ns e
  ·rw[hD] at e;exact ns e
  ·rw[hC] at e;exact ns e
 have fvn:∀ b,frs l b→(av b∨wr b∨b=D∨b=C):=fun b f=>.inl (I.gnd.fav b f);obtain⟨P,hP⟩:∃ P:Nat→List PyData→Prop,∀ i xs,P i xs↔rb (gG test eltF z σ (ds.drop i)) (fun ys=>k (xs++ys))=fin:=⟨_,fun _ _=>Iff.rfl⟩
 refine Op (I:=CTurn O w l s₁ (fun b=>av b∨wr b∨b=D∨b=C) D C ds.length St P) ?_ ds.length ⟨0,[],Nat.zero_add _,ay _,h,hst,(hP _ _).mpr hf⟩;clear h hst hf st
 rintro m st ⟨i,xs,hi,hx,F,hst,hp⟩
 replace hp:=(hP _ _).mp hp;obtain⟨kk,⟨mm,hns⟩,ys,hpl,hyl,hys⟩:=F;have live:∀ (st':Shared),K l s₁ st'→(∃ m,st'.heap.Ns C m)→st'.heap.PlainList D ys.toArray→(∀ b,wr b→∃ o,st'.heap.get? b=some o)→∀ b,(av b∨wr b∨b=D∨b=C)→∃ o,st'.heap.get? b=some o:=fun st' kk hn hp hw b hb=>by
  rcases hb with hb | hb | rfl | rfl
  ·obtain⟨o,e⟩:=I.gnd.avlt b hb;obtain⟨sl,e'⟩:=kk.up e;exact⟨_,e'⟩
  ·exact hw b hb
  ·obtain⟨nn,e⟩:=hp;exact⟨_,e⟩
  ·obtain⟨_,o,_,_,e,_⟩:=hn;exact⟨o,e⟩
 by_cases hend:i=ds.length
 ·subst hend;rw[List.drop_length] at hp;have hp:k (xs++[])=fin:=hp;rw[List.append_nil] at hp;refine aq (S.done st _ (fun s'=>R (.ok .next) s') hst fun h' tk hk=>hR xs _ (aa hx hlen) ⟨kk.onw hwr hk,⟨mm,hns.at' fun o e=>hk C o hCwr e⟩,ys,hpl.at fun o e=>hk D o hDwr e,hyl,fun j v d e1 e2 =>
   (hys j v d e1 e2).mono (fun b o hb e=>hk b o (fun hw=>hb (.inr (.inl hw))) e) fun _ _ _ x=>x⟩ hp) (fun r s₁ h₁=>?_) fun _ _ x=>x
  cases r with
  |none=>exact h₁
  |some v=>exact h₁.elim
 ·have hlt:i < ds.length:=by exact xD hi hend
  rw[List.drop_eq_getElem_cons hlt] at hp;replace hp:Fin (rb (nx (test (bnd z ds[i] σ))) fun b=>if b then rb (nx (eltF (bnd z ds[i] σ))) fun v=>rb (gG test eltF z σ (ds.drop (i+1))) fun xs=>.ok (dOf v::xs) else gG test eltF z σ (ds.drop (i+1))) (fun ys=>k (xs++ys)) fin:=⟨hp,hne⟩
  obtain⟨b,ht,hp⟩:=hp.b.nx;refine aq (S.item i ds[i] st _ ?QQ (List.getElem?_eq_getElem hlt) hst ?body) ?link fun _ _ x=>x
  case link =>
   intro r s₁ h₁;cases r with
   |none=>exact h₁.elim
   |some v=>exact h₁
  intro v h1 tk1 hk1 st1 hrep;have rv:=hrep (fun b=>av b∨wr b∨b=D∨b=C) (live st kk ⟨mm,hns⟩ hpl (S.live i _ hst)) new;refine Ou rv (.inr (.inr (.inr rfl))) (hns.at' fun o e=>hk1 C o hCwr e) (by rw[kT,hok.tgt];rfl) hok.kind fun h2 tk2 m2 hn2 hk2 hm2=>?_;have k2:K l s₁ { st with heap:=h2,toks:=tk2 }:=K.on (s':={ st with heap:=h1,toks:=tk1 }) (c:=C) (kk.onw (tk:=tk1) hwr hk1) hC hk2;have st2:St (i+1) h2:=S.frame _ _ _ st1 (fun b o hb e=>hk2 b o (fun x=>hCwr ((show b=C from x)▸hb)) e) fun b o e hav=>k2.at (fun f=>hav (I.gnd.fav b f)) e;have pl2:h2.PlainList D ys.toArray:=hpl.at fun o e=>hk2 D o (fun x=>hDC x) (hk1 D o hDwr e);have ys2:∀ (j:Nat) (v:Value) (d:PyData),ys[j]?=some v→xs[j]?=some d→Rep O w h2 (fun b=>av b∨wr b∨b=D∨b=C) v d:=fun j v d e1 e2 =>
   (hys j v d e1 e2).mono (fun b o hb e=>hk2 b o (fun x=>hb (.inr (.inr (.inr x)))) (hk1 b o (fun hw=>hb (.inr (.inl hw))) e)) fun _ _ _ x=>x
  have I2:Inv0 O w mg mb base l (compEnvC sc' cl C env) sc' (bnd z ds[i] σ) (fun b=>av b∨wr b∨b=D∨b=C) { st with heap:=h2,toks:=tk2 } :=
   I.comp hok hcl k2 new (fun _ x=>.inl x) (live { st with heap:=h2,toks:=tk2 } k2 ⟨m2,hn2⟩ pl2 (S.live _ _ st2)) hn2 hm2
  refine hT ds[i] A _ _ _ hA I2 ht fun s₃ k3=>?_;have kk3:=k2.tr k3;have st3:St (i+1) s₃.heap:=S.frame _ _ _ st2 (fun b o hb e=>k3.at (nf b (.inl hb)) e) fun b o e hav=>kk3.at (fun f=>hav (I.gnd.fav b f)) e;have pl3:s₃.heap.PlainList D ys.toArray:=pl2.at fun o e=>k3.at (nf D (.inr (.inl rfl))) e;have ns3:s₃.heap.Ns C m2:=hn2.at' fun o e=>k3.at (nf C (.inr (.inr rfl))) e;have ys3:=fun j v d e1 e2=>Rep.k fvn k3 (ys2 j v d e1 e2);cases b with
  |false=>exact(show ∃ m',m' < m∧CTurn O w l s₁ _ D C ds.length St P m' s₃ from ⟨m - 1,by exact qV hi hend,i+1,xs,by exact qW hi hend,by exact F4 hx,⟨kk3,⟨m2,ns3⟩,ys,pl3,hyl,ys3⟩,st3,(hP _ _).mpr hp⟩)
  |true =>
   replace hp:Fin (rb (nx (eltF (bnd z ds[i] σ))) fun v=>rb (gG test eltF z σ (ds.drop (i+1))) fun xs=>.ok (dOf v::xs)) (fun ys=>k (xs++ys)) fin:=⟨hp,hne⟩
   refine hde fun _ θ=>?_;obtain⟨u,hu,hp⟩:=hp.b.nx;apply θ;have I3:=I2.k k3;refine(hE ds[i]).val hA I3 hu fun xv s₄ k4 r4=>?_;have rx:=r4.rep I3.gnd.avlt;have kk4:=kk3.tr k4;have pl4:s₄.heap.PlainList D ys.toArray:=pl3.at fun o e=>k4.at (nf D (.inr (.inl rfl))) e;refine wpAny_list_append_plain pl4 (fun h5 pl5 hs5=>?_) (by simp;exact F5 hlen hi hx hyl);have k45:∀ b o,b≠D→s₄.heap.get? b=some o→h5.get? b=some o:=fun b o hb e=>by rw[hs5.2 b hb];exact e
   have kk5:K l s₁ { s₄ with heap:=h5 }:=kk4.on (tk:=s₄.toks) hD k45;have hp:rb (gG test eltF z σ (ds.drop (i+1))) (fun ys=>k ((xs++[dOf u])++ys))=fin:=by
    rw[← hp,sG];congr 1;funext ys;show k _=k _;rw[List.append_assoc];rfl
   refine⟨m - 1,by exact qV hi hend,i+1,xs++[dOf u],by exact qW hi hend,by simp;exact F6 hx,⟨kk5,⟨m2,?_⟩,ys++[xv],by simpa using pl5,by simp[hyl],A6 hyl (fun j v d e1 e2=>?_) ?_⟩,?_,(hP _ _).mpr hp⟩
   ·exact ns3.at' fun o e=>k45 C o (fun x=>hDC x.symm) (k4.at (nf C (.inr (.inr rfl))) e)
   ·exact(Rep.k fvn k4 (ys3 j v d e1 e2)).mono (fun b o hb e=>k45 b o (fun x=>hb (.inr (.inr (.inl x)))) e) fun _ _ _ x=>x
   ·exact rx.mono (fun b o hb e=>k45 b o (fun x=>hb (.inr (.inr (.inl x)))) e) fun _ _ _ x=>x
   ·exact S.frame _ _ _ st3 (fun b o hb e=>k45 b o (fun x=>hDwr (x▸hb)) (k4.at (nf b (.inl hb)) e)) fun b o e hav=>kk5.at (fun f=>hav (I.gnd.fav b f)) e
end
section
variable {O:Program} {w:World} {mg mb:Str→Option Value} {base:Heap} {n:Nat} {hd:Bool} {l:List Env}
theorem Oy{av:Addr→Prop}{s s₁:Shared}{wr:Addr→Prop}{D C:Addr}{xs:List PyData}{st:Shared}{h':Heap}(k0:K l s s₁)(hD:s₁.heap.get? D=none)(hC:s₁.heap.get? C=none)(hDC:D≠C)
  (F:Cst O w l s₁ (fun b=>av b∨wr b∨b=D∨b=C) D C xs st) (hl:xs.length≤sizeLine) (hs:Heap.SameBut C st.heap h'):K l s { st with heap:=h' }∧bF O w s h' av (.ref D) (.own (.list xs)):=by
 refine hde fun _ θ=>?_;obtain⟨kk,_,ys,hpl,hyl,hys⟩:=F;apply θ;have hk:∀ b o,b≠C→st.heap.get? b=some o→h'.get? b=some o:=fun b o hb e=>by rw[hs.2 b hb];exact e
 refine⟨k0.tr (kk.on (tk:=st.toks) hC hk),D,rfl,k0.non hD,ys,hpl.at fun o e=>hk D o hDC e,hyl,by rw[hyl];exact hl,fun j v d e1 e2=>?_⟩;refine(hys j v d e1 e2).mono (fun b o hb e=>hk b o (fun x=>hb (.inr (.inr (.inr x)))) e) fun b o _ hb=>?_;rcases hb with hb | hb
 ·exact .inl hb
 ·exact .inr (.inr (.inl hb))
theorem Oz{rec:Expr→R V}{sc:Scope}{target e:Expr}(hbad:∀ e,bad e=true→rec e=.no)(h:bad e=true)(h':fW rec hd sc target e=.no):i9 rec hd sc target e=.no:=by
 unfold i9;cases hd with
 |true=>show rb (rec e) _=.no;rw[hbad e h];rfl
 |false=>exact h'
theorem A7{rec:Expr→R V}{sc:Scope}{target e:Expr}(hbad:∀ e,bad e=true→rec e=.no)(h:bad e=true):fW rec hd sc target e=.no:=by
 have h0:i7 rec e=.no:=by unfold i7;rw[hbad e h];rfl
 unfold fW
 split
 ·rfl
 ·unfold bad at h;unfold i8 hY;generalize vw e=v at h;cases v<;>first | exact h0 | cases h
theorem A8{rec:Scope→aA→Expr→R V}{sc sc':Scope}{σ:aA}{elt:Expr}{g:Comprehension}{pos cpos:Pos}(hbad:∀ e,bad e=true→rec sc σ e=.no)
  (hit:aH O w mg mb base n hd l sc σ g.iter (rec sc σ g.iter)) (hsub:∀ f as kws q,g.iter=.Call f as kws q→∀ a∈as,aH O w mg mb base n hd l sc σ a (rec sc σ a))
  (hT:∀ c∈g.ifs,∀ σ',cC O w mg mb base n hd l sc' σ' c (rec sc' σ' c)) (hE:∀ σ',aH O w mg mb base n hd l sc' σ' elt (rec sc' σ' elt))
  {A:Around} {env:Env} {s:Shared} {av:Addr→Prop} (hA:Room base n hd l A) (I:Inv0 O w mg mb base l env sc σ av s) {β:Type} {k:V→R β} {fin:R β} {Q:Value→Shared→Prop} {E:Value→Shared→Prop} {use:Option (Value→Sem Unit)}
  (hf:Fin (jC rec hd sc σ elt g sc') k fin) (he:EH O w mg l s av fin E)
  (hq:∀ (s₁:Shared) (wr:Addr→Prop) (D C:Addr) (xs:List PyData) (st':Shared),K l s s₁→s₁.heap.get? D=none→s₁.heap.get? C=none→D≠C→xs.length≤sizeLine→Cst O w l s₁ (fun b=>av b∨wr b∨b=D∨b=C) D C xs st'→k (.own (.list xs))=fin→compPost (model O w) A E use Q (.ref D) C (.ok .next) st') :
  wpAny (model O w) A (comprehension (.ListComp elt [g] sc' pos) sc' env cpos (newList []) (firstAsync [g]) (firstIter [g] env) use) Q E s:=by
 obtain⟨target,iter,ifs,as⟩:=g;unfold jC at hf;replace hf:Fin (match bH target with
  |none=>.no
  |some x=>if (nL sc sc' x&&as==0)=true then match rL rec sc' ifs with
   |none=>.no
   |some t=>rb (rb (i9 (rec sc σ) hd sc target iter) fun l=>gG t (fun σ'=>rec sc' σ' elt) x σ l) fun r=>ofP (own (.list r))
  else .no) k fin:=hf
 cases hn:bH target with
 |none=>rw[hn] at hf;exact hf.no.elim
 |some z =>
  rw[hn] at hf;obtain⟨hc,hf1⟩:=Fin.ite hf;clear hf;obtain⟨zp,rfl⟩:=dG hn;simp only[Bool.and_eq_true,beq_iff_eq] at hc;obtain⟨c1,rfl⟩:=hc;have hok:=Ot c1;refine ocs (rL rec sc' ifs) (fun htt=>?_) fun t htt=>?_
  ·rw[htt] at hf1;exact hf1.no.elim
  ·rw[htt] at hf1;have hT':∀ d,oQ O w mg mb base n hd l sc' (bnd z d σ) ifs (t (bnd z d σ)):=fun d=>by
    cases ifs with
    |nil=>obtain rfl:=si htt;exact Ov
    |cons c r =>
     cases r with
     |nil=>obtain rfl:=si htt;exact Ow (hT c ah _)
     |cons=>cases htt
   have hb:bad iter=false:=eT (fun e=>Oz hbad e (A7 hbad e)) hf1.b.b.ne;obtain⟨cl,hclos,hcl⟩:=Oo (env:=env) (scope:=sc') fun p hp hk=>(I.kinds p.1 (hok.free p hp hk)).2;have hs:∀ x,foldedSetIterable iter env x=pure x:=zF hb;refine wpAny_comprehension_free (g:=⟨.Name z zp,iter,ifs,0⟩) (gs:=[]) rfl hs hclos hok.kind (fun p hp hk=>(hok.loc p hp hk).2) ?_;refine Om (target:=.Name z zp) hbad hit hsub A env s av hA I hf1.b.b (fun it s₂ ds x h1=>?_) he;obtain⟨s₁,wr,St,k0,S,hst,hwr,k2,hlen⟩:=x;refine fx (wpAny_newFunctionEnv hok.cell (by intro y hy;simp at hy) (fun h₁ hns₁ hsb₁=>?_) hok.kind);dsimp only at hns₁ hsb₁ ⊢;generalize hH2:s₂.heap.push { cls:=.type "list", dict:=none,data:=.seq ([]:List Value).toArray }=H2 at hns₁ hsb₁ ⊢;have hC:H2.objs.size=s₂.heap.objs.size+1:=by rw[← hH2,gc]
   have hDC:s₂.heap.objs.size≠H2.objs.size:=by rw[hC];exact bx (dy _)
   have below:∀ b,b < s₂.heap.objs.size→b≠H2.objs.size:=fun b hb=>by rw[hC];exact bx (fc hb)
   have old:∀ b o,s₂.heap.get? b=some o→h₁.get? b=some o:=fun b o e=>hsb₁.extBut b o (below b (bh e)) (af _ (hH2▸af _ e));have hacc:h₁.PlainList s₂.heap.objs.size #[]:=⟨_,hsb₁.extBut _ _ hDC (af _ (hH2▸eu _ rfl))⟩
   have hD2:s₂.heap.get? s₂.heap.objs.size=none:=bU _;have hC2:s₂.heap.get? H2.objs.size=none:=cy (by rw[hC];exact ai _);have kk2:K l s₁ s₂:=K.of k2;have hst₁:St 0 h₁:=S.frame _ _ _ hst (fun b o _ e=>old b o e) fun b o e _=>old b o (k2.heap b o e);have loop:∀ s₃:Shared,s₃={ s₂ with heap:=h₁,toks:=s₂.toks+([]:List (Str×Value)).length } →
     codeAny (model O w) A (.compLoop (.ListComp elt [⟨.Name z zp,iter,ifs,0⟩] sc' pos) 0 it (.ref s₂.heap.objs.size) (compEnvC sc' cl H2.objs.size env)) (compPost (model O w) A E use Q (.ref s₂.heap.objs.size) H2.objs.size) s₃:=by
    rintro s₃ rfl
    refine Ox (s₁:=s₁) (wr:=wr) hA (I.k k0) hok hcl hT' (fun d=>hE _) S (fun b hb=>(hwr b hb).1) (kk2.non hD2) (kk2.non hC2) hDC hlen (fun hw=>?_) (fun hw=>?_) hf1.2 (fun xs st' hz F e=>?_) ⟨kk2.trp (Kp.mk' old),⟨_,hns₁⟩,[],hacc,rfl,nofun⟩ hst₁ h1
    ·obtain⟨o,e⟩:=(hwr _ hw).2;rw[hD2] at e;exact ns e
    ·obtain⟨o,e⟩:=(hwr _ hw).2;rw[hC2] at e;exact ns e
    ·exact hq s₁ wr _ _ xs st' k0 (kk2.non hD2) (kk2.non hC2) hDC hz F e
   exact codeAny_compStart_list (loop _ rfl) (S.self 0 _ _ _ hst₁ (loop _ rfl))
theorem O0{rec:Scope→aA→Expr→R V}{sc sc':Scope}{σ:aA}{elt:Expr}{g:Comprehension}{pos:Pos}(hbad:∀ e,bad e=true→rec sc σ e=.no)
  (hit:aH O w mg mb base n hd l sc σ g.iter (rec sc σ g.iter)) (hsub:∀ f as kws q,g.iter=.Call f as kws q→∀ a∈as,aH O w mg mb base n hd l sc σ a (rec sc σ a))
  (hT:∀ c∈g.ifs,∀ σ',cC O w mg mb base n hd l sc' σ' c (rec sc' σ' c)) (hE:∀ σ',aH O w mg mb base n hd l sc' σ' elt (rec sc' σ' elt)) :
  aH O w mg mb base n hd l sc σ (.ListComp elt [g] sc' pos) (jC rec hd sc σ elt g sc'):=by
 intro A env s av hA I β k fin Q E hf hq he;simp only[eval_ListComp];refine A8 hbad hit hsub hT hE hA I hf he fun s₁ wr D C xs st' k0 hD hC hDC hz F e=>?_;obtain⟨m,hn⟩:=F.ns;exact⟨m,hn,fun h' hs=>by obtain⟨a,b⟩:=Oy k0 hD hC hDC F hz hs;exact hq _ _ (.own (.list xs)) a b e⟩
end
section
variable {O:Program} {w:World} {mg mb:Str→Option Value} {base:Heap} {n:Nat} {l:List Env}
theorem A9{rec:Scope→aA→Expr→R V}{C:Ctx}{sc:Scope}{σ:aA}{e:Expr}(h:bad e=true):dO rec C sc σ e=.no:=by
 cases e<;>first | rfl | cases h
theorem P.bindI{α β:Type}{p:P α}{f:α→P β}{b:β}(h:p.bind f=.ok b):∃ a,p=.ok a∧f a=.ok b:=by
 cases p with
 |no=>exact pno h
 |ok a=>exact⟨a,rfl,h⟩
theorem O1{o:Option (Option V)}{x:X}(h:yQ o=some x):o=some (some (.ex x)):=by
 cases o with
 |none=>exact ns h
 |some v =>
  cases v with
  |none=>exact ns h
  |some v =>
   cases v with
   |ex y=>obtain rfl:=si h;rfl
   |_=>exact ns h
theorem O2{fs:List (Str×PyData)}{p:Str}{d:PyData}(h:kI fs p=some d):(p,d)∈fs:=by
 induction fs with
 |nil=>exact ns h
 |cons q r ih =>
  obtain⟨y,e⟩:=q;replace h:(if p=y then some e else kI r p)=some d:=h
  by_cases hy:p=y
  ·rw[if_pos hy] at h;obtain rfl:=si h;rw[hy];exact ah
  ·rw[if_neg hy] at h;exact ae _ (ih h)
theorem Rep.handed{h:Heap}{av:Addr→Prop}{v:Value}{d:PyData}(r:Rep O w h av v d):handedOut v=pure v:=by cases r<;>rfl
theorem jL{α:Type}{o:Option α}{x:α}(h:ofO o=.ok x):o=some x:=by
 cases o with
 |none=>exact pno h
 |some y=>obtain rfl:=pi h;rfl
theorem O3{C:Ctx}(hK:KSound O w mg mb base n C){sc:Scope}{σ:aA}{o:Expr}{m:Str}{p:Pos}:aH O w mg mb base n C.hd l sc σ (.Attribute o m p) (ofP (yR C sc σ o m)):=by
 intro A env s av hA I β k fin Q E hf hq he;obtain⟨u,e0,e2⟩:=hf.p;obtain⟨z,h1,e1⟩:=P.bindI e0;obtain⟨pz,rfl⟩:=dG (jL h1)
 by_cases hl:isL sc z=true
 case neg=>rw[if_neg hl] at e1;exact pno e1
 rw[if_pos hl] at e1;obtain⟨x,h2,e1⟩:=P.bindI e1;obtain⟨i,h3,e1⟩:=P.bindI e1;obtain⟨ps,h4,e1⟩:=P.bindI e1
 by_cases hm:ps.contains m=true
 case neg=>rw[if_neg hm] at e1;exact pno e1
 rw[if_pos hm] at e1;obtain⟨d,h5,e1⟩:=P.bindI e1;obtain rfl:=pi e1;have hi:(bK x.cls O.main.body).map (·.2)=some (some ps):=by
  rw[← jL h4,← jL h3,hK.init]
 obtain⟨pc,hpc,hps⟩:=bf.mp hi;obtain⟨v,hva,e,rfl,na,ob,vs,Ca,g1,g2,g3,g4,g5⟩:=I.get z (.ex x) hl (O1 (jL h2));obtain⟨C',bm,c1,c2,_⟩:=I.gnd.glo.cls x.cls pc hpc;rw[g4] at c1;obtain rfl:=Value.ref.inj (si c1);rcases g5 with g5 | ⟨dd,mm,ed,nn,hns,r⟩
 ·rw[g5] at h5;exact ns (jL h5)
 obtain⟨v',hv1,hv2⟩:=r m d (O2 (jL h5));rw[arm_eval_Attribute];refine U ?_;show wpAny (model O w) A (eval (.Name z pz) env) _ _ _;refine fZ I hl hva (U (bw (U (ao (c2.fld ps hps m (List.contains_iff_mem.mp hm) A s e dd ob vs mm v' E _ I.gnd.stay g1 g3 g2 ed hns hv1 hv2.handed fun tk=>?_)))));exact U (ac (ac (hq v' _ (.fz d) (K.of ⟨s.heap,tk,rfl,fun _ _ e=>e⟩) hv2 e2)))
theorem O4{C:Ctx}(hK:KSound O w mg mb base n C){rec:Scope→aA→Expr→R V}(hbad:∀ sc σ e,bad e=true→rec sc σ e=.no)
  (ih:∀ sc σ e,aH O w mg mb base n C.hd l sc σ e (rec sc σ e)∧cC O w mg mb base n C.hd l sc σ e (rec sc σ e)) (sc:Scope) (σ:aA) (e:Expr) :
  aH O w mg mb base n C.hd l sc σ e (dO rec C sc σ e)∧cC O w mg mb base n C.hd l sc σ e (dO rec C sc σ e):=by
 have hE:∀ e,aH O w mg mb base n C.hd l sc σ e (rec sc σ e):=fun e=>(ih sc σ e).1;have hT:∀ e,cC O w mg mb base n C.hd l sc σ e (rec sc σ e):=fun e=>(ih sc σ e).2;have tv:∀ {e p},aH O w mg mb base n C.hd l sc σ e p→(∀ env whole,PySem.isTrue e env whole=(do let v ← whole;standAt e.pos;holding [v] (truthy v)))→aH O w mg mb base n C.hd l sc σ e p∧cC O w mg mb base n C.hd l sc σ e p:=fun h he=>⟨h,zY h he⟩
 have tn:∀ {e},aH O w mg mb base n C.hd l sc σ e .no∧cC O w mg mb base n C.hd l sc σ e .no:=⟨fun _ _ _ _ _ _ _ _ _ _ _ hf=>hf.no.elim,fun _ _ _ _ _ _ _ _ _ _ _ hf=>(Fin.b hf).no.elim⟩
 cases e with
 |Constant c k p=>exact tv K7 fun _ _=>rfl
 |Name x p=>exact tv (K6 hK.const) fun _ _=>rfl
 |BoolOp op vs p =>
  cases op with
  |And=>exact⟨fun A env s av hA I _ _ _ _ _ hf hq he=>Lu hA (fun e _=>hE e) I hf hq he,fun A env s av hA I _ _ _ _ _ hf hq he=>Lw hA (fun e _=>hT e) I hf hq he⟩
  |Or=>exact⟨fun A env s av hA I _ _ _ _ _ hf hq he=>Lv hA (fun e _=>hE e) I hf hq he,fun A env s av hA I _ _ _ _ _ hf hq he=>Lx hA (fun e _=>hT e) I hf hq he⟩
 |BinOp l op r p=>exact tv (Lp (hE l) (hE r)) fun _ _=>rfl
 |UnaryOp op x p =>
  refine⟨zX (hE x),?_⟩;cases op with
  |Not=>exact Lr (hT x)
  |_=>exact zY (zX (hE x)) fun _ _=>rfl
 |IfExp t b o p=>exact⟨Lq (hT t) (hE b) (hE o),Ls (hT t) (hT b) (hT o)⟩
 |Dict ks vs p=>exact tv (Ob (fun k _=>hE k) fun e _=>hE e) fun _ _=>rfl
 |List es p=>exact tv (L3 (hbad sc σ) fun e _=>hE e) fun _ _=>rfl
 |Tuple es k p=>exact tv (L4 (hbad sc σ) fun e _=>hE e) fun _ _=>rfl
 |ListComp elt gens sc' p =>
  cases gens with
  |nil=>exact tn
  |cons g gs =>
   cases gs with
   |nil=>exact tv (O0 (hbad sc σ) (hE _) (fun _ _ _ _ _ a _=>hE a) (fun c _ σ'=>(ih sc' σ' c).2) fun σ'=>(ih sc' σ' elt).1) fun _ _=>rfl
   |cons=>exact tn
 |Compare l ops es p=>exact⟨Ly (hbad sc σ) (hE l) fun e _=>hE e,Lz (hbad sc σ) (hE l) fun e _=>hE e⟩
 |Subscript o i p=>exact tv (Md (hE o) (hE i) fun c _=>⟨fun x _=>hE x,fun x _=>hE x⟩) fun _ _=>rfl
 |Attribute o m p=>exact tv (O3 hK) fun _ _=>rfl
 |Call f as kws p =>
  cases kws with
  |cons=>exact tn
  |nil =>
   show aH O w mg mb base n C.hd l sc σ _ (match vw f with | .attr o m ap=>kH (rec sc σ) o m ap as p | .name f=>nQ (rec sc σ) C sc σ f as | _=>.no)∧cC O w mg mb base n C.hd l sc σ _ (match vw f with | .attr o m ap=>kH (rec sc σ) o m ap as p | .name f=>nQ (rec sc σ) C sc σ f as | _=>.no);cases hv:vw f with
   |attr o m ap =>
    have ef:f=_:=cY hv;subst ef;exact tv (N3 (hbad sc σ) (hE o) fun e _=>hE e) fun _ _=>rfl
   |name x =>
    obtain⟨q,rfl⟩:=cY hv;exact tv (N7 hK (hbad sc σ) (fun e _=>hE e) fun _ _ _ _ _ _ _=>⟨fun x _=>hE x,fun o _ _ _=>hE o⟩) fun _ _=>rfl
   |_=>exact tn
 |_=>exact tn
theorem oR{C:Ctx}(hK:KSound O w mg mb base n C):∀ (k:Nat) (sc:Scope) (σ:aA) (e:Expr),aH O w mg mb base n C.hd l sc σ e (evE C k sc σ e)∧cC O w mg mb base n C.hd l sc σ e (evE C k sc σ e):=by
 intro v0
 induction v0 with
 |zero =>
  intro _ _ _;exact⟨fun _ _ _ _ _ _ _ _ _ _ _ hf=>hf.no.elim,fun _ _ _ _ _ _ _ _ _ _ _ hf=>(Fin.b hf).no.elim⟩
 |succ k ih =>
  intro sc σ e;exact O4 hK (rec:=evE C k) (fun sc σ e hb=>by cases k with | zero=>rfl | succ k=>exact A9 hb) (fun sc σ e=>ih sc σ e) sc σ e
end
section
variable {O:Program} {w:World} {mg mb:Str→Option Value} {base:Heap} {l₀:List Env} {env:Env} {sc:Scope} {av₀:Addr→Prop} {s₀:Shared}
theorem IsCell.uniq{h:Heap}{c:Addr}{v v':Option Value}(x:h.IsCell c v)(y:h.IsCell c v'):v=v':=by
 obtain⟨o,e,d⟩:=x;obtain⟨o',e',d'⟩:=y;rw[e] at e';cases e';rw[d] at d';cases d';rfl
theorem bB.uniq{h:Heap}{x:Str}{u u':Value}(a:bB env h x u)(b:bB env h x u'):u=u':=by
 rcases a with ⟨k,m,hn,e⟩ | ⟨k,c,e,hc⟩
 ·rcases b with ⟨k',m',hn',e'⟩ | ⟨k',c',e',hc'⟩
  ·rw[hn.eq_nsMap] at e;rw[hn'.eq_nsMap] at e';rw[e] at e';exact Option.some.inj e'
  ·rw[k] at k';rcases k' with k' | k'<;>cases k'
 ·rcases b with ⟨k',m',hn',e'⟩ | ⟨k',c',e',hc'⟩
  ·rw[k'] at k;rcases k with k | k<;>cases k
  ·rw[e] at e';cases e';exact Option.some.inj (IsCell.uniq hc hc')
def Mn(env:Env)(b:Addr):Prop:=b=env.locals∨∃ y,env.cells.lookup y=some b
def cZ(h:Heap)(u:Value)(v:V)(a:Addr):Prop:=match v with
 | .own _=>u=.ref a
 | .pil _=>u=.ref a∨∃ (r:Addr) (bs:List Addr),u=.ref r∧h.PlainList r (bs.map Value.ref).toArray∧a∈bs
 |_=>False
inductive OwnN(env:Env)(σ:aA)(h:Heap)(x:Str)(a:Addr):Prop where
 |mk (v:V) (u:Value) (g:aA.get σ x=some (some v)) (k:bB env h x u) (o:cZ h u v a):OwnN env σ h x a
theorem s6{as bs:List Addr}(h:as.map Value.ref=bs.map Value.ref):as=bs:=List.map_inj_right (fun _ _ e=>Value.ref.inj e) |>.mp h
theorem s7{h:Heap}{a:Addr}{x y:Array Value}(p:h.PlainList a x)(q:h.PlainList a y):x=y:=by
 obtain⟨n,e⟩:=p;obtain⟨m,e'⟩:=q;simp only[e] at e';injection si e' with _ _ hd
 injection hd
structure Act(O:Program)(w:World)(mg mb:Str→Option Value)(base:Heap)(l₀:List Env)(env:Env)(sc:Scope)(av₀:Addr→Prop)(s₀:Shared)(σ:aA)(av:Addr→Prop)(s:Shared):Prop where
 inv:Inv0 O w mg mb base (env::l₀) env sc σ av s
 stay0:∀ b o,base.get? b=some o→s₀.heap.get? b=some o
 frm:env.frame=some env.locals
 fr0:∀ b,frs l₀ b→av₀ b∧∃ o,s₀.heap.get? b=some o
 k0:K l₀ s₀ s
 bas:∀ b,av₀ b→av b
 ns:∃ m,s.heap.Ns env.locals m
 cells:∀ x c,env.cells.lookup x=some c→c≠env.locals∧∃ v,s.heap.IsCell c v
 fresh:∀ b,Mn env b→av b∧s₀.heap.get? b=none∧¬ av₀ b
 capart:∀ x y c,env.cells.lookup x=some c→env.cells.lookup y=some c→x=y
 names:∀ x v,aA.get σ x=some v→isL sc x=true∧(env.kindOf x=some .local∨(env.kindOf x=some .cell∧∃ c,env.cells.lookup x=some c))
 ownA:∀ x a,OwnN env σ s.heap x a→av a∧s₀.heap.get? a=none∧¬ av₀ a∧¬ Mn env a
 ownI:∀ x y a,OwnN env σ s.heap x a→OwnN env σ s.heap y a→x=y
 loc:∀ x,sc.names.lookup x=some .local→env.kindOf x=some .local
theorem jM{b:Addr}(hf:env.frame=some env.locals):frs (env::l₀) b↔b=env.locals∨frs l₀ b:=by
 unfold frs;rw[List.filterMap_cons,hf,List.mem_cons]
theorem Act.liveMn{σ:aA}{av:Addr→Prop}{s:Shared}(X:Act O w mg mb base l₀ env sc av₀ s₀ σ av s){b:Addr}(h:Mn env b):∃ o,s.heap.get? b=some o:=by
 rcases h with rfl | ⟨y,h⟩
 ·obtain⟨m,o,es,ep,e,_⟩:=X.ns;exact⟨o,e⟩
 ·obtain⟨_,v,o,e,_⟩:=X.cells y b h;exact⟨o,e⟩
theorem Act.newNot{σ:aA}{av:Addr→Prop}{s:Shared}(X:Act O w mg mb base l₀ env sc av₀ s₀ σ av s){b:Addr}(h:s.heap.get? b=none):¬ Mn env b∧¬ av b∧¬ av₀ b∧s₀.heap.get? b=none∧¬ frs (env::l₀) b :=
 have hav:¬ av b:=fun x=>by obtain⟨o,e⟩:=X.inv.gnd.avlt b x;rw[h] at e;cases e
 ⟨fun x=>(by obtain⟨o,e⟩:=X.liveMn x;rw[h] at e;cases e),hav,fun x=>hav (X.bas b x),X.k0.non h,fun x=>hav (X.inv.gnd.fav b x)⟩
theorem b9.mono'{l:List Env}{h h':Heap}{av av':Addr→Prop}(hk:∀ b o,¬ av b→h.get? b=some o→h'.get? b=some o)(ha:∀ b o,h.get? b=some o→av' b→av b){u:Value}{v:V}
  (hs:∀ a,cZ h u v a→∀ o,h.get? a=some o→h'.get? a=some o) (r:b9 O w mg l h av u v):b9 O w mg l h' av' u v:=by
 cases v with
 |fz d=>exact Rep.mono hk ha r
 |own d=>obtain⟨a,e,n,r⟩:=r;exact⟨a,e,n,r.mono hk ha (hs a e)⟩
 |ex x=>obtain⟨e,h,r⟩:=r;exact⟨e,h,r.mono hk ha⟩
 |pil ds =>
  obtain⟨a,bs,e,na,p,hl,z,nd,nab,nf,r⟩:=r;exact⟨a,bs,e,na,p.at (hs a (Or.inl e)),hl,z,nd,nab,nf,fun i b d e1 e2=>(r i b d e1 e2).mono hk ha (hs b (Or.inr ⟨a,bs,e,p,cc e1⟩))⟩
theorem FunFrames.to{h h' base:Heap}:∀ {l:List Env},h.FunFrames base l→(∀ b o,frs l b→h.get? b=some o→(∀ vs,o.data≠.fields vs)→∃ o',h'.get? b=some o'∧∀ vs,o'.data≠.fields vs)→h'.FunFrames base l
 := by
 intro l
 induction l with
 |nil=>exact fun _ _=>trivial
 |cons env r ih =>
  intro f k;refine hde fun _ θ=>?_;obtain⟨hk,⟨L,o,hf,hn,ho,hd⟩,hr⟩:=f;obtain⟨o',ho',hd'⟩:=k L o (by unfold frs;simp only[List.filterMap_cons,hf];exact ah) ho hd;apply θ;exact⟨hk,⟨L,o',hf,hn,ho',hd'⟩,ih hr fun b o f=>k b o (by unfold frs;simp only[List.filterMap_cons,hf];exact ae _ f)⟩
theorem bB.kept{h h':Heap}{x:Str}{u:Value}(v:bB env h x u)(hk:∀ b o,Mn env b→h.get? b=some o→h'.get? b=some o):bB env h' x u:=by
 rcases v with ⟨k,m,hn,e⟩ | ⟨k,c,e,o,e1,e2⟩
 ·exact .inl ⟨k,m,hn.at' fun o e=>hk _ o (.inl rfl) e,e⟩
 ·exact .inr ⟨k,c,e,o,hk c o (.inr ⟨x,e⟩) e1,e2⟩
theorem Act.varBack{σ:aA}{av:Addr→Prop}{s:Shared}{h':Heap}(X:Act O w mg mb base l₀ env sc av₀ s₀ σ av s){x:Str}{v:V}{u:Value}(hg:aA.get σ x=some (some v))(hk:∀ u,bB env s.heap x u→bB env h' x u)(hv:bB env h' x u):bB env s.heap x u:=by
 obtain⟨u',h1,_⟩:=X.inv.get x v (X.names x _ hg).1 hg;have:=bB.uniq (hk _ h1) hv;exact this▸h1
theorem cZ.same{l:List Env}{h h':Heap}{av:Addr→Prop}{u:Value}{v:V}{a:Addr}(x:cZ h' u v a)(r:b9 O w mg l h av u v)(hq:∀ a,cZ h u v a→∀ o,h.get? a=some o→h'.get? a=some o):cZ h u v a:=by
 cases v with
 |own d=>exact x
 |pil ds =>
  rcases x with ho | ⟨r',bs,e,p,m⟩
  ·exact Or.inl ho
  ·obtain⟨a0,bs0,e0,na,p0,_⟩:=r;obtain rfl:=Value.ref.inj (e0.symm.trans e);have:=s7 p (p0.at (hq a0 (Or.inl e0)));obtain rfl:=s6 (List.toArray_inj this);exact Or.inr ⟨_,_,e,p0,m⟩
 |_=>exact x
theorem Act.ownBack1{σ:aA}{av:Addr→Prop}{s:Shared}{h':Heap}(X:Act O w mg mb base l₀ env sc av₀ s₀ σ av s){x:Str}{a:Addr}{v:V}{u:Value}(hg:aA.get σ x=some (some v))(hk:∀ u,bB env s.heap x u→bB env h' x u)(hq:∀ a,OwnN env σ s.heap x a→∀ o,s.heap.get? a=some o→h'.get? a=some o)(hv:bB env h' x u)(ho:cZ h' u v a):OwnN env σ s.heap x a:=by
 have hu:=X.varBack hg hk hv;obtain⟨u',h1,r⟩:=X.inv.get x _ (X.names x _ hg).1 hg;obtain rfl:=bB.uniq h1 hu;exact⟨v,_,hg,hu,ho.same r fun a ha=>hq a ⟨_,_,hg,hu,ha⟩⟩
theorem Act.ownBack{σ:aA}{av:Addr→Prop}{s:Shared}{h':Heap}(X:Act O w mg mb base l₀ env sc av₀ s₀ σ av s){x:Str}{a:Addr}(hk:∀ u,bB env s.heap x u→bB env h' x u)(hq:∀ a,OwnN env σ s.heap x a→∀ o,s.heap.get? a=some o→h'.get? a=some o)(h:OwnN env σ h' x a):OwnN env σ s.heap x a:=by
 obtain⟨v,u,hg,hv,ho⟩:=h;exact X.ownBack1 hg hk hq hv ho
theorem K.drop{s s':Shared}(hf:env.frame=some env.locals)(h0:s₀.heap.get? env.locals=none)(x:K l₀ s₀ s)(y:K (env::l₀) s s'):K l₀ s₀ s':=by
 obtain⟨h,t,rfl,k,u⟩:=x;obtain⟨h',t',rfl,k',u'⟩:=y;refine⟨h',t',rfl,fun b o n e=>k' b o (fun f=>?_) (k b o n e),fun b o e=>by obtain⟨_,e1⟩:=u b o e;exact by obtain⟨sl,e2⟩:=u' b _ e1;exact⟨sl,e2⟩⟩;rcases(jM hf).mp f with f | f
 ·simp only[f,h0] at e;exact ns e
 ·exact n f
theorem Act.ownFr{σ:aA}{av:Addr→Prop}{s:Shared}(X:Act O w mg mb base l₀ env sc av₀ s₀ σ av s){x:Str}{a:Addr}(h:OwnN env σ s.heap x a):¬ frs (env::l₀) a:=fun f=>by
 obtain⟨_,_,h3,h4⟩:=X.ownA x a h;rcases(jM X.frm).mp f with f | f
 ·exact h4 (.inl f)
 ·exact h3 (X.fr0 a f).1
theorem Act.ownK{σ:aA}{av:Addr→Prop}{s s':Shared}(X:Act O w mg mb base l₀ env sc av₀ s₀ σ av s)(k:K (env::l₀) s s'){x:Str}{a:Addr}(h:OwnN env σ s'.heap x a):OwnN env σ s.heap x a :=
 X.ownBack (fun u h=>h.k k) (fun a h o e=>k.at (X.ownFr h) e) h
theorem Act.k{σ:aA}{av:Addr→Prop}{s s':Shared}(X:Act O w mg mb base l₀ env sc av₀ s₀ σ av s)(k:K (env::l₀) s s'):Act O w mg mb base l₀ env sc av₀ s₀ σ av s' :=
 { X with
  inv:=X.inv.k k
  k0:=X.k0.drop X.frm (X.fresh _ (.inl rfl)).2.1 k
  ns:=by obtain⟨m,hn⟩:=X.ns;exact⟨m,k.upTo.ns hn⟩
  cells:=fun x c e=>by obtain⟨h1,v,o,h2,h3⟩:=X.cells x c e;exact by obtain⟨_,e'⟩:=k.up h2;exact⟨h1,v,_,e',h3⟩
  ownA:=fun x a h=>X.ownA x a (X.ownK k h)
  ownI:=fun x y a h1 h2=>X.ownI x y a (X.ownK k h1) (X.ownK k h2) }
theorem Gnd.grow{l:List Env}{av S:Addr→Prop}{s:Shared}(G:Gnd O w mg mb base l av s)(hn:∀ a,S a→base.get? a=none)(hl:∀ a,S a→∃ o,s.heap.get? a=some o):Gnd O w mg mb base l (fun b=>av b∨S b) s :=
 { G with fav:=fun b h=>.inl (G.fav b h),avlt:=fun b h=>h.elim (G.avlt b) (hl b),avS:=.inl G.avS,avB:=fun b o h e=>h.elim (fun h=>G.avB b o h e) fun h=>by rw[hn b h] at e;exact ns e }
theorem Act.growS{σ:aA}{av:Addr→Prop}{s s':Shared}{S:Addr→Prop}(X:Act O w mg mb base l₀ env sc av₀ s₀ σ av s)(k:K (env::l₀) s s')(hn:∀ a,S a→s.heap.get? a=none)(hl:∀ a,S a→∃ o,s'.heap.get? a=some o) :
  Act O w mg mb base l₀ env sc av₀ s₀ σ (fun b=>av b∨S b) s':=by
 have Y:=X.k k;refine { Y with inv:={ Y.inv with gnd:=Y.inv.gnd.grow (fun a ha=>ocs (base.get? a) (fun h=>h) fun o h=>by have:=X.inv.gnd.stay a o h;rw[hn a ha] at this;exact nomatch this) hl,get:=fun x v hl' hg=>?_ },bas:=fun b hb=>.inl (X.bas b hb),fresh:=fun b h=>by obtain⟨h1,h2⟩:=X.fresh b h;exact⟨.inl h1,h2⟩,ownA:=fun x a h=>by obtain⟨h1,h2⟩:=Y.ownA x a h;exact⟨.inl h1,h2⟩ };obtain⟨u,h1,h2⟩:=X.inv.get x v hl' hg;refine⟨u,h1.k k,?_⟩;have h3:b9 O w mg (env::l₀) s.heap (fun b=>av b∨S b) u v:=h2.mono' (fun _ _ _ e=>e) (fun b o e hb=>hb.elim id fun hb=>by rw[hn b hb] at e;cases e) fun _ _ _ e=>e;exact h3.k (fun b h=>.inl (X.inv.gnd.fav b h)) k
theorem aA.get_clear(xs:List Str)(x:Str):∀ σ:aA,aA.get (aA.cl σ xs) x=(aA.get σ x).map fun v=>if xs.contains x then v.map V.cl else v
 | []=>rfl
 | (y,v)::r=>by
  show(if x=y then some (if xs.contains y then v.map V.cl else v) else aA.get (aA.cl r xs) x)=(if x=y then some v else aA.get r x).map _
  by_cases h:x=y
  ·subst h;rw[if_pos rfl,if_pos rfl];rfl
  ·rw[if_neg h,if_neg h];exact aA.get_clear xs x r
theorem Ba{xs:List Str}{x:Str}{σ:aA}{v:V}(h:aA.get (aA.cl σ xs) x=some (some v)):∃ v0,aA.get σ x=some (some v0)∧(v=v0∧(xs.contains x=true→hX v0=false)∨xs.contains x=true∧hX v0=true∧v=v0.cl):=by
 rw[aA.get_clear] at h;refine ocs (aA.get σ x) (fun hg=>?_) fun o hg=>?_
 ·rw[hg] at h;exact ns h
 ·try rewrite[hg]
  rw[hg] at h;have h:=Option.some.inj h;cases o with
  |none=>revert h;cases xs.contains x<;>exact fun h=>by exact ns h
  |some v0 =>
   refine⟨v0,rfl,?_⟩
   revert h
   cases xs.contains x with
   |false=>exact fun h=>.inl ⟨(Option.some.inj h).symm,fun h=>by exact bft h⟩
   |true =>
    intro h;have h:v0.cl=v:=Option.some.inj h;cases v0 with
    |own d=>exact .inr ⟨rfl,rfl,h.symm⟩
    |pil d=>exact .inr ⟨rfl,rfl,h.symm⟩
    |_=>exact .inl ⟨h.symm,fun _=>rfl⟩
theorem cZ.ow{h:Heap}{u:Value}{v:V}{a:Addr}(x:cZ h u v a):hX v=true:=by
 cases v with
 |own d=>rfl
 |pil d=>rfl
 |_=>exact x.elim
theorem b9.clr{l:List Env}{h:Heap}{av av':Addr→Prop}{u:Value}{v:V}(ha:∀ b,av' b→av b)(hn:∀ a,cZ h u v a→¬ av' a)(ho:hX v=true)(r:b9 O w mg l h av u v):b9 O w mg l h av' u v.cl:=by
 cases v with
 |own d=>obtain⟨a,rfl,_,r⟩:=r;exact bM.rep (hn a rfl) (r.mono (fun _ _ _ e=>e) (fun b _ _ h=>ha b h) fun _ e=>e)
 |pil ds =>
  obtain⟨a,bs,rfl,na,p,hl,z,nd,nab,nf,r⟩:=r;refine Rep.list (vs:=bs.map Value.ref) (hn a (Or.inl rfl)) p (by rw[List.length_map];exact hl) (by rw[List.length_map];exact z) fun i v d e1 e2=>?_;rw[List.getElem?_map] at e1;obtain⟨b,e0,rfl⟩:=bf.mp e1;exact bM.rep (hn b (Or.inr ⟨a,bs,rfl,p,cc e0⟩)) ((r i b d e0 e2).mono (fun _ _ _ e=>e) (fun b _ _ h=>ha b h) fun _ e=>e)
 |_=>exact bft ho
theorem Act.cl{σ:aA}{av:Addr→Prop}{s:Shared}(X:Act O w mg mb base l₀ env sc av₀ s₀ σ av s)(xs:List Str):∃ av1,Act O w mg mb base l₀ env sc av₀ s₀ (aA.cl σ xs) av1 s∧∀ b,av1 b→av b:=by
 let Z:Addr→Prop:=fun b=>∃ x,xs.contains x=true∧OwnN env σ s.heap x b
 have back:∀ x a,OwnN env (aA.cl σ xs) s.heap x a→xs.contains x=false∧OwnN env σ s.heap x a:=fun x a h=>by
  obtain⟨v,u,h,hv,ho⟩:=h;obtain⟨v0,hg,⟨rfl,hc⟩ | ⟨_,_,rfl⟩⟩:=Ba h
  ·exact⟨Bool.not_eq_true _▸fun h=>btf (ho.ow.symm.trans (hc h)),v,u,hg,hv,ho⟩
  ·exact btf (ho.ow.symm.trans zE)
 have nZ:∀ b,(s₀.heap.get? b≠none∨av₀ b∨Mn env b)→¬ Z b:=by
  rintro b hb ⟨x,_,h⟩
  obtain⟨_,h2,h3,h4⟩:=X.ownA x b h;rcases hb with hb | hb | hb
  ·exact hb h2
  ·exact h3 hb
  ·exact h4 hb
 have hmods:s₀.heap.get? sysModules≠none:=fun e=>by
  obtain⟨mm,o,es,ep,h,_⟩:=X.inv.gnd.glo.mods;rw[X.stay0 _ _ h] at e;exact sn e
 refine⟨fun b=>av b∧¬ Z b,{ X with inv:=?_,bas:=fun b hb=>⟨X.bas b hb,nZ b (.inr (.inl hb))⟩,fresh:=fun b h=>by obtain⟨h1,h2⟩:=X.fresh b h;exact⟨⟨h1,nZ b (.inr (.inr h))⟩,h2⟩,names:=fun x v h=>?_,ownA:=fun x a h=>?_,ownI:=fun x y a h1 h2=>X.ownI x y a (back x a h1).2 (back y a h2).2 },fun b h=>h.1⟩
 ·refine { X.inv with gnd:={ X.inv.gnd with fav:=fun b h=>?_,avlt:=fun b hb=>X.inv.gnd.avlt b hb.1,avS:=⟨X.inv.gnd.avS,nZ _ (.inl hmods)⟩,avB:=fun b o h e=>X.inv.gnd.avB b o h.1 e },get:=fun x v hl hg=>?_ }
  ·refine⟨X.inv.gnd.fav b h,nZ b ?_⟩;rcases(jM X.frm).mp h with h | h
   ·exact .inr (.inr (.inl h))
   ·exact .inr (.inl (X.fr0 b h).1)
  ·obtain⟨v0,hg0,⟨rfl,hc⟩ | ⟨hc,ho,rfl⟩⟩:=Ba hg
   ·obtain⟨u,h1,h2⟩:=X.inv.get x v hl hg0;exact⟨u,h1,h2.mono' (fun _ _ n e=>e) (fun _ _ _ h=>h.1) fun _ _ _ e=>e⟩
   ·obtain⟨u,h1,r⟩:=X.inv.get x _ hl hg0;exact⟨u,h1,r.clr (fun _ h=>h.1) (fun a ha h=>h.2 ⟨x,hc,_,_,hg0,h1,ha⟩) ho⟩
 ·rw[aA.get_clear] at h;obtain⟨v0,hg,_⟩:=bf.mp h;exact X.names x v0 hg
 ·obtain⟨hc,h⟩:=back x a h;obtain⟨h1,h2⟩:=X.ownA x a h;exact⟨⟨h1,fun hh=>by obtain⟨y,hcy,hy⟩:=hh;exact by rw[X.ownI x y a h hy,hcy] at hc;exact btf hc⟩,h2⟩
theorem Act.weaken{av₁:Addr→Prop}{σ:aA}{av:Addr→Prop}{s:Shared}(X:Act O w mg mb base l₀ env sc av₁ s₀ σ av s)(h:∀ b,av₀ b→av₁ b)(hf:∀ b,frs l₀ b→av₀ b):Act O w mg mb base l₀ env sc av₀ s₀ σ av s :=
 { X with fr0:=fun b hb=>⟨hf b hb,(X.fr0 b hb).2⟩,bas:=fun b hb=>X.bas b (h b hb),fresh:=fun b hb=>by obtain⟨h1,h2,h3⟩:=X.fresh b hb;exact⟨h1,h2,fun x=>h3 (h b x)⟩,ownA:=fun x a hb=>by obtain⟨h1,h2,h3,h4⟩:=X.ownA x a hb;exact⟨h1,h2,fun x=>h3 (h a x),h4⟩ }
theorem Act.pin{σ:aA}{av S:Addr→Prop}{s s':Shared}(X:Act O w mg mb base l₀ env sc av₀ s₀ σ av s)(k:K (env::l₀) s s')(hn:∀ a,S a→s.heap.get? a=none)(hl:∀ a,S a→∃ o,s'.heap.get? a=some o) :
  Act O w mg mb base l₀ env sc (fun b=>av₀ b∨S b) s₀ σ (fun b=>av b∨S b) s':=by
 have Y:=X.growS k hn hl;refine { Y with fr0:=fun b h=>by obtain⟨h1,h2⟩:=X.fr0 b h;exact⟨.inl h1,h2⟩,bas:=fun b hb=>hb.imp (X.bas b) id,fresh:=fun b h=>by obtain⟨h1,h2,h3⟩:=Y.fresh b h;exact⟨h1,h2,fun x=>x.elim h3 fun x=>(X.newNot (hn b x)).1 h⟩,ownA:=fun x a h=>?_ };obtain⟨h1,h2,h3,h4⟩:=X.ownA x a (X.ownK k h);exact⟨.inl h1,h2,fun x=>x.elim h3 fun x=>(X.newNot (hn a x)).2.1 h1,h4⟩
theorem Act.gndS{σ:aA}{av av' S:Addr→Prop}{s:Shared}{h':Heap}{tk:Nat}(X:Act O w mg mb base l₀ env sc av₀ s₀ σ av s)(h0:∀ b,S b→s₀.heap.get? b=none)(hs:∀ b o,¬ S b→s.heap.get? b=some o→h'.get? b=some o)
  (hL:∃ m,h'.Ns env.locals m)
  (h1:∀ b,av' b→av b) (h2:∀ b,av b→¬ S b→av' b) (h3:∀ b,av' b→S b→∃ o,h'.get? b=some o) (h4:∀ b,frs (env::l₀) b→av' b):Gnd O w mg mb base (env::l₀) av' { s with heap:=h',toks:=tk }∧K l₀ s₀ { s with heap:=h',toks:=tk }:=by
 have hbase:∀ b o,base.get? b=some o→¬ S b:=fun b o e h=>by have:=X.stay0 b o e;rw[h0 b h] at this;cases this
 refine⟨{ X.inv.gnd with stay:=fun b o e=>hs b o (hbase b o e) (X.inv.gnd.stay b o e),ff:=?_,fav:=h4,avlt:=fun b hb=>?_,avS:=h2 _ X.inv.gnd.avS ?_,avB:=fun b o h e=>X.inv.gnd.avB b o (h1 b h) e },?_⟩
 ·refine FunFrames.to X.inv.gnd.ff fun b o f e hd=>?_;rcases(jM X.frm).mp f with f | f
  ·obtain⟨m,o',es,ep,e',d',_⟩:=hL;exact⟨o',f▸e',fun vs q=>by rw[d'] at q;cases q⟩
  ·exact⟨o,hs b o (fun x=>by obtain⟨_,o',e'⟩:=X.fr0 b f;rw[h0 b x] at e';cases e') e,hd⟩
 ·by_cases hb':S b
  ·exact h3 b hb hb'
  ·obtain⟨o,e⟩:=X.inv.gnd.avlt b (h1 b hb);exact⟨o,hs b o hb' e⟩
 ·obtain⟨mm,o,es,ep,e,_⟩:=X.inv.gnd.glo.mods;exact hbase _ _ e
 ·obtain⟨h,t,rfl,k,u⟩:=X.k0;exact⟨h',tk,rfl,fun b o n e=>hs b o (fun x=>by rw[h0 b x] at e;cases e) (k b o n e),fun b o e=>by obtain⟨sl,e1⟩:=u b o e;exact⟨sl,hs b _ (fun x=>by rw[h0 b x] at e;cases e) e1⟩⟩
end
section
variable {O:Program} {w:World} {mg mb:Str→Option Value} {base:Heap} {l₀:List Env} {env:Env} {sc:Scope} {av₀:Addr→Prop} {s₀:Shared}
theorem Act.upd{σ σ':aA}{av av' S:Addr→Prop}{s:Shared}{h':Heap}{tk:Nat}(X:Act O w mg mb base l₀ env sc av₀ s₀ σ av s)(h0:∀ b,S b→s₀.heap.get? b=none)(hs:∀ b o,¬ S b→s.heap.get? b=some o→h'.get? b=some o)
  (hL:∃ m,h'.Ns env.locals m) (hC:∀ x c,env.cells.lookup x=some c→∃ v,h'.IsCell c v) (h1:∀ b,av' b→av b) (h2:∀ b,av b→¬ S b→av' b) (h3:∀ b,av' b→S b→∃ o,h'.get? b=some o) (h4:∀ b,av₀ b→av' b) (hM:∀ b,Mn env b→av' b)
  (hN:∀ x v,aA.get σ' x=some v→∃ v0,aA.get σ x=some v0) (hG:∀ x v,isL sc x=true→aA.get σ' x=some (some v)→∃ u,bB env h' x u∧b9 O w mg (env::l₀) h' av' u v)
  (hA:∀ x a,OwnN env σ' h' x a→av' a∧s₀.heap.get? a=none∧¬ av₀ a∧¬ Mn env a) (hI:∀ x y a,OwnN env σ' h' x a→OwnN env σ' h' y a→x=y):Act O w mg mb base l₀ env sc av₀ s₀ σ' av' { s with heap:=h',toks:=tk }:=by
 have g:=X.gndS (tk:=tk) h0 hs hL h1 h2 h3 fun b f=>((jM X.frm).mp f).elim (fun f=>hM b (.inl f)) fun f=>h4 b (X.fr0 b f).1;exact { X with inv:={ X.inv with gnd:=g.1,get:=hG },k0:=g.2,bas:=h4,ns:=hL,cells:=fun x c e=>⟨(X.cells x c e).1,hC x c e⟩,fresh:=fun b h=>⟨hM b h,(X.fresh b h).2⟩,names:=fun x v h=>by obtain⟨v0,e⟩:=hN x v h;exact X.names x v0 e,ownA:=hA,ownI:=hI }
theorem Act.wildS{σ:aA}{av av' S:Addr→Prop}{s:Shared}{h':Heap}{tk:Nat}(X:Act O w mg mb base l₀ env sc av₀ s₀ σ av s)(hS:∀ b,S b→av b)(h0:∀ b,S b→s₀.heap.get? b=none)(hM:∀ b,Mn env b→¬ S b)
  (ho:∀ x a,OwnN env σ s.heap x a→¬ S a) (hs:∀ b o,¬ S b→s.heap.get? b=some o→h'.get? b=some o)
  (h1:∀ b,av' b→av b) (h2:∀ b,av b→¬ S b→av' b) (h3:∀ b,av' b→S b→∃ o,h'.get? b=some o) (h4:∀ b,av₀ b→av' b):Act O w mg mb base l₀ env sc av₀ s₀ σ av' { s with heap:=h',toks:=tk }:=by
 have hvar:∀ y u,bB env s.heap y u→bB env h' y u:=fun y u h=>h.kept fun b o m e=>hs b o (hM b m) e;have kp:∀ y a,OwnN env σ s.heap y a→∀ o,s.heap.get? a=some o→h'.get? a=some o:=fun y a h o e=>hs a o (ho y a h) e;refine X.upd h0 hs (by obtain⟨m,hn⟩:=X.ns;exact⟨m,hn.at' fun o e=>hs _ o (hM _ (.inl rfl)) e⟩) (fun y c e=>by obtain⟨_,v,o,e1,e2⟩:=X.cells y c e;exact⟨v,o,hs c o (hM c (.inr ⟨y,e⟩)) e1,e2⟩) h1 h2 h3 h4 (fun b h=>h2 b (X.fresh b h).1 (hM b h)) (fun x v h=>⟨v,h⟩) (fun x v hl hg=>?_)
  (fun x a h=>?_) fun x y a hx hy=>X.ownI x y a (X.ownBack (hvar x) (kp x) hx) (X.ownBack (hvar y) (kp y) hy)
 ·obtain⟨u,g1,g2⟩:=X.inv.get x v hl hg;refine⟨u,hvar _ _ g1,g2.mono' (fun b o n e=>hs b o (fun h=>n (hS b h)) e) (fun b _ _ h=>h1 b h) fun a ha o e=>hs a o (ho x a ⟨_,_,hg,g1,ha⟩) e⟩
 ·have h:=X.ownBack (hvar x) (kp x) h;obtain⟨q1,q2⟩:=X.ownA x a h;exact⟨h2 a q1 (ho x a h),q2⟩
theorem aA.get_set(x:Str)(u:V)(y:Str):∀ σ:aA,aA.get (aA.set σ x u) y=if y=x then (aA.get σ x).map (fun _=>some u) else aA.get σ y
 | []=>by
  show none=if y=x then none else none
  split<;>rfl
 | (z,v)::r=>by
  have ih:=aA.get_set x u y r
  by_cases hxz:x=z
  ·subst hxz;have e:aA.set ((x,v)::r) x u=(x,some u)::r:=if_pos rfl;rw[e]
   by_cases hy:y=x
   ·subst hy;rw[aA.get_cons_eq,if_pos rfl,aA.get_cons_eq];rfl
   ·rw[aA.get_cons_ne hy,if_neg hy,aA.get_cons_ne hy]
  ·have e:aA.set ((z,v)::r) x u=(z,v)::aA.set r x u:=if_neg hxz;rw[e,aA.get_cons_ne hxz]
   by_cases hy:y=z
   ·subst hy;rw[aA.get_cons_eq,if_neg (fun h=>hxz h.symm),aA.get_cons_eq]
   ·rw[aA.get_cons_ne hy,ih,aA.get_cons_ne hy]
theorem jN{σ:aA}{x y:Str}{u:V}{o:Option V}(hy:y≠x)(h:aA.get (aA.set σ x u) y=some o):aA.get σ y=some o:=by
 rw[aA.get_set,if_neg hy] at h;exact h
theorem kU{σ:aA}{x:Str}{u w:V}(h:aA.get (aA.set σ x u) x=some (some w)):w=u:=by
 rw[aA.get_set,if_pos rfl] at h;refine ocs (aA.get σ x) (fun hg=>?_) fun o hg=>?_
 ·rw[hg] at h;exact ns h
 ·rw[hg] at h;cases h;rfl
theorem Bb{σ:aA}{x y:Str}{u:V}{o:Option V}(h:aA.get (aA.set σ x u) y=some o):∃ v0,aA.get σ y=some v0:=by
 by_cases hy:y=x
 ·subst hy;rw[aA.get_set,if_pos rfl] at h;refine ocs (aA.get σ y) (fun hg=>?_) fun o hg=>?_
  ·rw[hg] at h;exact ns h
  ·try rewrite[hg]
   exact⟨o,rfl⟩
 ·exact⟨o,jN hy h⟩
theorem Act.put1{σ:aA}{av:Addr→Prop}{s:Shared}{x:Str}{u:Value}{v:V}{p:Addr}{h':Heap}{tk:Nat}(X:Act O w mg mb base l₀ env sc av₀ s₀ σ av s)(hv:b9 O w mg (env::l₀) s.heap av u v)
  (ho:∀ a,cZ s.heap u v a→av a∧s₀.heap.get? a=none∧¬ av₀ a∧¬ Mn env a∧∀ y,y≠x→¬ OwnN env σ s.heap y a) (hp:Mn env p) (hs:Heap.SameBut p s.heap h') (hns:∃ m,h'.Ns env.locals m) (hcells:∀ y c,env.cells.lookup y=some c→∃ v,h'.IsCell c v)
  (hvx:bB env h' x u) (hvy:∀ y w',y≠x→bB env s.heap y w'→bB env h' y w'):Act O w mg mb base l₀ env sc av₀ s₀ (aA.set σ x v) av { s with heap:=h',toks:=tk }:=by
 have kept:∀ b o,¬ b=p→s.heap.get? b=some o→h'.get? b=some o:=fun b o hb e=>by simp only[hs.2 b hb];exact e
 obtain⟨p1,p2,p3⟩:=X.fresh p hp;have kpx:∀ a,cZ s.heap u v a→∀ o,s.heap.get? a=some o→h'.get? a=some o:=fun a ha o e=>kept a o (fun h=>(ho a ha).2.2.2.1 (h▸hp)) e;have kpy:∀ y a,OwnN env σ s.heap y a→∀ o,s.heap.get? a=some o→h'.get? a=some o:=fun y a h o e=>kept a o (fun h'=>(X.ownA y a h).2.2.2 (h'▸hp)) e;have back:∀ y a,OwnN env (aA.set σ x v) h' y a→(y=x∧cZ s.heap u v a)∨(y≠x∧OwnN env σ s.heap y a):=fun y a h=>by
  obtain⟨v',u',hg,hv',hh⟩:=h
  by_cases hy:y=x
  ·subst hy;obtain rfl:=kU hg;obtain rfl:=bB.uniq hvx hv';exact .inl ⟨rfl,hh.same hv kpx⟩
  ·have hg:=jN hy hg;exact .inr ⟨hy,X.ownBack1 hg (fun u=>hvy y u hy) (kpy y) hv' hh⟩
 refine X.upd (S:=fun b=>b=p) (fun b h=>h▸p2) kept hns hcells (fun _ h=>h) (fun _ h _=>h) (fun b _ h=>?_) X.bas (fun b h=>(X.fresh b h).1) (fun _ _ h=>Bb h) (fun y w' hl h=>?_) (fun y a h=>?_) fun y z a h1 h2=>?_
 ·subst h;rcases hp with rfl | ⟨y,h⟩
  ·obtain⟨m,o,es,ep,e,_⟩:=hns;exact⟨o,e⟩
  ·obtain⟨v,o,e,_⟩:=hcells y b h;exact⟨o,e⟩
 ·have hk:∀ b o,¬ av b→s.heap.get? b=some o→h'.get? b=some o:=fun b o n e=>kept b o (fun h=>n (h▸p1)) e
  by_cases hy:y=x
  ·subst hy;cases kU h;exact⟨u,hvx,hv.mono' hk (fun _ _ _ h=>h) kpx⟩
  ·have h:=jN hy h;obtain⟨u',h1,h2⟩:=X.inv.get y w' hl h;exact⟨u',hvy y u' hy h1,h2.mono' hk (fun _ _ _ h=>h) fun a ha=>kpy y a ⟨_,_,h,h1,ha⟩⟩
 ·rcases back y a h with ⟨_,h⟩ | ⟨_,h⟩
  ·obtain⟨q1,q2,q3,q4,_⟩:=ho a h;exact⟨q1,q2,q3,q4⟩
  ·exact X.ownA y a h
 ·rcases back y a h1 with ⟨ey,h1⟩ | ⟨ny,h1⟩
  ·rcases back z a h2 with ⟨ez,_⟩ | ⟨nz,h2⟩
   ·simp only[ey,ez]
   ·exact absurd h2 ((ho a h1).2.2.2.2 z nz)
  ·rcases back z a h2 with ⟨ez,h2⟩ | ⟨nz,h2⟩
   ·exact absurd h1 ((ho a h2).2.2.2.2 y ny)
   ·exact X.ownI y z a h1 h2
theorem Act.put{A:Around}{E:Value→Shared→Prop}{σ:aA}{av:Addr→Prop}{s:Shared}{x:Str}{v0:Option V}{u:Value}{v:V}{Q:Unit→Shared→Prop}(X:Act O w mg mb base l₀ env sc av₀ s₀ σ av s)(hx:aA.get σ x=some v0)(hv:b9 O w mg (env::l₀) s.heap av u v)
  (ho:∀ a,cZ s.heap u v a→av a∧s₀.heap.get? a=none∧¬ av₀ a∧¬ Mn env a∧∀ y,y≠x→¬ OwnN env σ s.heap y a)
  (hq:∀ s',Act O w mg mb base l₀ env sc av₀ s₀ (aA.set σ x v) av s'→(∀ b o,¬ Mn env b→s.heap.get? b=some o→s'.heap.get? b=some o)→bB env s'.heap x u→(∀ y w',y≠x→bB env s.heap y w'→bB env s'.heap y w')→Q () s'):wpAny (model O w) A (storeName env x u) Q E s:=by
 obtain⟨hlx,hkx⟩:=X.names x v0 hx;have hp:(env.scope.kind==.class||(env.scope.kind==.module&&env.locals != env.globals))=false:=by rw[X.inv.kind];rfl
 have fin:∀ (p:Addr) (h':Heap) (tk:Nat),Mn env p→Heap.SameBut p s.heap h'→(∃ m,h'.Ns env.locals m)→(∀ y c,env.cells.lookup y=some c→∃ v,h'.IsCell c v) →
   bB env h' x u→(∀ y w',y≠x→bB env s.heap y w'→bB env h' y w')→Q () { s with heap:=h',toks:=tk }:=fun p h' tk m hs hns hc hvx hvy =>
  hq _ (X.put1 hv ho m hs hns hc hvx hvy) (fun b o n e=>by rw[hs.2 b fun h=>n (h▸m)];exact e) hvx hvy
 obtain⟨m,hn⟩:=X.ns;rcases hkx with hk | ⟨hk,c,hc⟩
 ·refine wpAny_storeName_local hk hn (fun h' hn' hs'=>?_) hp;refine fin env.locals h' _ (.inl rfl) hs' ⟨_,hn'⟩ (fun y c e=>?_) (.inl ⟨hk,_,hn',by simp⟩) fun y w' hy hv'=>?_
  ·obtain⟨q3,v,o,e1,e2⟩:=X.cells y c e;exact⟨v,o,by rw[hs'.2 c q3];exact e1,e2⟩
  ·rcases hv' with ⟨k',m',hn2,e⟩ | ⟨k',c',e,o,e1,e2⟩
   ·have:m'=m:=hn2.eq_nsMap.trans hn.eq_nsMap.symm;subst this;exact .inl ⟨k',_,hn',by simp[hy,e]⟩
   ·exact .inr ⟨k',c',e,o,by rw[hs'.2 c' (X.cells y c' e).1];exact e1,e2⟩
 ·obtain⟨q3,v1,q4⟩:=X.cells x c hc;refine wpAny_storeName_cell X.inv.kind hk hc q4 fun h' hc' hs'=>?_;have hn':h'.Ns env.locals m:=hn.at' fun o e=>by rw[hs'.2 _ (fun h=>q3 h.symm)];exact e
  refine fin c h' _ (.inr ⟨x,hc⟩) hs' ⟨m,hn'⟩ (fun y c' e=>?_) (.inr ⟨.inl hk,c,hc,hc'⟩) fun y w' hy hv'=>?_
  ·by_cases hcc:c'=c
   ·subst hcc;exact⟨_,hc'⟩
   ·obtain⟨_,v,o,e1,e2⟩:=X.cells y c' e;exact⟨v,o,by rw[hs'.2 c' hcc];exact e1,e2⟩
  ·rcases hv' with ⟨k',m',hn2,e⟩ | ⟨k',c',e,o,e1,e2⟩
   ·have:m'=m:=hn2.eq_nsMap.trans hn.eq_nsMap.symm;subst this;exact .inl ⟨k',_,hn',e⟩
   ·have hcc:c'≠c:=fun h=>hy (X.capart y x c (h▸e) hc);exact .inr ⟨k',c',e,o,by rw[hs'.2 c' hcc];exact e1,e2⟩
theorem bM.live{h:Heap}{av:Addr→Prop}{a:Addr}{d:PyData}(r:bM O w h av a d):∃ o,h.get? a=some o:=by
 cases d with
 |list ds=>obtain⟨vs,⟨n,e⟩,_⟩:=r;exact⟨_,e⟩
 |dict ds=>obtain⟨kvs,⟨o,es,ep,e,_⟩,_⟩:=r;exact⟨_,e⟩
 |_=>exact r.elim
theorem Act.mutG{σ:aA}{av S:Addr→Prop}{s:Shared}{x:Str}{v v':V}{u:Value}{h':Heap}{tk:Nat}(X:Act O w mg mb base l₀ env sc av₀ s₀ σ av s)(hx:aA.get σ x=some (some v))(hv:bB env s.heap x u)
  (hS:∀ a,S a→cZ s.heap u v a) (hs:∀ b o,¬ S b→s.heap.get? b=some o→h'.get? b=some o) (hlv:∀ a,S a→∃ o,h'.get? a=some o) (hH:∀ a,cZ h' u v' a→cZ s.heap u v a) (hb:b9 O w mg (env::l₀) h' av u v'):Act O w mg mb base l₀ env sc av₀ s₀ (aA.set σ x v') av { s with heap:=h',toks:=tk }:=by
 have hox:∀ a,S a→OwnN env σ s.heap x a:=fun a h=>⟨_,_,hx,hv,hS a h⟩
 have nM:∀ b,Mn env b→¬ S b:=fun b m h=>(X.ownA x b (hox b h)).2.2.2 m;have hvar:∀ y u,bB env s.heap y u→bB env h' y u:=fun y u h=>h.kept fun b o m e=>hs b o (nM b m) e;have kpy:∀ y,y≠x→∀ a,OwnN env σ s.heap y a→∀ o,s.heap.get? a=some o→h'.get? a=some o:=fun y hy a h o e=>hs a o (fun ha=>hy (X.ownI y x a h (hox a ha))) e;have back:∀ y b,OwnN env (aA.set σ x v') h' y b→OwnN env σ s.heap y b:=fun y b h=>by
  obtain⟨v2,u2,hg,h,hh⟩:=h
  by_cases hy:y=x
  ·subst hy;obtain rfl:=kU hg;obtain rfl:=bB.uniq (hvar _ _ hv) h;exact⟨_,_,hx,hv,hH b hh⟩
  ·exact X.ownBack1 (jN hy hg) (hvar y) (kpy y hy) h hh
 refine X.upd (S:=S) (fun b h=>(X.ownA x b (hox b h)).2.1) hs (by obtain⟨m,hn⟩:=X.ns;exact⟨m,hn.at' fun o e=>hs _ o (nM _ (.inl rfl)) e⟩) (fun y c e=>by obtain⟨_,v,o,e1,e2⟩:=X.cells y c e;exact⟨v,o,hs c o (nM c (.inr ⟨y,e⟩)) e1,e2⟩) (fun _ h=>h) (fun _ h _=>h) (fun b _ h=>hlv b h) X.bas
  (fun b h=>(X.fresh b h).1) (fun _ _ h=>Bb h) (fun y w' hl h=>?_) (fun y b h=>X.ownA y b (back y b h)) fun y z b h1 h2=>X.ownI y z b (back y b h1) (back z b h2)
 by_cases hy:y=x
 ·subst hy;cases kU h;exact⟨u,hvar _ _ hv,hb⟩
 ·have h:=jN hy h;obtain⟨u',h1,h2⟩:=X.inv.get y w' hl h;exact⟨u',hvar _ _ h1,h2.mono' (fun b o n e=>hs b o (fun h=>n (X.ownA x b (hox b h)).1) e) (fun _ _ _ h=>h) fun b hb o e=>kpy y hy b ⟨_,_,h,h1,hb⟩ o e⟩
theorem Act.mut{σ:aA}{av:Addr→Prop}{s:Shared}{x:Str}{d d':PyData}{a:Addr}{h':Heap}{tk:Nat}(X:Act O w mg mb base l₀ env sc av₀ s₀ σ av s)(hx:aA.get σ x=some (some (.own d)))(hv:bB env s.heap x (.ref a))
  (hs:Heap.SameBut a s.heap h') (hb:bM O w h' av a d'):Act O w mg mb base l₀ env sc av₀ s₀ (aA.set σ x (.own d')) av { s with heap:=h',toks:=tk }:=by
 refine X.mutG (S:=fun b=>b=a) hx hv (fun b h=>h▸rfl) (fun b o hb e=>(hs.2 b hb).trans e) (fun b h=>h▸hb.live) (fun b h=>h) ⟨a,rfl,?_,hb⟩;exact X.ownFr ⟨_,_,hx,hv,rfl⟩
end
section
variable {O:Program} {w:World} {mg mb:Str→Option Value} {base:Heap} {n:Nat} {hd:Bool} {l₀:List Env} {env:Env} {sc:Scope} {av₀:Addr→Prop} {s₀:Shared} {σ:aA} {av:Addr→Prop} {s:Shared}
structure Fr(l:List Env)(av₀:Addr→Prop)(s:Shared)(av:Addr→Prop)(s':Shared)(av':Addr→Prop):Prop where
 keep:∀ b o,s.heap.get? b=some o→¬ av b→s'.heap.get? b=some o
 grow:∀ b o,s.heap.get? b=some o→av' b→av b
 pins:∀ b o,av₀ b→¬ frs l b→s.heap.get? b=some o→s'.heap.get? b=some o
theorem Fr.tr{l:List Env}{s s' s'':Shared}{av av' av'':Addr→Prop}(x:Fr l av₀ s av s' av')(y:Fr l av₀ s' av' s'' av''):Fr l av₀ s av s'' av'' where
 keep:=fun b o e hb=>y.keep b o (x.keep b o e hb) fun h=>hb (x.grow b o e h)
 grow:=fun b o e h=>Classical.byContradiction fun hb=>hb (x.grow b o e (y.grow b o (x.keep b o e hb) h))
 pins:=fun b o hb n e=>y.pins b o hb n (x.pins b o hb n e)
theorem Fr.rf(l:List Env)(s:Shared)(av:Addr→Prop):Fr l av₀ s av s av:=⟨fun _ _ e _=>e,fun _ _ _ h=>h,fun _ _ _ _ e=>e⟩
theorem Fr.sub{l:List Env}{s:Shared}{av av1:Addr→Prop}(h:∀ b,av1 b→av b):Fr l av₀ s av s av1:=⟨fun _ _ e _=>e,fun b _ _ x=>h b x,fun _ _ _ _ e=>e⟩
theorem Fr.weaken{l:List Env}{av₁:Addr→Prop}{s s':Shared}{av av':Addr→Prop}(h:∀ b,av₀ b→av₁ b)(x:Fr l av₁ s av s' av'):Fr l av₀ s av s' av':=⟨x.keep,x.grow,fun b o hb n e=>x.pins b o (h b hb) n e⟩
theorem Fr.ofK{l:List Env}{s s':Shared}{av:Addr→Prop}(fav:∀ b,frs l b→av b)(k:K l s s'):Fr l av₀ s av s' av:=⟨fun b o e n=>k.at (fun f=>n (fav b f)) e,fun _ _ _ h=>h,fun b o _ n e=>k.at n e⟩
theorem Act.frk(X:Act O w mg mb base l₀ env sc av₀ s₀ σ av s){s':Shared}(k:K (env::l₀) s s'):Fr (env::l₀) av₀ s av s' av:=Fr.ofK X.inv.gnd.fav k
theorem Act.frPut(X:Act O w mg mb base l₀ env sc av₀ s₀ σ av s){s':Shared}(f:∀ b o,¬ Mn env b→s.heap.get? b=some o→s'.heap.get? b=some o):Fr (env::l₀) av₀ s av s' av :=
 ⟨fun b o e n=>f b o (fun m=>n (X.fresh b m).1) e,fun _ _ _ h=>h,fun b o hb _ e=>f b o (fun m=>(X.fresh b m).2.2 hb) e⟩
theorem Act.frMut(X:Act O w mg mb base l₀ env sc av₀ s₀ σ av s){s':Shared}{x:Str}{d:PyData}{a:Addr}(hx:aA.get σ x=some (some (.own d)))(hv:bB env s.heap x (.ref a))(hs:Heap.SameBut a s.heap s'.heap):Fr (env::l₀) av₀ s av s' av :=
 have hk:∀ b o,b≠a→s.heap.get? b=some o→s'.heap.get? b=some o:=fun b o hb e=>by simp only[hs.2 b hb];exact e
 have q:=X.ownA x a ⟨_,_,hx,hv,rfl⟩
 ⟨fun b o e hb=>hk b o (fun h=>hb (h▸q.1)) e,fun _ _ _ h=>h,fun b o hb _ e=>hk b o (fun h=>q.2.2.1 (h▸hb)) e⟩
def Mk(h:Heap)(e:Addr):Prop:=∃ oe vs,h.get? e=some oe∧oe.data=.fields vs∧vs[1]?=some .none
inductive Upx(O:Program)(w:World)(mg:Str→Option Value)(base:Heap)(l₀:List Env)(env:Env)(s₀:Shared)(av₀:Addr→Prop)(x:X)(v:Value)(s':Shared):Prop where
 |mk (k:K l₀ s₀ s') (ff:s'.heap.FunFrames base (env::l₀)) (st:∀ b o,base.get? b=some o→s'.heap.get? b=some o) (e:Addr) (a:v=.ref e) (n:s₀.heap.get? e=none) (xa:ExAt O w mg s'.heap (fun b=>av₀ b∨frs (env::l₀) b) e x) (t:Tb s₀ s'.heap e .none∨Mk s'.heap e):Upx O w mg base l₀ env s₀ av₀ x v s'
theorem Upx.weaken{av₁:Addr→Prop}{x:X}{v:Value}{s':Shared}(h:∀ b,av₀ b→av₁ b)(u:Upx O w mg base l₀ env s₀ av₁ x v s'):Upx O w mg base l₀ env s₀ av₀ x v s' :=
 by obtain⟨h1,h2,h3,e,h4,h5,h6,h7⟩:=u;exact⟨h1,h2,h3,e,h4,h5,h6.mono (fun _ _ _ e=>e) fun b _ _ x=>x.imp (h b) id,h7⟩
theorem Act.up(X:Act O w mg mb base l₀ env sc av₀ s₀ σ av s){x:Internal.X}{v:Value}{s':Shared}(f:Fly O w mg (env::l₀) s av x v s'):Upx O w mg base l₀ env s₀ av₀ x v s':=by
 obtain⟨k,e,h1,h2,h3,oe,vs,T,oT,ts,g1,g2,g3,g4,g5,g6,g7,g8⟩:=f;have Y:=X.k k;exact⟨Y.k0,Y.inv.gnd.ff,Y.inv.gnd.stay,e,h1,X.k0.non h2,h3.mono (fun _ _ _ e=>e) fun b _ _ x=>x.elim (X.bas b) (X.inv.gnd.fav b),.inl ⟨oe,vs,T,oT,ts,g1,g2,g3,X.k0.non g4,g5,g6,g7,g8⟩⟩
variable (O w mg mb base) in
def aS(n:Nat)(hd:Bool)(l₀:List Env)(env:Env)(sc:Scope)(s₀:Shared)(σ:aA)(t:Sem Flow)(r:KN→KR→R V):Prop :=
 ∀ (av₀:Addr→Prop) (A:Around) (s:Shared) (av:Addr→Prop),Room base n hd (env::l₀) A→Act O w mg mb base l₀ env sc av₀ s₀ σ av s →
  ∀ {kn:KN} {kr:KR} {fin:R V} {Q:Flow→Shared→Prop} {E:Value→Shared→Prop},r kn kr=fin→fin≠.no→PassesOwn (model O w) A env E →
  (∀ s' σ' av',Act O w mg mb base l₀ env sc av₀ s₀ σ' av' s'→Fr (env::l₀) av₀ s av s' av'→kn σ'=fin→Q .next s') →
  (∀ v s' u,K l₀ s₀ s'→bF O w s₀ s'.heap av₀ v u→kr u=fin→Q (.ret v) s') →
  (∀ x v s',fin=.exc x→Upx O w mg base l₀ env s₀ av₀ x v s'→E v s')→wpAny (model O w) A t Q E s
theorem aS.no{t:Sem Flow}:aS O w mg mb base n hd l₀ env sc s₀ σ t fun _ _=>.no:=fun _ _ _ _ _ _ _ _ _ _ _ hf hne _=>absurd hf.symm hne
theorem kW{rec:Stmt→aA→KN→KR→R V}:∀ {b:List Stmt} {σ:aA},(∀ st∈b,∀ σ,aS O w mg mb base n hd l₀ env sc s₀ σ (exec st env) (rec st σ))→aS O w mg mb base n hd l₀ env sc s₀ σ (execs b env) (blk rec b σ)
 | [],σ,_=>fun av₀ A s av hA X _ _ _ _ _ hf hne hp hn hr he=>gd (hn s σ av X (Fr.rf _ s av) hf)
 |st::r,σ,h=>fun av₀ A s av hA X kn kr fin Q E hf hne hp hn hr he=>by
  refine ic (h st ah σ av₀ A s av hA X hf hne hp (fun s' σ' av' Y fr e=>?_) (fun v s' u k r e=>hr v s' u k r e) he);exact kW (b:=r) (fun st hst=>h st (ae _ hst)) av₀ A s' av' hA Y e hne hp (fun s'' σ'' av'' Z fr' e'=>hn s'' σ'' av'' Z (fr.tr fr') e') hr he
theorem bF.out(X:Act O w mg mb base l₀ env sc av₀ s₀ σ av s){h:Heap}{v:Value}{u:V}(r:bF O w s h av v u):bF O w s₀ h av₀ v u:=by
 have r':=r.back X.k0;cases u with
 |ex x=>exact r
 |pil l=>exact r
 |fz d=>exact(show Rep O w h av v d from r).mono (fun _ _ _ e=>e) fun b _ _ x=>X.bas b x
 |own d =>
  obtain⟨a,e,hn,rb⟩:=r';exact⟨a,e,hn,rb.mono (fun _ _ _ e=>e) (fun b _ _ x=>x.imp (X.bas b) id) fun _ e=>e⟩
theorem aH.st{e:Expr}{r:R V}(h:aH O w mg mb base n hd (env::l₀) sc σ e r){A:Around}(hA:Room base n hd (env::l₀) A)(X:Act O w mg mb base l₀ env sc av₀ s₀ σ av s){k:V→R V}{fin:R V}{Q:Value→Shared→Prop}{E:Value→Shared→Prop}(hf:rb r k=fin)(hne:fin≠.no)
  (hq:∀ v s' u,K (env::l₀) s s'→bF O w s s'.heap av v u→k u=fin→Q v s') (he:∀ x v s',fin=.exc x→Upx O w mg base l₀ env s₀ av₀ x v s'→E v s'):wpAny (model O w) A (eval e env) Q E s :=
 h A env s av hA X.inv ⟨hf,hne⟩ hq fun x v s' e f=>he x v s' e (X.up f)
theorem Bc{e:Expr}{pos:Pos}{xs:List Str}{p:R V}(h:aH O w mg mb base n hd (env::l₀) sc (aA.cl σ xs) e p):aS O w mg mb base n hd l₀ env sc s₀ σ (exec (.Return (some e) pos) env) fun _ kr=>rb p kr:=by
 intro av₀ A s av hA X kn kr fin Q E hf hne hp hn hr he;obtain⟨av1,Y,_⟩:=X.cl xs;exact wpAny_Return_some (h.st hA Y hf hne (fun v s' u k r e=>hr v s' u (Y.k k).k0 (r.out Y) e) he)
theorem Bd:∀ σ:aA,aA.cl σ []=σ
 | []=>rfl
 | (_,_)::r=>congrArg _ (Bd r)
theorem O5{ev:EV}{F:Nat}{e:Expr}{pos:Pos}(h:∀ σ,aH O w mg mb base n hd (env::l₀) sc σ e (ev σ e)):aS O w mg mb base n hd l₀ env sc s₀ σ (exec (.Return (some e) pos) env) fun _ kr=>rQ ev F sc σ e kr:=by
 unfold rQ;refine ocs (bH e) (fun hx=>?_) fun x hx=>?_
 ·try rewrite[hx]
  exact Bc (h _)
 ·obtain⟨p,rfl⟩:=dG hx;show aS O w mg mb base n hd l₀ env sc s₀ σ _ fun _ kr=>match kE sc σ x with
   |some d=>kr (.own d)
   |none=>rb (ev σ (.Name x p)) kr
  refine ocs (kE sc σ x) (fun ho=>?_) fun d ho=>?_
  ·try rewrite[ho]
   exact Bc (xs:=[]) (p:=ev σ (.Name x p)) ((Bd σ).symm▸h σ)
  ·try rewrite[ho]
   intro av₀ A s av hA X kn kr fin Q E hf hne hp hn hr he;obtain⟨hl,hg⟩:=Ab ho;obtain⟨u,h1,a,rfl,_,h2⟩:=X.inv.get x _ hl hg;obtain⟨q1,q2,_⟩:=X.ownA x a ⟨_,_,hg,h1,rfl⟩;exact wpAny_Return_some (fZ X.inv hl h1 (hr _ _ (.own d) X.k0 ⟨a,rfl,q2,h2.mono (fun _ _ _ e=>e) (fun b _ _ h=>h.elim (X.bas b) fun h=>h▸q1) fun _ e=>e⟩ hf))
theorem fF{x:Str}{u:V}{σ σ':aA}(h:cL x u σ=.ok σ'):∃ v0,aA.get σ x=some v0∧σ'=aA.set σ x u:=by
 unfold cL at h;refine ocs (aA.get σ x) (fun hg=>?_) fun v0 hg=>?_
 ·rw[hg] at h;exact pno h
 ·try rewrite[hg]
  rw[hg] at h;obtain rfl:=pi h;exact⟨v0,rfl,rfl⟩
theorem cT{α:Type}{p:P α}{k:α→R V}{fin:R V}(h:rb (ofP p) k=fin)(hne:fin≠.no):∃ a,p=.ok a∧k a=fin:=Fin.p ⟨h,hne⟩
theorem Act.bindVal{A:Around}{E:Value→Shared→Prop}{s₁:Shared}{x:Str}{v0:Option V}{v:Value}{u:V}{Q:Unit→Shared→Prop}(X:Act O w mg mb base l₀ env sc av₀ s₀ σ av s)(k:K (env::l₀) s s₁)(r:bF O w s s₁.heap av v u)
  (hx:aA.get σ x=some v0) (hq:∀ s' av',Act O w mg mb base l₀ env sc av₀ s₀ (aA.set σ x u) av' s'→Fr (env::l₀) av₀ s av s' av'→Q () s'):wpAny (model O w) A (storeName env x v) Q E s₁:=by
 cases u with
 |ex x=>exact r.elim
 |pil l=>exact r.elim
 |fz d=>exact(X.k k).put hx (show b9 O w mg (env::l₀) s₁.heap av v (.fz d) from r) (fun _ e=>e.elim) fun s' Y f _ _=>hq s' av Y ((X.frk k).tr ((X.k k).frPut f))
 |own d =>
  obtain⟨a,rfl,hn,rb⟩:=r;have Y:=X.growS (S:=fun b=>b=a) k (fun b h=>h▸hn) fun b h=>h▸rb.live;obtain⟨n1,n2,n3,n4,n5⟩:=X.newNot hn;have g:Fr (env::l₀) av₀ s av s₁ (fun b=>av b∨b=a):=⟨(X.frk k).keep,fun b o e h=>h.elim id (fun h=>by simp only[h,hn] at e;cases e),(X.frk k).pins⟩
  refine Y.put hx (show b9 O w mg (env::l₀) s₁.heap _ (.ref a) (.own d) from ⟨a,rfl,n5,rb⟩) (fun a' e2=>?_) fun s' Z f _ _=>hq s' _ Z (g.tr (Y.frPut f));obtain rfl:=Value.ref.inj e2;exact⟨.inr rfl,n4,n3,n1,fun y _ h=>n2 (X.ownA y a (X.ownK k h)).1⟩
theorem Be{e:Expr}{x:Str}{p pos:Pos}{xs:List Str}{q:R V}(hs:swapsWith e (some (.Name x p)) pos.line env=pure false)(h:aH O w mg mb base n hd (env::l₀) sc (aA.cl σ xs) e q) :
  aS O w mg mb base n hd l₀ env sc s₀ σ (exec (.Assign [.Name x p] e pos) env) fun kn _=>rb q fun v=>rb (ofP (cL x v (aA.cl σ xs))) kn:=by
 intro av₀ A s av hA X kn kr fin Q E hf hne hp hn hr he;obtain⟨av1,Y,hsub⟩:=X.cl xs;refine wpAny_Assign_Name (h.st hA Y hf hne (fun v s' u k r e=>?_) he) hs;obtain⟨σ',hσ,e⟩:=cT e hne;obtain⟨v0,hg,rfl⟩:=fF hσ;exact Y.bindVal k r hg fun s'' av' Z fr=>hn _ _ _ Z ((Fr.sub hsub).tr fr) e
theorem O6{t:Expr}{b o:List Stmt}{pos:Pos}{xs:List Str}{q:R V}{kb ko:KN→KR→R V}(h:cC O w mg mb base n hd (env::l₀) sc (aA.cl σ xs) t q)
  (hb:aS O w mg mb base n hd l₀ env sc s₀ (aA.cl σ xs) (execs b env) kb) (ho:aS O w mg mb base n hd l₀ env sc s₀ (aA.cl σ xs) (execs o env) ko) :
  aS O w mg mb base n hd l₀ env sc s₀ σ (exec (.If t b o pos) env) fun kn kr=>rb (tst q) fun c=>if c then kb kn kr else ko kn kr:=by
 intro av₀ A s av hA X kn kr fin Q E hf hne hp hn hr he;obtain⟨av1,Y,hsub⟩:=X.cl xs;refine wpAny_If (h A env s av1 hA Y.inv ⟨hf,hne⟩ (fun c s' k e=>?_) fun x v s' e f=>he x v s' e (Y.up f));have fr:Fr (env::l₀) av₀ s av s' av1:=(Fr.sub hsub).tr (Y.frk k);cases c with
 |true=>exact hb av₀ A s' av1 hA (Y.k k) e hne hp (fun s'' σ' av' Z f e'=>hn s'' σ' av' Z (fr.tr f) e') hr he
 |false=>exact ho av₀ A s' av1 hA (Y.k k) e hne hp (fun s'' σ' av' Z f e'=>hn s'' σ' av' Z (fr.tr f) e') hr he
theorem O7{e:Expr}{pos:Pos}{xs:List Str}{q:R V}(hc:fV e=false)(h:aH O w mg mb base n hd (env::l₀) sc (aA.cl σ xs) e q) :
  aS O w mg mb base n hd l₀ env sc s₀ σ (exec (.Expr e pos) env) fun kn _=>rb q fun _=>kn (aA.cl σ xs):=by
 intro av₀ A s av hA X kn kr fin Q E hf hne hp hn hr he;obtain⟨av1,Y,hsub⟩:=X.cl xs;exact wpAny_Expr_any (h.st hA Y hf hne (fun v s' u k r e=>hn _ _ _ (Y.k k) ((Fr.sub hsub).tr (Y.frk k)) e) he) (by unfold interactive;rw[X.inv.kind];rfl) (swz hc)
end
section
variable {O:Program} {w:World} {mg mb:Str→Option Value} {base:Heap} {n:Nat} {hd:Bool} {l₀:List Env} {env:Env} {sc:Scope} {av₀:Addr→Prop} {s₀:Shared} {σ:aA} {av:Addr→Prop} {s:Shared}
theorem s8{x:Str}{d:PyData}(h:iD σ x=.ok d):aA.get σ x=some (some (.own d)):=by
 unfold iD at h;refine ocs (aA.get σ x) (fun hg=>?_) fun o hg=>?_
 ·rw[hg] at h;exact pno h
 ·try rewrite[hg]
  rw[hg] at h;cases o with
  |none=>exact pno h
  |some v =>
   cases v with
   |own d'=>obtain rfl:=pi h;rfl
   |_=>exact pno h
theorem O8{y:Str}{v:Value}{r:List (Str×Value)}{k:Str}(hn:(((y,v)::r).map (·.1)).Nodup):without ((y,v)::r) k=if k=y then r else (y,v)::without r k:=by
 by_cases h:k=y
 ·subst h;rw[if_pos rfl];have hnot:k∉r.map (·.1):=(aw.mp (show(k::r.map (·.1)).Nodup from hn)).1;have:without ((k,v)::r) k=without r k:=by
   unfold without;simp
  rw[this,without_of_not_mem r k hnot]
 ·rw[if_neg h];unfold without;have:(decide ((y,v).1≠k))=true:=by simp;exact fun e=>h e.symm
  rw[List.filter_cons,if_pos this]
theorem KV.del{h:Heap}{av:Addr→Prop}{k:Str}:∀ {kvs:List (Str×Value)} {ds:List (PyData×PyData)},(kvs.map (·.1)).Nodup→KV O w h av kvs ds→KV O w h av (without kvs k) (dK ds k)
 | [],[],_,_=>trivial
 | (y,v0)::r,(dk,d0)::t,hn,x=>by
  obtain⟨x1,x2,x3⟩:=x;have x1:dk=.str y:=x1;subst x1;rw[O8 hn];show KV O w h av _ (if k=y then t else (.str y,d0)::dK t k)
  split
  ·exact x3
  ·exact⟨rfl,x2,KV.del (aw.mp (show(y::r.map (·.1)).Nodup from hn)).2 x3⟩
 | [],_::_,_,x=>x.elim
 |_::_,[],_,x=>x.elim
theorem KV.ps{h:Heap}{av:Addr→Prop}:∀ {kvs:List (Str×Value)} {ds:List (PyData×PyData)} {ps:List (Str×PyData)},KV O w h av kvs ds→(∀ kv∈kvs,kv.1.length≤sizeLine)→keys? ds=some ps→PS O w h av kvs ps
 | [],[],_,_,_,e=>by obtain rfl:=si e;trivial
 | (y,v)::r,(dk,d)::t,ps,x,hz,e=>by
  obtain⟨x1,x2,x3⟩:=x;have x1:dk=.str y:=x1;subst x1;have e:(keys? t).map ((y,d)::·)=some ps:=e;obtain⟨ps',e1,rfl⟩:=bf.mp e;exact⟨rfl,hz _ ah,x2,KV.ps x3 (fun kv h=>hz kv (ae _ h)) e1⟩
 | [],_::_,_,x,_,_=>x.elim
 |_::_,[],_,x,_,_=>x.elim
theorem s9{h:Heap}{a:Addr}{kvs:List (Str×Value)}(x:h.DictOf (strKind O w) a kvs):(kvs.map (·.1)).Nodup:=by
 obtain⟨o,es,ep,_,_,_,_,_,hn⟩:=x;exact hn
theorem fG{h h':Heap}{a:Addr}(ha:av a)(hs:Heap.SameBut a h h')(b:Addr)(o:Obj)(hb:¬ av b)(e:h.get? b=some o):h'.get? b=some o:=by rw[hs.2 b (fun h=>hb (h▸ha))];exact e
theorem oU{h':Heap}{a:Addr}{kvs:List (Str×Value)}{ds:List (PyData×PyData)}(hd:h'.DictOf (strKind O w) a kvs)(hz:kvs.length≤sizeLine∧∀ kv∈kvs,kv.1.length≤sizeLine)(hm:(a==sysModules)=false)(x:KV O w h' av kvs ds):bM O w h' av a (.dict ds) :=
 by obtain⟨g1,g2⟩:=x.out;exact⟨kvs,hd,hz,hm,g1,g2⟩
theorem Bg{A:Around}{a:Addr}{v:Value}{l:List (PyData×PyData)}{k:Str}{d:PyData}{Q:Value→Shared→Prop}{E:Value→Shared→Prop}(ha:av a)(hb:bM O w s.heap av a (.dict l))(r:Rep O w s.heap av v (.str k))(hg:bS l k=some d)
  (hq:∀ u h' tk,Heap.SameBut a s.heap h'→Rep O w h' av u d→bM O w h' av a (.dict (dK l k))→Q u { s with heap:=h',toks:=tk }):wpAny (model O w) A (call (.builtin "dict.pop") [.ref a,v]) Q E s:=by
 obtain⟨kvs,h2,h3,h4,h5,h6⟩:=hb;obtain⟨t,rfl,hkl⟩:=r.str_inv;rcases kR k h5 with ⟨_,hno⟩ | ⟨i,u,d',hu,hd',e1,e2⟩
 ·rw[hno] at hg;exact ns hg
 ·rw[hd'] at hg;obtain rfl:=si hg;refine call_meetsIn F.slot_dict_pop h2.typeIs F.entry_dict_pop (F.args_dict_pop_2 _ _) (meets_dict_pop_there (strKind O w) a (eV k t) [] (.inl rfl) rfl) ⟨kvs,u,h2,h3.1,hu,fun h' hdo hs=>?_⟩;refine hq u h' _ hs ((h6 i _ _ e1 e2).mono (fG ha hs) fun _ _ _ x=>x) (oU hdo ⟨aa (List.length_filter_le _ _) h3.1,fun kv hkv=>h3.2 kv (List.mem_filter.mp hkv).1⟩ h4 ((KV.del (k:=k) (s9 h2) (KV.of h5 h6)).mono (fG ha hs) fun _ _ _ x=>x))
theorem O9{A:Around}{a:Addr}{v:Value}{l:List PyData}{d:PyData}{Q:Value→Shared→Prop}{E:Value→Shared→Prop}(ha:av a)(hb:bM O w s.heap av a (.list l))(rv:Rep O w s.heap av v d)(hl:l.length < bA)
  (hq:∀ h',Heap.SameBut a s.heap h'→bM O w h' av a (.list (l++[d]))→Q .none { s with heap:=h' }):wpAny (model O w) A (call (.builtin "list.append") [.ref a,v]) Q E s:=by
 obtain⟨xs,hp,hxl,hxz,hxr⟩:=hb;refine wpAny_list_append_plain hp (fun h' hp' hs=>hq h' hs ⟨xs++[v],by simpa using hp',by simp[hxl],?_,A6 hxl (fun i u du e1 e2=>(hxr i u du e1 e2).mono (fG ha hs) fun _ _ _ x=>x) (rv.mono (fG ha hs) fun _ _ _ x=>x)⟩) (by simp;exact hxz);have:bA=sizeLine:=rfl;simp only[List.length_append,hxl];exact this▸hl
theorem Pa{A:Around}{a:Addr}{v:Value}{l m:List (PyData×PyData)}{ps:List (Str×PyData)}{Q:Value→Shared→Prop}{E:Value→Shared→Prop}(ha:av a)(hb:bM O w s.heap av a (.dict l))(rv:Rep O w s.heap av v (.dict m))(hk:keys? m=some ps)(hl:l.length+ps.length < 4096)
  (hq:∀ h',Heap.SameBut a s.heap h'→bM O w h' av a (.dict (dA ps l))→Q .none { s with heap:=h' }):wpAny (model O w) A (call (.builtin "dict.update") [.ref a,v]) Q E s:=by
 obtain⟨kvs,h2,h3,h4,h5,h6⟩:=hb;obtain⟨o,mvs,rfl,g1,g2,g3,g4,g5,g6⟩:=rv.dict_inv;have ps':=KV.ps (KV.of g5 g6) g3.2 hk;have e1:kvs.length=l.length:=by have:=congrArg List.length h5;simpa using this.symm
 have e2:mvs.length=ps.length:=ps'.length;have hsz:kvs.length+mvs.length≤sizeLine:=by
  have:sizeLine=16777216:=rfl;exact F7 hl e1 e2 this
 refine call_meetsIn F.slot_dict_update h2.typeIs F.entry_dict_update (F.args_dict_update_2 _ _) (meets_dict_update (strKind O w) a o (fun e=>g1 (e▸ha)) g4) ⟨kvs,mvs,h2,g2,hsz,fun h' hdo _ hs=>hq h' hs ?_⟩;obtain⟨q1,q2⟩:=KV.sets ps' (s9 h2) (KV.of h5 h6) h3.2;exact oU hdo ⟨aa (merged_length_le kvs mvs) hsz,q2⟩ h4 (q1.mono (fG ha hs) fun _ _ _ x=>x)
inductive MutThere(O:Program)(w:World)(m:Str)(od:PyData):Prop where
 |mk (T id) (a:PlainAttrs T) (b:Slot T m id) (c:typeOf (.builtin id)=pure (.type "method_descriptor")) (d:∀ (s:Shared) (av:Addr→Prop) (a:Addr),bM O w s.heap av a od→s.TypeIs (.ref a) T∧∃ ob,s.heap.get? a=some ob∧ob.dict=none)
  (e:∀ (A:Around) (s:Shared) (av:Addr→Prop) (a:Addr) (vs:List Value) (ds:List PyData) (od':PyData) (Q:Value→Shared→Prop) (E:Value→Shared→Prop),av a→bM O w s.heap av a od→RL O w s.heap av vs ds→gI m od ds=.ok od' →
   (∀ v h' tk,Heap.SameBut a s.heap h'→bM O w h' av a od'→Q v { s with heap:=h',toks:=tk })→wpAny (model O w) A (call (.builtin id) (.ref a::vs)) Q E s):MutThere O w m od
theorem tA{l:List (PyData×PyData)}{s:Shared}{av:Addr→Prop}{a:Addr}(hb:bM O w s.heap av a (.dict l)):s.TypeIs (.ref a) "dict" ∧ ∃ ob,s.heap.get? a=some ob∧ob.dict=none:=by
 obtain⟨kvs,h2,_⟩:=hb;refine⟨h2.typeIs,?_⟩;refine hde fun _ θ=>?_;obtain⟨ob,es,ep,e,c,_⟩:=h2;apply θ;exact⟨ob,e,c.2.1⟩
theorem tB{m:Str}{od:PyData}{ds:List PyData}{od':PyData}(h:gI m od ds=.ok od'):∃ d,ds=[d]:=by
 cases ds with
 |nil=>exact pno h
 |cons d r =>
  cases r with
  |nil=>exact⟨d,rfl⟩
  |cons=>exact pno h
theorem Pb{m:Str}{od:PyData}(hm:nS m od=true):MutThere O w m od:=by
 cases od with
 |list l =>
  obtain rfl:m = "append" := of_decide_eq_true hm;refine⟨"list", "list.append", F.plainAttrs_list,F.slot_list_append,by kernel_rfl,fun s av a hb=>?_,fun A s av a vs ds od' Q E ha hb r hmu hq=>?_⟩
  ·obtain⟨vs,⟨n,e⟩,_⟩:=hb;exact⟨⟨_,e,rfl⟩,_,e,rfl⟩
  ·obtain⟨d,rfl⟩:=tB hmu;obtain⟨v,vs,rfl,rv,r⟩:=r.cons;obtain rfl:=r.nil;replace hmu:(if l.length < bA then P.ok (.list (l++[d])) else .no)=.ok od':=hmu
   by_cases hc:l.length < bA
   ·rw[if_pos hc] at hmu;obtain rfl:=pi hmu;exact O9 ha hb rv hc fun h' hs hb'=>hq _ h' _ hs hb'
   ·rw[if_neg hc] at hmu;exact pno hmu
 |dict l =>
  rcases Bool.or_eq_true_iff.mp hm with hm | hm
  ·obtain rfl:m = "pop" := of_decide_eq_true hm;refine⟨"dict", "dict.pop", F.plainAttrs_dict,F.slot_dict_pop,by kernel_rfl,fun s av a hb=>tA hb,fun A s av a vs ds od' Q E ha hb r hmu hq=>?_⟩;obtain⟨d,rfl⟩:=tB hmu;obtain⟨v,vs,rfl,rv,r⟩:=r.cons;obtain rfl:=r.nil;replace hmu:yX l d=.ok od':=hmu;cases d with
   |str k =>
    replace hmu:(if (bS l k).isSome then P.ok (.dict (dK l k)) else .no)=.ok od':=hmu;refine ocs (bS l k) (fun hg=>?_) fun d hg=>?_
    ·rw[hg] at hmu;exact pno hmu
    ·rw[hg] at hmu;obtain rfl:=pi hmu;exact Bg ha hb rv hg fun u h' tk hs _ hb'=>hq u h' tk hs hb'
   |_=>exact pno hmu
  ·obtain rfl:m = "update" := of_decide_eq_true hm;refine⟨"dict", "dict.update", F.plainAttrs_dict,F.slot_dict_update,by kernel_rfl,fun s av a hb=>tA hb,fun A s av a vs ds od' Q E ha hb r hmu hq=>?_⟩;obtain⟨d,rfl⟩:=tB hmu;obtain⟨v,vs,rfl,rv,r⟩:=r.cons;obtain rfl:=r.nil;replace hmu:yY l d=.ok od':=hmu;cases d with
   |dict m =>
    replace hmu:((ofO (keys? m)).bind fun m=>if l.length+m.length < 4096 then P.ok (.dict (dA m l)) else .no)=.ok od':=hmu;refine ocs (keys? m) (fun hk=>?_) fun ps hk=>?_
    ·rw[hk] at hmu;exact pno hmu
    ·rw[hk] at hmu;replace hmu:(if l.length+ps.length < 4096 then P.ok (.dict (dA ps l)) else .no)=.ok od':=hmu
     by_cases hc:l.length+ps.length < 4096
     ·rw[if_pos hc] at hmu;obtain rfl:=pi hmu;exact Pa ha hb rv hk hc fun h' hs hb'=>hq _ h' _ hs hb'
     ·rw[if_neg hc] at hmu;exact pno hmu
   |_=>exact pno hmu
 |_=>exact bft hm
theorem P.bind_ok{α β:Type}{p:P α}{f:α→P β}{b:β}(h:p.bind f=.ok b):∃ a,p=.ok a∧f a=.ok b:=by
 cases p with
 |no=>exact pno h
 |ok a=>exact⟨a,rfl,h⟩
theorem Pc{ev:EV}(hbad:∀ σ e,bad e=true→ev σ e=.no){x m:Str}{as:List Expr}{xp ap cp pos:Pos}{xs:List Str}(h:∀ e∈as,aH O w mg mb base n hd (env::l₀) sc (aA.cl σ xs) e (ev (aA.cl σ xs) e)) :
  aS O w mg mb base n hd l₀ env sc s₀ σ (exec (.Expr (.Call (.Attribute (.Name x xp) m ap) as [] cp) pos) env) fun kn _=>nX ev (aA.cl σ xs) x m ap as cp kn:=by
 intro av₀ A s av hA X kn kr fin Q E hf hne hp hn hr he;refine hde fun _ θ=>?_;obtain⟨av1,Y,hsub⟩:=X.cl xs;apply θ;replace hf:nX ev (aA.cl σ xs) x m ap as cp kn=fin:=hf;unfold nX at hf
 by_cases hc:(ap.endLine==cp.line)=false∨as.any bad=true∨3 < as.length
 ·rw[if_pos hc] at hf;exact absurd hf.symm hne
 rw[if_neg hc] at hf;simp only[not_or,Bool.not_eq_true,Bool.not_eq_false,Nat.not_lt] at hc;refine hde fun _ θ=>?_;obtain⟨c3,c4,c5⟩:=hc;obtain⟨od,hod,hf⟩:=cT hf hne;have hg:=s8 hod;obtain⟨hlx,_⟩:=Y.names x _ hg;obtain⟨u,hv,a,rfl,hfr,hb⟩:=Y.inv.get x _ hlx hg;apply θ;have ha:=(Y.ownA x a ⟨_,_,hg,hv,rfl⟩).1;refine bcs (nS m od) (fun hm=>?_) fun hm=>?_
 ·rw[hm] at hf;exact absurd hf.symm hne
 ·rw[hm] at hf;replace hf:rb (evs (ev (aA.cl σ xs)) as) _=fin:=hf;refine hde fun _ θ=>?_;obtain⟨T,id,t1,t2,t3,t4,t5⟩:=Pb (O:=O) (w:=w) hm;obtain⟨q1,q2⟩:=t4 s av1 a hb;apply θ;refine wpAny_Expr_any ?_ (by unfold interactive;rw[X.inv.kind];rfl) rfl;refine gv rfl (oO c4 c5 cp env) c3 (fZ Y.inv hlx hv ⟨T,id,t1,t2,t3,q1,fun a' e=>by cases e;exact q2,jK c4 (jI (hbad _) hA h Y.inv ⟨hf,hne⟩ (fun vs s₂ us k2 r1 r2 e2=>?_) fun x v s' e f=>he x v s' e (Y.up f))⟩);refine hde fun _ θ=>?_;obtain⟨od',hmu,e2⟩:=cT e2 hne;obtain⟨σ',hσ,e3⟩:=cT e2 hne;obtain⟨v0,_,rfl⟩:=fF hσ;apply θ;have Y2:=Y.k k2;refine t5 A s₂ av1 a vs _ od' _ E ha (hb.k Y.inv.gnd.fav k2 hfr) ⟨r1,r2⟩ hmu fun v h' tk hs hb'=>?_;exact hn _ _ _ (Y2.mut (tk:=tk) hg (hv.k k2) hs hb') ((Fr.sub hsub).tr ((Y.frk k2).tr (Y2.frMut (s':={ s₂ with heap:=h',toks:=tk }) hg (hv.k k2) hs))) e3
end
section
variable {O:Program} {w:World} {mg mb:Str→Option Value} {base:Heap} {n:Nat} {hd:Bool} {l₀:List Env} {env:Env} {sc:Scope} {av₀:Addr→Prop} {s₀:Shared} {σ:aA} {av:Addr→Prop} {s:Shared}
theorem Pd(f:Array Value→Array Value)(its:Array Value)(n:Nat):∃ n',Obj.mapSeq f { cls:=.type "list", data:=.seq its n }={ cls:=.type "list", data:=.seq (f its) n' }:=⟨_,rfl⟩
theorem Pe{A:Around}{E:Value→Shared→Prop}{s:Shared}{l:Addr}{items:Array Value}{k:Int}{t:Tok}{v:Value}{Q:Unit→Shared→Prop}(hp:s.heap.PlainList l items)
  (h0:0≤k) (hfit:k < 2 ^ 63) (hn:k < items.size)
  (hQ:∀ h',h'.PlainList l (items.setIfInBounds k.toNat v)→Heap.SameBut l s.heap h'→Q () { s with heap:=h' }) :
  wpAny (model O w) A (PySem.setItem (.ref l) (.int k t) v) Q E s:=by
 have hl:=hp.isList;obtain⟨ne,ho⟩:=hp;unfold PySem.setItem
 try with_reducible refine ao ?_
 first | refine U (ac ?_) | skip
 refine U (wpAny_sequenceKey hl.typeIs (by decide) ?_);refine U (wpAny_callSpecial?_slot (name:=Str.ofString "__setitem__") hl.typeIs slot_list_setitem
  (de slot_list_setitem hl.typeIs entry_list_setitem ?_ (args_list_setitem _ _ _)))
 show wpAny _ _ (Builtin.List.listSubscript? (.int k t) >>= _) _ _ s;refine U (wpAny_listSubscript_int (fitsIndex_of h0 hfit) ?_);clear hfit;obtain⟨j,rfl⟩:=gm h0;have hj:j < items.size:=by exact F8 hn
 have hx':items[j]?=some items[j]:=Array.getElem?_eq_getElem hj;show wpAny _ _ ((seqItemAt l j >>= fun r=>pure (r.map (j,·))) >>= _) _ _ s;refine U (U (wpAny_seqItemAt ho rfl (ac ?_)));rw[hx'];show wpAny _ _ (setSeqItemAt l j v >>= _) _ _ s;obtain⟨n',hm⟩:=Pd (·.setIfInBounds j v) items ne;have hfin:(s.heap.update l (Obj.mapSeq (·.setIfInBounds j v))).PlainList l (items.setIfInBounds j v) :=
  ⟨n',by rw[fw _ ho (by rw[hm];rfl),hm]⟩
 refine U (wpAny_setSeqItemAt ho rfl ?_)
 first
  |exact U (ac (ac ⟨.none,rfl,ac (hQ _ hfin (Heap.SameBut.update ..))⟩))
  |exact ac ⟨.none,rfl,ac (hQ _ hfin (Heap.SameBut.update ..))⟩
theorem Pf(kvs:List (Str×Value))(k:Str)(v:Value):(stored kvs k v).length≤kvs.length+1:=by
 unfold stored
 split
 ·simp
 ·simp
theorem Bh{A:Around}{a:Addr}{vi vd:Value}{o i d o':PyData}{Q:Unit→Shared→Prop}{E:Value→Shared→Prop}(ha:av a)(hb:bM O w s.heap av a o)(ri:Rep O w s.heap av vi i)(rd:Rep O w s.heap av vd d)
  (hs:setItem o i d=.ok o') (hq:∀ h' tk,Heap.SameBut a s.heap h'→bM O w h' av a o'→Q () { s with heap:=h',toks:=tk }):wpAny (model O w) A (PySem.setItem (.ref a) vi vd) Q E s:=by
 cases o with
 |dict l =>
  replace hs:yV l d i=.ok o':=hs;cases i with
  |str k =>
   replace hs:(if l.length < bA then P.ok (.dict (eF l k d)) else .no)=.ok o':=hs
   by_cases hc:l.length < bA
   ·rw[if_pos hc] at hs;obtain rfl:=pi hs;obtain⟨kvs,h2,h3,h4,h5,h6⟩:=hb;obtain⟨t,rfl,hkl⟩:=ri.str_inv;have hlen:kvs.length=l.length:=by
     have:=congrArg List.length h5;simpa using this.symm
    refine wpAny_setItem_pairs (eV k t) h2 (fun h' hd' hsb=>hq h' _ hsb (oU hd' ⟨?_,Ao h3.2 hkl⟩ h4 (KV.set (k:=k) (rd.mono (fG ha hsb) fun _ _ _ x=>x) (s9 h2) ((KV.of h5 h6).mono (fG ha hsb) fun _ _ _ x=>x)))) h3.1;have h1:=Pf kvs k vd;have h2:bA=sizeLine:=rfl;exact F9 hc hlen h1 h2
   ·rw[if_neg hc] at hs;exact pno hs
  |_=>exact pno hs
 |list l =>
  replace hs:yW l d i=.ok o':=hs;cases i with
  |int k =>
   replace hs:(if 0≤k∧k < l.length then P.ok (.list (l.set k.toNat d)) else .no)=.ok o':=hs
   by_cases hc:0≤k∧k < l.length
   ·rw[if_pos hc] at hs;obtain rfl:=pi hs;obtain⟨xs,hp,hxl,hxz,hxr⟩:=hb;obtain⟨t,rfl⟩:=ri.int_inv;have hN:sizeLine=16777216:=rfl;refine Pe hp hc.1 (bv hc.2 (cq (jJ (hxl▸hxz)))) (by simp;exact Ga hc hxl) fun h' hp' hsb=>hq h' _ hsb ⟨xs.set k.toNat vd,?_,by simp[hxl],by simpa using hxz,fun i u du e1 e2=>?_⟩
    ·have:(xs.set k.toNat vd).toArray=xs.toArray.setIfInBounds k.toNat vd:=by simp
     rw[this];exact hp'
    ·rw[List.getElem?_set] at e1 e2
     by_cases hj:k.toNat=i
     ·rw[if_pos hj] at e1 e2
      split at e1
      ·split at e2
       ·obtain rfl:=si e1;obtain rfl:=si e2;exact rd.mono (fG ha hsb) fun _ _ _ x=>x
       ·exact ns e2
      ·exact ns e1
     ·rw[if_neg hj] at e1 e2;exact(hxr i u du e1 e2).mono (fG ha hsb) fun _ _ _ x=>x
   ·rw[if_neg hc] at hs;exact pno hs
  |_=>exact pno hs
 |_=>exact pno hs
theorem Bi{A:Around}{x:Str}{i:Expr}{xp:Pos}{vd:Value}{d:PyData}{ri:R V}(hi:aH O w mg mb base n hd (env::l₀) sc σ i ri)(hA:Room base n hd (env::l₀) A)(X:Act O w mg mb base l₀ env sc av₀ s₀ σ av s)(rd:Rep O w s.heap av vd d)
  {kn:KN} {fin:R V} {Q:Flow→Shared→Prop} {E:Value→Shared→Prop} (hf:rb (ofP (iD σ x)) (fun o=>rb ri fun iv=>rb (ofP (setItem o (dOf iv) d)) fun o=>rb (ofP (cL x (.own o) σ)) kn)=fin) (hne:fin≠.no)
  (hn:∀ s' σ' av',Act O w mg mb base l₀ env sc av₀ s₀ σ' av' s'→Fr (env::l₀) av₀ s av s' av'→kn σ'=fin→Q .next s') (he:∀ x v s',fin=.exc x→Upx O w mg base l₀ env s₀ av₀ x v s'→E v s') :
  wpAny (model O w) A (eval (.Name x xp) env) (fun ov s₂=>wpAny (model O w) A (eval i env) (fun iv s₃=>wpAny (model O w) A (PySem.setItem ov iv vd) (fun _=>Q Flow.next) E s₃) E s₂) E s:=by
 refine hde fun _ θ=>?_;obtain⟨od,hod,hf⟩:=cT hf hne;have hg:=s8 hod;obtain⟨hlx,_⟩:=X.names x _ hg;obtain⟨u',hv,a,rfl,hfr,hb⟩:=X.inv.get x _ hlx hg;apply θ;have ha:=(X.ownA x a ⟨_,_,hg,hv,rfl⟩).1;refine fZ X.inv hlx hv (hi.st hA X hf hne (fun iv s₂ ui k2 r2 e2=>?_) he);refine hde fun _ θ=>?_;obtain⟨od',hso,e2⟩:=cT e2 hne;obtain⟨σ',hσ,e3⟩:=cT e2 hne;obtain⟨v0,_,rfl⟩:=fF hσ;apply θ;have X2:=X.k k2;refine Bh ha (hb.k X.inv.gnd.fav k2 hfr) (r2.rep X.inv.gnd.avlt) (rd.k X.inv.gnd.fav k2) hso fun h' tk hs hb'=>?_;exact hn _ _ _ (X2.mut (tk:=tk) hg (hv.k k2) hs hb') ((X.frk k2).tr (X2.frMut (s':={ s₂ with heap:=h',toks:=tk }) hg (hv.k k2) hs)) e3
theorem tC{α:Type}{c:Prop}[Decidable c]{r fin:R α}(h:(if c then .no else r)=fin)(hne:fin≠.no):¬ c∧r=fin:=by
 by_cases hc:c
 ·rw[if_pos hc] at h;exact absurd h.symm hne
 ·rw[if_neg hc] at h;exact⟨hc,h⟩
theorem tD(e o i:Expr)(p:Pos)(line:Nat):swapsWith e (some (.Subscript o i p)) line env=pure false:=bcs (fV e) swz fun h=>zI (P:=fun e=>swapsWith e (some (.Subscript o i p)) line env=pure false) h (fun _ _ _ _=>rfl) (fun _ _ _ _=>rfl) fun _ _ _ _ _=>rfl
theorem Bj{ev:EV}{x:Str}{i e:Expr}{xp p pos:Pos}{xs:List Str}(h:∀ σ e,aH O w mg mb base n hd (env::l₀) sc σ e (ev σ e)) :
  aS O w mg mb base n hd l₀ env sc s₀ σ (exec (.Assign [.Subscript (.Name x xp) i p] e pos) env) fun kn _=>nT ev (aA.cl σ xs) x i e kn:=by
 intro av₀ A s av hA X kn kr fin Q E hf hne hp hn hr he;obtain⟨av1,Y,hsub⟩:=X.cl xs;obtain⟨_,hf⟩:=tC hf hne;refine wpAny_Assign_Subscript ((h _ e).st hA Y hf hne (fun v s₁ u k1 r e1=>?_) he) (tD ..);exact Bi (h _ i) hA (Y.k k1) ((r.rep Y.inv.gnd.avlt)) e1 hne (fun s' σ' av' Z f e=>hn s' σ' av' Z ((Fr.sub hsub).tr ((Y.frk k1).tr f)) e) he
theorem Pg{l:List (PyData×PyData)}{k:PyData}{q:PyData×PyData}(h:rR l k=.ok q):∃ x,k=.str x∧bS l x=some q.1∧q.2=.dict (dK l x):=by
 cases k with
 |str x =>
  replace h:((ofO (bS l x)).bind fun d=>P.ok (d,.dict (dK l x)))=.ok q:=h;refine ocs (bS l x) (fun hg=>?_) fun d hg=>?_
  ·rw[hg] at h;exact pno h
  ·rw[hg] at h;obtain rfl:=pi h;exact⟨x,rfl,hg,rfl⟩
 |_=>exact pno h
theorem Ph{d:PyData}{l:List (PyData×PyData)}(h:nU d=.ok l):d=.dict l:=by
 cases d with
 |dict l'=>obtain rfl:=pi h;rfl
 |_=>exact pno h
theorem Pi{ev:EV}{x y:Str}{i:Expr}{as:List Expr}{xp yp ap cp p pos:Pos}{xs:List Str}(h:∀ σ e,aH O w mg mb base n hd (env::l₀) sc σ e (ev σ e)) :
  aS O w mg mb base n hd l₀ env sc s₀ σ (exec (.Assign [.Subscript (.Name x xp) i p] (.Call (.Attribute (.Name y yp) "pop" ap) as [] cp) pos) env) fun kn _=>rS ev (aA.cl σ xs) x i y ap as cp kn:=by
 intro av₀ A s av hA X kn kr fin Q E hf hne hp hn hr he;refine hde fun _ θ=>?_;obtain⟨av1,Y,hsub⟩:=X.cl xs;obtain⟨hc,hf⟩:=tC hf hne;simp only[not_or,Bool.not_eq_true,Bool.not_eq_false] at hc;obtain⟨c3,c4,_⟩:=hc;apply θ;cases as with
 |nil=>exact absurd hf.symm hne
 |cons k r =>
  cases r with
  |cons=>exact absurd hf.symm hne
  |nil =>
   refine hde fun _ θ=>?_;obtain⟨l,hl,hf⟩:=cT hf hne;obtain⟨od,hod,hl⟩:=P.bind_ok hl;cases Ph hl;have hg:=s8 hod;obtain⟨hly,_⟩:=Y.names y _ hg;obtain⟨u,hv,a,rfl,hfr,hb⟩:=Y.inv.get y _ hly hg;have ha:=(Y.ownA y a ⟨_,_,hg,hv,rfl⟩).1;obtain⟨q1,q2⟩:=tA hb;apply θ;refine wpAny_Assign_Subscript (gv rfl (oO c4 (ew rfl) cp env) c3 (fZ Y.inv hly hv ⟨"dict", "dict.pop", F.plainAttrs_dict,F.slot_dict_pop,by kernel_rfl,q1,fun a' e=>by cases e;exact q2,jK c4 (fu ((h _ k).st hA Y hf hne (fun kv s₁ ku k1 r1 e1=>ft ?_) he) (eS (Bool.or_eq_false_iff.mp c4).1))⟩)) (tD ..);refine hde fun _ θ=>?_;obtain⟨q',hp,e1⟩:=cT e1 hne;obtain⟨σ',hσ,e2⟩:=cT e1 hne;obtain⟨v0,_,rfl⟩:=fF hσ;obtain⟨z,hz,g1,g2⟩:=Pg hp;apply θ;have Y1:=Y.k k1;refine Bg ha (hb.k Y.inv.gnd.fav k1 hfr) (hz▸r1.rep Y.inv.gnd.avlt) g1 fun u h' tk hs ru hb'=>?_;have Y2:=Y1.mut (tk:=tk) hg (hv.k k1) hs (g2.symm▸hb');exact Bi (h _ i) hA Y2 ru e2 hne (fun s' σ' av' Z f e=>hn s' σ' av' Z ((Fr.sub hsub).tr ((Y.frk k1).tr ((Y1.frMut (s':={ s₁ with heap:=h',toks:=tk }) hg (hv.k k1) hs).tr f))) e) he
end
section
variable {O:Program} {w:World} {mg mb:Str→Option Value} {base:Heap} {n:Nat} {hd:Bool} {l₀:List Env} {env:Env} {sc:Scope} {av₀:Addr→Prop} {s₀:Shared} {σ:aA} {av:Addr→Prop} {s:Shared}
theorem Pj{elt:Expr}{g:Comprehension}{sc':Scope}{cpos:Pos}{x:Str}{p pos:Pos}{xs:List Str}{rec:Scope→aA→Expr→R V}
  (hs:swapsWith (.ListComp elt [g] sc' cpos) (some (.Name x p)) pos.line env=pure true) (hbad:∀ e,bad e=true→rec sc (aA.cl σ xs) e=.no)
  (hit:aH O w mg mb base n hd (env::l₀) sc (aA.cl σ xs) g.iter (rec sc (aA.cl σ xs) g.iter)) (hsub:∀ f as kws q,g.iter=.Call f as kws q→∀ a∈as,aH O w mg mb base n hd (env::l₀) sc (aA.cl σ xs) a (rec sc (aA.cl σ xs) a))
  (hT:∀ c∈g.ifs,∀ σ',cC O w mg mb base n hd (env::l₀) sc' σ' c (rec sc' σ' c)) (hE:∀ σ',aH O w mg mb base n hd (env::l₀) sc' σ' elt (rec sc' σ' elt)) :
  aS O w mg mb base n hd l₀ env sc s₀ σ (exec (.Assign [.Name x p] (.ListComp elt [g] sc' cpos) pos) env) fun kn _=>rb (jC rec hd sc (aA.cl σ xs) elt g sc') fun v=>rb (ofP (cL x v (aA.cl σ xs))) kn:=by
 intro av₀ A s av hA X kn kr fin Q E hf hne hp hn hr he;refine hde fun _ θ=>?_;obtain⟨av1,Y,hsb⟩:=X.cl xs;apply θ;simp only[exec_Assign_Name_used _ _ _ _ hs];refine U (bw (U ?_));simp only[arm_evalThenUse_ListComp];refine U (aq (A8 (Q:=fun _ s'=>Q .next s') hbad hit hsub hT hE hA Y.inv ⟨hf,hne⟩ (fun x v s' e f=>he x v s' e (Y.up f)) fun s₁ wr D C zs st' k0 hD hC hDC hz F e=>?_) (fun _ s' hq=>ac (ac hq)) fun _ _ e=>e);refine hde fun _ θ=>?_;obtain⟨σ',hσ,e⟩:=cT e hne;obtain⟨v0,hg,rfl⟩:=fF hσ;obtain⟨kk,⟨mC,hnsC⟩,ys,hpl,hyl,hys⟩:=F;have k:=k0.tr kk;have sD:=k0.non hD;have sC:=k0.non hC;obtain⟨d1,d2,d3,d4,d5⟩:=Y.newNot sD;obtain⟨c1,c2,c3,c4,c5⟩:=Y.newNot sC;apply θ;have Z:=Y.growS (S:=fun b=>b=D∨b=C) k (fun a ha=>ha.elim (fun h=>h▸sD) fun h=>h▸sC) (fun a ha=>ha.elim (fun h=>by obtain⟨n,e⟩:=hpl;exact⟨_,h▸e⟩) fun h=>by obtain⟨o,es,ep,e,_⟩:=hnsC;exact⟨o,h▸e⟩);have notO:∀ b,¬ av1 b→∀ y,¬ OwnN env (aA.cl σ xs) st'.heap y b:=fun b hb y h=>hb (Y.ownA y b (Y.ownK k h)).1;have g:Fr (env::l₀) av₀ s av1 st' (fun b=>av1 b∨b=D∨b=C):=⟨(Y.frk k).keep,fun b o e h=>h.elim id (fun h=>by
  rcases h with h | h
  ·simp only[h,sD] at e;exact ns e
  ·simp only[h,sC] at e;exact ns e),(Y.frk k).pins⟩
 refine gz (Z.put hg (v:=.own (.list zs)) ⟨D,rfl,d5,ys,hpl,hyl,by simp only[hyl];exact hz,fun j v d e1 e2=>?_⟩ (fun a e2=>?_) fun s' Z' f hvx hvy=>?_)
 ·exact(hys j v d e1 e2).mono (fun _ _ _ e=>e) fun b o _ hb=>hb.imp id .inr
 ·obtain rfl:=Value.ref.inj e2;exact⟨.inr (.inl rfl),d4,d3,d1,fun y _=>notO D d2 y⟩
 ·have hown:∀ y a,OwnN env (aA.set (aA.cl σ xs) x (.own (.list zs))) s'.heap y a→¬ a=C:=fun y a h ha=>by
   subst ha;refine hde fun _ θ=>?_;obtain⟨v',u',hgy,hv,hh⟩:=h;apply θ
   by_cases hyx:y=x
   ·subst hyx;obtain rfl:=kU hgy;obtain rfl:=bB.uniq hvx hv;exact hDC (Value.ref.inj hh)
   ·have hgy:=jN hyx hgy;exact notO a c2 y (Z.ownBack1 hgy (fun u=>hvy y u hyx) (fun b hb o e=>f b o (Z.ownA y b hb).2.2.2 e) hv hh)
  refine⟨mC,hnsC.at' fun o e=>f C o c1 e,fun h' hs'=>?_⟩;have hkeep:∀ b o,¬ b=C→s'.heap.get? b=some o→h'.get? b=some o:=fun b o hb e=>by simp only[hs'.2 b hb];exact e
  have W:=Z'.wildS (S:=fun b=>b=C) (av':=fun b=>(av1 b∨b=D∨b=C)∧b≠C) (h':=h') (tk:=s'.toks) (fun b hb=>.inr (.inr hb)) (fun b hb=>hb▸c4) (fun b m h=>c1 (h▸m)) hown hkeep
   (fun b hb=>hb.1) (fun b hb hb'=>⟨hb,hb'⟩) (fun b hb hb'=>absurd hb' hb.2) (fun b hb=>⟨.inl (Y.bas b hb),fun h=>c3 (h▸hb)⟩)
  have fr:Fr (env::l₀) av₀ s' (fun b=>av1 b∨b=D∨b=C) { s' with heap:=h' } (fun b=>(av1 b∨b=D∨b=C)∧b≠C):=⟨fun b o e hb=>hkeep b o (fun h=>hb (.inr (.inr h))) e,fun _ _ _ h=>h.1,fun b o hb _ e=>hkeep b o (fun h=>c3 (h▸hb)) e⟩
  exact hn _ _ _ W ((Fr.sub hsb).tr (g.tr ((Z.frPut f).tr fr))) e
theorem Pk:∀ {es:List Expr} {xs:List Str},eQ es=some xs→(assignEach es env).length=xs.length∧(assignEach es env).findIdx? (·.1)=none:=by
 intro v0
 induction v0 with
 |nil =>
  intro xs h;obtain rfl:=si h;exact⟨rfl,rfl⟩
 |cons e es ih =>
  intro xs h;replace h:((bH e).bind fun x=>(eQ es).map (x::·))=some xs:=h;refine ocs (bH e) (fun hx=>?_) fun x hx=>?_
  ·rw[hx] at h;exact ns h
  ·rw[hx] at h;obtain⟨p,rfl⟩:=dG hx;have h:(eQ es).map (x::·)=some xs:=h;obtain⟨ys,h1,rfl⟩:=bf.mp h;obtain⟨g1,g2⟩:=ih h1;have e0:assignEach (.Name x p::es) env=(false,assign (.Name x p) env)::assignEach es env:=rfl;rw[e0];refine⟨by simp[g1],?_⟩;rw[List.findIdx?_cons];simp[g2]
theorem Act.putF{A:Around}{E:Value→Shared→Prop}{x:Str}{v0:Option V}{u:Value}{d:PyData}{Q:Unit→Shared→Prop}(X:Act O w mg mb base l₀ env sc av₀ s₀ σ av s)(hx:aA.get σ x=some v0)(hv:Rep O w s.heap av u d)
  (hq:∀ s',Act O w mg mb base l₀ env sc av₀ s₀ (aA.set σ x (.fz d)) av s'→Fr (env::l₀) av₀ s av s' av→Q () s'):wpAny (model O w) A (storeName env x u) Q E s :=
 X.put hx (show b9 O w mg (env::l₀) s.heap av u (.fz d) from hv) (fun _ e=>e.elim) fun s' Y f _ _=>hq s' Y (X.frPut f)
theorem Pl{A:Around}{E:Value→Shared→Prop}{Q:Unit→Shared→Prop}:∀ {es:List Expr} {xs:List Str} {ds:List PyData} {vs:List Value} {σ σ':aA} {s:Shared},eQ es=some xs→nR xs ds σ=.ok σ'→RL O w s.heap av vs ds →
  Act O w mg mb base l₀ env sc av₀ s₀ σ av s→(∀ s',Act O w mg mb base l₀ env sc av₀ s₀ σ' av s'→Fr (env::l₀) av₀ s av s' av→Q () s')→wpAny (model O w) A (assignInOrder ((assignEach es env).map (·.2)) vs) Q E s:=by
 intro v0
 induction v0 with
 |nil =>
  intro xs ds vs σ σ' s hn hs r X hq;obtain rfl:=si hn;cases ds with
  |cons=>exact pno hs
  |nil =>
   obtain rfl:=pi hs;obtain rfl:=r.nil;exact wpAny_assignInOrder_none (hq s X (Fr.rf _ s av))
 |cons e es ih =>
  intro xs ds vs σ σ' s hn hs r X hq;replace hn:((bH e).bind fun x=>(eQ es).map (x::·))=some xs:=hn;refine ocs (bH e) (fun hx=>?_) fun x hx=>?_
  ·rw[hx] at hn;exact ns hn
  ·rw[hx] at hn;refine hde fun _ θ=>?_;obtain⟨p,rfl⟩:=dG hx;have hn:(eQ es).map (x::·)=some xs:=hn;obtain⟨ys,h1,rfl⟩:=bf.mp hn;apply θ;cases ds with
   |nil=>exact pno hs
   |cons d ds =>
    refine hde fun _ θ=>?_;obtain⟨v,vs,rfl,rv,r⟩:=r.cons;obtain⟨σ1,h2,h3⟩:=P.bind_ok hs;obtain⟨v0,hg,rfl⟩:=fF h2;apply θ;show wpAny _ A (assignInOrder (assign (.Name x p) env::(assignEach es env).map (·.2)) (v::vs)) Q E s;refine wpAny_assignInOrder_more (gz (X.putF hg rv fun s1 Y1 f1=>?_));exact ih h1 h3 ⟨r.1,fun i v' d' e1 e2=>(r.2 i v' d' e1 e2).mono (fun b o hb e=>f1.keep b o e hb) fun _ _ _ h=>h⟩ Y1 fun s' Z fr=>hq s' Z (f1.tr fr)
theorem Bk:∀ {xs:List Str} {ds:List PyData} {σ σ':aA},nR xs ds σ=.ok σ'→xs.length=ds.length
 | [],[],_,_,_=>rfl
 | [],_::_,_,_,h=>by exact pno h
 |_::_,[],_,_,h=>by exact pno h
 |x::xs,d::ds,σ,σ',h=>by
  obtain⟨σ1,_,h2⟩:=P.bind_ok h;have:=Bk h2;simp[this]
theorem Pm{d:PyData}{l:List PyData}(h:yF d=.ok l):d=.tuple l:=by
 cases d with
 |tuple l'=>obtain rfl:=pi h;rfl
 |_=>exact pno h
theorem Bm{A:Around}{E:Value→Shared→Prop}{σ':aA}{target:Expr}{v:Value}{d:PyData}{Q:Unit→Shared→Prop}(hh:A.handled=none)(X:Act O w mg mb base l₀ env sc av₀ s₀ σ av s)(r:Rep O w s.heap av v d)(ha:aR target d σ=.ok σ')
  (hq:∀ s',Act O w mg mb base l₀ env sc av₀ s₀ σ' av s'→Fr (env::l₀) av₀ s av s' av→Q () s'):wpAny (model O w) A (assign target env v) Q E s:=by
 unfold aR at ha;cases hv:vw target with
 |name x =>
  simp only[hv] at ha;obtain⟨p,rfl⟩:=cY hv;obtain⟨v0,hg,rfl⟩:=fF ha;exact gz (X.putF hg r hq)
 |tup es =>
  simp only[hv] at ha;obtain⟨k,p,rfl⟩:=cY hv;obtain⟨ds,h1,ha1⟩:=P.bind_ok ha;clear ha;cases Pm h1;obtain⟨xs,h2,ha⟩:=P.bind_ok ha1;clear ha1;refine ocs (eQ es) (fun hn=>?_) fun ys hn=>?_
  ·simp only[hn] at h2;exact pno h2
  ·simp only[hn] at h2;obtain rfl:=pi h2;obtain⟨ad,vs,rfl,g1,g2,g3,g4,g5⟩:=r.tuple_inv;obtain⟨e1,e2⟩:=Pk (env:=env) hn;refine wpAny_assign_Tuple hh g2.isTuple (by simp only[e1,Bk ha,← g3];simp) e2 fun h1 he=>?_;have k1:∀ b o,s.heap.get? b=some o→h1.get? b=some o:=fun b o e=>he b o (kS e) e;have kk:K (env::l₀) s { s with heap:=h1 }:=K.of ⟨h1,s.toks,rfl,k1⟩;exact Pl hn ha ⟨g3,fun i v d q1 q2=>(g5 i v d q1 q2).keeps k1⟩ (X.k kk) fun s' Z fr=>hq s' Z ((X.frk kk).tr fr)
 |_=>simp only[hv] at ha;exact pno ha
theorem Pn{e:Expr}(h:eP e=true):∃ f as kws q,e=.Call f as kws q:=by
 unfold eP at h;cases hv:vw e with
 |call f as kws q=>exact⟨f,as,kws,q,cY hv⟩
 |_=>rw[hv] at h;exact bft h
theorem jO{α:Type}{c:Prop}[Decidable c]{r fin:R α}(h:(if c then r else .no)=fin)(hne:fin≠.no):c∧r=fin:=by
 by_cases hc:c
 ·rw[if_pos hc] at h;exact⟨hc,h⟩
 ·rw[if_neg hc] at h;exact absurd h.symm hne
theorem Po{ev:EV}{es:List Expr}{k:Nat}{p:Pos}{e:Expr}{pos:Pos}{xs:List Str}(h:aH O w mg mb base n hd (env::l₀) sc (aA.cl σ xs) e (ev (aA.cl σ xs) e)) :
  aS O w mg mb base n hd l₀ env sc s₀ σ (exec (.Assign [.Tuple es k p] e pos) env) fun kn _=>y0 ev hd (aA.cl σ xs) (.Tuple es k p) e kn:=by
 intro av₀ A s av hA X kn kr fin Q E hf hne hp hn hr he;obtain⟨av1,Y,hsub⟩:=X.cl xs;obtain⟨hc,hf⟩:=jO hf hne;have go:wpAny (model O w) A (eval e env) (fun v s₁=>wpAny (model O w) A (assign (.Tuple es k p) env v) (fun _=>Q .next) E s₁) E s:=by
  refine h.st hA Y hf hne (fun v s₁ u k1 r e1=>?_) he;obtain⟨σ',hσ,e2⟩:=cT e1 hne;exact Bm (hA.handled hc.2) (Y.k k1) (r.rep Y.inv.gnd.avlt) hσ fun s' Z fr=>hn _ _ _ Z ((Fr.sub hsub).tr ((Y.frk k1).tr fr)) e2
 rcases hc.1 with hc | hc
 ·obtain⟨f,as,kws,q,rfl⟩:=Pn hc;exact wpAny_Assign_stores go rfl rfl
 ·obtain⟨y,hy⟩:=Option.isSome_iff_exists.mp hc;obtain⟨q,rfl⟩:=dG hy;exact wpAny_Assign_stores go rfl rfl
theorem Pp{l:List PyData}{d:PyData}{q:Nat×PyData}(h:kL l d=.ok q):∃ k:Int,d=.int k∧(0≤k∧k < l.length)∧q.1=k.toNat∧l[k.toNat]?=some q.2:=by
 cases d with
 |int k =>
  replace h:(if 0≤k∧k < l.length then (ofO l[k.toNat]?).bind fun o=>P.ok (k.toNat,o) else .no)=.ok q:=h
  by_cases hc:0≤k∧k < l.length
  ·rw[if_pos hc] at h;obtain⟨o,h1,h⟩:=P.bind_ok h;obtain rfl:=pi h;refine⟨k,rfl,hc,rfl,?_⟩
   revert h1
   cases l[k.toNat]? with
   |none=>exact fun h=>by exact pno h
   |some o'=>exact fun h=>congrArg some (pi h)
  ·rw[if_neg hc] at h;exact pno h
 |_=>exact pno h
theorem Pq{x:Str}{l:List PyData}(h:rU σ x=.ok l):aA.get σ x=some (some (.pil l)):=by
 unfold rU at h;refine ocs (aA.get σ x) (fun hg=>?_) fun o hg=>?_
 ·rw[hg] at h;exact pno h
 ·rw[hg] at h ⊢;cases o with
  |none=>exact pno h
  |some v =>
   cases v with
   |pil l'=>obtain rfl:=pi h;rfl
   |_=>exact pno h
theorem Fr.off{l:List Env}{av₀ av:Addr→Prop}{s:Shared}{h':Heap}{tk:Nat}{c:Addr}(h1:av c)(h2:¬ av₀ c)(hs:Heap.SameBut c s.heap h'):Fr l av₀ s av { s with heap:=h',toks:=tk } av :=
 ⟨fun b o e n=>by show h'.get? b=_;rw[hs.2 b fun e'=>n (e'▸h1)];exact e,fun _ _ _ h=>h,fun b o n _ e=>by show h'.get? b=_;rw[hs.2 b fun e'=>h2 (e'▸n)];exact e⟩
theorem Pr{ev:EV}{x:Str}{i j e:Expr}{xp p p' pos:Pos}{xs:List Str}(h:∀ σ e,aH O w mg mb base n hd (env::l₀) sc σ e (ev σ e)) :
  aS O w mg mb base n hd l₀ env sc s₀ σ (exec (.Assign [.Subscript (.Subscript (.Name x xp) i p) j p'] e pos) env) fun kn _=>nW ev (aA.cl σ xs) x i j e kn:=by
 intro av₀ A s av hA X kn kr fin Q E hf hne hp hn hr he;refine hde fun _ θ=>?_;obtain⟨av1,Y,hsub⟩:=X.cl xs;obtain⟨hb,hf⟩:=tC hf hne;apply θ;refine wpAny_Assign_Subscript ((h _ e).st hA Y hf hne (fun v s₁ u k1 r e1=>?_) he) (tD ..);refine hde fun _ θ=>?_;obtain⟨l,hl,e1⟩:=cT e1 hne;have hg:=Pq hl;have Y1:=Y.k k1;obtain⟨hlx,_⟩:=Y1.names x _ hg;obtain⟨u',hv,a,bs,rfl,na,p0,hll,hz,nd,nab,nf,rB⟩:=Y1.inv.get x _ hlx hg;apply θ;refine sO ⟨_,fun _ _=>zG ((Bool.not_eq_true _).mp hb)⟩ (fZ Y1.inv hlx hv ((h _ i).st hA Y1 e1 hne (fun iv s₂ ui k2 r2 e2=>?_) he));refine hde fun _ θ=>?_;obtain⟨q,hk,e2⟩:=cT e2 hne;obtain⟨k',e0,c,hq1,ho⟩:=Pp hk;have ri:=r2.rep Y1.inv.gnd.avlt;rw[e0] at ri;obtain⟨t,rfl⟩:=ri.int_inv;apply θ;have Y2:=Y1.k k2;have hN:sizeLine=16777216:=rfl;have hkl:k'.toNat < bs.length:=(cr c.1).mpr (hll▸c.2);have hbk:bs[k'.toNat]?=some bs[k'.toNat]:=List.getElem?_eq_getElem hkl;generalize bs[k'.toNat]=b at hbk;have hbm:b∈bs:=cc hbk;have p2:s₂.heap.PlainList a (bs.map Value.ref).toArray:=p0.at fun o e=>k2.at na e;refine⟨⟨"list", _,p2.isList.typeIs,list_getitem_lookup⟩,wpAny_getItem_list p2.isList c.1 (bv c.2 (cq (jJ (hll▸hz)))) (x:=.ref b) (by simp[hbk]) ?_⟩;refine(h _ j).st hA Y2 e2 hne (fun jv s₃ uj k3 r3 e3=>?_) he;refine hde fun _ θ=>?_;obtain⟨o',hso,e3⟩:=cT e3 hne;obtain⟨σ',hσ,e4⟩:=cT e3 hne;obtain⟨v0,_,rfl⟩:=fF hσ;have k23:=k2.tr k3;have Y3:=Y1.k k23;have hv3:=hv.k k23;have p3:s₃.heap.PlainList a (bs.map Value.ref).toArray:=p0.at fun o e=>k23.at na e;have hold:cZ s₃.heap (.ref a) (.pil l) b:=Or.inr ⟨a,bs,rfl,p3,hbm⟩;obtain⟨b1,b2,b3,b4⟩:=Y3.ownA x b ⟨_,_,hg,hv3,hold⟩;apply θ;have rB3:∀ (i:Nat) (b:Addr) (d:PyData),bs[i]?=some b→l[i]?=some d→bM O w s₃.heap av1 b d:=fun i b d q1 q2=>(rB i b d q1 q2).k Y1.inv.gnd.fav k23 (nf b (cc q1));refine Bh b1 (rB3 _ _ _ hbk ho) (r3.rep Y2.inv.gnd.avlt) ((r.rep Y.inv.gnd.avlt).k Y.inv.gnd.fav k23) hso fun h' tk hs hb'=>?_;have hab:a≠b:=fun h=>nab (h▸hbm);have p4:h'.PlainList a (bs.map Value.ref).toArray:=p3.at fun o e=>(hs.2 a hab).trans e;refine hn _ _ _ (Y3.mutG (S:=fun c=>c=b) (v':=.pil (l.set q.1 o')) (tk:=tk) hg hv3 (fun c h=>h▸hold) (fun c o hc e=>(hs.2 c hc).trans e) (fun c h=>h▸hb'.live) (fun c hc=>?_) ⟨a,bs,rfl,na,p4,by simpa using hll,hz,nd,nab,nf,fun m b' d q1 q2=>?_⟩) ((Fr.sub hsub).tr ((Y.frk k1).tr ((Y1.frk k23).tr (Fr.off b1 b3 hs)))) e4
 ·rcases hc with hc | ⟨r',bs',ee,p',m⟩
  ·exact Or.inl hc
  ·obtain rfl:=Value.ref.inj ee;obtain rfl:=s6 (List.toArray_inj (s7 p4 p'));exact Or.inr ⟨_,_,rfl,p3,m⟩
 ·rw[hq1,List.getElem?_set] at q2
  by_cases hm:k'.toNat=m
  ·subst hm;rw[if_pos rfl] at q2
   split at q2
   ·obtain rfl:=si q2;rw[hbk] at q1;obtain rfl:=si q1;exact hb'
   ·exact ns q2
  ·rw[if_neg hm] at q2;have hbb:b'≠b:=fun h=>hm ((List.getElem?_inj hkl nd).mp (by rw[hbk,q1,h]));exact(rB3 m b' d q1 q2).mono (fG b1 hs) (fun _ _ _ x=>x) fun o e=>(hs.2 b' hbb).trans e
theorem Ps{e:Expr}(h:fD e=true):∃ p,e=.Dict [] [] p:=by
 unfold fD at h;generalize hv:vw e=v at h;cases v with
 |dct ks vs =>
  obtain⟨p,rfl⟩:=cY hv;replace h:(ks.isEmpty&&vs.isEmpty)=true:=h;rw[Bool.and_eq_true,List.isEmpty_iff,List.isEmpty_iff] at h;exact⟨p,by rw[h.1,h.2]⟩
 |_=>exact bft h
theorem Pt{A:Around}{E:Value→Shared→Prop}{pos:Pos}:∀ {es:List Expr} {s:Shared} {Q:List Value→Shared→Prop},es.all fD=true →
  (∀ (bs:List Addr) s',Kp s s'→bs.length=es.length→bs.Nodup→(∀ b∈bs,s.heap.get? b=none∧s'.heap.get? b=some { cls:=.type "dict", data:=.dict #[] })→Q (bs.map Value.ref) s')→wpAny (model O w) A (spliced (backTo pos (starEach es env))) Q E s:=by
 intro es
 induction es with
 |nil=>intro s Q _ hq;exact ft (hq [] s (Kp.rfl' s) rfl cm fun b h=>b5 h)
 |cons e es ih =>
  intro s Q ha hq;obtain⟨h1,h2⟩:=bl.mp (show(fD e&&es.all fD)=true from ha);obtain⟨q,rfl⟩:=Ps h1;refine fu (wpAny_Dict_empty (ih h2 fun bs s' k hl hn hb=>hq (s.heap.objs.size::bs) s' ((Kp.push' s _).tr k) (by simp[hl]) (aw.mpr ⟨fun hm=>?_,hn⟩) fun b hm=>?_))
  ·have:=(hb _ hm).1;rw[show Heap.get? (s.heap.push { cls:=.type "dict", data:=.dict #[] }) s.heap.objs.size=some { cls:=.type "dict", data:=.dict #[] } from cM _ _ rfl] at this;exact sn this
  ·rcases List.mem_cons.mp hm with rfl | hm
   ·exact⟨bU _,k.heap _ _ (cM _ _ rfl)⟩
   ·obtain⟨g1,g2⟩:=hb b hm;refine⟨?_,g2⟩;refine ocs (s.heap.get? b) (fun h=>h) fun o h=>?_;rw[(Kp.push' s _).heap b o h] at g1;exact sn g1
theorem Pu{e:Expr}{k:Nat}(h:kK e=some k):∃ es q,e=.List es q∧es.all fD=true∧es.length≤bA∧k=es.length:=by
 unfold kK at h;generalize hv:vw e=v at h;cases v with
 |lst es =>
  obtain⟨p,rfl⟩:=cY hv;replace h:(if es.isEmpty=false∧es.all fD=true∧es.length≤bA then some es.length else none)=some k:=h
  by_cases hc:es.isEmpty=false∧es.all fD=true∧es.length≤bA
  ·rw[if_pos hc] at h;exact⟨es,p,rfl,hc.2.1,hc.2.2,(si h).symm⟩
  ·rw[if_neg hc] at h;exact ns h
 |_=>exact ns h
theorem Pv{x:Str}{es:List Expr}{p q pos:Pos}(ha:es.all fD=true)(hz:es.length≤bA) :
  aS O w mg mb base n hd l₀ env sc s₀ σ (exec (.Assign [.Name x p] (.List es q) pos) env) fun kn _=>rb (ofP (cL x (.pil (List.replicate es.length (.dict []))) σ)) kn:=by
 intro av₀ A s av hA X kn kr fin Q E hf hne hp hn hr he;refine hde fun _ θ=>?_;obtain⟨σ',hσ,e⟩:=cT hf hne;obtain⟨v0,hg,rfl⟩:=fF hσ;apply θ;refine wpAny_Assign_Name (wpAny_List (Pt ha fun bs s₁ k hl hnd hbs=>?_)) rfl;have hz':bs.length≤sizeLine:=hl▸hz;refine⟨by rw[List.length_map];exact hz',?_⟩;have k1:=k.tr (Kp.push' s₁ { cls:=.type "list", data:=.seq (bs.map Value.ref).toArray });have kk:K (env::l₀) s { s₁ with heap:=s₁.heap.push { cls:=.type "list", data:=.seq (bs.map Value.ref).toArray } }:=K.of k1;have hpa:(s₁.heap.push { cls:=.type "list", data:=.seq (bs.map Value.ref).toArray }).PlainList s₁.heap.objs.size (bs.map Value.ref).toArray:=⟨0,cM _ _ rfl⟩
 have hn1:s₁.heap.get? s₁.heap.objs.size=none:=bU _;generalize s₁.heap.objs.size=a at hpa hn1 ⊢;have hna:s.heap.get? a=none:=ocs (s.heap.get? a) (fun h=>h) fun o h=>by rw[k.heap a o h] at hn1;exact sn hn1
 have nab:a∉bs:=fun h=>by rw[(hbs a h).2] at hn1;exact sn hn1
 have hnew:∀ c,(c=a∨c∈bs)→s.heap.get? c=none:=fun c h=>h.elim (fun h=>h▸hna) fun h=>(hbs c h).1;have hdic:∀ b∈bs,Heap.get? (s₁.heap.push { cls:=.type "list", data:=.seq (bs.map Value.ref).toArray }) b=some { cls:=.type "dict", data:=.dict #[] }:=fun b h=>(Kp.push' s₁ _).heap _ _ (hbs b h).2;have Z:=X.growS (S:=fun c=>c=a∨c∈bs) kk hnew fun c h=>h.elim (fun h=>by obtain⟨m,e⟩:=hpa;exact⟨_,h▸e⟩) fun h=>⟨_,hdic c h⟩
 have g:Fr (env::l₀) av₀ s av { s₁ with heap:=s₁.heap.push { cls:=.type "list", data:=.seq (bs.map Value.ref).toArray } } (fun c=>av c∨c=a∨c∈bs):=⟨(X.frk kk).keep,fun c o e h=>h.elim id (fun h=>by rw[hnew c h] at e;exact ns e),(X.frk kk).pins⟩
 refine Z.put hg (v:=.pil (List.replicate es.length (.dict []))) ⟨a,bs,rfl,(X.newNot hna).2.2.2.2,hpa,by rw[List.length_replicate];exact hl,hz',hnd,nab,fun b h=>(X.newNot (hnew b (Or.inr h))).2.2.2.2,fun m b d q1 q2=>?_⟩ (fun c hc=>?_) fun s' Z' f _ _=>hn _ _ _ Z' (g.tr (Z.frPut f)) e
 ·rw[List.getElem?_replicate] at q2
  split at q2
  ·obtain rfl:=si q2;have hm:=cc q1;refine oU (kvs:=[]) ⟨_,#[],0,hdic b hm,⟨rfl,rfl,rfl⟩,rfl,fun _ he=>by simp at he,Pairs.nil,cm⟩ ⟨aj _,fun _ h=>b5 h⟩ (beq_eq_false_iff_ne.mpr fun h=>?_) trivial;refine hde fun _ θ=>?_;obtain⟨mm,o,es,ep,h1,_⟩:=X.inv.gnd.glo.mods;apply θ;have:=X.inv.gnd.stay _ _ h1;rw[← h,hnew b (Or.inr hm)] at this;exact ns this
  ·exact ns q2
 ·have hc:c=a∨c∈bs:=by
   rcases hc with hc | ⟨r',bs',ee,p',m⟩
   ·exact Or.inl (Value.ref.inj hc).symm
   ·obtain rfl:=Value.ref.inj ee;obtain rfl:=s6 (List.toArray_inj (s7 hpa p'));exact Or.inr m
  refine hde fun _ θ=>?_;obtain⟨d1,d2,d3,d4,d5⟩:=X.newNot (hnew c hc);apply θ;exact⟨Or.inr hc,d4,d3,d1,fun y _ h=>d2 (X.ownA y c (X.ownK kk h)).1⟩
theorem Pw{e:Expr}{g:Str×Expr}(h:jE e=some g):∃ p q,e=.Subscript (.Name g.1 p) g.2 q:=by
 unfold jE at h;cases hv:vw e with
 |sub o i =>
  rw[hv] at h;obtain⟨x,h1,rfl⟩:=bf.mp h;obtain⟨p,rfl⟩:=dG h1;obtain⟨q,rfl⟩:=cY hv;exact⟨p,q,rfl⟩
 |_=>rw[hv] at h;exact ns h
theorem Bn{e:Expr}{c:Str×Str×Pos×List Expr×Pos}(h:kJ e=some c):∃ p,e=.Call (.Attribute (.Name c.1 p) c.2.1 c.2.2.1) c.2.2.2.1 [] c.2.2.2.2:=by
 refine hde fun _ θ=>?_;obtain⟨c1,h1,h⟩:=ob h;obtain⟨a,h2,h⟩:=ob h;obtain⟨x,h3,h⟩:=ob h;have e1:=sF h1;have e2:=zD h2;obtain⟨p,e3⟩:=dG h3;obtain⟨f,as,kws,q⟩:=c1;obtain⟨o,m,ap⟩:=a;apply θ;cases kws with
 |cons=>exact ns h
 |nil =>
  obtain rfl:=si h;exact⟨p,by simp only[e1,show f=_ from e2,show o=_ from e3]⟩
theorem Px{rec:Scope→aA→Expr→R V}{C:Ctx}{F:Nat}(hbad:∀ sc σ e,bad e=true→rec sc σ e=.no)(hc:C.hd=hd)
  (ihr:∀ sc σ e,aH O w mg mb base n hd (env::l₀) sc σ e (rec sc σ e)∧cC O w mg mb base n hd (env::l₀) sc σ e (rec sc σ e))
  (h:∀ σ e,aH O w mg mb base n hd (env::l₀) sc σ e (dO rec C sc σ e)) {t e:Expr} {pos:Pos}:aS O w mg mb base n hd l₀ env sc s₀ σ (exec (.Assign [t] e pos) env) fun kn _=>rV (dO rec C sc) F hd σ t e kn:=by
 unfold rV;cases hv:vw t with
 |name x =>
  obtain⟨p,rfl⟩:=cY hv;show aS O w mg mb base n hd l₀ env sc s₀ σ _ fun kn _=>match kK e with
   |some k=>rb (ofP (cL x (.pil (List.replicate k (.dict []))) σ)) kn
   |none=>rb (dO rec C sc (aA.cl σ (esc F e)) e) fun v=>rb (ofP (cL x v (aA.cl σ (esc F e)))) kn
  cases hpe:kK e with
  |some k =>
   refine hde fun _ θ=>?_;obtain⟨es,q,rfl,p1,p2,rfl⟩:=Pu hpe;apply θ;exact Pv p1 p2
  |none =>
  refine bcs (fV e) (fun hcm=>Be (swz hcm) (h _ e)) fun hcm=>zI (P:=fun e=>aS O w mg mb base n hd l₀ env sc s₀ σ (exec (.Assign [.Name x p] e pos) env) fun kn _=>rb (dO rec C sc (aA.cl σ (esc F e)) e) fun v=>rb (ofP (cL x v (aA.cl σ (esc F e)))) kn) hcm (fun elt gens sc' cpos=>?_) (fun _ _ _ _=>aS.no) fun _ _ _ _ _=>aS.no;cases gens with
  |nil=>exact aS.no
  |cons g gs =>
   cases gs with
   |cons=>exact aS.no
   |nil =>
    obtain⟨b,hsw⟩:∃ b:Bool,swapsWith (.ListComp elt [g] sc' cpos) (some (.Name x p)) pos.line env=pure b:=⟨_,rfl⟩
    cases b with
    |false=>exact Be hsw (h _ _)
    |true =>
     show aS O w mg mb base n hd l₀ env sc s₀ σ _ fun kn _=>rb (jC rec C.hd sc _ elt g sc') fun v=>rb (ofP (cL x v _)) kn;rw[hc];exact Pj hsw (hbad sc _) (ihr _ _ _).1 (fun _ _ _ _ _ a _=>(ihr _ _ a).1) (fun c _ σ'=>(ihr _ _ c).2) fun σ'=>(ihr _ _ elt).1
 |sub o i =>
  obtain⟨p,rfl⟩:=cY hv;show aS O w mg mb base n hd l₀ env sc s₀ σ _ fun kn _=>match bH o with | some x=>nV (dO rec C sc) F σ x i e kn | none=>(match jE o with | some (x,i')=>nW (dO rec C sc) (aA.cl σ (esc F e)) x i' i e kn | none=>.no)
  cases hn:bH o with
  |none =>
   show aS O w mg mb base n hd l₀ env sc s₀ σ _ fun kn _=>match jE o with | some (x,i')=>nW (dO rec C sc) (aA.cl σ (esc F e)) x i' i e kn | none=>.no
   cases hq:jE o with
   |none=>exact aS.no
   |some g =>
    obtain⟨p1,p2,rfl⟩:=Pw hq;exact Pr h
  |some x =>
   obtain⟨q,rfl⟩:=dG hn;show aS O w mg mb base n hd l₀ env sc s₀ σ _ fun kn _=>nV (dO rec C sc) F σ x i e kn;unfold nV;cases hm:kJ e with
   |none=>exact Bj h
   |some c =>
    obtain⟨y,m,ap,as,cp⟩:=c;show aS O w mg mb base n hd l₀ env sc s₀ σ _ fun kn _=>if m = "pop" then rS (dO rec C sc) (aA.cl σ (as.flatMap (esc F))) x i y ap as cp kn else nT (dO rec C sc) (aA.cl σ (esc F e)) x i e kn
    by_cases hp:m = "pop"
    ·subst hp;simp only[if_true];obtain⟨yp,rfl⟩:=Bn hm;exact Pi h
    ·simp only[if_neg hp];exact Bj h
 |tup es =>
  obtain⟨k,p,rfl⟩:=cY hv;exact Po (h _ e)
 |_=>exact aS.no
theorem Py{ev:EV}(hbad:∀ σ e,bad e=true→ev σ e=.no)(h:∀ σ e,aH O w mg mb base n hd (env::l₀) sc σ e (ev σ e)){F:Nat}{e:Expr}{pos:Pos}:aS O w mg mb base n hd l₀ env sc s₀ σ (exec (.Expr e pos) env) fun kn _=>rW ev F σ e kn:=by
 unfold rW;cases hm:kJ e with
 |some c =>
  obtain⟨x,m,ap,as,cp⟩:=c;obtain⟨xp,rfl⟩:=Bn hm;exact Pc hbad fun e _=>h _ e
 |none =>
  cases hc:fV e with
  |true=>exact aS.no
  |false=>exact O7 hc (h _ e)
end
section
variable {O:Program} {w:World} {mg mb:Str→Option Value} {base:Heap} {n:Nat} {hd:Bool} {l₀:List Env} {env:Env} {sc:Scope} {av₀:Addr→Prop} {s₀:Shared} {σ:aA} {av:Addr→Prop} {s:Shared}
theorem bF.weaken{av₁:Addr→Prop}{h:Heap}{v:Value}{u:V}(hw:∀ b,av₀ b→av₁ b)(r:bF O w s₀ h av₁ v u):bF O w s₀ h av₀ v u:=by
 cases u with
 |ex x=>exact r
 |pil l=>exact r
 |fz d=>exact(show Rep O w h av₁ v d from r).mono (fun _ _ _ e=>e) fun b _ _ x=>hw b x
 |own d=>obtain⟨a,e,hn,rb⟩:=r;exact⟨a,e,hn,rb.mono (fun _ _ _ e=>e) (fun b _ _ x=>x.imp (hw b) id) fun _ e=>e⟩
theorem Pz{A:Around}{s₂:Shared}{t:Expr}{b:List Stmt}{it:Value}{wr:Addr→Prop}{St:Nat→Heap→Prop}{ds:List PyData}{body:aA→KN→KR→R V}
  (hA:Room base n hd (env::l₀) A) (hh:A.handled=none) (Y:Act O w mg mb base l₀ env sc av₀ s₀ σ av s) (hb:∀ σ,aS O w mg mb base n hd l₀ env sc s₀ σ (execs b env) (body σ))
  (k:Kp s s₂) (S:Src O w A s.heap av t it wr St ds) (hst:St 0 s₂.heap) (hwr:∀ b,wr b→s.heap.get? b=none∧∃ o,s₂.heap.get? b=some o)
  {kn:KN} {kr:KR} {fin:R V} {Q:Flow→Shared→Prop} {E:Value→Shared→Prop} (hf:aQ body t ds σ kn kr=fin) (hne:fin≠.no) (hp:PassesOwn (model O w) A env E)
  (hn:∀ s' σ' av',Act O w mg mb base l₀ env sc av₀ s₀ σ' av' s'→Fr (env::l₀) av₀ s av s' av'→kn σ'=fin→Q .next s') (hr:∀ v s' u,K l₀ s₀ s'→bF O w s₀ s'.heap av₀ v u→kr u=fin→Q (.ret v) s')
  (he:∀ x v s',fin=.exc x→Upx O w mg base l₀ env s₀ av₀ x v s'→E v s') :
  codeAny (model O w) A (.forLoop t it b [] env) (fun r s'=>match r with | .ok f=>Q f s' | .error e=>cameBackBy (model O w) A env E e s') s₂:=by
 have kk:K (env::l₀) s s₂:=K.of k;have Z:=Y.pin (S:=wr) kk (fun a ha=>(hwr a ha).1) (fun a ha=>(hwr a ha).2);have fr0:Fr (env::l₀) av₀ s av s₂ (fun b=>av b∨wr b):=⟨(Y.frk kk).keep,fun b o e h=>h.elim id (fun h=>by rw[(hwr b h).1] at e;exact ns e),(Y.frk kk).pins⟩
 have nw:∀ b,wr b→¬ Mn env b∧¬ av b∧¬ av₀ b∧s₀.heap.get? b=none∧¬ frs (env::l₀) b:=fun b h=>Y.newNot (hwr b h).1;have hM:∀ b,Mn env b→¬ wr b:=fun b m h=>(nw b h).1 m;have not0:∀ b,av₀ b→¬ wr b:=fun b x h=>(nw b h).2.2.1 x;have hf0:∀ b,frs l₀ b→av₀ b:=fun b h=>(Y.fr0 b h).1;refine codeAny_forLoop_any (fun k st=>∃ (i:Nat) (σi:aA) (avi:Addr→Prop),i+k=ds.length∧Act O w mg mb base l₀ env sc (fun b=>av₀ b∨wr b) s₀ σi avi st∧Fr (env::l₀) av₀ s av st avi∧St i st.heap∧aQ body t (ds.drop i) σi kn kr=fin) ?_ ds.length
  ⟨0,σ,_,Nat.zero_add _,Z,fr0,hst,hf⟩
 rintro k' st ⟨i,σi,avi,hi,X,fr,sti,hfi⟩
 by_cases hend:i=ds.length
 ·subst hend;rw[List.drop_length] at hfi;refine aq (S.done st _ (fun s'=>Q .next s') sti fun h' tk hk=>hn _ σi (fun b=>avi b∧¬ wr b) ?_ (fr.tr ⟨fun b o e hb=>hk b o (fun hw=>hb (X.bas b (.inr hw))) e,fun _ _ _ h=>h.1,fun b o hb _ e=>hk b o (not0 b hb) e⟩) hfi) (fun r s₁ h₁=>?_) fun _ _ x=>x
  ·exact(X.weaken (fun b hb=>.inl hb) hf0).wildS (S:=wr) (fun b hb=>X.bas b (.inr hb)) (fun b h=>(nw b h).2.2.2.1) hM (fun x a h hw=>(X.ownA x a h).2.2.1 (.inr hw)) hk (fun b hb=>hb.1) (fun b hb hw=>⟨hb,hw⟩) (fun b hb hw=>absurd hw hb.2) (fun b hb=>⟨X.bas b (.inl hb),not0 b hb⟩)
  ·cases r with
   |none=>exact gd h₁
   |some v=>exact h₁.elim
 ·have hlt:i < ds.length:=by exact xD hi hend
  rw[List.drop_eq_getElem_cons hlt] at hfi;obtain⟨σ1,hasg,hfi⟩:=cT (show rb (ofP (aR t ds[i] σi)) (fun σ=>body σ (fun σ=>aQ body t (ds.drop (i+1)) σ kn kr) kr)=fin from hfi) hne;refine aq (S.item i ds[i] st _ ?QQ (List.getElem?_eq_getElem hlt) sti ?body) ?link fun _ _ x=>x
  case link =>
   intro r s₁ h₁;cases r with
   |none=>exact h₁.elim
   |some v=>exact h₁
  intro v h1 tk1 hk1 st1 hrep;have X1:Act O w mg mb base l₀ env sc (fun b=>av₀ b∨wr b) s₀ σi avi { st with heap:=h1,toks:=tk1 } :=
   X.wildS (S:=wr) (fun b hb=>X.bas b (.inr hb)) (fun b h=>(nw b h).2.2.2.1) hM (fun x a h hw=>(X.ownA x a h).2.2.1 (.inr hw)) hk1 (fun b hb=>hb) (fun b hb _=>hb) (fun b _ hw=>S.live _ _ st1 b hw) X.bas
  have rv:=hrep avi X.inv.gnd.avlt fr.grow;have fr1:Fr (env::l₀) av₀ st avi { st with heap:=h1,toks:=tk1 } avi:=⟨fun b o e hb=>hk1 b o (fun hw=>hb (X.bas b (.inr hw))) e,fun _ _ _ h=>h,fun b o hb _ e=>hk1 b o (not0 b hb) e⟩
  refine Bm hh X1 rv hasg fun s2 Y2 fr2=>wpAny_passesOwn hp ?_;refine hb σ1 _ A s2 avi hA Y2 hfi hne hp (fun s3 σ3 av3 Y3 fr3 e3=>?_) (fun v s' u k r e=>hr v s' u k (r.weaken fun _ h=>.inl h) e) fun x v s' e u=>he x v s' e (u.weaken fun _ h=>.inl h);have frA:=fr1.tr ((fr2.weaken fun b hb=>.inl hb).tr (fr3.weaken fun b hb=>.inl hb));refine⟨k' - 1,by exact qV hi hend,i+1,σ3,av3,by exact qW hi hend,Y3,fr.tr frA,S.frame _ _ _ st1 (fun b o hw e=>fr3.pins b o (.inr hw) (nw b hw).2.2.2.2 (fr2.pins b o (.inr hw) (nw b hw).2.2.2.2 e)) (fr.tr frA).keep,e3⟩
theorem P0{rec:Expr→R V}{t it:Expr}{k:List PyData→R V}{fin:R V}(h:rb (fW rec hd sc t it) k=fin)(hne:fin≠.no):hd=false:=by
 cases hd with
 |false=>rfl
 |true=>exact absurd h.symm hne
theorem P1{ev:EV}(hbad:∀ σ e,bad e=true→ev σ e=.no)(h:∀ σ e,aH O w mg mb base n hd (env::l₀) sc σ e (ev σ e)){t it:Expr}{b:List Stmt}{pos:Pos}{xs:List Str}{body:aA→KN→KR→R V}
  (hb:∀ σ,aS O w mg mb base n hd l₀ env sc s₀ σ (execs b env) (body σ)) :
  aS O w mg mb base n hd l₀ env sc s₀ σ (exec (.For t it b [] pos) env) fun kn kr=>rb (fW (ev (aA.cl σ xs)) hd sc t it) fun l=>aQ body t l (aA.cl σ xs) kn kr:=by
 intro av₀ A s av hA X kn kr fin Q E hf hne hp hn hr he;refine hde fun _ θ=>?_;obtain⟨av1,Y,hsb⟩:=X.cl xs;apply θ;have hh:=hA.handled (P0 hf hne);have hb':bad it=false:=eT (fun e=>A7 (hbad _) e) (Fin.ne ⟨hf,hne⟩);have hs:∀ x,foldedSetIterable it env x=pure x:=zF hb';refine wpAny_For (A3 (target:=t) (hbad _) (h _ it) (fun _ _ _ _ _ a _=>h _ a) A env s av1 hA Y.inv ⟨hf,hne⟩ (fun itv s₂ ds x e=>?_) fun x v s' e f=>he x v s' e (Y.up f)) hs;obtain⟨s₁,wr,St,k0,S,hst,hwr,k2,_⟩:=x;exact Pz hA hh (Y.k k0) hb k2 S hst hwr e hne hp (fun s' σ' av' Z f e=>hn s' σ' av' Z ((Fr.sub hsb).tr ((Y.frk k0).tr f)) e) hr he
end
section
variable {M:Model} {A:Around} {E:Value→Shared→Prop} {env:Env}
variable {nm q:Str} {C N:Addr} {bs bm:List Value} {hdct:Bool} {sn:List Str} {sub:List Value} {ab:Bool} {col:Option Bool} {dd:Option Addr} {k0 k1 k2 k3 k5:Option Value} {newId:String}
theorem P2{s:Shared}{x:Sem Value}{Q:Flow→Shared→Prop}(hbase:bm.contains (.type "BaseException")=true)(hh:A.handled=none)
  (h:wpAny M A x (fun v s₁=>∃ (e:Addr) (dx:Option Addr) (t:Addr),v=.ref e∧s₁.heap.get? C=some (excClassObj nm q C N bs bm hdct sn sub ab col dd k0 k1 k2 k3 k5 newId)∧s₁.heap.get? e=some { cls:=.ref C,dict:=dx,data:=.fields #[.ref t,.none,.none,.none,.bool false,.none] }∧E (.ref e) s₁) E s) :
  wpAny M A (raiseStmt env (some x) none) Q E s:=by
 have hcB:(Value.ref C::bm).contains (.type "BaseException")=true:=by rw[List.contains_cons,hbase,Bool.or_true]
 unfold raiseStmt;refine U (aq h (fun v s₁ h₁=>?_) fun _ _ x=>x);refine hde fun _ θ=>?_;obtain⟨e,dx,t,rfl,hC,he,hE⟩:=h₁;obtain⟨hp,g,d,tk,os⟩:=s₁;apply θ
 repeat (first | with_reducible refine bo he ?_ | with_reducible refine bo hC ?_ | (with_reducible refine fg hC ?_;rw[hcB]) | wp_step)
 exact wpAny_raiseNew_none hh hE
theorem P3{s:Shared}{x:Str}{np cpos pos:Pos}{args:List Expr}{Q:Flow→Shared→Prop}(hbase:bm.contains (.type "BaseException")=true)(hh:A.handled=none)(hs:args.any bad=false)
  (h:wpAny M A (eval (.Name x np) env) (fun f s₁=>f=.ref C∧wpAny M A (spliced (backTo cpos (starEach args env))) (fun vs s₂=>s₂.heap.get? C=some (excClassObj nm q C N bs bm hdct sn sub ab col dd k0 k1 k2 k3 k5 newId) ∧
   wpAny M A (call (.ref C) vs) (fun v s₃=>∃ (e:Addr) (dx:Option Addr) (t:Addr),v=.ref e∧s₃.heap.get? C=some (excClassObj nm q C N bs bm hdct sn sub ab col dd k0 k1 k2 k3 k5 newId)∧s₃.heap.get? e=some { cls:=.ref C,dict:=dx,data:=.fields #[.ref t,.none,.none,.none,.bool false,.none] }∧E (.ref e) s₃) E s₂) E s₁) E s) :
  wpAny M A (exec (.Raise (some (.Call (.Name x np) args [] cpos)) none pos) env) Q E s:=by
 have hplain:=sW (env:=env) (pos:=cpos) hs;rw[arm_exec_Raise];refine U (bw (P2 (C:=C) (nm:=nm) (q:=q) (N:=N) (bs:=bs) (bm:=bm) (hdct:=hdct) (sn:=sn) (sub:=sub) (ab:=ab) (col:=col) (dd:=dd) (k0:=k0) (k1:=k1) (k2:=k2) (k3:=k3) (k5:=k5) (newId:=newId) hbase hh ?_));refine U (aq (wpAny_Call_ofName (aq h (fun f s₁ h₁=>?_) fun _ _ x=>x)) (fun v s₃ h₃=>U (bw (ac h₃))) fun _ _ x=>x);obtain⟨rfl,h₁⟩:=h₁;unfold callWith;refine U (ao (sV hs (aq h₁ (fun a s₂ h₂=>U (bw ?_)) fun _ _ x=>x)));obtain⟨hC,h₂⟩:=h₂;simp only[hplain];obtain⟨hp,g,d,tk,os⟩:=s₂;refine U (wpAny_keeperOf_exc hC ?_);exact U (aq h₂ (fun v s₃ h₃=>U (ao (wpAny_point (ac h₃)))) fun _ _ x=>x)
end
section
variable {O:Program} {w:World} {A:Around} {E:Value→Shared→Prop} {h:Heap} {g:Array GenState} {d:Drawn} {t:Nat} {os:OsState}
variable {nm q:Str} {C N:Addr} {bs bm bmB:List Value} {hdct:Bool} {sn:List Str} {sub:List Value} {ab:Bool} {col:Option Bool} {dd:Option Addr} {k0 k1 k2 k3 k5:Option Value} {B newId initId:String}
theorem P4(F:ExcBaseFacts B newId initId bmB)(T:OwnTail h bmB bm){mN:Str→Option Value}{rest:List Value}{fI:Addr}{oI:Obj}{Q:Value→Shared→Prop}
  (hC:h.get? C=some (excClassObj nm q C N bs bm hdct sn sub ab col dd k0 k1 k2 k3 k5 newId)) (hn:h.Ns N mN) (hi:mN "__init__" = some (.ref fI)) (hfI:h.get? fI=some oI) (hfc:oI.cls=.type "function") (hrest:rest.length≤sizeLine)
  (hq:∀ h' e,Heap.MadeExcOf h h' e (.ref C) rest →
   wpAny (model O w) (A.under (.builtin "type.__call__" ⟨.ref C::rest,[]⟩)) (call (.ref fI) (.ref e::rest)) (fun r s'=>r=.none∧Q (.ref e) s') E ⟨h',g,d,t,os⟩) :
  wpAny (model O w) A (call (.ref C) rest) Q E ⟨h,g,d,t,os⟩:=by
 have f1:=tc_lookup;have f2:=tc_bind (.ref C);have hT:(⟨h,g,d,t,os⟩:Shared).TypeIs (.ref C) "type" := ⟨_,hC,rfl⟩
 refine wpAny_call (codeAny_of_tree ?_);show wpAny _ _ (callAny (.ref C) _) _ _ _
 repeat (any_goals (first | assumption | with_reducible refine bo hC ?_ | wp_step))
 refine⟨rfl,?_⟩;refine codeAny_call_builtin_at (Code.quiet_builtin _ (by decide +kernel)) entry_typeCall (wpAny_check_type_call_sub hC ?_)
 repeat (first | with_reducible refine bo hC ?_ | with_reducible refine wpAny_madeBy_exc hC ?_ | wp_step)
 refine codeAny_call_builtin_code (Code.quiet_builtin _ F.quiet) (wpAny_check_new_subT F T hC (codeAny_exc_new_subT F T hC ?_ hrest));show wpAny _ _ _ _ _ ⟨(h.push { cls:=.type "tuple", data:=.seq rest.toArray }).push { cls:=.ref C,data:=.fields #[.ref h.objs.size,.none,.none,.none,.bool false,.none] },g,d,t,os⟩;generalize hH:(h.push { cls:=.type "tuple", data:=.seq rest.toArray }).push { cls:=.ref C,data:=.fields #[.ref h.objs.size,.none,.none,.none,.bool false,.none] }=H;have up:∀ b o,h.get? b=some o→H.get? b=some o:=fun b o e=>hH▸af _ (af _ e);have hget:H.get? (h.objs.size+1)=some { cls:=.ref C,data:=.fields #[.ref h.objs.size,.none,.none,.none,.bool false,.none] }:=by subst hH;heap_get
 have htup:H.get? h.objs.size=some { cls:=.type "tuple", data:=.seq rest.toArray }:=by subst hH;exact af _ (Heap.get?_push_at rfl rfl)
 have hC₁:=up _ _ hC;have hcC:(Value.ref C::bm).contains (.ref C)=true:=by simp
 unfold isInstance
 repeat (first | with_reducible refine bo hget ?_ | (with_reducible refine fg hC₁ ?_;rw[hcC]) | wp_step)
 show wpAny _ _ (typeLookup (.ref C) _) _ _ _;refine wpAny_typeLookup_tail hC₁ (hn.keeps up) (T.keeps up) F.mroIs F.init.lookup ?_;rw[hi];refine ao (U ?_);unfold bindSpecial;refine U (wpAny_typeOf (T := "function") ⟨_,up _ _ hfI,hfc⟩ ?_);rw[if_pos (by decide)];refine ac (U (aq (hq H (h.objs.size+1) ⟨up,cy (ai _),h.objs.size,hget,cy (ay _),htup⟩) (fun r s' hr=>?_) fun _ _ x=>x));obtain⟨rfl,hQ⟩:=hr
 wp_walk
 exact hQ
end
end Mine.Internal
namespace Mine.Internal
open PySem Builtin Builtin.ObjectAttr
inductive TailN(h:Heap)(bmB:List Value)(ns:List Str):List Value→Prop
 |base:TailN h bmB ns bmB
 |own {A:Addr} {c0:Value} {dd:Option Addr} {cd:ClassData} {sl:Array (Option Value)} {mA:Str→Option Value} {tl:List Value} :
   h.get? A=some { cls:=c0,dict:=dd,data:=.cls cd,slots:=sl }→h.Ns cd.ns mA→(∀ n∈ns,mA n=none)→TailN h bmB ns tl→TailN h bmB ns (.ref A::tl)
theorem TailN.tail{h:Heap}{bmB tl:List Value}{ns:List Str}(hi:Str.ofString "__init__" ∈ ns)(T:TailN h bmB ns tl):OwnTail h bmB tl:=by
 induction T with
 |base=>exact .base
 |own h1 h2 h3 _ ih=>exact .own h1 h2 (h3 _ hi) ih
theorem TailN.keeps{h h':Heap}{bmB tl:List Value}{ns:List Str}(hk:∀ b o,h.get? b=some o→h'.get? b=some o)(T:TailN h bmB ns tl):TailN h' bmB ns tl:=by
 induction T with
 |base=>exact .base
 |own h1 h2 h3 _ ih=>exact .own (hk _ _ h1) (h2.keeps hk) h3 ih
theorem TailN.less{h:Heap}{bmB tl:List Value}{ns ns':List Str}(hs:∀ n∈ns',n∈ns)(T:TailN h bmB ns tl):TailN h bmB ns' tl:=by
 induction T with
 |base=>exact .base
 |own h1 h2 h3 _ ih=>exact .own h1 h2 (fun n hn=>h3 n (hs n hn)) ih
theorem TailN.refuse{h:Heap}{bmB tl:List Value}{ns:List Str}(T:TailN h bmB ns tl){self:Value}{what:Str}(hp:refuseLoop self what bmB=pure ()):refuseLoop self what tl=pure ():=by
 induction T with
 |base=>exact hp
 |own _ _ _ _ ih=>rw[refuseLoop_ref];exact ih
section
variable {M:Model} {A:Around} {E:Value→Shared→Prop} {h:Heap} {g:Array GenState} {d:Drawn} {t:Nat} {os:OsState}
variable {nm q:Str} {C N:Addr} {bs bm bmB:List Value} {hdct:Bool} {sn:List Str} {sub:List Value} {ab:Bool} {col:Option Bool} {dd:Option Addr} {k0 k1 k2 k3 k5:Option Value} {B newId:String} {mN:Str→Option Value} {ns:List Str}
theorem P5{tl:List Value}{n:Str}{y:Option Value}{Q:Option Value→Shared→Prop}(T:TailN h bmB ns tl)(hn:n∈ns)(hrest:lookupAlong bmB n=pure y)(hq:Q y ⟨h,g,d,t,os⟩):wpAny M A (lookupAlong tl n) Q E ⟨h,g,d,t,os⟩:=by
 induction T with
 |base=>rw[hrest];exact ac hq
 |own h1 h2 h3 _ ih =>
  rw[lookupAlong_cons];refine U (wpAny_classOwn_cls h1 h2 ?_);rw[h3 n hn];exact ih
theorem kX{n:Str}{y:Option Value}{Q:Option Value→Shared→Prop}(hC:h.get? C=some (excClassObj nm q C N bs bm hdct sn sub ab col dd k0 k1 k2 k3 k5 newId))(hN:h.Ns N mN)(T:TailN h bmB ns bm)(hbm:mroOf (.type B)=pure bmB)(hn:n∈ns)(h0:mN n=none)
  (hB:typeLookup (.type B) n=pure y) (hq:Q y ⟨h,g,d,t,os⟩):wpAny M A (typeLookup (.ref C) n) Q E ⟨h,g,d,t,os⟩:=by
 have hrest:lookupAlong bmB n=pure y:=by rw[typeLookup_eq,hbm] at hB;exact hB
 rw[typeLookup_eq];refine U (wpAny_mroOf_exc hC ?_);rw[lookupAlong_cons];refine U (wpAny_classOwn_exc hC hN ?_);rw[h0];exact P5 T hn hrest hq
end
inductive InD(G:Addr→Prop)(h:Heap)(e:Addr)(ns:List Str)(m:Str→Option Value)(dx:Option Addr):Prop where
 |mk (d:Addr) (e1:dx=some d) (n:d≠e) (g:¬ G d) (hn:h.Ns1 d m) (w:Within m ns):InD G h e ns m dx
inductive InE(G:Addr→Prop)(h:Heap)(e C t:Addr)(ns:List Str)(m:Str→Option Value):Prop where
 |mk (dx:Option Addr) (he:h.get? e=some { cls:=.ref C,dict:=dx,data:=.fields #[.ref t,.none,.none,.none,.bool false,.none] }) (hd:(dx=none∧∀ y,m y=none)∨InD G h e ns m dx):InE G h e C t ns m
section
variable {O:Program} {w:World} {A:Around} {E:Value→Shared→Prop} {h:Heap} {g:Array GenState} {d:Drawn} {t:Nat} {os:OsState}
variable {nm q:Str} {C N e tt:Addr} {bs bm bmB:List Value} {sn:List Str} {sub:List Value} {ab:Bool} {col:Option Bool} {dd:Option Addr} {k0 k1 k2 k3 k5:Option Value} {B newId sa owner:String} {mN:Str→Option Value} {ns vs:List Str} {name:Str} {v:Value}
theorem P6{M:Model}{o:Obj}{nameV:Value}{Q:Unit→Shared→Prop}(SF:StoreFacts B bmB sa owner)(hb:bm.contains (.type owner)=true)
  (hC:h.get? C=some (excClassObj nm q C N bs bm true sn sub ab col dd k0 k1 k2 k3 k5 newId)) (hx:h.get? e=some o) (hc:o.cls=.ref C) (hq:Q () ⟨h,g,d,t,os⟩) :
  wpAny M A (checkBuiltinCall sa ⟨[.ref e,nameV,v],[]⟩) Q E ⟨h,g,d,t,os⟩:=by
 have hcB:(Value.ref C::bm).contains (.type owner)=true:=by rw[List.contains_cons,hb,Bool.or_true]
 have ha:=SF.args (.ref e) nameV v;simp only[checkBuiltinCall,SF.kind,SF.split];refine U ?_;unfold isInstance
 repeat (first | (with_reducible refine bo hx ?_;rw[hc]) | (with_reducible refine fg hC ?_;rw[hcB]) | wp_step)
 cases hsig:Manifest.signature? sa with
 |none=>exact ac hq
 |some sig =>
  simp only[argsOk,hsig] at ha;have h2:Bind.checkArgs sa sig ⟨[.ref e,nameV,v],[]⟩=pure ():=ha;show wpAny M A (Bind.checkArgs sa sig ⟨[.ref e,nameV,v],[]⟩) Q E _;rw[h2];exact ac hq
theorem Bp{dx:Addr}{m:Str→Option Value}{tk:Tok}{Q:PySem.Fin→Shared→Prop}(hn:h.Ns1 dx m)(hw:Within m vs)(hl:vs.length < 100)
  (hq:∀ h' tk',h'.Ns1 dx (fun y=>if y=name then some v else m y)→Heap.SameBut dx h h'→Q (.done (.ret .none)) ⟨h',g,d,tk',os⟩):wpAny (model O w) A (storeInDict dx (.str name tk) name v) Q E ⟨h,g,d,t,os⟩:=by
 unfold storeInDict newKeyGuard;refine U (ac (U (wpAny_nsSet1 hn fun h' hn' hs=>?_)));refine hde fun _ θ=>?_;obtain⟨oD,esD,epD,hoD,hdD,hcD⟩:=hn'.count (Within.cons name v hw);apply θ;refine U (wpAny_lookBehind hoD (by rw[hdD];exact pastItsLine_dict (aa hcD (by rw[List.length_cons,sizeLine_eq];exact Gb hl))) ?_)
 wp_walk
 exact hq h' _ hn' hs
theorem P7{G:Addr→Prop}{m:Str→Option Value}{Q:Unit→Shared→Prop}(SF:StoreFacts B bmB sa owner)(hb:bm.contains (.type owner)=true)(hC:h.get? C=some (excClassObj nm q C N bs bm true sn sub ab col dd k0 k1 k2 k3 k5 newId))(hN:h.Ns N mN)(T:TailN h bmB ns bm)
  (hs0:Str.ofString "__setattr__" ∈ ns) (hs1:mN "__setattr__" = none) (hn0:name∈ns) (hn1:mN name=none) (hB:typeLookup (.type B) name=pure none) (I:InE G h e C tt vs m) (hG:∀ b,G b→b≠e∧∃ o,h.get? b=some o) (hl:vs.length < 100)
  (hq:∀ h' tk,InE G h' e C tt (name::vs) (fun y=>if y=name then some v else m y)→(∀ b o,G b→h.get? b=some o→h'.get? b=some o)→Q () ⟨h',g,d,tk,os⟩):wpAny (model O w) A (setAttr (.ref e) name v) Q E ⟨h,g,d,t,os⟩:=by
 obtain⟨dx,hx,hd⟩:=I;have f3:=SF.slot.bind (.ref e);have hpass:=T.refuse (SF.passes (.ref e));have hZ:sizeLine=16777216:=rfl;unfold setAttr callSpecial? specialOf
 repeat (any_goals (first | assumption | with_reducible refine bo hx ?_ | with_reducible refine kX hC hN T SF.mro hs0 hs1 SF.slot.lookup ?_ | wp_step))
 refine codeAny_call_builtin SF.slot.plain SF.entry (P6 SF hb hC hx rfl ?_);unfold Builtin.«object.__setattr__»
 repeat (first | rw[refuse_eq] | (rw[refuseLoop_ref,hpass]) | with_reducible refine bo hx ?_ | with_reducible refine wpAny_mroOf_exc hC ?_ | with_reducible refine kX hC hN T SF.mro hn0 hn1 hB ?_ | wp_step)
 rcases hd with ⟨rfl,hm0⟩ | ⟨dx,rfl,hne,hGd,hns,hw⟩
 ·have hxs:e≠h.objs.size:=bx (bh hx);have hx₁:(h.push { cls:=.type "dict", data:=.dict #[] }).get? e=_:=af _ hx;rw[if_neg (by simp[typeHasDict])];refine U (wpAny_alloc' (U (wpAny_update' hx₁ (ac ?_))));generalize hH:((h.push { cls:=.type "dict", data:=.dict #[] }).update e fun o=>{ cls:=o.cls,dict:=some h.objs.size,data:=o.data,slots:=o.slots })=H;have hgd:H.get? h.objs.size=some { cls:=.type "dict", data:=.dict #[] }:=by subst hH;exact(Heap.get?_update_ne _ _ _ _ hxs.symm).trans (Heap.get?_push_at rfl rfl)
  have hge:H.get? e=some { cls:=.ref C,dict:=some h.objs.size,data:=.fields #[.ref tt,.none,.none,.none,.bool false,.none] }:=by subst hH;exact fw _ hx₁ rfl
  have hgo:∀ b o,b≠e→h.get? b=some o→H.get? b=some o:=fun b o hb e=>by subst hH;exact(Heap.get?_update_ne _ _ _ _ hb).trans (af _ e)
  have hnd:H.Ns h.objs.size (fun _=>none):=⟨_,#[],_,hgd,rfl,fun e he=>absurd he (by simp),fun _=>rfl⟩
  obtain rfl:m=fun _=>none:=funext hm0;refine Bp (vs:=vs) (Heap.Ns1.of_empty hnd) (fun _ h=>absurd rfl h) hl fun h' tk' hn' hs=>ac (ac (hq h' _ ⟨some h.objs.size,(hs.2 e hxs).trans hge,.inr ⟨_,rfl,hxs.symm,fun x=>?_,hn',Within.cons name v fun _ h=>absurd rfl h⟩⟩ fun b o hb eb=>?_))
  ·obtain⟨_,o,ho⟩:=hG _ x;rw[bU] at ho;cases ho
  ·exact(hs.2 b (bx (bh eb))).trans (hgo b o (hG b hb).1 eb)
 ·refine ac (Bp hns hw hl fun h' tk' hn' hs=>ac (ac (hq h' _ ⟨some dx,(hs.2 e hne.symm).trans hx,.inr ⟨_,rfl,hne,hGd,hn',Within.cons name v hw⟩⟩ fun b o hb eb=>(hs.2 b fun x=>hGd (x▸hb)).trans eb)))
end
end Mine.Internal
namespace Mine.Internal
open PySem
theorem tE{α:Type}:∀ {ps:List Str} {us:List α} {x:Str} {v:α},(ps.zip us).lookup x=some v→∃ i:Nat,ps[i]?=some x∧us[i]?=some v
 | [],_,_,_,h=>by simp at h
 |_::_,[],_,_,h=>by simp at h
 |p::ps,u::us,x,v,h=>by
  rw[List.zip_cons_cons,List.lookup_cons] at h;refine bcs (x==p) (fun hb=>?_) fun hb=>?_
  ·rw[hb] at h;obtain⟨i,h1,h2⟩:=tE h;exact⟨i+1,by simpa using h1,by simpa using h2⟩
  ·rw[hb] at h;obtain rfl:=si h;exact⟨0,by simp[beq_iff_eq.mp hb],rfl⟩
theorem tF{α:Type}:∀ {ps:List Str} {us:List α} {x:Str} {v:α} {i:Nat},ps.Nodup→ps[i]?=some x→us[i]?=some v→(ps.zip us).lookup x=some v
 | [],_,_,_,_,_,h,_=>by simp at h
 |_::_,[],_,_,_,_,_,h=>by simp at h
 |p::ps,u::us,x,v,i,hn,h1,h2=>by
  rw[List.zip_cons_cons,List.lookup_cons];cases i with
  |zero =>
   simp at h1 h2;subst h1;subst h2;simp
  |succ i =>
   simp at h1 h2;have hne:(x==p)=false:=by
    rw[beq_eq_false_iff_ne];intro e;subst e;exact(aw.mp hn).1 (cc h1)
   rw[hne];exact tF (aw.mp hn).2 h1 h2
theorem Bq:∀ (ps:List Str) (vs:List Value) (f:Str→Option Value),ps.length=vs.length→(∀ (i:Nat) x v,ps[i]?=some x→vs[i]?=some v→f x=some v)→(ps.filterMap fun n=>(f n).map (n,·))=ps.zip vs
 | [],[],_,_,_=>rfl
 | [],_::_,_,h,_=>by simp at h
 |_::_,[],_,h,_=>by simp at h
 |p::ps,v::vs,f,hl,h=>by
  have h0:=h 0 p v rfl rfl;rw[List.filterMap_cons,h0,List.zip_cons_cons];simp only[Option.map_some];rw[Bq ps vs f (by simpa using hl) fun i x v' h1 h2=>h (i+1) x v' (by simpa using h1) (by simpa using h2)]
theorem Bs{α:Type}{c:Bool}{x y z:α}(h:c=false)(e:y=z):(if c=true then x else y)=z:=by rw[h];exact e
theorem Bt{fd:FuncData}{as:List Arg}{kwd:List (Option Expr)}{dfl:List Expr}{vals:List Value}(hp:fd.params=⟨[],as,none,[],kwd,none,dfl⟩)(hd:fd.defaults=.none)(hl:as.length=vals.length)(hn:(as.map (·.arg)).Nodup) :
  bindArgs fd ⟨vals,[]⟩=pure ((as.map (·.arg)).zip vals):=by
 have hf:((as.map (·.arg)).filterMap fun n=>(((as.map (·.arg)).zip vals).lookup n).map (n,·))=(as.map (·.arg)).zip vals :=
  Bq _ _ _ (by simpa using hl) fun i x v h1 h2=>tF hn h1 h2
 have hm:((as.map (·.arg)).filter fun n=>(((as.map (·.arg)).zip vals).lookup n).isNone)=[]:=by
  rw[ie];intro x hx;obtain⟨i,hi⟩:=gq.mp hx;have hlt:i < vals.length:=by
   have:=(bg.mp hi).1;simp at this;exact Gc hl this
  rw[tF hn hi (List.getElem?_eq_getElem hlt)];simp
 obtain⟨nm,qn,pr,bd,sc,gl,cl,df,kd,dc,pm,an,cd,ct,bt⟩:=fd;obtain rfl:pr=_:=hp;obtain rfl:df=_:=hd;refine Bs (c:=decide (vals.length > (as.map (·.arg)).length)&&true) (by simp[hl]) ?_;dsimp only [List.map_nil,List.nil_append,Option.getD_none,Array.toList_empty,List.length_nil,List.append_nil];simp only[List.drop_nil];refine Bs (c:=!(List.filter (fun n=>(((as.map (·.arg)).zip vals).lookup n).isNone) (List.take ((as.map (·.arg)).length - 0) (as.map (·.arg)))).isEmpty) ?_ ?_
 ·rw[Nat.sub_zero,List.take_length];exact congrArg (fun l=>!List.isEmpty l) hm
 ·dsimp only [List.length_nil,Nat.sub_zero];simp only[List.drop_length];exact congrArg (pure (f:=Sem)) ((congrArg (List.filterMap _) (List.append_nil _)).trans hf)
theorem Bu{kindOf:Str→Option NameKind}:∀ {ps:List Str} {vs:List Value} {m:Str→Option Value} {x:Str},x∉ps→bindL kindOf (ps.zip vs) m x=m x
 | [],_,_,_,_=>rfl
 |_::_,[],_,_,_=>rfl
 |p::ps,v::vs,m,x,h=>by
  show bindL kindOf (ps.zip vs) _ x=m x;simp at h;rw[Bu h.2]
  split
  ·exact if_neg h.1
  ·rfl
theorem tG{kindOf:Str→Option NameKind}:∀ {ps:List Str} {vs:List Value} {m:Str→Option Value} {x:Str} {v:Value} {i:Nat},ps.Nodup→ps[i]?=some x→vs[i]?=some v→kindOf x=some .local→bindL kindOf (ps.zip vs) m x=some v
 | [],_,_,_,_,_,_,h,_,_=>by simp at h
 |_::_,[],_,_,_,_,_,_,h,_=>by simp at h
 |p::ps,u::vs,m,x,v,i,hn,h1,h2,hk=>by
  show bindL kindOf (ps.zip vs) _ x=some v;obtain⟨n1,n2⟩:=aw.mp hn;cases i with
  |zero =>
   simp at h1 h2;subst h1;subst h2;rw[Bu n1,if_pos hk];exact if_pos rfl
  |succ i=>exact tG n2 (by simpa using h1) (by simpa using h2) hk
theorem P8{st:Stmt}{c:Str×Str×Str}(h:n9 st=some c):∃ p1 p2 p3 pos,st=.Assign [.Attribute (.Name c.1 p1) c.2.1 p2] (.Name c.2.2 p3) pos:=by
 cases st with
 |Assign ts e pos =>
  cases ts with
  |nil=>exact ns h
  |cons t r =>
   cases r with
   |cons=>exact ns h
   |nil =>
    refine hde fun _ θ=>?_;obtain⟨a,h1,h⟩:=ob h;obtain⟨x,h2,h⟩:=ob h;obtain⟨y,h3,h⟩:=ob h;obtain rfl:=si h;obtain⟨p1,e1⟩:=dG h2;obtain⟨p3,rfl⟩:=dG h3;apply θ;exact⟨p1,a.2.2,p3,pos,by rw[zD h1,e1]⟩
 |_=>exact ns h
structure InitF(fd:FuncData)(sf:Str)(ps:List Str):Prop where
 params:∃ as kwd dfl,fd.params=⟨[],as,none,[],kwd,none,dfl⟩∧as.map (·.arg)=sf::ps
 body:∃ b,fd.body=.stmts b∧b.map n9=ps.map fun p=>some (sf,p,p)
 closure:fd.closure=[]
 defaults:fd.defaults=.none
 kind:fd.scope.kind=.function
 gen:fd.scope.isGenerator=false
 cor:fd.scope.isCoroutine=false
 nodup:(sf::ps).Nodup
 loc:∀ x∈sf::ps,fd.scope.names.lookup x=some .local∧(x==("__debug__" : Str))=false
 few:ps.length < 50
section
variable {O:Program} {w:World} {A:Around} {E:Value→Shared→Prop}
variable {nm q:Str} {C N e tt:Addr} {bs bm bmB:List Value} {sn:List Str} {sub:List Value} {ab:Bool} {col:Option Bool} {dd:Option Addr} {k0 k1 k2 k3 k5:Option Value} {B newId sa owner:String} {mN:Str→Option Value}
theorem P9{env:Env}{m:Str→Option Value}{self:Str}{ns:List Str}{h0 h1:Heap}(SF:StoreFacts B bmB sa owner)(hb:bm.contains (.type owner)=true)(hk:env.scope.kind=.function)
  (hC:h0.get? C=some (excClassObj nm q C N bs bm true sn sub ab col dd k0 k1 k2 k3 k5 newId)) (hN:h0.Ns N mN) (T:TailN h0 bmB ns bm) (h01:∀ b o,h0.get? b=some o→h1.get? b=some o) (he:h0.get? e=none) (hL:h1.Ns env.locals m) (hLe:env.locals≠e)
  (hs0:Str.ofString "__setattr__" ∈ ns) (hs1:mN "__setattr__" = none) (hself:m self=some (.ref e)) (hsl:env.kindOf self=some .local∧(self==("__debug__" : Str))=false) :
  ∀ {ps:List Str} {b:List Stmt} {vs:List Str} {F:Str→Option Value} {s:Shared} {Q:Flow→Shared→Prop},b.map n9=(ps.map fun p=>some (self,p,p))→(∀ p∈ps,p∈ns∧mN p=none∧typeLookup (.type B) p=pure none∧env.kindOf p=some .local∧(p==("__debug__" : Str))=false∧∃ v,m p=some v) →
   vs.length+ps.length < 100→InE (fun b=>b≠e∧∃ o,h1.get? b=some o) s.heap e C tt vs F→(∀ y∈vs,F y=m y)→(∀ b o,b≠e→h1.get? b=some o→s.heap.get? b=some o) →
   (∀ s' vs' F',(∃ h tk,s'={ s with heap:=h,toks:=tk })→InE (fun b=>b≠e∧∃ o,h1.get? b=some o) s'.heap e C tt vs' F'→(∀ y,y∈ps∨y∈vs→F' y=m y)→(∀ b o,b≠e→h1.get? b=some o→s'.heap.get? b=some o)→Q .next s')→wpAny (model O w) A (execs b env) Q E s:=by
 intro ps
 induction ps with
 |nil =>
  intro b vs F s Q hb' _ _ I hF hk' hq;cases b with
  |nil=>exact gd (hq s vs F ⟨_,_,rfl⟩ I (fun y hy=>hF y (hy.elim (fun h=>b5 h) id)) hk')
  |cons=>cases hb'
 |cons p ps ih =>
  intro b vs F s Q hb' hp hl I hF hk' hq;cases b with
  |nil=>cases hb'
  |cons st r =>
   injection hb' with hb1 hb2
   refine hde fun _ θ=>?_;obtain⟨p1,p2,p3,pos,rfl⟩:=P8 hb1;obtain⟨q1,q2,q3,q4,q5,v,q6⟩:=hp p ah;apply θ;have up:∀ b o,h0.get? b=some o→s.heap.get? b=some o:=fun b o eo=>hk' b o (fun x=>by rw[x,he] at eo;cases eo) (h01 b o eo);have hns:s.heap.Ns env.locals m:=hL.at' fun o eo=>hk' _ o hLe eo;refine ic (plainObj_wpAny_Assign_Attribute (wpAny_Name (wpAny_loadName_local hk q4 hns q6 (wpAny_Name (wpAny_loadName_local hk hsl.1 hns hself ?_) hsl.2)) q5) rfl);obtain⟨hh,g,dr,tk,os⟩:=s;refine P7 SF hb (up _ _ hC) (hN.keeps up) (T.keeps up) hs0 hs1 q1 q2 q3 I (fun b hb=>⟨hb.1,by obtain⟨o,eo⟩:=hb.2;exact⟨o,hk' b o hb.1 eo⟩⟩) (by simp at hl;exact Gd hl) fun h' tk' I' kp=>?_;refine ih hb2 (fun p m=>hp p (ae _ m)) (by simp at hl ⊢;exact Ge hl) I' (fun y hy=>?_) (fun b o hb eo=>kp b o ⟨hb,o,eo⟩ (hk' b o hb eo)) fun s' vs' F' hs' I'' hF' hk''=>hq s' vs' F' ?_ I'' (fun y hy=>hF' y ?_) hk''
   ·show(if y=p then some v else F y)=m y
    by_cases e:y=p
    ·rw[if_pos e,e,q6]
    ·rw[if_neg e];exact hF y ((List.mem_cons.mp hy).resolve_left e)
   ·obtain⟨h2,t2,rfl⟩:=hs';exact⟨h2,t2,rfl⟩
   ·rcases hy with hy | hy
    ·rcases List.mem_cons.mp hy with rfl | hy
     ·exact .inr ah
     ·exact .inl hy
    ·exact .inr (ae _ hy)
end
end Mine.Internal
namespace Mine.Internal
open PySem Builtin Builtin.ObjectAttr
section
variable {O:Program} {w:World} {A:Around} {E:Value→Shared→Prop} {h:Heap} {g:Array GenState} {d:Drawn} {t:Nat} {os:OsState} {a dx:Addr} {o:Obj} {vs:Array Value}
 {nm q:Str} {C N:Addr} {bs bm:List Value} {hdct:Bool} {sn:List Str} {sub:List Value} {ab:Bool} {col:Option Bool} {dd:Option Addr} {k0 k1 k2 k3 k5:Option Value} {newId:String} {mN m:Str→Option Value} {ns:List Str} {name:Str} {v:Value}
theorem Qa{tk:Tok}{Q:PySem.Fin→Shared→Prop}(hC:h.get? C=some (excClassObj nm q C N bs bm true sn sub ab col dd k0 k1 k2 k3 k5 newId))(hN:h.Ns N mN)(T:TailN h bmV ns bm)(hn0:name∈ns)(hn1:mN name=none)(hB:typeLookup (.type "ValueError") name=pure none)
  (hx:h.get? a=some o) (hc:o.cls=.ref C) (hd:o.data=.fields vs) (hdx:o.dict=some dx) (hns:h.Ns dx m) (hv:m name=some v) (hq:Q (.done (.ret v)) ⟨h,g,d,t,os⟩) :
  wpAny (model O w) A (Builtin.«object.__getattribute__» ⟨[.ref a,.str name tk],[]⟩) Q E ⟨h,g,d,t,os⟩:=by
 unfold Builtin.«object.__getattribute__»
 repeat (any_goals (first | assumption | (with_reducible refine bo hx ?_;rw[hc]) | with_reducible refine kX hC hN T F.excBase_ValueError.mroIs hn0 hn1 hB ?_ | wp_step))
 rw[hd];show wpAny (model O w) A (instanceDict a false) _ _ _;unfold instanceDict
 repeat (any_goals (first | assumption | (with_reducible refine bo hx ?_;rw[hc]) | with_reducible refine bo hC ?_ | wp_step))
 rw[hdx]
 repeat (any_goals (first | assumption | (with_reducible refine wpAny_nsGet hns ?_;rw[hv]) | wp_step))
theorem Qb{M:Model}{nameV:Value}{Q:Unit→Shared→Prop}(hC:h.get? C=some (excClassObj nm q C N bs bm true sn sub ab col dd k0 k1 k2 k3 k5 newId))(hbm:bm.contains (.type "BaseException")=true)
  (hx:h.get? a=some o) (hc:o.cls=.ref C) (hq:Q () ⟨h,g,d,t,os⟩):wpAny M A (checkBuiltinCall "BaseException.__getattribute__" ⟨[.ref a,nameV],[]⟩) Q E ⟨h,g,d,t,os⟩:=by
 have hk:builtinKind "BaseException.__getattribute__" = some .slot:=by decide +kernel
 have hsplit:splitId "BaseException.__getattribute__" = some ("BaseException", "__getattribute__"):=by decide +kernel
 have hcB:(Value.ref C::bm).contains (.type "BaseException")=true:=by rw[List.contains_cons,hbm,Bool.or_true]
 have ha:=F.args_bexc_ga (.ref a) nameV;simp only[checkBuiltinCall,hk,hsplit];refine U ?_;unfold isInstance
 repeat (first | (with_reducible refine bo hx ?_;rw[hc]) | (with_reducible refine fg hC ?_;rw[hcB]) | wp_step)
 exact hq
theorem Qc{expr:Bool}{Q:Value→Shared→Prop}(hC:h.get? C=some (excClassObj nm q C N bs bm true sn sub ab col dd k0 k1 k2 k3 k5 newId))(hN:h.Ns N mN)(T:TailN h bmV ns bm)(hbm:bm.contains (.type "BaseException")=true)
  (hg0:Str.ofString "__getattribute__" ∈ ns) (hg1:mN "__getattribute__" = none) (hh0:Str.ofString "__getattr__" ∈ ns) (hh1:mN "__getattr__" = none) (hn0:name∈ns) (hn1:mN name=none) (hB:typeLookup (.type "ValueError") name=pure none)
  (hx:h.get? a=some o) (hc:o.cls=.ref C) (hd:o.data=.fields vs) (hdx:o.dict=some dx) (hns:h.Ns dx m) (hv:m name=some v) (hv2:handedOut v=pure v) (hq:Q v ⟨h,g,d,t+1,os⟩) :
  wpAny (model O w) A (getAttr (.ref a) name expr) Q E ⟨h,g,d,t,os⟩:=by
 have f3:=F.attrBase_ValueError.ga.bind (.ref a);have hx0:(expr&&onTheHeap (Value.builtin "BaseException.__getattribute__"))=false:=by cases expr<;>rfl
 have hx2:(Value.builtin "BaseException.__getattribute__" == Value.builtin "object.__getattribute__")=false:=by decide +kernel
 have hx1:(onTheHeap (Value.ref C)&&Value.builtin "BaseException.__getattribute__" == Value.builtin "object.__getattribute__")=false:=by rw[hx2];rfl
 unfold getAttr
 repeat (any_goals (first | assumption | (with_reducible refine bo hx ?_;rw[hc]) | with_reducible refine kX hC hN T F.excBase_ValueError.mroIs hg0 hg1 F.attrBase_ValueError.ga.lookup ?_ | with_reducible refine kX hC hN T F.excBase_ValueError.mroIs hh0 hh1 F.attrBase_ValueError.noGetattr ?_ | wp_step))
 refine codeAny_call_builtin F.attrBase_ValueError.ga.plain F.entry_bexc_ga (Qb hC hbm hx hc (Qa hC hN T hn0 hn1 hB hx hc hd hdx hns hv ?_));show wpAny (model O w) A (handedOut v) Q E _;rw[hv2];exact ac hq
end
end Mine.Internal
namespace Mine.Internal
open PySem
section
variable {O:Program} {w:World} {A:Around} {E:Value→Shared→Prop}
theorem Qd{C N e t:Addr}{bm bs:List Value}{nm q:Str}{sn:List Str}{sub:List Value}{ab:Bool}{col:Option Bool}{dd:Option Addr}{k0 k1 k2 k3 k5:Option Value}{newId:String}{mN:Str→Option Value}{fI:Addr}{oI:Obj}{fd:FuncData}{self:Str}{ps:List Str}{h0:Heap}{s:Shared}{vals:List Value}{Q:Value→Shared→Prop}
  (hb:bm.contains (.type "object")=true) (hC:h0.get? C=some (excClassObj nm q C N bs bm true sn sub ab col dd k0 k1 k2 k3 k5 newId)) (hN:h0.Ns N mN) (T:TailN h0 bmV (Str.ofString "__init__" :: Str.ofString "__setattr__" :: ps) bm) (hn:∀ n∈Str.ofString "__setattr__" :: ps,mN n=none)
  (ho:h0.get? fI=some oI) (hfd:oI.data=.func fd) (hcd:h0.CodeRec fd.code fd.qualname) (I:InitF fd self ps) (hB:∀ p∈ps,typeLookup (.type "ValueError") p=pure none) (hl:h0.NoLimit) (hroom:A.depth < recursionLimit) (hv:vals.length=ps.length)
  (h01:∀ b o,h0.get? b=some o→s.heap.get? b=some o) (he0:h0.get? e=none) (he:s.heap.get? e=some { cls:=.ref C,data:=.fields #[.ref t,.none,.none,.none,.bool false,.none] })
  (hq:∀ s' dx,(∃ h tk,s'={ s with heap:=h,toks:=tk })→s'.heap.get? e=some { cls:=.ref C,dict:=dx,data:=.fields #[.ref t,.none,.none,.none,.bool false,.none] }→(∀ b o,b≠e→s.heap.get? b=some o→s'.heap.get? b=some o)→(ps=[]∨MadeF s s' dx ps vals)→Q .none s'):wpAny (model O w) A (call (.ref fI) (.ref e::vals)) Q E s:=by
 obtain⟨as,kwd,dfl,hp,has⟩:=I.params;obtain⟨b,hbody,hst⟩:=I.body;have hlen:as.length=(Value.ref e::vals).length:=by
  have:=congrArg List.length has;simp at this;simp[hv,this]
 refine wpAny_call (codeAny_call_cells (binds:=(self::ps).zip (.ref e::vals)) hroom (h01 _ _ ho) hfd (hl.keeps h01) (hcd.keeps h01) hbody (has▸Bt hp I.defaults hlen (has▸I.nodup)) I.closure (fun x hx=>.inl (I.loc x.1 (List.of_mem_zip hx).1).1) (fun s₁ hin=>?_) I.cor I.gen I.kind);have at0:∀ {i:Nat} {x:Str} {v:Value},(self::ps)[i]?=some x→(Value.ref e::vals)[i]?=some v→bindL (callEnvC fd s.heap.objs.size fI).kindOf ((self::ps).zip (.ref e::vals)) (fun _=>none) x=some v:=fun h1 h2 =>
  tG I.nodup h1 h2 (I.loc _ (cc h1)).1
 have keep:=hin.toInCall.keep;have hLe:(callEnvC fd s.heap.objs.size fI).locals≠e:=fun x=>by
  have:=hin.toInCall.fresh;rw[x] at this;exact absurd (bh he) (Nat.not_lt.mpr this)
 refine P9 (tt:=t) (h1:=s₁.heap) (vs:=[]) F.store_ValueError hb I.kind hC hN T (fun b o eo=>keep b o (h01 b o eo)) he0 hin.toInCall.ns hLe (.tail _ (.head _)) (hn _ (.head _)) (at0 (i:=0) rfl rfl) (I.loc self (.head _)) hst (fun p hp=>?_) (by have:=I.few;simp;exact Gf this) ⟨none,keep _ _ he,.inl ⟨rfl,fun _=>rfl⟩⟩ (fun y hy=>b5 hy) (fun b o _ eo=>eo) fun s' vs' F' hs' I' hF hk=>?_
 ·obtain⟨i,hi⟩:=gq.mp hp;have hlt:i < vals.length:=by rw[hv];exact(bg.mp hi).1
  exact⟨.tail _ (.tail _ hp),hn p (.tail _ hp),hB p hp,(I.loc p (.tail _ hp)).1,(I.loc p (.tail _ hp)).2,vals[i],at0 (i:=i+1) hi (List.getElem?_eq_getElem hlt)⟩
 ·obtain⟨h1,t1,rfl⟩:=hs';obtain⟨h2,t2,rfl⟩:=hin.toInCall.same;obtain⟨dx,hx,hdd⟩:=I';refine hq _ dx ⟨h1,t1,rfl⟩ hx (fun b o hb eo=>hk b o hb (keep b o eo)) ?_;have val:∀ (i:Nat) p v,ps[i]?=some p→vals[i]?=some v→F' p=some v:=fun i p v h1 h2=>(hF p (.inl (cc h1))).trans (at0 (i:=i+1) h1 h2);rcases hdd with ⟨_,h0⟩ | ⟨d,rfl,hne,hg,hns,_⟩
  ·cases hps:ps with
   |nil=>exact .inl rfl
   |cons p r =>
    have hlt:0 < vals.length:=by rw[hv,hps];exact fh _
    have:=val 0 p vals[0] (by rw[hps];rfl) (List.getElem?_eq_getElem hlt);rw[h0] at this;exact ns this
  ·refine .inr ⟨d,F',rfl,?_,hns.ns,val⟩;refine ocs (s.heap.get? d) id fun o ho=>?_;exact absurd ⟨hne,o,keep d o ho⟩ hg
inductive ClsI(h:Heap)(C:Addr)(bm:List Value)(ps:List Str):Prop where
 |mk (N nm q bs sn sub ab col dd k0 k1 k2 k3 k5 mN fI oI fd sf) (a:h.get? C=some (excClassObj nm q C N bs bm true sn sub ab col dd k0 k1 k2 k3 k5 "ValueError.__new__")) (b:h.Ns N mN) (c:mN "__init__" = some (.ref fI)) (d:∀ n∈Str.ofString "__setattr__" :: (ps++hid),mN n=none)
  (e:TailN h bmV (Str.ofString "__init__" :: Str.ofString "__setattr__" :: (ps++hid)) bm) (f:h.get? fI=some oI) (g:oI.cls=.type "function") (i:oI.data=.func fd) (j:h.CodeRec fd.code fd.qualname) (k:InitF fd sf ps) (l:∀ p∈ps,typeLookup (.type "ValueError") p=pure none):ClsI h C bm ps
inductive ClsP(h:Heap)(C:Addr)(bm:List Value):Prop where
 |mk (N nm q bs hdct sn sub ab col dd k0 k1 k2 k3 k5 mN) (a:h.get? C=some (excClassObj nm q C N bs bm hdct sn sub ab col dd k0 k1 k2 k3 k5 "ValueError.__new__")) (b:h.Ns N mN) (c:mN "__init__" = none) (d:OwnTail h bmV bm):ClsP h C bm
theorem OwnTail.has{h:Heap}{bm:List Value}(T:OwnTail h bmV bm){X:String}(hx:bmV.contains (.type X)=true):bm.contains (.type X)=true:=T.hasType hx
theorem ClsI.ok{base:Heap}{C:Addr}{bm:List Value}{ps:List Str}(hl:base.NoLimit)(x:ClsI base C bm ps):ClsOk O w base C bm (some ps):=by
 obtain⟨N,nm,q,bs,sn,sub,ab,col,dd,k0,k1,k2,k3,k5,mN,fI,oI,fd,sf,hC,hN,hi,hn,T,ho,hfc,hfd,hcd,I,hB⟩:=x;have T':=T.tail (.head _);have s1:∀ n∈Str.ofString "__setattr__" :: ps,n∈Str.ofString "__setattr__" :: (ps++hid):=fun n h=>(List.mem_cons.mp h).elim (fun e=>e▸.head _) fun h=>.tail _ (ge _ h);have T2:=T.less (ns':=Str.ofString "__init__" :: Str.ofString "__setattr__" :: ps) fun n h=>(List.mem_cons.mp h).elim (fun e=>e▸.head _) fun h=>.tail _ (s1 n h);refine⟨⟨nm,q,N,bs,true,sn,sub,ab,col,dd,k0,k1,k2,k3,k5,_,hC⟩,OwnTail.has T' (by decide +kernel),OwnTail.has T' (by decide +kernel),fun A vals s E Q hd hb ha hq=>?_,fun ps' ep p hp A s e dx o vs m v E Q hb hx hc hd hdx hns hv hv2 hq=>by
  obtain rfl:=si ep;obtain⟨h,g,d,t,os⟩:=s;exact Qc (hb _ _ hC) (hN.keeps hb) (T.keeps hb) (OwnTail.has T' (by decide +kernel)) (.tail _ (.tail _ (gg _ (.head _)))) (hn _ (.tail _ (gg _ (.head _)))) (.tail _ (.tail _ (gg _ (.tail _ (.head _))))) (hn _ (.tail _ (gg _ (.tail _ (.head _))))) (.tail _ (.tail _ (ge _ hp))) (hn p (.tail _ (ge _ hp))) (hB p hp) hx hc hd hdx hns hv hv2 (hq _)⟩
 have ha:ps.length=vals.length:=ha;have hsz:vals.length≤sizeLine:=by
  have:=I.few;have hZ:sizeLine=16777216:=rfl;exact Gg ha this hZ
 obtain⟨h,g,d,t,os⟩:=s;refine P4 F.excBase_ValueError (T'.keeps hb) (hb _ _ hC) (hN.keeps hb) hi (hb _ _ ho) hfc hsz fun h' e m=>?_;obtain⟨tt,he,_,_⟩:=m.there;have hdp:(A.under (.builtin "type.__call__" ⟨.ref C::vals,[]⟩)).depth < recursionLimit:=hd;refine Qd (h0:=h) (OwnTail.has T' (by decide +kernel)) (hb _ _ hC) (hN.keeps hb) (T2.keeps hb) (fun n h=>hn n (s1 n h)) (hb _ _ ho) hfd (hcd.keeps hb) I hB (hl.keeps hb) hdp ha.symm m.keeps m.new he fun s' dx hs' hx hk hf=>⟨rfl,hq _ _ ?_⟩
 obtain⟨h2,t2,rfl⟩:=hs';refine⟨⟨h2,t2,rfl,fun b o eo=>hk b o (fun x=>by simp only[x,m.new] at eo;exact ns eo) (m.keeps b o eo)⟩,e,dx,tt,rfl,m.new,hx,fun ps' ep=>?_⟩;obtain rfl:=si ep;rcases hf with hf | ⟨d1,F',e1,n1,hn1,r1⟩
 ·exact .inl hf
 ·refine .inr ⟨d1,F',e1,?_,hn1,r1⟩;refine ocs (h.get? d1) id fun o ho=>?_;exact ns (n1.symm.trans (m.keeps d1 o ho))
theorem ClsP.ok{base:Heap}{C:Addr}{bm:List Value}(x:ClsP base C bm):ClsOk O w base C bm none:=by
 obtain⟨N,nm,q,bs,hdct,sn,sub,ab,col,dd,k0,k1,k2,k3,k5,mN,hC,hN,hni,T⟩:=x;refine⟨⟨nm,q,N,bs,hdct,sn,sub,ab,col,dd,k0,k1,k2,k3,k5,_,hC⟩,OwnTail.has T (by decide +kernel),OwnTail.has T (by decide +kernel),fun A vals s E Q hd hb ha hq=>?_,fun ps' ep=>ns ep⟩;have ha:vals.length=1:=ha;obtain⟨h,g,d,t,os⟩:=s;refine wpAny_call_exc_subT F.excBase_ValueError (T.keeps hb) (hb _ _ hC) (hN.keeps hb) hni (fun h' e m=>?_) (by have hZ:sizeLine=16777216:=rfl;exact Gh ha hZ);obtain⟨tt,he,_,_⟩:=m.there;exact hq _ _ ⟨⟨h',t,rfl,m.keeps⟩,e,none,tt,rfl,m.new,he,fun ps' ep=>ns ep⟩
end
end Mine.Internal
namespace Mine.Internal
open PySem PyProof.Rows.TI
section
variable {O:Program} {w:World} {mg mb:Str→Option Value} {base:Heap} {l l₀:List Env} {env:Env}
noncomputable def dP(h:Heap)(l:List Env)(e T:Addr):Heap:=gone h (e::T::l.filterMap (·.frame))
theorem oV{h:Heap}{e T:Addr}:(dP h l e T).StaysIn h:=fun _ _ x=>(gone_some x).2
theorem tH{h:Heap}{e T:Addr}:(dP h l e T).get? e=none:=gone_none ah
theorem tI{h:Heap}{e T:Addr}:(dP h l e T).get? T=none:=gone_none (ae _ ah)
theorem oW{h:Heap}{e T b:Addr}(f:frs l b):(dP h l e T).get? b=none:=gone_none (ae _ (ae _ f))
theorem tJ{h:Heap}{e T b:Addr}{o:Obj}(h1:b≠e)(h2:b≠T)(h3:¬ frs l b)(x:h.get? b=some o):(dP h l e T).get? b=some o :=
 (gone_get fun m=>by
  rcases List.mem_cons.mp m with m | m
  ·exact h1 m
  ·rcases List.mem_cons.mp m with m | m
   ·exact h2 m
   ·exact h3 m).trans x
theorem kY{h B:Heap}:∀ {l:List Env},h.FunFrames base l→(∀ b,frs l b→B.get? b=none)→h.FunFrames B l
 := by
 intro l
 induction l with
 |nil=>exact fun _ _=>trivial
 |cons env r ih =>
  intro f k;refine hde fun _ θ=>?_;obtain⟨hk,⟨L,o,hf,_,ho,hd⟩,hr⟩:=f;apply θ;exact⟨hk,⟨L,o,hf,k L (by unfold frs;rw[List.filterMap_cons,hf];exact ah),ho,hd⟩,ih hr fun b f=>k b (by unfold frs;rw[List.filterMap_cons,hf];exact ae _ f)⟩
theorem Rep.monoF{h h':Heap}{av:Addr→Prop}(hk:∀ b o,¬ av b→(∀ vs,o.data≠.fields vs)→h.get? b=some o→h'.get? b=some o){v:Value}{d:PyData}(r:Rep O w h av v d):Rep O w h' av v d:=by
 induction r with
 |none=>exact .none
 |bool b=>exact .bool b
 |int i t=>exact .int i t
 |str x t hx=>exact .str x t hx
 |list h1 h2 h3 h4 _ ih=>obtain⟨k,e⟩:=h2;exact .list h1 ⟨k,hk _ _ h1 nofun e⟩ h3 h4 ih
 |tuple h1 h2 h3 h4 _ ih=>obtain⟨k,e⟩:=h2;exact .tuple h1 ⟨k,hk _ _ h1 nofun e⟩ h3 h4 ih
 |dict h1 h2 h3 h4 h5 _ ih =>
  refine hde fun _ θ=>?_;obtain⟨o,es,ep,e,x,hd,r⟩:=h2;apply θ;exact .dict h1 ⟨o,es,ep,hk _ o h1 (fun vs q=>by rw[hd] at q;cases q) e,x,hd,r⟩ h3 h4 h5 ih
theorem fY.fly{h h':Heap}{av:Addr→Prop}{e T:Addr}{od:Option Addr}{fs:List (Str×PyData)}(f:fY O w h av od fs)(st:(dP h l e T).StaysIn h')(fav:∀ b,frs l b→av b)
  (hE:∀ o,h.get? e=some o→∃ vs,o.data=.fields vs) (hT:∀ o,h.get? T=some o→∃ vs,o.data=.fields vs):fY O w h' av od fs:=by
 have hk:∀ b o,¬ av b→(∀ vs,o.data≠.fields vs)→h.get? b=some o→h'.get? b=some o:=fun b o n hd e'=>st b o (tJ (fun x=>by obtain⟨vs,q⟩:=hE o (x▸e');exact hd vs q) (fun x=>by obtain⟨vs,q⟩:=hT o (x▸e');exact hd vs q) (fun f=>n (fav b f)) e');rcases f with f | ⟨d,m,e1,n,hn,r⟩
 ·exact .inl f
 ·obtain⟨o,es,ep,ho,hd,hr⟩:=hn;refine .inr ⟨d,m,e1,n,⟨o,es,ep,hk d o n (fun vs q=>by rw[hd] at q;cases q) ho,hd,hr⟩,fun p x hp=>?_⟩;obtain⟨v,g1,g2⟩:=r p x hp;exact⟨v,g1,g2.monoF hk⟩
theorem Qe{s s':Shared}{h':Heap}{e T C:Addr}{a0 fl:Value}(k:K l s s')(ff:s'.heap.FunFrames base l)(se:s.heap.get? e=none)(sT:s.heap.get? T=none)
  (st:(dP s'.heap l e T).StaysIn h') (up:s'.heap.UpToSlots h') (tr:h'.TracedAtW (dP s'.heap l e T) e (.ref C) a0 fl) :
  K l s { s' with heap:=h' }∧Tb s h' e fl∧∃ oe vs,h'.get? e=some oe∧oe.cls=.ref C∧oe.data=.fields vs:=by
 have ne:∀ {b:Addr} {o:Obj},s.heap.get? b=some o→b≠e∧b≠T:=fun x=>⟨fun y=>(by rw[y,se] at x;exact ns x),fun y=>(by rw[y,sT] at x;exact ns x)⟩
 have at1:∀ b o,¬ frs l b→s.heap.get? b=some o→h'.get? b=some o:=fun b o n x=>st b o (tJ (ne x).1 (ne x).2 n (k.at n x));have at2:∀ b o,frs l b→s.heap.get? b=some o→∃ sl,h'.get? b=some { o with slots:=sl }∧∀ vs,o.data≠.fields vs:=fun b o f x=>by
  refine hde fun _ θ=>?_;obtain⟨sl,x'⟩:=k.up x;obtain⟨_,o',e1,e2⟩:=ff.mem f;rw[x'] at e1;obtain rfl:=si e1;obtain⟨sl',x''⟩:=up b _ x' e2;apply θ;exact⟨sl',x'',e2⟩
 refine hde fun _ θ=>?_;obtain⟨oe,vs,T',oT,ts,g1,⟨g2,g3⟩,g4,g5,g6,g7,g8,g9,g10⟩:=tr;apply θ;refine⟨?_,⟨oe,vs,T',oT,ts,g1,g4,g5,?_,g7,g8,g9,g10⟩,oe,vs,g1,g2,g4⟩
 ·obtain⟨h,t,rfl,_,_⟩:=k;refine⟨h',t,rfl,at1,fun b o x=>?_⟩
  by_cases f:frs l b
  ·obtain⟨sl,h,_⟩:=at2 b o f x;exact⟨sl,h⟩
  ·exact⟨o.slots,at1 b o f x⟩
 ·refine ocs (s.heap.get? T') (fun x=>?_) fun o x=>?_
  ·try rewrite[x]
   rfl
  ·by_cases f:frs l T'
   ·obtain⟨sl,y,z⟩:=at2 T' o f x;rw[g8] at y;obtain rfl:=si y;exact absurd g9 (z ts)
   ·have:=at1 T' o f x;rw[tJ (ne x).1 (ne x).2 f (k.at f x)] at g6;exact sn g6
theorem Tb.tr{s:Shared}{h B:Heap}{e C:Addr}{fl:Value}{oe:Obj}(x:Tb s h e fl)(he:h.get? e=some oe)(hc:oe.cls=.ref C)(hB:∀ T,(∃ vs,oe.data=.fields vs∧vs[1]?=some (.ref T))→B.get? T=none):∃ a0,h.TracedAtW B e (.ref C) a0 fl:=by
 obtain⟨oe',vs,T,oT,ts,g1,g2,g3,g4,g5,g6,g7,g8⟩:=x;rw[he] at g1;obtain rfl:=si g1;have hs:=(Array.getElem?_eq_some_iff.mp g3).1;exact⟨vs[0],oe,vs,T,oT,ts,he,⟨hc,Array.getElem?_eq_getElem (by omega)⟩,g2,g3,hB T ⟨vs,g2,g3⟩,g5,g6,g7,g8⟩
theorem Tb.place{s:Shared}{h:Heap}{e:Addr}{fl:Value}{oe:Obj}(x:Tb s h e fl)(he:h.get? e=some oe):∃ T,s.heap.get? T=none∧∀ T',(∃ vs,oe.data=.fields vs∧vs[1]?=some (.ref T'))→T'=T:=by
 obtain⟨oe',vs,T,oT,ts,g1,g2,g3,g4,_⟩:=x;rw[he] at g1;obtain rfl:=si g1;refine⟨T,g4,fun T' ⟨vs',h1,h2⟩=>?_⟩;rw[g2] at h1;cases h1;rw[g3] at h2;cases h2;rfl
end
end Mine.Internal
namespace Mine.Internal
open PySem
noncomputable def key(o:Obj):Option Addr×Option Value:=(o.dict,fX o)
inductive Calm{α:Type}:Sem α→Prop where
 |pure (a:α):Calm (.pure a)
 |raise (e:Value):Calm (.raise e)
 |unsup (w:String):Calm (.unsupported w)
 |reg (a:Addr) (k:Unit→Sem α):Calm (.register a k)
 |load {a:Addr} {p:Option Value} {k:Obj→Sem α} (h:∀ o,Calm (k o)):Calm (.load a p k)
 |upd {a:Addr} {p:Option Value} {f:Obj→Obj} {k:Unit→Sem α} (hf:∀ o:Obj,key (f o)=key o∧(f o).isFreed=o.isFreed) (h:Calm (k ())):Calm (.update a p f k)
 |alloc {o:Obj} {k:Addr→Sem α} (h:∀ a,Calm (k a)):Calm (.alloc o k)
 |stack {k:List (Code×Pos)→Sem α} (h:∀ l,Calm (k l)):Calm (.stack k)
def DK(s s':Shared):Prop:=∀ b o,s.heap.get? b=some o→∃ o',s'.heap.get? b=some o'∧key o'=key o
theorem DK.rf(s:Shared):DK s s:=fun _ o e=>⟨o,e,rfl⟩
theorem DK.tr{s s' s'':Shared}(x:DK s s')(y:DK s' s''):DK s s'':=fun b o e=>by
 obtain⟨o1,e1,d1⟩:=x b o e;obtain⟨o2,e2,d2⟩:=y b o1 e1;exact⟨o2,e2,d2.trans d1⟩
theorem Calm.bind{α β:Type}{t:Sem α}{f:α→Sem β}(c:Calm t)(h:∀ a,Calm (f a)):Calm (t.bind f):=by
 induction c with
 |pure a=>exact h a
 |raise e=>exact .raise e
 |unsup w=>exact .unsup w
 |reg a k=>exact .reg a _
 |load _ ih=>exact .load fun o=>ih o
 |upd hf _ ih=>exact .upd hf ih
 |alloc _ ih=>exact .alloc fun a=>ih a
 |stack _ ih=>exact .stack fun l=>ih l
theorem DK.push(s:Shared)(o:Obj):DK s { s with heap:=s.heap.push o }:=fun _ x e=>⟨x,af o e,rfl⟩
theorem DK.upd(s:Shared){a:Addr}{f:Obj→Obj}(hf:∀ o:Obj,key (f o)=key o∧(f o).isFreed=o.isFreed):DK s { s with heap:=s.heap.update a f }:=fun b x e=>by
 by_cases h:a=b
 ·subst h;exact⟨f x,fw f e ((hf x).2.trans (Heap.get?_some_iff.mp e).2),(hf x).1⟩
 ·exact⟨x,(fe s.heap f h).trans e,rfl⟩
theorem Calm.keeps{α:Type}{M:Model}{Γ:PySem.Ctx}{t:Sem α}(c:Calm t):∀ {Q:α→Pos→Shared→Prop} {E:Value→Pos→Shared→Prop} {p:Pos} {s s0:Shared},DK s0 s→Sem.wp M Γ t Q E p s→Sem.wp M Γ t (fun a p s'=>Q a p s'∧DK s0 s') (fun e p s'=>E e p s'∧DK s0 s') p s:=by
 induction c with
 |pure a=>intro Q E p s s0 d h;exact⟨h,d⟩
 |raise e=>intro Q E p s s0 d h;exact⟨h,d⟩
 |unsup w=>intro Q E p s s0 d h;exact h.elim
 |reg a k=>intro Q E p s s0 d h;exact h.elim
 |load _ ih=>intro Q E p s s0 d h;obtain⟨o,e,h⟩:=h;exact⟨o,e,ih o d h⟩
 |upd hf _ ih=>intro Q E p s s0 d h;exact⟨h.1,ih (d.tr (DK.upd s hf)) h.2⟩
 |alloc _ ih=>intro Q E p s s0 d h;exact ih _ (d.tr (DK.push s _)) h
 |stack _ ih=>intro Q E p s s0 d h;exact ih _ d h
theorem Calm.any{α:Type}{M:Model}{A:Around}{t:Sem α}(c:Calm t){Q:α→Shared→Prop}{E:Value→Shared→Prop}{s:Shared}(h:wpAny M A t Q E s):wpAny M A t (fun a s'=>Q a s'∧DK s s') (fun e s'=>E e s'∧DK s s') s :=
 fun Γ p hΓ=>c.keeps (DK.rf s) (h Γ p hΓ)
theorem f7{α:Type}{c:Prop}[Decidable c]{a b:Sem α}(h1:Calm a)(h2:Calm b):Calm (if c then a else b):=by
 by_cases h:c
 ·rw[if_pos h];exact h1
 ·rw[if_neg h];exact h2
theorem oX(v:Value)(i:Nat):Calm (field v i):=by
 refine Calm.bind ?_ fun vs=>?_
 ·cases v with
  |ref a =>
   refine .load fun o=>?_;show Calm (match o.data with | .fields vs=>pure vs | _=>unsupported "internal:no-fields");cases o.data with
   |fields vs=>exact .pure _
   |_=>exact .unsup _
  |_=>exact .unsup _
 ·cases vs[i]? with
  |none=>exact .unsup _
  |some x=>exact .pure _
theorem Qf{i:Nat}(hi:i≠2)(x:Value)(o:Obj):key (Obj.mapFields (·.setIfInBounds i x) o)=key o∧(Obj.mapFields (·.setIfInBounds i x) o).isFreed=o.isFreed:=by
 obtain⟨c,d,dt,sl⟩:=o;cases dt with
 |fields vs=>exact⟨congrArg (Prod.mk d) (Array.getElem?_setIfInBounds_ne hi),rfl⟩
 |_=>exact⟨rfl,rfl⟩
theorem Bv(a:Addr){f:Obj→Obj}(hf:∀ o:Obj,key (f o)=key o∧(f o).isFreed=o.isFreed):Calm (update a f):=.upd hf (.pure _)
theorem tK(v:Value)(i:Nat)(x:Value)(hi:i≠2):Calm (setField v i x):=by
 cases v with
 |ref a =>
  refine .load fun o=>?_;show Calm (match o.data with | .fields vs=>if i < vs.size then update a (Obj.mapFields (·.setIfInBounds i x)) else unsupported "internal:no-such-field" | _=>unsupported "internal:write-to-non-record");cases o.data with
  |fields vs=>exact f7 (Bv a (Qf hi x)) (.unsup _)
  |_=>exact .unsup _
 |_=>exact .unsup _
theorem tL(v:Value)(f:Option Addr):Calm (setFlight v f) :=
 Calm.bind (oX v 1) fun _=>f7 (tK _ _ _ (by decide)) (.pure _)
theorem Qg(ty:String)(vs:List Value):Calm (newFields ty vs):=by
 unfold newFields newObj;exact f7 (.unsup _) (.alloc fun _=>.pure _)
theorem Qh(env:Env)(outer:List Env):Calm (behindIsImport env outer) :=
 f7 (.pure _) (f7 (.pure _) (Calm.bind (oX _ _) fun _=>.pure _))
theorem Qi(env:Env)(b:Bool)(outer:List Env):Calm (keptBack env b outer):=by
 cases outer with
 |nil=>exact f7 (.pure _) (Calm.bind (Calm.bind (.stack fun _=>.pure _) fun _=>.pure _) fun _=>.pure _)
 |cons=>exact .pure _
theorem Qj(l:List Env):Calm (readyFrames l):=by
 induction l with
 |nil=>exact .pure _
 |cons env outer ih =>
  unfold readyFrames;cases env.frame with
  |none=>exact .unsup _
  |some f =>
   refine .load fun o=>f7 (.pure _) (Calm.bind (Qh ..) fun b=>Calm.bind (Qi ..) fun v=>Calm.bind (Bv f fun o=>by obtain⟨c,d,dt,sl⟩:=o;cases dt<;>exact⟨rfl,rfl⟩) fun _=>ih)
theorem Qk(env:Env):Calm (frameOf env):=by
 refine Calm.bind (Calm.bind (.stack fun _=>.pure _) fun l=>.pure _) fun l=>Calm.bind ?_ fun o=>?_
 ·cases l.dropWhile (·.frame != env.frame) with
  |nil=>exact .pure _
  |cons e r=>exact Calm.bind (Qj _) fun _=>.pure _
 ·cases o with
  |none=>exact .unsup _
  |some f=>exact .pure _
theorem Ql(f:Addr)(b:Bool):Calm (entryPlaceOf f b):=by
 refine .stack fun acts=>?_;show Calm (match acts.find? fun (c,_)=>c.env?.bind (·.frame)==some f with | some (_,pos)=>_ | none=>_);cases acts.find? fun (c,_)=>c.env?.bind (·.frame)==some f with
 |none=>exact .pure _
 |some x=>exact .pure _
theorem Bx(e:Value)(env:Env):Calm (noteFrame e env):=by
 have last:∀ (f:Addr) (head:Value),Calm (do PySem.setField e 1 (← EntryCells.newEntry head (← frameOf env) .none (rawInt f) .none (← entryPlaceOf f (head != .none)))):=fun f head =>
  Calm.bind (Qk env) fun _=>Calm.bind (Ql ..) fun _=>Calm.bind (Qg ..) fun _=>tK _ _ _ (by decide)
 unfold noteFrame;cases env.frame with
 |none=>exact .unsup _
 |some f =>
  refine Calm.bind (oX e 1) fun head=>f7 (Calm.bind (oX head 3) fun x=>f7 (.pure _) (Calm.bind (tK _ _ _ (by decide)) fun _=>last f head)) (last f head)
theorem Qm(env:Env)(e:Value):Calm (leaving env e):=Calm.bind (Bx e env) fun _=>tL ..
end Mine.Internal
namespace Mine.Internal
open PySem PyProof.Rows.TI
section
variable {O:Program} {w:World} {mg mb:Str→Option Value} {base:Heap} {n:Nat} {hd:Bool} {l₀:List Env} {env:Env} {sc:Scope} {av₀:Addr→Prop} {s₀:Shared} {σ:aA} {av:Addr→Prop} {s:Shared}
theorem K.wide{s s':Shared}(k:K l₀ s s'):K (env::l₀) s s':=by
 obtain⟨h,t,rfl,k,u⟩:=k;refine⟨h,t,rfl,fun b o n e=>k b o (fun f=>n ?_) e,u⟩;unfold frs at f ⊢;rw[List.filterMap_cons];cases env.frame with
 |none=>exact f
 |some L=>exact ae _ f
inductive Stn(s₀:Shared)(l:List Env)(e C:Addr)(s' s'':Shared):Prop where
 |mk (T:Addr) (h':Heap) (a0:Value) (sT:s₀.heap.get? T=none) (hT:∀ o,s'.heap.get? T=some o→∃ vs,o.data=.fields vs) (es:s''={ s' with heap:=h' }) (st:(dP s'.heap l e T).StaysIn h') (up:s'.heap.UpToSlots h') (tr:h'.TracedW (dP s'.heap l e T) e (.ref C) a0):Stn s₀ l e C s' s''
theorem Tb.placeF{s:Shared}{h:Heap}{e:Addr}{fl:Value}{oe:Obj}(x:Tb s h e fl)(he:h.get? e=some oe):∃ T,s.heap.get? T=none∧(∀ T',(∃ vs,oe.data=.fields vs∧vs[1]?=some (.ref T'))→T'=T)∧∀ o,h.get? T=some o→∃ vs,o.data=.fields vs:=by
 obtain⟨oe',vs,T,oT,ts,g1,g2,g3,g4,g5,g6,g7,g8⟩:=x;rw[he] at g1;obtain rfl:=si g1;refine⟨T,g4,fun T' h=>?_,fun o ho=>?_⟩
 ·obtain⟨vs',h1,h2⟩:=h;rw[g2] at h1;obtain rfl:=Data.fields.inj h1;rw[g3] at h2;exact(Value.ref.inj (si h2)).symm
 ·rw[g6] at ho;obtain rfl:=si ho;exact⟨ts,g7⟩
theorem Stn.on{s₀ s' s'':Shared}{l:List Env}{av:Addr→Prop}{e C:Addr}{x:X}{oe:Obj}{vs:Array Value}(S:Stn s₀ l e C s' s'')(dk:DK s' s'')(k:K l s₀ s')(ff:s'.heap.FunFrames base l)(se:s₀.heap.get? e=none)(fav:∀ b,frs l b→av b)
  (na:¬ av e) (he:s'.heap.get? e=some oe) (hd:oe.data=.fields vs) (hm:mg x.cls=some (.ref C)) (hx:fY O w s'.heap av oe.dict x.fields) (h2:fX oe=some .none):K l s₀ s''∧Tb s₀ s''.heap e .none∧ExAt O w mg s''.heap av e x:=by
 refine hde fun _ θ=>?_;obtain⟨T,h',a0,sT,hT,rfl,st,up,tr⟩:=S;obtain⟨k',t',oe',vs',e1,e2,e3⟩:=Qe k ff se sT st up tr.at;obtain⟨o2,f1,f2⟩:=dk e oe he;apply θ;replace f1:h'.get? e=some o2:=f1;rw[e1] at f1;obtain rfl:=si f1;have fd:oe'.dict=oe.dict:=congrArg Prod.fst f2;exact⟨k',t',na,oe',vs',C,e1,e3,e2,hm,fd.symm▸hx.fly st fav (fun o ho=>by rw[he] at ho;obtain rfl:=si ho;exact⟨vs,hd⟩) hT,(congrArg Prod.snd f2).trans h2⟩
theorem Qn{A:Around}{x:X}{v:Value}{s':Shared}{Q:Unit→Shared→Prop}{E:Value→Shared→Prop}(hfr:A.frames=some (env::l₀))(hf:env.frame=some env.locals)(hL:s₀.heap.get? env.locals=none)(u:Upx O w mg base l₀ env s₀ av₀ x v s')
  (hq:∀ s'',Fly O w mg l₀ s₀ av₀ x v s''→Q () s''):wpAny (model O w) A (leaving env v) Q E s':=by
 obtain⟨k,ff,st,e,rfl,se,⟨na,oe,vs,C,he,hd,hc,hm,hx,h2⟩,ht⟩:=u;have key:wpAny (model O w) A (leaving env (.ref e)) (fun _ s''=>Stn s₀ (env::l₀) e C s' s'') E s':=by
  rcases ht with ht | ⟨oe',vs',e1,e2,e3⟩
  ·obtain⟨T,sT,hT,hTf⟩:=ht.placeF he;obtain⟨a0,tr⟩:=ht.tr (B:=dP s'.heap (env::l₀) e T) he hc fun T' h=>hT T' h▸tI;exact wpAny_leaves_onW hfr hf ⟨oV,tH,kY ff fun b f=>oW f,tr⟩ fun h' fl up=>⟨T,h',a0,sT,hTf,rfl,fl.1,up,fl.2.2.2⟩
  ·rw[he] at e1;obtain rfl:=si e1;have hs:=(Array.getElem?_eq_some_iff.mp e3).1;exact wpAny_leaving_firstW (base:=dP s'.heap (env::l₀) e e) (a0:=vs'[0]) hfr (kY ff fun b f=>oW f) hf he oV tH e2 e3 (Array.getElem?_eq_getElem (by exact Gi hs)) fun h' h=>⟨e,h',_,se,fun o ho=>by rw[he] at ho;obtain rfl:=si ho;exact⟨_,hd⟩,rfl,h.1,h.2.2.2,hc▸h.2.2.1⟩
 refine aq ((Qm env (.ref e)).any key) (fun _ s'' y=>?_) fun _ _ y=>y.1;obtain⟨k',t',xa⟩:=y.1.on y.2 k.wide ff se (fun b f=>.inr f) na he hd hm hx h2;exact hq _ ⟨K.drop hf hL (K.rf l₀ s₀) k',e,rfl,se,xa.mono (fun _ _ _ e=>e) fun b _ _ h=>.inl h,t'⟩
theorem Qo{A:Around}{x:X}{v:Value}{s':Shared}{Q:Unit→Shared→Prop}{E:Value→Shared→Prop}(hfr:A.frames=some (env::l₀))(hf:env.frame=some env.locals)(G:Gnd O w mg mb base (env::l₀) av s)(u:Fly O w mg (env::l₀) s av x v s')
  (hq:∀ s'',Fly O w mg (env::l₀) s av x v s''→Q () s''):wpAny (model O w) A (noteFrame v env) (fun _ s₂=>wpAny (model O w) A (setFlight v none) Q E s₂) E s':=by
 refine hde fun _ θ=>?_;obtain⟨k,e,rfl,se,⟨na,oe,vs,C,he,hd,hc,hm,hx,h2⟩,ht⟩:=u;have ff:=(G.k k).ff;obtain⟨T,sT,hT,hTf⟩:=ht.placeF he;obtain⟨a0,tr⟩:=ht.tr (B:=dP s'.heap (env::l₀) e T) he hc fun T' h=>hT T' h▸tI;apply θ;have key:wpAny (model O w) A (noteFrame (.ref e) env) (fun _ s₂=>wpAny (model O w) A (setFlight (.ref e) none) (fun _ s₃=>Stn s (env::l₀) e C s' s₃) (fun _ _=>False) s₂) (fun _ _=>False) s':=by
  refine wpAny_looks_onW hfr hf ⟨oV,tH,kY ff fun b f=>oW f,tr⟩ fun h' hh up=>?_;exact wpAny_landsW (s:={ s' with heap:=h' }) hh fun h'' fl up'=>⟨T,h'',a0,sT,hTf,rfl,fl.1,up.trans up',fl.2.2.2⟩
 refine aq ((Bx (.ref e) env).any key) (fun _ s₂ y=>?_) fun _ _ y=>y.1.elim;refine aq ((tL (.ref e) none).any y.1) (fun _ s₃ z=>?_) fun _ _ z=>z.1.elim;refine hde fun _ θ=>?_;obtain⟨k',t',xa⟩:=z.1.on (y.2.tr z.2) k ff se G.fav na he hd hm hx h2;apply θ;exact hq _ ⟨k',e,rfl,se,xa,t'⟩
theorem Qp{A:Around}{x:X}{v:Value}{s':Shared}{Q:Unit→Shared→Prop}{E:Value→Shared→Prop}(G:Gnd O w mg mb base (env::l₀) av s)(u:Fly O w mg (env::l₀) s av x v s')
  (hq:∀ s'',Fly O w mg (env::l₀) s av x v s''→Q () s''):wpAny (model O w) A (setFlight v none) Q E s':=by
 refine hde fun _ θ=>?_;obtain⟨k,e,rfl,se,⟨na,oe,vs,C,he,hd,hc,hm,hx,h2⟩,ht⟩:=u;have ff:=(G.k k).ff;obtain⟨T,sT,hT,hTf⟩:=ht.placeF he;obtain⟨a0,tr⟩:=ht.tr (B:=dP s'.heap (env::l₀) e T) he hc fun T' h=>hT T' h▸tI;apply θ;have key:wpAny (model O w) A (setFlight (.ref e) none) (fun _ s₃=>Stn s (env::l₀) e C s' s₃) (fun _ _=>False) s' :=
  wpAny_setFlight_noneW (oV (l:=env::l₀) (e:=e) (T:=T)) (kY ff fun b f=>oW f) tr fun h' h1 h2 h3 h4=>⟨T,h',a0,sT,hTf,rfl,h1,fun b o e hn=>⟨o.slots,h4 b o e hn⟩,h3⟩
 refine aq ((tL (.ref e) none).any key) (fun _ s₃ z=>?_) fun _ _ z=>z.1.elim;obtain⟨k',t',xa⟩:=z.1.on z.2 k ff se G.fav na he hd hm hx h2;exact hq _ ⟨k',e,rfl,se,xa,t'⟩
theorem Qq{ev:EV}{C:Ctx}(hK:KSound O w mg mb base n C)(hh:C.hd=hd)(hbad:∀ σ e,bad e=true→ev σ e=.no)(h:∀ σ e,aH O w mg mb base n hd (env::l₀) sc σ e (ev σ e)){F:Nat}{e:Expr}{pos:Pos} :
  aS O w mg mb base n hd l₀ env sc s₀ σ (exec (.Raise (some e) none pos) env) fun _ _=>nY ev F C sc σ e:=by
 intro av₀ A s av hA X kn kr fin Q E hf hne hp hn hr he;replace hf:nY ev F C sc σ e=fin:=hf;unfold nY at hf;refine ocs (i8 e) (fun hc=>?_) fun c hc=>?_
 ·rw[hc] at hf;exact absurd hf.symm hne
 ·refine hde fun _ θ=>?_;obtain⟨c,as⟩:=c;rw[hc] at hf;obtain⟨p,q,rfl⟩:=zH hc;obtain⟨⟨c1,c2,c3⟩,hf⟩:=jO hf hne;apply θ;have hini:C.init c=(bK c O.main.body).map (·.2):=by rw[hK.init]
  rw[hini] at hf;refine ocs (bK c O.main.body) (fun hcl=>?_) fun pc hcl=>?_
  ·rw[hcl] at hf;exact absurd hf.symm hne
  ·rw[hcl] at hf;refine hde fun _ θ=>?_;obtain⟨av1,Y,hsub⟩:=X.cl (as.flatMap (esc F));obtain⟨Ca,bm,g1,g2,_⟩:=Y.inv.gnd.glo.cls c pc hcl;obtain⟨nm,qn,N,bs,hdct,sn,sub,ab,col,dd,k0,k1,k2,k3,k5,newId,hC⟩:=g2.obj;apply θ;have hf:rb (evs (ev (aA.cl σ (as.flatMap (esc F)))) as) (fun vs=>match pc.2 with | some ps=>if ps.length=vs.length then .exc ⟨c,ps.zip (bY vs)⟩ else .no | none=>if vs.length=1 then .exc ⟨c,[]⟩ else .no)=fin:=by
    rw[← hf];obtain⟨b0,ini⟩:=pc;cases ini<;>rfl
   refine P3 (C:=Ca) (bm:=bm) g2.exc (hA.handled (hh▸c3)) c2 (oF Y.inv c1 g1 ⟨rfl,jI (hbad _) hA (fun e _=>h _ e) Y.inv ⟨hf,hne⟩ (fun vs s₂ us k2' r1 r2 e2=>⟨(Y.inv.gnd.k k2').stay _ _ hC,?_⟩) fun x v s' e f=>he x v s' e (Y.up f)⟩);have hlen:vs.length=us.length:=by rw[r1];exact List.length_map _
   have:zJ pc.2 vs.length∧fin=.exc ⟨c,match pc.2 with | some ps=>ps.zip (bY us) | none=>[]⟩:=by
    revert e2
    cases pc.2 with
    |none=>exact fun e2=>by obtain⟨a,b⟩:=jO e2 hne;exact⟨hlen.trans a,b.symm⟩
    |some ps=>exact fun e2=>by obtain⟨a,b⟩:=jO e2 hne;exact⟨a.trans hlen.symm,b.symm⟩
   obtain⟨ha,hfin⟩:=this;have Y2:=Y.k k2';refine g2.make A vs s₂ E _ (by have:=hA.depth;exact Gj this) Y2.inv.gnd.stay ha fun v s₃ m=>?_;obtain⟨k3',e,dx,t,rfl,en,et,mf⟩:=m;have nn:∀ {b:Addr},s₂.heap.get? b=none→¬ (av₀ b∨frs (env::l₀) b):=fun h x=>x.elim (Y2.newNot h).2.2.1 (Y2.newNot h).2.2.2.2;have flds:fY O w s₃.heap (fun b=>av₀ b∨frs (env::l₀) b) dx (match pc.2 with | some ps=>ps.zip (bY us) | none=>[]):=by
    revert mf
    cases pc.2 with
    |none=>exact fun _=>.inl rfl
    |some ps =>
     intro mf;rcases mf ps rfl with rfl | ⟨d,m,e1,n1,hn1,r⟩
     ·exact .inl rfl
     ·refine .inr ⟨d,m,e1,nn n1,hn1,fun p x hp=>?_⟩;obtain⟨i,hi⟩:=gq.mp hp;obtain⟨h1,h2⟩:=List.getElem?_zip_eq_some.mp hi;have hlt:i < vs.length:=by rw[r1];exact(bg.mp h2).1
      exact⟨vs[i],r i p vs[i] h1 (List.getElem?_eq_getElem hlt),(Rep.k (l:=env::l₀) Y.inv.gnd.fav (K.of k3') (r2 i vs[i] x (List.getElem?_eq_getElem hlt) h2)).mono (fun _ _ _ e=>e) fun b _ _ h=>h.elim (Y.bas b) (Y.inv.gnd.fav b)⟩
   have Y3:=Y2.k (K.of k3');exact⟨e,dx,t,rfl,Y3.inv.gnd.stay _ _ hC,et,he _ _ _ hfin ⟨Y3.k0,Y3.inv.gnd.ff,Y3.inv.gnd.stay,e,rfl,(Y2.newNot en).2.2.2.1,⟨nn en,_,_,Ca,et,rfl,rfl,g1,flds,rfl⟩,.inr ⟨_,_,et,rfl,rfl⟩⟩⟩
end
end Mine.Internal
namespace Mine.Internal
open PySem
section
variable {M:Model} {A:Around} {E:Value→Shared→Prop}
variable {nm q nm' q':Str} {C N D N':Addr} {bs bm bs' bm':List Value} {hdct hdct':Bool} {sn sn':List Str} {sub sub':List Value} {ab ab':Bool} {col col':Option Bool} {dd dd':Option Addr} {k0 k1 k2 k3 k5 k0' k1' k2' k3' k5':Option Value} {newId newId':String}
theorem Qr{h:Heap}{g:Array GenState}{d:Drawn}{t:Nat}{os:OsState}{e:Addr}{oe:Obj}{Q:Bool→Shared→Prop}
  (hC:h.get? C=some (excClassObj nm q C N bs bm hdct sn sub ab col dd k0 k1 k2 k3 k5 newId)) (hD:h.get? D=some (excClassObj nm' q' D N' bs' bm' hdct' sn' sub' ab' col' dd' k0' k1' k2' k3' k5' newId')) (he:h.get? e=some oe) (hcls:oe.cls=.ref C) (hbase:bm'.contains (.type "BaseException")=true)
  (hcD:(Value.ref C::bm).contains (.ref D)=true) (hq:Q true ⟨h,g,d,t,os⟩):wpAny M A (excMatches (.ref e) (.ref D)) Q E ⟨h,g,d,t,os⟩:=by
 have hcB:(Value.ref D::bm').contains (.type "BaseException")=true:=by rw[List.contains_cons,hbase,Bool.or_true]
 have f:=tc_notTuple;unfold excMatches
 repeat (first | (with_reducible refine bo he ?_;rw[hcls]) | with_reducible refine bo hD ?_ | (with_reducible refine fg hD ?_;rw[hcB]) | (with_reducible refine fg hC ?_;rw[hcD]) | wp_step)
 exact hq
theorem Qs{base:Heap}{s:Shared}{C D e:Addr}{bm bm':List Value}{oe:Obj}{Q:Bool→Shared→Prop}(c2:ClsObj base C bm)(d2:ClsObj base D bm')(st:∀ a o,base.get? a=some o→s.heap.get? a=some o)
  (he:s.heap.get? e=some oe) (hcls:oe.cls=.ref C) (hbase:bm'.contains (.type "BaseException")=true) (hcD:(Value.ref C::bm).contains (.ref D)=true) (hq:Q true s):wpAny M A (excMatches (.ref e) (.ref D)) Q E s:=by
 obtain⟨_,_,_,_,_,_,_,_,_,_,_,_,_,_,_,_,hC⟩:=c2;obtain⟨_,_,_,_,_,_,_,_,_,_,_,_,_,_,_,_,hD⟩:=d2;exact Qr (st _ _ hC) (st _ _ hD) he hcls hbase hcD hq
end
section
variable {O:Program} {w:World} {mg mb:Str→Option Value} {base:Heap} {n:Nat} {hd:Bool} {l₀:List Env} {env:Env} {sc:Scope} {av₀:Addr→Prop} {s₀:Shared} {σ:aA} {av:Addr→Prop} {s:Shared}
noncomputable def cut(h:Heap)(pn:Addr→Prop)[DecidablePred pn]:Heap:={ h with objs:=h.objs.mapIdx fun i o=>if pn i then { o with data:=.freed } else o }
theorem tM(h:Heap){pn:Addr→Prop}[DecidablePred pn]{b:Addr}(hb:pn b):(cut h pn).get? b=none:=by
 unfold cut Heap.get?;simp only[Array.getElem?_mapIdx];cases h.objs[b]? with
 |none=>rfl
 |some o=>simp[hb]
theorem tN(h:Heap){pn:Addr→Prop}[DecidablePred pn]{b:Addr}(hb:¬ pn b):(cut h pn).get? b=h.get? b:=by
 unfold cut Heap.get?;simp only[Array.getElem?_mapIdx];cases h.objs[b]? with
 |none=>rfl
 |some o=>simp[hb]
theorem Glo.mono{base':Heap}(k:∀ b o,base.get? b=some o→base'.get? b=some o)(G:Glo O w mg mb base):Glo O w mg mb base' where
 g:=G.g.keeps k
 b:=G.b.keeps k
 nolimit:=G.nolimit.keeps k
 mods:=by obtain⟨mm,h⟩:=G.mods;exact⟨mm,h.keeps k⟩
 fn:=fun f a b sc e=>by obtain⟨ad,o,pm,cd,doc,h1,h2,h3,h4⟩:=G.fn f a b sc e;exact⟨ad,o,pm,cd,doc,h1,k _ _ h2,h3,h4.keeps k⟩
 const:=G.const
 blt:=G.blt
 cls:=fun c p e=>by
  obtain⟨C,bm,h1,h2,h3⟩:=G.cls c p e;exact⟨C,bm,h1,{ h2 with obj:=by obtain⟨_,_,_,_,_,_,_,_,_,_,_,_,_,_,_,_,h⟩:=h2.obj;exact⟨_,_,_,_,_,_,_,_,_,_,_,_,_,_,_,_,k _ _ h⟩,make:=fun A vals s E Q hd hs=>h2.make A vals s E Q hd fun b o e=>hs b o (k b o e),fld:=fun ps hp p hm A s e dx o vs m v E Q hs=>h2.fld ps hp p hm A s e dx o vs m v E Q fun b o e=>hs b o (k b o e) },h3⟩
theorem Inv0.held{l:List Env}{e:Addr}{o:Obj}(I:Inv0 O w mg mb base l env sc σ av s)(he:s.heap.get? e=some o)(ho:fX o=some .none)(hn:¬ av e):∃ base',base'.get? e=some o∧Inv0 O w mg mb base' l env sc σ av s:=by
 classical
 obtain⟨vs,hd,_⟩:=sH ho;have hk:∀ b o',base.get? b=some o'→(cut s.heap fun b=>base.get? b=none∧b≠e).get? b=some o':=fun b o' h=>(tN _ fun q=>by rw[q.1] at h;exact ns h).trans (I.gnd.stay b o' h);refine⟨cut s.heap fun b=>base.get? b=none∧b≠e,(tN _ fun q=>q.2 rfl).trans he,{ I with gnd:={ I.gnd with glo:=I.gnd.glo.mono hk,stay:=fun b o' h=>?_,ff:=kY I.gnd.ff fun b f=>tM _ ?_,avB:=fun b o' ha h=>?_ } }⟩
 ·by_cases q:base.get? b=none∧b≠e
  ·rw[tM _ q] at h;exact ns h
  ·rw[tN _ q] at h;exact h
 ·obtain⟨h1,o',h2,h3⟩:=I.gnd.ff.mem f;exact⟨h1,fun q=>by subst q;rw[he] at h2;obtain rfl:=si h2;exact h3 vs hd⟩
 ·refine ocs (base.get? b) (fun hb=>?_) fun o'' hb=>I.gnd.avB b o'' ha hb
  by_cases q:b=e
  ·exact absurd (q▸ha) hn
  ·rw[tM _ ⟨hb,q⟩] at h;exact ns h
theorem Room.mark{base':Heap}{l:List Env}{A:Around}{e:Addr}{o:Obj}(h:Room base n hd l A)(he:base'.get? e=some o)(ho:fX o=some .none):Room base' n true l (A.mark (some (.ref e))):=⟨.one e o rfl he ho,h.depth,h.units,nofun,h.guards,h.frames⟩
theorem Qt{b:List Stmt}{e:Expr}(h:kM b=some e):∃ pos,b=[.Return (some e) pos]:=by
 cases b with
 |nil=>exact ns h
 |cons s r =>
  cases r with
  |cons=>exact ns h
  |nil =>
   replace h:(match sv s with | .ret o=>o | _=>none)=some e:=h;generalize hv:sv s=v at h;cases v with
   |ret o=>obtain⟨p,rfl⟩:=zB hv;exact⟨p,by rw[show o=some e from h]⟩
   |_=>exact ns h
theorem Qu{hs:List ExceptHandler}{c:Str×Option Str×Expr}(h:n0 hs=some c):∃ p pos pos2,hs=[.ExceptHandler (some (.Name c.1 p)) c.2.1 [.Return (some c.2.2) pos2] pos]:=by
 cases hs with
 |nil=>exact ns h
 |cons hh r =>
  cases r with
  |cons=>exact ns h
  |nil =>
   obtain⟨t,x,b,pos⟩:=hh;cases t with
   |none=>exact ns h
   |some t =>
    replace h:(match bH t with | some c=>(match kM b with | some e=>some (c,x,e) | none=>none) | none=>none)=some c:=h;refine ocs (bH t) (fun hn=>?_) fun y hn=>?_
    ·rw[hn] at h;exact ns h
    ·rw[hn] at h;replace h:(match kM b with | some e=>some (y,x,e) | none=>none)=some c:=h;refine ocs (kM b) (fun hr=>?_) fun e hr=>?_
     ·rw[hr] at h;exact ns h
     ·rw[hr] at h;obtain rfl:=si h;obtain⟨p,rfl⟩:=dG hn;obtain⟨pos2,rfl⟩:=Qt hr;exact⟨p,pos,pos2,rfl⟩
theorem bF.same{s:Shared}{h h':Heap}{av:Addr→Prop}{L:Addr}{v:Value}{u:V}(hL:av L)(hlt:∃ o,s.heap.get? L=some o)(hs:Heap.SameBut L h h')(r:bF O w s h av v u):bF O w s h' av v u:=by
 have hk:∀ b o,¬ av b→h.get? b=some o→h'.get? b=some o:=fun b o n e=>(hs.2 b fun x=>n (x▸hL)).trans e;cases u with
 |ex x=>exact r
 |pil l=>exact r
 |fz d=>exact(show Rep O w h av v d from r).mono hk fun _ _ _ x=>x
 |own d =>
  obtain⟨a,e,hn,rb⟩:=r;refine⟨a,e,hn,rb.mono (fun b o n e=>hk b o (fun x=>n (.inl x)) e) (fun _ _ _ x=>x) fun o e=>(hs.2 a fun x=>?_).trans e⟩;obtain⟨o,ho⟩:=hlt;simp only[x,ho] at hn;exact sn hn
theorem Qv{b:List Stmt}{e:Expr}(h:n6 b=some e):∃ pos,b=[.Expr e pos]∧eP e=true:=by
 cases b with
 |nil=>exact ns h
 |cons s r =>
  cases r with
  |cons=>exact ns h
  |nil =>
   replace h:(match sv s with | .ex e=>if eP e=true then some e else none | _=>none)=some e:=h;generalize hv:sv s=v at h;cases v with
   |ex e' =>
    obtain⟨p,rfl⟩:=zB hv;replace h:(if eP e'=true then some e' else none)=some e:=h
    by_cases hc:eP e'=true
    ·rw[if_pos hc] at h;obtain rfl:=si h;exact⟨p,rfl,hc⟩
    ·rw[if_neg hc] at h;exact ns h
   |_=>exact ns h
theorem Qw{e:Expr}(h:eP e=true):fV e=false:=by
 unfold eP at h;unfold fV;generalize vw e=v at h;cases v<;>first | rfl | cases h
theorem Qx{ev ev':EV}{C:Ctx}(hK:KSound O w mg mb base n C)(h:∀ σ e,aH O w mg mb base n hd (env::l₀) sc σ e (ev σ e))(h':∀ base σ e,aH O w mg mb base n true (env::l₀) sc σ e (ev' σ e)){F:Nat}{e e':Expr}{c z:Str}{p pos pos1 pos2 pos3:Pos}(hcl:eP e=true) :
  aS O w mg mb base n hd l₀ env sc s₀ σ (exec (.Try [.Expr e pos1] [.ExceptHandler (some (.Name c p)) (some z) [.Return (some e') pos2] pos3] [] [] pos) env) fun kn kr=>n7 ev ev' F C sc σ e c z e' kn kr:=by
 intro av₀ A s av hA X kn kr fin Q E hf hne hp hn hr he;refine hde fun _ θ=>?_;obtain⟨hg,hf⟩:=jO (show(if isG sc c=true∧(C.init c).isSome=true∧sc.names.lookup z=some .local then _ else R.no)=fin from hf) hne;obtain⟨hg,hin,hz⟩:=hg;obtain⟨av1,Y,hsub⟩:=X.cl (esc F e);apply θ;refine wpAny_Try_except (ic (wpAny_Expr_any ?_ (by unfold interactive;rw[Y.inv.kind];rfl) (swz (Qw hcl))));have hE:=h (aA.cl σ (esc F e)) e;cases hev:ev (aA.cl σ (esc F e)) e with
 |no=>rw[hev] at hf;exact absurd hf.symm hne
 |ok v0 =>
  rw[hev] at hf;exact hE.val hA Y.inv hev fun v s' k r=>gd (gd (hn _ _ _ (Y.k k) ((Fr.sub hsub).tr (Y.frk k)) hf))
 |exc y =>
  rw[hev] at hf;refine hE A env s av1 hA Y.inv (k:=R.ok) (fin:=R.exc y) ⟨by rw[hev];rfl,nofun⟩ (fun v s' u _ _ e=>by cases e) fun y' v s' ey fly=>?_;cases ey;refine hde fun _ θ=>?_;obtain⟨hsb,hf⟩:=jO hf hne;rw[show C.sub y.cls c=iC O.main.body y.cls c by rw[hK.sub]] at hsb;rw[show C.init c=(bK c O.main.body).map (·.2) by rw[hK.init]] at hin;obtain⟨pd,hcd⟩:∃ pd,bK c O.main.body=some pd:=by
   revert hin;cases bK c O.main.body with
   |none=>exact fun h=>by exact bft h
   |some pd=>exact fun _=>⟨pd,rfl⟩
  obtain⟨pc,hcc⟩:∃ pc,bK y.cls O.main.body=some pc:=by
   revert hsb;unfold iC;cases bK y.cls O.main.body with
   |none=>rw[Option.isSome_none,Bool.and_false];exact fun h=>by exact ns h
   |some pc=>exact fun _=>⟨pc,rfl⟩
  have hso:iC O.main.body y.cls c=some (jD O.main.body 4 y.cls c):=by unfold iC;rw[hcc,hcd];rfl
  have hsb:=si (hso.symm.trans hsb);obtain⟨σ1,hs1,hf⟩:=cT hf hne;obtain⟨v0,hg0,rfl⟩:=fF hs1;obtain⟨u,hu,hf⟩:=Fin.nx ⟨hf,hne⟩;obtain⟨D,bmD,d1,d2,_⟩:=Y.inv.gnd.glo.cls c pd hcd;obtain⟨Ca,bmC,c1,c2,c3⟩:=Y.inv.gnd.glo.cls y.cls pc hcc;apply θ;have hcon:=(c3 c pd D hcd d1).trans hsb;refine Qo hA.frames X.frm Y.inv.gnd fly fun s₂ fly2=>?_;refine hde fun _ θ=>?_;obtain⟨k2',e2,rfl,se,⟨na,oe,vs,C',o1,o2,o3,o4,o5⟩,tb⟩:=id fly2;apply θ;obtain rfl:=Value.ref.inj (si (c1.symm.trans o4));have Y2:=Y.k k2';refine wpAny_handleBy_cons (codeAny_handlers_test (oF Y2.inv hg d1 ?_)) (by intro q;cases q);refine Qs c2.obj d2.obj (fun a o h=>Y2.inv.gnd.stay _ _ h) o1 o3 d2.exc hcon ?_;clear o1 o2 o3 o5 hcon c1 c2 c3 d1 d2 hE hev;refine codeAny_handlers_suite_as (Qp Y.inv.gnd fly2 fun s₃ fly3=>?_);refine hde fun _ θ=>?_;obtain⟨k3'',e3,ee,_,xa,_⟩:=id fly3;apply θ;obtain rfl:=Value.ref.inj ee;refine(Y.k k3'').put hg0 (v:=.ex y) ⟨_,rfl,xa⟩ (fun _ q=>q.elim) fun s4 Z f4 _ _=>ic (wpAny_Return_some ?_);refine hde fun _ θ=>?_;obtain⟨na,oe,vs,C',o1,o2,o3,o4,o5,o6⟩:=xa;obtain⟨av3,Y4,sub4⟩:=Z.cl (esc F e');obtain⟨base',b1,I4⟩:=Y4.inv.held (f4 _ _ (fun q=>na (Y.fresh _ q).1) o1) o6 fun q=>na (sub4 _ q);apply θ;refine(h' base' _ e').val (hA.mark b1 o6) I4 hu fun v s' k r=>?_;have Y5:=Y4.k k;obtain⟨mL,hnL⟩:=Y5.ns;refine wpAny_nameGoes (Y5.loc z hz) hnL (by rw[Y5.inv.kind];rfl) fun h'' m' _ hs=>?_;refine hde fun _ θ=>?_;obtain⟨f1,f2,_⟩:=Y5.fresh env.locals (.inl rfl);apply θ;exact hr v _ u (Y5.k0.on f2 fun b o hb eb=>(hs.2 b hb).trans eb) ((r.same f1 (Y4.liveMn (.inl rfl)) hs).out Y4) hf
end
theorem By{kindOf:Str→Option NameKind}:∀ {ps:List Str} {vs:List Value} {m:Str→Option Value} {x:Str},x∉ps→bindC kindOf (ps.zip vs) m x=m x
 | [],_,_,_,_=>rfl
 |_::_,[],_,_,_=>rfl
 |p::ps,v::vs,m,x,h=>by
  show bindC kindOf (ps.zip vs) _ x=m x;simp at h;rw[By h.2]
  split
  ·rfl
  ·exact if_neg h.1
theorem Bz{kindOf:Str→Option NameKind}:∀ {ps:List Str} {vs:List Value} {m:Str→Option Value} {x:Str} {v:Value} {i:Nat},ps.Nodup→ps[i]?=some x→vs[i]?=some v→kindOf x≠some .local→bindC kindOf (ps.zip vs) m x=some v
 | [],_,_,_,_,_,_,h,_,_=>by simp at h
 |_::_,[],_,_,_,_,_,_,h,_=>by simp at h
 |p::ps,u::vs,m,x,v,i,hn,h1,h2,hk=>by
  show bindC kindOf (ps.zip vs) _ x=some v;obtain⟨n1,n2⟩:=aw.mp hn;cases i with
  |zero =>
   simp at h1 h2;subst h1;subst h2;rw[By n1,if_neg hk];exact if_pos rfl
  |succ i=>exact Bz n2 (by simpa using h1) (by simpa using h2) hk
theorem Qy:∀ (names:List (Str×NameKind)) (k:Nat) (acc:List (Str×Addr)) (x:Str),(acc.lookup x).isSome=true→((cellsFrom k names acc).lookup x).isSome=true:=by
 intro v0
 induction v0 with
 |nil =>
  intro _ _ _ h;exact h
 |cons pp r ih =>
  obtain⟨y,kd⟩:=pp;intro k acc x h;unfold cellsFrom
  split
  ·refine ih _ _ x ?_;simp only[List.lookup_cons]
   split
   ·rfl
   ·exact h
  ·exact ih _ _ x h
theorem oY:∀ (names:List (Str×NameKind)) (k:Nat) (acc:List (Str×Addr)) (x:Str),(x,NameKind.cell)∈names→((cellsFrom k names acc).lookup x).isSome=true
 | (y,kd)::r,k,acc,x,h=>by
  unfold cellsFrom;rcases List.mem_cons.mp h with e | h
  ·cases e;rw[if_pos (by rfl)];refine Qy r _ _ _ ?_;simp only[List.lookup_cons];simp
  ·split
   ·exact oY r _ _ x h
   ·exact oY r _ _ x h
theorem tO{ps:List Str}{us:List V}:∀ {names:List (Str×NameKind)} {x:Str} {v:Option V},aA.get (eJ ps us names) x=some v→v=(ps.zip us).lookup x∧((x,NameKind.local)∈names∨(x,NameKind.cell)∈names):=by
 intro v0
 induction v0 with
 |nil =>
  intro _ _ h;exact ns h
 |cons pp r ih =>
  obtain⟨y,k⟩:=pp;intro x v h;have step:∀ {k'},(k'=NameKind.local∨k'=NameKind.cell)→aA.get ((y,(ps.zip us).lookup y)::eJ ps us r) x=some v→v=(ps.zip us).lookup x∧((x,NameKind.local)∈(y,k')::r∨(x,NameKind.cell)∈(y,k')::r):=fun hk' h=>by
   by_cases hxy:x=y
   ·subst hxy;rw[aA.get_cons_eq] at h;obtain rfl:=si h;refine⟨rfl,?_⟩;rcases hk' with rfl | rfl
    ·exact .inl ah
    ·exact .inr ah
   ·rw[aA.get_cons_ne hxy] at h;obtain⟨h1,h2⟩:=ih h;exact⟨h1,h2.imp (ae _) (ae _)⟩
  have skip:∀ {k'},aA.get (eJ ps us r) x=some v→v=(ps.zip us).lookup x∧((x,NameKind.local)∈(y,k')::r∨(x,NameKind.cell)∈(y,k')::r):=fun h=>by
   obtain⟨h1,h2⟩:=ih h;exact⟨h1,h2.imp (ae _) (ae _)⟩
  cases k with
  | «local»=>exact step (.inl rfl) h
  |cell=>exact step (.inr rfl) h
  |_=>exact skip h
theorem tP:∀ {l:List Str},jF l=true→l.Nodup:=by
 intro v0
 induction v0 with
 |nil =>
  intro _;exact cm
 |cons x r ih =>
  intro h;have h:(!r.contains x&&jF r)=true:=h;simp only[Bool.and_eq_true,Bool.not_eq_true',Bool.eq_false_iff] at h;exact aw.mpr ⟨by simpa using h.1,ih h.2⟩
theorem kZ{α:Type}:∀ {l:List (Str×α)} {x:Str} {k:α},(l.map (·.1)).Nodup→(x,k)∈l→l.lookup x=some k
 | (y,d)::r,x,k,hn,h=>by
  obtain⟨n1,n2⟩:=aw.mp (show(y::r.map (·.1)).Nodup from hn);rcases List.mem_cons.mp h with e | h
  ·cases e;simp[List.lookup]
  ·have hne:(x==y)=false:=by
    rw[beq_eq_false_iff_ne];intro e;exact n1 (by rw[← e];exact bi.mpr ⟨(x,k),h,rfl⟩)
   rw[List.lookup_cons,hne];exact kZ n2 h
structure FnOk(a:Arguments)(sc:Scope):Prop where
 params:∃ kwd dfl,a=⟨[],a.args,none,[],kwd,none,dfl⟩
 kind:sc.kind=.function
 gen:sc.isGenerator=false
 cor:sc.isCoroutine=false
 nodup:(sc.names.map (·.1)).Nodup
 anodup:(a.args.map (·.arg)).Nodup
 nofree:∀ p∈sc.names,p.2≠.free
 akind:∀ x∈a.args,sc.names.lookup x.arg=some .local∨sc.names.lookup x.arg=some .cell
 dbg:sc.names.lookup (Str.ofString "__debug__")=none
 cld:sc.names.lookup (Str.ofString "__classdict__")=none
theorem Qz{a:Arguments}{sc:Scope}(h:n8 a sc=true):FnOk a sc:=by
 unfold n8 at h;simp only[Bool.and_eq_true] at h;obtain⟨⟨⟨⟨⟨⟨⟨⟨⟨⟨⟨⟨⟨⟨h1,h2⟩,h3⟩,h4⟩,h5⟩,h6⟩,h7⟩,h8⟩,h9⟩,h10⟩,h11⟩,h12⟩,h13⟩,h14⟩,h15⟩:=h;refine⟨?_,by simpa using h7,by simpa using h8,by simpa using h9,tP h10,tP h11,fun p hp=>by simpa using be.mp h12 p hp,fun x hx=>?_,by simpa using h14,by simpa using h15⟩
 ·obtain⟨po,as,va,ko,kd,kw,df⟩:=a;simp only[List.isEmpty_iff,Option.isNone_iff_eq_none] at h1 h2 h3 h4;subst h1;subst h2;subst h3;subst h4;exact⟨kd,df,rfl⟩
 ·have:=be.mp h13 x hx
  split at this
  ·rename_i e;exact .inl e
  ·rename_i e;exact .inr e
  ·exact bft this
section
variable {O:Program} {w:World} {mg mb:Str→Option Value} {base:Heap} {l:List Env}
theorem Q0{s s₁:Shared}{av:Addr→Prop}{a:Arguments}{b:List Stmt}{sc:Scope}{f:Str}{pm cd doc:Value}{ad:Addr}{vs:List Value}{us:List V}{env:Env}(hE:env=callEnvC (Calls.docDef f a b sc pm cd doc) s.heap.objs.size ad)(G:Gnd O w mg mb base l av s)
  (hargs:f6 (CA O w mg l av) s vs us) (hok:FnOk a sc) (hin:InCallC s env.locals (bindL env.kindOf ((a.args.map (·.arg)).zip vs) fun _=>none) env.cells (bindC env.kindOf ((a.args.map (·.arg)).zip vs) fun _=>none) s₁) :
  ∃ av1,Act O w mg mb base l env sc av s (eJ (a.args.map (·.arg)) us sc.names) av1 s₁:=by
 have hkind:∀ x,env.kindOf x=sc.names.lookup x:=fun _=>by rw[hE];rfl
 have hL:env.locals=s.heap.objs.size:=by rw[hE];rfl
 have hcells:env.cells=cellsFrom (s.heap.objs.size+1) sc.names []:=by rw[hE];rfl
 have ek:env.scope.kind=.function:=by rw[hE];exact hok.kind
 have eg:env.globals=mainGlobals:=by rw[hE];rfl
 have eb:env.builtins=builtinsNs:=by rw[hE];rfl
 have hfrm:env.frame=some env.locals:=by rw[hE];rfl
 clear hE;have dead:∀ b,Mn env b→s.heap.get? b=none:=fun b h=>by
  rcases h with h | ⟨x,h⟩
  ·rw[h,hL];exact bU _
  ·exact cy (by
    have:=hin.above x b (fE h);rw[hL] at this;exact bz this)
 have notav:∀ b,Mn env b→¬ av b:=fun b h x=>by obtain⟨o,e⟩:=G.avlt b x;rw[dead b h] at e;exact ns e
 have neL:∀ x c,env.cells.lookup x=some c→c≠env.locals:=fun x c e=>cu (hin.above x c (fE e));have notown:∀ x v,aA.get (eJ (a.args.map (·.arg)) us sc.names) x=some (some v)→hX v=false:=fun x v h=>by
  obtain⟨h1,_⟩:=tO h;obtain⟨i,_,h3⟩:=tE h1.symm;have hlt':i < vs.length:=by
   have:=(bg.mp h3).1;rw[hargs.len];exact this
  exact(hargs.at i _ _ (List.getElem?_eq_getElem hlt') h3).2
 have cellOfName:∀ x,sc.names.lookup x=some .cell→∃ c,env.cells.lookup x=some c:=fun x hx=>by
  have:=oY sc.names (s.heap.objs.size+1) [] x (fE hx);rw[← hcells] at this;exact Option.isSome_iff_exists.mp this
 have keep:=hin.toInCall.keep;have k0:Kp s s₁:=by obtain⟨h,t,e⟩:=hin.toInCall.same;subst e;exact⟨h,t,rfl,keep⟩
 have back:∀ b o,s.heap.get? b=some o→(av b∨Mn env b)→av b:=fun b o e h=>h.elim id fun h=>by rw[dead b h] at e;exact ns e
 have bfr:base.get? env.locals=none:=by
  refine ocs (base.get? env.locals) (fun e=>?_) fun o e=>?_
  ·try rewrite[e]
   rfl
  ·have:=G.stay _ _ e;rw[dead _ (.inl rfl)] at this;exact ns this
 refine hde fun _ θ=>?_;obtain⟨oL,esL,epL,e1,e2,e3⟩:=id hin.toInCall.ns;apply θ;have noO:∀ {P:Prop} x a',OwnN env (eJ (a.args.map (·.arg)) us sc.names) s₁.heap x a'→P:=fun x a' h=>by obtain⟨v,u,e,_,hh⟩:=h;exact btf (hh.ow.symm.trans (notown x v e))
 have frb:∀ b,frs l b→av b∧∃ o,s.heap.get? b=some o:=fun b h=>⟨G.fav b h,by obtain⟨_,o,e,_⟩:=G.ff.mem h;exact⟨o,e⟩⟩
 refine⟨fun b=>av b∨Mn env b,{ inv:=?_,stay0:=G.stay,frm:=hfrm,fr0:=fun b h=>frb b h,k0:=K.of k0,bas:=fun b h=>Or.inl h,ns:=⟨_,hin.toInCall.ns⟩,cells:=fun x c e=>⟨neL x c e,_,hin.cell x c e⟩,fresh:=fun b h=>⟨.inr h,dead b h,notav b h⟩,capart:=fun x y c hx hy=>name_of_addr hin.apart (fE hx) (fE hy),names:=fun x v h=>?_,ownA:=fun x a h=>noO x a h,ownI:=fun x y a h=>noO x a h,loc:=fun x h=>(hkind x).trans h }⟩
 ·refine { gnd:={ G.k (K.of k0) with ff:=⟨by rw[ek];nofun,⟨env.locals,oL,hfrm,bfr,e1,fun vs q=>by rw[e2] at q;cases q⟩,(G.k (K.of k0)).ff⟩,fav:=fun b h=>((jM hfrm).mp h).elim (fun h=>.inr (.inl h)) fun h=>.inl (G.fav b h),avlt:=fun b h=>?_,avS:=.inl G.avS,avB:=fun b o h e=>h.elim (fun h=>G.avB b o h e) fun h=>by have:=G.stay b o e;rw[dead b h] at this;exact ns this },kind:=ek,eg:=eg,eb:=eb,dbg:=hok.dbg,cld:=hok.cld,glob:=fun x hx=>?_,kinds:=fun x hx=>?_,get:=fun x v hl hg=>?_ }
  ·rcases h with h | h | ⟨x,h⟩
   ·exact(G.k (K.of k0)).avlt b h
   ·exact⟨oL,h▸e1⟩
   ·obtain⟨o,e,_⟩:=hin.cell x b h;exact⟨o,e⟩
  ·unfold isG at hx;rw[hkind];exact eq_of_beq hx
  ·rw[hkind];refine⟨hx,?_⟩;refine ocs (sc.names.lookup x) (fun hk=>?_) fun k hk=>?_
   ·rw[hk] at hx;exact bft hx
   ·rw[hk] at hx;cases k with
    |cell=>exact cellOfName x hk
    |free=>exact absurd rfl (hok.nofree _ (fE hk))
    |_=>exact bft hx
  ·obtain⟨h1,h2⟩:=tO hg;obtain⟨i,h3,h4⟩:=tE h1.symm;have hlt':i < vs.length:=by
    have:=(bg.mp h4).1;rw[hargs.len];exact this
   have h5:=List.getElem?_eq_getElem hlt';obtain⟨r,hno⟩:=hargs.at i _ _ h5 h4;refine⟨vs[i],?_,?_⟩
   ·rcases h2 with h2 | h2
    ·have hk:=kZ hok.nodup h2;exact .inl ⟨by rw[hkind];exact hk,_,hin.toInCall.ns,tG hok.anodup h3 h5 (by rw[hkind];exact hk)⟩
    ·have hk:=kZ hok.nodup h2;obtain⟨c,hc⟩:=cellOfName x hk;refine .inr ⟨.inl (by rw[hkind];exact hk),c,hc,?_⟩;have:=hin.cell x c hc
     rwa [Bz hok.anodup h3 h5 (by rw[hkind,hk];intro e;cases e)] at this
   ·cases v with
    |fz d=>exact(show Rep O w s.heap av _ d from r).mono (fun b o _ e=>keep b o e) back
    |own d=>exact btf hno
    |pil d=>exact btf hno
    |ex x=>obtain⟨e,h,r⟩:=r;exact⟨e,h,r.mono (fun b o _ e=>keep b o e) back⟩
 ·obtain⟨_,h2⟩:=tO h;rcases h2 with h2 | h2
  ·have hk:=kZ hok.nodup h2;exact⟨by unfold isL;rw[hk],.inl (by rw[hkind];exact hk)⟩
  ·have hk:=kZ hok.nodup h2;exact⟨by unfold isL;rw[hk],.inr ⟨by rw[hkind];exact hk,cellOfName x hk⟩⟩
end
section
variable {O:Program} {w:World} {mg mb:Str→Option Value} {base:Heap} {n:Nat} {hd:Bool} {l₀:List Env} {env:Env} {sc:Scope} {s₀:Shared}
theorem B5{C:Ctx}{k:Nat}{sc:Scope}{σ:aA}{e:Expr}(h:bad e=true):evE C k sc σ e=.no:=by
 cases k with
 |zero=>rfl
 |succ k=>exact A9 h
theorem Q1{C C':Ctx}(hK:KSound O w mg mb base n C)(hK':∀ base,KSound O w mg mb base n C')(hc':C'.hd=true){F k:Nat}{rec:Stmt→aA→KN→KR→R V}(ih:∀ σ st,aS O w mg mb base n C.hd l₀ env sc s₀ σ (exec st env) (rec st σ))(σ:aA)(st:Stmt) :
  aS O w mg mb base n C.hd l₀ env sc s₀ σ (exec st env) (y5 (evE C (k+1) sc) (evE C' (k+1) sc) F C sc rec st σ):=by
 have h:∀ σ e,aH O w mg mb base n C.hd (env::l₀) sc σ e (evE C (k+1) sc σ e):=fun σ e=>(oR hK (k+1) sc σ e).1;have h':∀ base σ e,aH O w mg mb base n true (env::l₀) sc σ e (evE C' (k+1) sc σ e):=fun base σ e=>hc'▸(oR (hK' base) (k+1) sc σ e).1;have hbad:∀ σ e,bad e=true→evE C (k+1) sc σ e=.no:=fun σ e hb=>B5 hb;cases st with
 |Return o pos =>
  cases o with
  |none=>exact fun av₀ A s av hA X _ _ _ _ _ hf hne hp hn hr he=>wpAny_Return_none (hr _ _ (.fz .none) X.k0 .none hf)
  |some e=>exact O5 fun σ=>h σ e
 |Assign ts e pos =>
  cases ts with
  |nil=>exact aS.no
  |cons t r =>
   cases r with
   |nil=>exact Px (rec:=evE C k) (fun _ _ _ hb=>B5 hb) rfl (fun sc σ e=>oR hK k sc σ e) h
   |cons=>exact aS.no
 |Expr e pos=>exact Py hbad h
 |If t b o pos=>exact O6 (oR hK (k+1) sc _ t).2 (kW fun st _ σ=>ih σ st) (kW fun st _ σ=>ih σ st)
 |For t it b o pos =>
  cases o with
  |nil=>exact P1 hbad h fun σ=>kW fun st _ σ=>ih σ st
  |cons=>exact aS.no
 |Raise o c pos =>
  cases o with
  |none=>exact aS.no
  |some e =>
   cases c with
   |none=>exact Qq hK rfl hbad h
   |some=>exact aS.no
 |Try b hs o f pos =>
  cases o with
  |cons=>exact aS.no
  |nil =>
   cases f with
   |cons=>exact aS.no
   |nil =>
    show aS O w mg mb base n C.hd l₀ env sc s₀ σ _ fun kn kr=>match n6 b with
     |some e=>(match n0 hs with | some (c,x,e')=>(match x with | some z=>if C.hd then .no else n7 (evE C (k+1) sc) (evE C' (k+1) sc) F C sc σ e c z e' kn kr | none=>.no) | none=>.no)
     |none=>.no
    cases hr:n6 b with
    |none=>exact aS.no
    |some e =>
     cases hcl:n0 hs with
     |none=>exact aS.no
     |some c =>
      obtain⟨pos1,rfl,hce⟩:=Qv hr;obtain⟨p,pos3,pos2,rfl⟩:=Qu hcl;obtain⟨c,x,e'⟩:=c;cases x with
      |none=>exact aS.no
      |some z =>
      show aS O w mg mb base n C.hd l₀ env sc s₀ σ _ fun kn kr=>if C.hd then .no else n7 (evE C (k+1) sc) (evE C' (k+1) sc) F C sc σ e c z e' kn kr;cases hh:C.hd with
      |true=>exact aS.no
      |false=>exact Qx hK (fun σ e=>hh▸h σ e) h' hce
 |Pass pos=>exact fun av₀ A s av hA X _ _ _ _ _ hf hne hp hn hr he=>wpAny_Pass (hn _ _ _ X (Fr.rf _ s av) hf)
 |_=>exact aS.no
theorem Q2{C C':Ctx}(hK:KSound O w mg mb base n C)(hK':∀ base,KSound O w mg mb base n C')(hc':C'.hd=true){F j:Nat}:∀ (k:Nat) (σ:aA) (st:Stmt),aS O w mg mb base n C.hd l₀ env sc s₀ σ (exec st env) (evS (evE C (j+1) sc) (evE C' (j+1) sc) F C sc k st σ):=by
 intro v0
 induction v0 with
 |zero =>
  intro _ _;exact aS.no
 |succ k ih =>
  intro σ st;exact Q1 hK hK' hc' (fun σ st=>ih σ st) σ st
theorem Room.deeper{l:List Env}{A:Around}(h:Room base (n+1) hd l A)(env:Env):Room base n hd (env::l) (A.deeper env) where
 depth:=by have:=h.depth;show A.depth+1+n+1 < _;exact Gk this
 units:=by have:=h.units;show A.units+3+16*n+300 < _;exact Gl this
 held:=by cases h.held with
  |non e=>exact .non e
  |one e o h0 h1 h2=>exact .one e o h0 h1 h2
 handled:=h.handled
 guards:=h.guards
 frames:=Around.frames_deeper h.frames
theorem tQ(f:Str)(h:(dY f O.main.body).isSome=true):∃ a b sc,dY f O.main.body=some (a,b,sc):=by
 obtain⟨⟨a,b,sc⟩,e⟩:=Option.isSome_iff_exists.mp h;exact⟨a,b,sc,e⟩
theorem B6:∀ n hd base,KSound O w mg mb base n (eR O.main.body (run O.main.body n hd) hd)
 |0,hd,base=>⟨rfl,rfl,rfl,tQ,fun f us ad hf hh A l s av vs hA G hargs β k fin Q E hfin hq he=>hfin.no.elim⟩
 |n+1,hd,base=>by
  refine⟨rfl,rfl,rfl,tQ,fun f us ad hf hh A l s av vs hA G hargs β k fin Q E hfin hq he=>?_⟩;refine hde fun _ θ=>?_;obtain⟨a,b,sc,e⟩:=tQ f hh;have ih:=B6 n;replace hfin:Fin (match dY f O.main.body with
   |none=>.no
   |some (a,b,sc) =>
    if a.args.length=us.length∧n8 a sc=true then
     blk (evS (evE (eR O.main.body (run O.main.body n hd) hd) dZ sc) (evE (eR O.main.body (run O.main.body n true) true) dZ sc) dZ (eR O.main.body (run O.main.body n hd) hd) sc dZ) b (eJ (a.args.map (·.arg)) us sc.names) (fun _=>.ok (.fz .none)) .ok
    else .no) k fin:=hfin
  rw[e] at hfin;obtain⟨⟨hlen,hfn⟩,hfin⟩:=Fin.ite hfin;have hok:=Qz hfn;obtain⟨ad',o,pm,cd,doc,g1,g2,g3,g4⟩:=G.glo.fn f a b sc e;rw[hf] at g1;cases g1;obtain⟨kwd,dfl,hpar⟩:=hok.params;apply θ;refine wpAny_call (codeAny_call_cells (binds:=(a.args.map (·.arg)).zip vs) (by have:=hA.depth;exact Gm this) (G.stay _ _ g2) g3 (G.glo.nolimit.keeps G.stay) (g4.keeps G.stay) rfl (Bt hpar rfl (by rw[hlen,hargs.len]) hok.anodup) rfl (fun x hx=>?_) (fun s₁ hin=>?_) hok.cor hok.gen hok.kind)
  ·obtain⟨ar,har,e⟩:=bi.mp (List.of_mem_zip hx).1;show sc.names.lookup x.1=_∨_;rw[← e];rcases hok.akind ar har with h | h
   ·exact .inl h
   ·exact .inr ⟨h,oY _ _ _ _ (fE h)⟩
  ·obtain⟨av1,X⟩:=Q0 rfl G hargs hok hin;have B:=kW (b:=b) (σ:=eJ (a.args.map (·.arg)) us sc.names) (fun st _ σ=>Q2 (l₀:=l) (env:=callEnvC (Calls.docDef f a b sc pm cd doc) s.heap.objs.size ad) (sc:=sc) (s₀:=s) (F:=dZ) (j:=23) (ih hd base) (ih true) rfl dZ σ st);refine B av _ s₁ av1 (hA.deeper _) X rfl hfin.ne PassesOwn.leaving (fun s' σ' av' Z _ e1=>?_) (fun v s' u k1 r e1=>?_) fun x v s' e1 u=>?_
   ·exact hq _ _ (.fz .none) Z.k0 .none ((e1▸hfin:Fin (.ok (.fz .none)) k fin).ok)
   ·exact hq _ _ u k1 r ((e1▸hfin:Fin (.ok u) k fin).ok)
   ·refine Qn (Around.frames_deeper hA.frames) X.frm (X.fresh _ (.inl rfl)).2.1 u fun s'' fl=>he x _ _ ?_ fl;exact((e1▸hfin:Fin (.exc x) k fin).1).symm
end
theorem B7{h:Heap}{l:List Str}:∀ {bZ:List Str},oB h l bZ=true→TailN h bmV l (kN h bZ):=by
 intro v0
 induction v0 with
 |nil =>
  intro _;exact .base
 |cons n r ih =>
  intro e;obtain⟨e1,e2⟩:=bl.mp (show((match h.clsAt mainGlobals n with | some x=>h.isNs x.2.2.ns&&rY h x.2.2.ns l | none=>false)&&oB h l r)=true from e);refine ocs (h.clsAt mainGlobals n) (fun hc=>?_) fun x hc=>?_
  ·simp only[hc] at e1;exact bft e1
  ·refine hde fun _ θ=>?_;obtain⟨a,o,cd⟩:=x;simp only[hc] at e1;obtain⟨h1,h2,h3⟩:=Heap.clsAt_spec hc;obtain⟨f1,f2⟩:=bl.mp e1;obtain⟨oc,dd,dt,sl⟩:=o;apply θ;obtain rfl:dt=.cls cd:=h3;show TailN h bmV l (rX h n::kN h r);unfold rX;simp only[h1];exact .own h2 (.of_isNs f1) (fun n hn=>Option.isNone_iff_eq_none.mp (be.mp f2 n hn)) (ih e2)
theorem Q3{fd:FuncData}{ps:List Str}(h:rZ fd ps=true):∃ sf,InitF fd sf ps:=by
 unfold rZ at h;cases ha:fd.params.args with
 |nil=>rw[ha] at h;exact bft h
 |cons a r =>
  rw[ha] at h;simp only[Bool.and_eq_true,decide_eq_true_eq,Bool.not_eq_true',List.isEmpty_iff,Option.isNone_iff_eq_none] at h;obtain⟨⟨⟨⟨⟨⟨⟨⟨⟨⟨⟨⟨⟨h1,h2⟩,h3⟩,h4⟩,h5⟩,h6⟩,h7⟩,h8⟩,h9⟩,h10⟩,h11⟩,h12⟩,h13⟩,h14⟩:=h;refine⟨a.arg,?_,?_,h7,h8,h9,h10,h11,tP h12,fun x hx=>?_,h14⟩
  ·refine⟨fd.params.args,fd.params.kw_defaults,fd.params.defaults,?_,?_⟩
   ·clear ha h5 h6;revert h1 h2 h3 h4;generalize fd.params=pr;obtain⟨po,as,va,ko,kd,kw,df⟩:=pr;intro h4 h3 h1 h2;obtain rfl:po=[]:=h1;obtain rfl:va=none:=h2;obtain rfl:ko=[]:=h3;obtain rfl:kw=none:=h4;rfl
   ·rw[ha,← h5];rfl
  ·revert h6
   cases fd.body with
   |stmts b=>exact fun h6=>⟨b,rfl,of_decide_eq_true h6⟩
   |_=>exact fun h6=>by exact bft h6
  ·have:=be.mp h13 x hx;simp only[Bool.and_eq_true,decide_eq_true_eq,Bool.not_eq_true'] at this;exact this
def k7(h:Heap)(C:Addr)(bm:List Value):Option (List Str)→Prop
 |some ps=>(∀ p∈ps,typeLookup (.type "ValueError") p=pure none)→ClsI h C bm ps
 |none=>ClsP h C bm
theorem Q4{h:Heap}{bZ:List Str}{ini:Option (List Str)}{c:Str}{x:Addr×Obj×ClassData}(hx:h.clsAt mainGlobals c=some x)(e:oC h bZ ini x=true):k7 h x.1 (kN h bZ) ini:=by
 obtain⟨C,o,cd⟩:=x;obtain⟨h1,h2,h3⟩:=Heap.clsAt_spec hx;obtain⟨oc,dd,dt,sl⟩:=o;obtain⟨nm,bs,mro,N,q,hdct,sn,sub,ab,col,hdel⟩:=cd;unfold oC at e;simp only[Bool.and_eq_true,decide_eq_true_eq,Bool.not_eq_true'] at e;obtain⟨⟨⟨⟨⟨⟨hcls,hmro⟩,hdl⟩,hsz⟩,hmk⟩,hns⟩,hin⟩:=e;obtain⟨l⟩:=sl;obtain⟨k0,k1,k2,k3,k5,rfl⟩:=six_places (l:=l) (by simpa using hsz) (by simpa using hmk);obtain rfl:oc=.type "type" := hcls;obtain rfl:dt=_:=h3;obtain rfl:hdel=false:=hdl;subst hmro;cases ini with
 |none =>
  obtain⟨i1,i2⟩:=bl.mp hin;exact⟨N,nm,q,bs,hdct,sn,sub,ab,col,dd,k0,k1,k2,k3,k5,_,h2,.of_isNs hns,Option.isNone_iff_eq_none.mp i1,(B7 i2).tail (.head _)⟩
 |some ps =>
  unfold y6 at hin;simp only[Bool.and_eq_true] at hin;obtain⟨⟨⟨i1,i2⟩,i3⟩,i4⟩:=hin;obtain rfl:hdct=true:=i1
  revert i2
  cases hi:h.nsMap N "__init__" with
  |none=>exact fun i2=>by exact bft i2
  |some v =>
   cases v with
   |ref fI =>
    intro i2;replace i2:(h.get? fI).any (r6 h ps)=true:=i2;refine ocs (h.get? fI) (fun ho=>?_) fun oI ho=>?_
    ·rw[ho] at i2;exact bft i2
    ·rw[ho] at i2;obtain⟨j1,j2⟩:=bl.mp (show r6 h ps oI=true from i2)
     revert j2
     cases hd:oI.data with
     |func fd =>
      intro j2;obtain⟨j2,j3⟩:=bl.mp j2;obtain⟨sf,I⟩:=Q3 j3;exact fun hB=>⟨N,nm,q,bs,sn,sub,ab,col,dd,k0,k1,k2,k3,k5,_,fI,oI,fd,sf,h2,.of_isNs hns,hi,fun n hn=>Option.isNone_iff_eq_none.mp (be.mp i3 n hn),B7 i4,ho,of_decide_eq_true j1,hd,.of_ok j2,I,hB⟩
     |_=>exact fun j2=>by exact bft j2
   |_=>exact fun i2=>by exact bft i2
end Mine.Internal
namespace Mine.Internal
open PySem PySem.W PyProof.Rows
theorem tR{c:Str}{p:Str×Option (List Str)}{body:List Stmt}(h:bK c body=some p):c∈kO body:=by
 induction body with
 |nil=>exact ns h
 |cons s r ih =>
  have skip:bK c r=some p→c∈kO (s::r):=fun h=>by
   obtain⟨q,hq,e⟩:=ig.mp (ih h);exact ig.mpr ⟨q,ae _ hq,e⟩
  replace h:(match sv s with | .cls n bs b=>if c=n then (match eQ bs with | some [y]=>some (y,yU b) | _=>none) else bK c r | _=>bK c r)=some p:=h;cases e:sv s with
  |cls n bs b =>
   rw[e] at h
   by_cases x:c=n
   ·exact ig.mpr ⟨s,ah,by show(match sv s with | .cls n _ _=>some n | _=>none)=_;rw[e,x]⟩
   ·exact skip ((if_neg x).symm.trans (show(if c=n then _ else bK c r)=some p from h))
  |_=>rw[e] at h;exact skip h
def jP(body:List Stmt)(mg:Str→Option Value)(h:Heap):Prop :=
 ∀ c p,bK c body=some p→∃ C bm,mg c=some (.ref C)∧k7 h C bm p.2∧∀ d q D,bK d body=some q→mg d=some (.ref D)→(Value.ref C::bm).contains (.ref D)=jD body 4 c d
theorem Q5{α:Type}{o:Option α}{p:α→Bool}(h:o.any p=true):∃ x,o=some x∧p x=true:=by
 cases o with
 |none=>exact bft h
 |some x=>exact⟨x,rfl,h⟩
theorem Q6{h:Heap}{body:List Stmt}(e:oE h body=true):jP body (h.nsMap mainGlobals) h:=fun c p hc=>by
 have e1:=be.mp e c (tR hc);rw[hc] at e1;obtain⟨x,hx,e2⟩:=Q5 (show(h.clsAt mainGlobals c).any (fun x=>oC h (oA body 4 c) p.2 x&&y7 h body c x.1)=true from e1);obtain⟨e3,e4⟩:=bl.mp e2;refine⟨x.1,_,(Heap.clsAt_spec hx).1,Q4 hx e3,fun d q D hd hD=>?_⟩;have e5:=be.mp e4 d (tR hd);rw[hD] at e5;exact of_decide_eq_true e5
theorem k7.keeps{h h':Heap}{C:Addr}{bm:List Value}(hk:∀ b o,h.get? b=some o→h'.get? b=some o):∀ {ini:Option (List Str)},k7 h C bm ini→k7 h' C bm ini
 |none,x=>by
  obtain⟨N,nm,q,bs,hdct,sn,sub,ab,col,dd,k0,k1,k2,k3,k5,mN,hC,hN,hni,T⟩:=x;exact⟨N,nm,q,bs,hdct,sn,sub,ab,col,dd,k0,k1,k2,k3,k5,mN,hk _ _ hC,hN.keeps hk,hni,T.keeps hk⟩
 |some ps,x=>fun hB=>by
  obtain⟨N,nm,q,bs,sn,sub,ab,col,dd,k0,k1,k2,k3,k5,mN,fI,oI,fd,sf,hC,hN,hi,hn,T,ho,hfc,hfd,hcd,I,hB⟩:=x hB;exact⟨N,nm,q,bs,sn,sub,ab,col,dd,k0,k1,k2,k3,k5,mN,fI,oI,fd,sf,hk _ _ hC,hN.keeps hk,hi,hn,T.keeps hk,hk _ _ ho,hfc,hfd,hcd.keeps hk,I,hB⟩
theorem jP.keeps{body:List Stmt}{mg:Str→Option Value}{h h':Heap}(x:jP body mg h)(hk:∀ b o,h.get? b=some o→h'.get? b=some o):jP body mg h' :=
 fun c p e=>by obtain⟨C,bm,h1,h2,h3⟩:=x c p e;exact⟨C,bm,h1,h2.keeps hk,h3⟩
def B8(body:List Stmt):Prop:=∀ c b ps,bK c body=some (b,some ps)→∀ p∈ps,typeLookup (.type "ValueError") p=pure none
noncomputable def oZ(f:Str):List DefRec→Option (Arguments×List Stmt×Scope)
 | []=>none
 |d::r=>if f=d.name then some (d.params,d.body,d.scope) else oZ f r
theorem Q7{f:Str}{a:Arguments}{b:List Stmt}{sc:Scope}:∀ {l:List DefRec},oZ f l=some (a,b,sc)→∃ d∈l,d.name=f∧d.params=a∧d.body=b∧d.scope=sc
 := by
 intro l
 induction l with
 |nil=>intro h;exact ns h
 |cons d r ih =>
  intro h;replace h:(if f=d.name then some (d.params,d.body,d.scope) else oZ f r)=some (a,b,sc):=h
  by_cases e:f=d.name
  ·rw[if_pos e] at h;cases h;exact⟨d,ah,e.symm,rfl,rfl,rfl⟩
  ·rw[if_neg e] at h;obtain⟨d',h1,h2⟩:=ih h;exact⟨d',ae _ h1,h2⟩
noncomputable def tT:List Str:=["isinstance", "len", "all", "sorted", "abs", "min", "repr", "list", "tuple", "dict", "set", "int", "str", "bool", "range", "enumerate", "reversed"]
theorem Q8{l:List (Str×Value)}{x:Str}{v:Value}(h:l.lookup x=some v):(x,v)∈l:=by
 induction l with
 |nil=>exact ns h
 |cons p r ih =>
  rw[List.lookup_cons] at h
  by_cases e:x=p.1
  ·simp only[e,beq_self_eq_true] at h;obtain rfl:=si h;simp only[e];exact ah
  ·simp only[beq_false_of_ne e] at h;exact ae _ (ih h)
theorem Q9:∀ p∈sI,p.1∈tT∧bootBuiltins p.1=some p.2∧p.1 ≠ "__name__" := by
 unfold sI
 iterate 17 (refine fm.mpr ⟨⟨by decide,by kernel_rfl,by decide⟩,?_⟩)
 exact fun _ h=>b5 h
theorem Ra{x:Str}{v:Value}(h:jG x=some v):x∈tT∧bootBuiltins x=some v∧x ≠ "__name__" := Q9 _ (Q8 h)
noncomputable def B9(body:List Stmt):List Str:=body.filterMap fun s=>(yT s).map (·.1)
theorem Rb{body:List Stmt}{x:Str}{d:PyData}(h:iB body x=some d):x∈B9 body∧x ≠ "__name__" := by
 by_cases hx:x = "__name__"
 ·exact ns ((if_pos hx).symm.trans h)
 ·obtain⟨s,hs,he⟩:=List.exists_of_findSome?_eq_some ((if_neg hx).symm.trans h);obtain⟨p,e1,e2⟩:=Option.bind_eq_some_iff.mp he
  by_cases e:x=p.1
  ·exact⟨ig.mpr ⟨s,hs,by simp only[e1,e];rfl⟩,hx⟩
  ·exact ns ((if_neg e).symm.trans e2)
noncomputable def cE1(d e:PyData):Bool:=match d with
 | .int a=>(match e with | .int b=>a==b | _=>false)
 | .str a=>(match e with | .str b=>a==b&&decide (a.length≤bA) | _=>false)
 |_=>false
noncomputable def cEq(o q:Option PyData):Bool:=match o with
 |none=>true
 |some d=>(match q with | some e=>cE1 d e | none=>false)
theorem Rc{o:Option PyData}{d:PyData}(h:cEq (some d) o=true):o=some d∧((∃ i,d=.int i)∨∃ s,d=.str s∧s.length≤bA):=by
 cases o with
 |none=>exact bft h
 |some e =>
  replace h:cE1 d e=true:=h;cases d with
  |int a =>
   cases e with
   |int b=>obtain rfl:=eq_of_beq (show(a==b)=true from h);exact⟨rfl,.inl ⟨_,rfl⟩⟩
   |_=>exact bft h
  |str a =>
   cases e with
   |str b =>
    obtain⟨h1,h2⟩:=bl.mp (show(a==b&&decide (a.length≤bA))=true from h);obtain rfl:=eq_of_beq h1;exact⟨rfl,.inr ⟨_,rfl,of_decide_eq_true h2⟩⟩
   |_=>exact bft h
  |_=>exact bft h
theorem Rd{p O:Program}{w:World}{loose:List Str}{mean:ExcName→Option Value}{mg mb:Str→Option Value}{h:Heap}(T:Top p loose mean mg mb h)(X:jP O.main.body mg h)(hB:B8 O.main.body)
  (hfn:∀ f,dY f O.main.body=oZ f (recsOf p)) (hc:((B9 O.main.body).all fun x=>cEq (iB O.main.body x) (valOf p x))=true)
  (hfree:(tT.all fun x=>!startupNames.contains x&&!loose.contains x&&!((recsOf p).map (·.name)).contains x&&!((litsOf p).map (·.1)).contains x&&!((clssOf p loose).map (·.name)).contains x)=true) (himp:importsNone p=true) :
  Glo O w mg mb h where
 g:=T.g
 b:=T.b
 nolimit:=T.nolimit
 mods:=by
  obtain⟨mm,hm,_⟩:=(T.seer himp).mods;exact⟨mm,hm⟩
 fn:=fun f a b sc e=>by
  rw[hfn] at e;refine hde fun _ θ=>?_;obtain⟨d,hd,h1,h2,h3,h4⟩:=Q7 e;obtain⟨ad,o,pm,code,doc,g1,g2,g3,g4⟩:=T.fn d hd;apply θ;subst h1;subst h2;subst h3;subst h4;exact⟨ad,o,pm,code,doc,g1,g2,g3,g4⟩
 const:=fun x d e=>by
  obtain⟨h1,h2⟩:=Rb e;have:=be.mp hc x h1;rw[e] at this;obtain⟨h3,h4⟩:=Rc this;obtain⟨v,h5,h6⟩:=T.const x d h3;refine⟨v,h5,fun h' av=>?_⟩;have r:=h6 h';rcases h4 with ⟨i,rfl⟩ | ⟨s,rfl,hl⟩
  ·cases r;exact .int _ _
  ·cases r;exact .str _ _ hl
 blt:=fun x v e=>by
  obtain⟨h1,h2,h3⟩:=Ra e;have:=be.mp hfree x h1;simp only[Bool.and_eq_true,Bool.not_eq_true',List.contains_eq_mem,decide_eq_false_iff_not] at this;obtain⟨⟨⟨⟨q1,q2⟩,q3⟩,q4⟩,q5⟩:=this;exact⟨T.free x q1 q2 q3 q4 q5,(T.builtins x h3).trans h2⟩
 cls:=fun c p e=>by
  obtain⟨C,bm,h1,h2,h3⟩:=X c p e;refine⟨C,bm,h1,?_,h3⟩;obtain⟨b,ini⟩:=p;cases ini with
  |none=>exact ClsP.ok h2
  |some ps=>exact ClsI.ok T.nolimit (h2 (hB c b ps e))
theorem Re{P:Params}{h:Heap}:∀ {vs:List Value} {ns:List Int},WellAll P h vs (ofPys (ns.map .int))→vs.length=ns.length∧∀ (i:Nat) (v:Value) (d:PyData),vs[i]?=some v→(ns.map PyData.int)[i]?=some d→∃ k t,v=.int k t∧d=.int k
 := by
 intro vs
 induction vs with
 |nil =>
  intro ns hw;cases ns with
  |nil=>exact⟨rfl,fun i v d e=>nomatch e⟩
  |cons n ns=>exact nomatch (show WellAll P h [] (WData.int n::ofPys (ns.map .int)) from hw)
 |cons v vs ih =>
  intro ns hw;cases ns with
  |nil=>exact nomatch (show WellAll P h (v::vs) [] from hw)
  |cons n ns =>
   cases (show WellAll P h (v::vs) (WData.int n::ofPys (ns.map .int)) from hw) with
   |cons h1 h2 =>
    obtain⟨g1,g2⟩:=ih h2;refine⟨congrArg Nat.succ g1,fun i u d e1 e2=>?_⟩;cases i with
    |zero =>
     obtain rfl:=si e1;obtain rfl:=si e2;cases h1;exact⟨_,_,rfl,rfl⟩
    |succ i=>exact g2 i u d e1 e2
theorem Rg{O:Program}{w:World}{mg mb:Str→Option Value}{s₁:Shared}{fa l:Addr}{ns:List Int}{N:Nat}{Q:Value→Shared→Prop}{E:Value→Shared→Prop}(GL:Glo O w mg mb s₁.heap)(hmg:mg (Str.ofString "law")=some (.ref fa))
  (hw:Well w.params s₁.heap (.ref l) (ofPy (.list (ns.map .int)))) (hn:ns.length≤63) (hf:(dY (Str.ofString "law") O.main.body).isSome=true) (hN:N≤400)
  (hrun:run O.main.body N false (Str.ofString "law") [.fz (.list (ns.map .int))]=.ok (.fz (.bool true))) (hq:∀ s',Kp s₁ s'→Q (.bool true) s'):wpAny (model O w) callerA (call (.ref fa) [.ref l]) Q E s₁:=by
 have hw:Well w.params s₁.heap (.ref l) (.list (ofPys (ns.map .int))):=hw;cases hw with
 | @list _ vs _ h1 h2 =>
  obtain⟨g1,g2⟩:=Re h2;obtain⟨mm,hm⟩:=GL.mods;have hne:¬ l=sysModules:=fun e=>by
   obtain⟨o,es,ep,e1,e2,_⟩:=hm;rw[← e,h1] at e1;obtain rfl:=si e1;cases e2
  have rep:Rep O w s₁.heap (fun b=>b=sysModules) (.ref l) (.list (ns.map .int)):=by
   refine .list hne ⟨_,h1⟩ (by simp[g1]) ?_ fun i v d e1 e2=>?_
   ·have:sizeLine=16777216:=rfl;exact Gn hn g1 this
   ·obtain⟨k,t,rfl,rfl⟩:=g2 i v d e1 e2;exact .int k t
  have room:Room s₁.heap N false [] callerA:=by
   refine⟨.non rfl,?_,?_,fun _=>rfl,rfl,rfl⟩
   ·have:callerA.depth+400+1 < recursionLimit:=by decide
    exact Go hN this
   ·have:callerA.units+16*400+300 < cLine:=by decide
    exact Gp hN this
  have G:Gnd O w mg mb s₁.heap [] (fun b=>b=sysModules) s₁:=⟨GL,fun _ _ e=>e,trivial,fun b f=>(nomatch f),fun b hb=>by
   obtain⟨o,es,ep,e1,_⟩:=hm;exact⟨o,hb▸e1⟩,rfl,fun b o h _=>h⟩
  refine(B6 (O:=O) (w:=w) (mg:=mg) (mb:=mb) N false s₁.heap).call (Str.ofString "law") [.fz (.list (ns.map .int))] fa hmg hf callerA [] s₁ (fun b=>b=sysModules) [.ref l] room G ⟨⟨rep,rfl⟩,trivial⟩ (k:=R.ok) (fin:=.ok (.fz (.bool true))) ⟨by rw[show(eR O.main.body (run O.main.body N false) false).call (Str.ofString "law") [.fz (.list (ns.map .int))]=_ from hrun];rfl,nofun⟩ (fun v s' u k r e=>?_) fun x v s' e _=>by cases e
  cases e;have:=Rep.bool_inv r;subst this;obtain⟨h,t,rfl,k1,_⟩:=k;exact hq _ ⟨h,t,rfl,fun b o e=>k1 b o (fun f=>nomatch f) e⟩
end Mine.Internal
namespace Mine.Internal
open PySem
noncomputable def tU(B:List Stmt)(f:Str):Scope:=match dY f B with | some (_,_,sc)=>sc | none=>⟨.function,[],false,false,[]⟩
noncomputable def aL(B:List Stmt)(f:Str):List Stmt:=match dY f B with | some (_,b,_)=>b | none=>[]
noncomputable def tv(s:Stmt):List Stmt×Expr:=match sv s with
 | .blk b t _=>(b,t)
 | .asg ts _=>([],ts.head?.getD (.Name Str.empty ⟨0,0,0,0⟩))
 |_=>([],.Name Str.empty ⟨0,0,0,0⟩)
noncomputable def jQ(l:List Stmt):List Stmt:=l.head?.elim [] fun s=>(tv s).1
noncomputable def bI(l:List Stmt):List Stmt:=l.head?.elim [] fun s=>(tv s).1
noncomputable def bV(l:List Stmt):Expr:=l.head?.elim (.Name Str.empty ⟨0,0,0,0⟩) fun s=>(tv s).2
noncomputable def stm(B:List Stmt)(f:Str)(n k:Nat):List Stmt→aA→KN→KR→R V :=
 blk (evS (evE (eR B (run B n false) false) dZ (tU B f)) (evE (eR B (run B n true) true) dZ (tU B f)) dZ (eR B (run B n false) false) (tU B f) k)
noncomputable def aB(op:Operator)(a b:R V):R V:=rb a fun a=>rb b fun b=>ofP (aF op (dOf a) (dOf b))
noncomputable def unS(op:UnaryOp)(a:R V):R V:=rb a fun v=>ofP (fC op v)
noncomputable def aV(a b:R V):R V:=rb a fun v=>rb (ofP (c8 v)) fun c=>if c then b else .ok v
noncomputable def orS(a b:R V):R V:=rb a fun v=>rb (ofP (c8 v)) fun c=>if c then .ok v else b
noncomputable def d8(t a b:R V):R V:=rb (tst t) fun c=>if c then a else b
noncomputable def aC(a:R V)(op:CmpOp)(b:R V):R V:=rb a fun a=>aN (rb b fun v=>ofP (cmp op (dOf a) (dOf v)))
noncomputable def f8(a:R V)(op:CmpOp)(b:R V)(op':CmpOp)(c:R V):R V:=rb a fun a=>aN (rb b fun v=>rb (ofP (cmp op (dOf a) (dOf v))) fun t=>if t then (rb c fun w=>ofP (cmp op' (dOf v) (dOf w))) else .ok false)
noncomputable def eK:List (R V)→R (List V)
 | []=>.ok []
 |e::r=>rb e fun v=>rb (eK r) fun vs=>.ok (v.cl::vs)
noncomputable def cA(l:List (R V)):R V:=rb (eK l) fun l=>if l.length≤bA then .ok (.own (.list (bY l))) else .no
noncomputable def aM(l:List (R V)):R V:=rb (eK l) fun l=>if l.length≤bA then .ok (.fz (.tuple (bY l))) else .no
noncomputable def tV:List (R V×R V)→R (List (PyData×PyData))
 | []=>.ok []
 |p::r=>rb p.1 fun k=>rb p.2 fun v=>rb (tV r) fun r=>.ok ((dOf k,dOf v)::r)
noncomputable def cO(l:List (R V×R V)):R V:=rb (tV l) fun l=>ofP (iZ l)
noncomputable def aG(a:R PyData)(i:R V):R V:=rb a fun a=>rb i fun i=>ofP (getItem a (dOf i))
noncomputable def pA:Option (R V)→R (Option Int)
 |none=>.ok none
 |some e=>rb e fun v=>ofP (toI v)
noncomputable def cF(a:R PyData)(lo hi:Option (R V)):R V:=rb a fun a=>rb (pA lo) fun lo=>rb (pA hi) fun hi=>ofP (iX a lo hi)
noncomputable def dL(m:Str)(o:R V)(as:List (R V)):R V:=rb o fun o=>if mOk m (dOf o) then rb (eK as) fun as=>ofP (eH (dOf o) (bY as)) else .no
noncomputable def eW(t:Str)(a:R V):R V:=rb a fun v=>ofP (nO t (dOf v))
noncomputable def aK(f:PyData→P V)(a:R V):R V:=rb a fun v=>ofP (f (dOf v))
noncomputable def k9(as:List (R V)):R V:=rb (eK as) fun vs=>ofP (nN vs)
noncomputable def aD(f:List V→R V)(as:List (R V)):R V:=rb (eK as) fun vs=>f vs
noncomputable def aO(it:R (List PyData))(t:PyData→R Bool)(e:PyData→R V):R V:=rb (rb it fun l=>aX t e l) fun r=>ofP (own (.list r))
noncomputable def plI(e:R V):R (List PyData):=rb e fun v=>ofP (items (dOf v))
noncomputable def rgI(e:R V):R (List PyData):=rb e fun v=>ofP ((iA v).bind nH)
noncomputable def enI(e:R V):R (List PyData):=rb e fun v=>ofP ((rC (dOf v)).bind fun l=>.ok (c9 0 l))
noncomputable def rvI(e:R V):R (List PyData):=rb e fun v=>ofP (yE (dOf v))
noncomputable def aU(v:V):R PyData:=match (match v with | .own d=>some d | _=>none) with
 |some d=>.ok d
 |none=>rb (ofP (rdv v)) fun v=>.ok (dOf v)
noncomputable def aW(v:V):R V:=match (match v with | .ex d=>some d | _=>none) with
 |some x=>.ok (.ex x)
 |none=>ofP (rdv v)
noncomputable def cU(e:R V):R PyData:=rb e fun v=>.ok (dOf v)
noncomputable def dQ(v:V)(kr:V→R V):R V:=match (match v with | .own d=>some d | _=>none) with
 |some d=>kr (.own d)
 |none=>rb (ofP (rdv v)) kr
noncomputable def ifS(t:R V)(a b:R V):R V:=rb (tst t) fun c=>if c then a else b
noncomputable def bD(x:R V)(X:R PyData)(I:R V)(k:PyData→R V):R V:=rb x fun v=>rb X fun o=>rb I fun iv=>rb (ofP (setItem o (dOf iv) (dOf v))) k
noncomputable def gL(X:R PyData)(m:Str)(as:List (R V))(k:PyData→R V):R V:=rb X fun o=>if nS m o then rb (eK as) fun as'=>rb (ofP (gI m o (bY as'))) k else .no
noncomputable def lA(ps:List Str)(c:Str)(as:List (R V)):R V:=rb (eK as) fun vs=>if ps.length=vs.length then .exc ⟨c,ps.zip (bY vs)⟩ else .no
noncomputable def lB(c:Str)(as:List (R V)):R V:=rb (eK as) fun vs=>if vs.length=1 then .exc ⟨c,[]⟩ else .no
noncomputable def Cb(B:List Stmt)(c:Str)(a:R V)(h:X→R V)(kn:R V)(kr:V→R V):R V:=match a with
 | .no=>.no
 | .ok _=>kn
 | .exc y=>if iC B y.cls c=some true then rb (nx (h y)) kr else .no
noncomputable def Rh(x:R V)(l:List PyData)(I J:R V)(k:List PyData→R V):R V:=rb x fun v=>rb I fun iv=>rb (ofP (kL l (dOf iv))) fun q=>rb J fun jv=>rb (ofP (setItem q.2 (dOf jv) (dOf v))) fun o=>k (l.set q.1 o)
noncomputable def heI(e:R V):R (List PyData):=rb e fun v=>ofP (rI (dOf v))
noncomputable def jR(B:List Stmt)(x:X)(m:Str):R V:=ofP ((ofO ((bK x.cls B).map (·.2))).bind fun i=>(ofO i).bind fun ps=>if ps.contains m=true then (ofO (kI x.fields m)).bind fun d=>.ok (.fz d) else .no)
noncomputable def BB:List Stmt:=PySem.Challenge.rw_uf010037_14.prog.main.body
noncomputable abbrev so(x:String):Str:=Str.ofString x
noncomputable abbrev ζ(d:PyData):Option V:=some (.fz d)
noncomputable abbrev rn(n:Nat)(f:String)(vs:List V):R V:=run BB n false (Str.ofString f) vs
variable (n:Nat) (a1 a2 a3 a4 a5 a6 a7 x1 x2 x3 x4 x5 x6 x7 x8 x9 x10 x11 x12 x13 x14 x15 x16 x17 x18 x19 d0 d1 d2 d3 d4 d5:PyData) (w1 w2 w3 w4 w5 w6 w7 w8 w9 w10 w11 w12 w13 w14 w15 w16 w17 w18 w19:V) (o1 o2 o3 o4 o5 o6 o7 o8 o9 o10 o11 o12 o13 o14 o15 o16 o17 o18 o19 p0 p1 p2 p3 p4 p5 p6 p7 p8 p9 p10 p11 p12 p13 p14 p15 p16 p17 p18 p19:Option V) (kn:KN) (kr:KR) (q3:List PyData)
theorem Ri:rn (n+1) "is_name" [.fz a1]=(ifS (orS (unS .Not (.ok (.fz (.bool (q8 a1))))) (unS .Not (f8 (.ok (.fz (.int 1))) .LtE (ofP (bL a1)) .LtE (.ok (.fz (.int 8)))))) (R.ok (.fz (.bool false))) (rb (aK cJ (aO (ofP (items a1)) (fun d1=>(.ok true)) (fun d1=>(aN (ofP (cmp .In d1 (.str (so "abcdefghijklmnopqrstuvwxyz")))))))) R.ok)):=by kernel_rfl
theorem Rj:rn (n+1) "is_whole" [.fz a1]=(rb (aV (.ok (.fz (.bool (fU a1)))) (unS .Not (.ok (.fz (.bool (gE a1)))))) R.ok):=by kernel_rfl
theorem tW:rn (n+1) "is_tree" [.fz a1]=(ifS (rn n "is_whole" [.fz a1]) (R.ok (.fz (.bool true))) (ifS (unS .Not (.ok (.fz (.bool (bT a1))))) (R.ok (.fz (.bool false))) (rb (aK cJ (aO (ofP (items a1)) (fun d1=>(.ok true)) (fun d1=>(aV (rn n "is_name" [.fz d1]) (aD (rn n "is_tree") [(ofP (getItem a1 d1))]))))) R.ok))):=by kernel_rfl
theorem Rk:rn (n+1) "all_branches" [.fz a1]=(rb (aV (.ok (.fz (.bool (bT a1)))) (aK cJ (aO (ofP (items a1)) (fun d1=>(.ok true)) (fun d1=>(eW (so "dict") (ofP (getItem a1 d1))))))) R.ok):=by kernel_rfl
noncomputable def iJ(o0 o1 o2:Option V):aA:=[((so "tree"),o0),((so "found"),o1),((so "name"),o2)]
noncomputable def tX(n:Nat)(σ:aA)(kn:KN)(kr:KR):R V:=stm BB (so "copied") n 23 (bI (List.drop 2 (aL BB (so "copied")))) σ kn kr
noncomputable def tY:Expr:=bV (List.drop 2 (aL BB (so "copied")))
noncomputable def Cc(n:Nat)(σ:aA)(kn:KN)(kr:KR):R V:=stm BB (so "copied") n 24 (List.drop 3 (aL BB (so "copied"))) σ kn kr
theorem tZ:rn (n+1) "copied" [.fz a1]=(ifS (unS .Not (.ok (.fz (.bool (bT a1))))) (R.ok (.fz a1)) (rb (ofP (items a1)) fun l1=>aQ (tX n) tY l1 (iJ (ζ a1) (some (.own (.dict []))) none) (fun σ=>Cc n σ (fun _=>R.ok (.fz .none)) R.ok) R.ok)):=by kernel_rfl
theorem Rl:aR tY d0 (iJ p0 p1 p2)=.ok (iJ p0 p1 (ζ d0)):=by kernel_rfl
theorem Rm:tX n (iJ (ζ x1) (some (.own x2)) (ζ d0)) kn kr=(bD (aD (rn n "copied") [(ofP (getItem x1 d0))]) (.ok x2) (.ok (.fz d0)) fun o1=>(kn (iJ (ζ x1) (some (.own o1)) (ζ d0)))):=by kernel_rfl
theorem Rn:Cc n (iJ (ζ x1) (some (.own x2)) o3) kn kr=(kr (.own x2)):=by kernel_rfl
theorem Ro:rn (n+1) "is_beside" [.fz a1]=(ifS (orS (unS .Not (.ok (.fz (.bool (nE a1))))) (unS .Not (f8 (.ok (.fz (.int 1))) .LtE (ofP (bL a1)) .LtE (.ok (.fz (.int 6)))))) (R.ok (.fz (.bool false))) (ifS (unS .Not (aK cJ (aO (ofP (items a1)) (fun d1=>(.ok true)) (fun d1=>(rn n "is_row" [.fz d1]))))) (R.ok (.fz (.bool false))) (rb (aO (ofP (items a1)) (fun d2=>(.ok true)) (fun d2=>(ofP (getItem d2 (.int 0))))) fun v3=>(rb (aO (ofP (items a1)) (fun d4=>(.ok true)) (fun d4=>(ofP (getItem d4 (.int 1))))) fun v5=>(rb (aV (aC (aK eI (ofP (rdv (V.cl v3)))) .Eq (ofP (bL a1))) (aC (aK eI (ofP (rdv (V.cl v5)))) .Eq (ofP (bL a1)))) R.ok))))):=by kernel_rfl
theorem Rp:rn (n+1) "are_fields" [.fz a1]=(ifS (orS (unS .Not (.ok (.fz (.bool (nE a1))))) (unS .Not (f8 (.ok (.fz (.int 1))) .LtE (ofP (bL a1)) .LtE (.ok (.fz (.int 6)))))) (R.ok (.fz (.bool false))) (rb (aV (aK cJ (aO (ofP (items a1)) (fun d1=>(.ok true)) (fun d1=>(rn n "is_name" [.fz d1])))) (aC (aK eI (.ok (.fz a1))) .Eq (ofP (bL a1)))) R.ok)):=by kernel_rfl
theorem Rq:rn (n+1) "are_two_names" [.fz a1,.fz a2]=(rb (aV (rn n "is_name" [.fz a1]) (aV (rn n "is_name" [.fz a2]) (aN (ofP (cmp .NotEq a1 a2))))) R.ok):=by kernel_rfl
theorem Rr:rn (n+1) "is_least" [.fz a1]=(rb (aV (rn n "is_whole" [.fz a1]) (aC (ofP (q9 a1)) .Lt (ofP (aF .Pow (.int 10) (.int 30))))) R.ok):=by kernel_rfl
theorem Rs:rn (n+1) "need_view" [.fz a1]=(ifS (unS .Not (rn n "is_view" [.fz a1])) (lB (so "BadView") [(.ok (.fz (.str (so "no view"))))]) (R.ok (.fz .none))):=by kernel_rfl
noncomputable def eL(o0 o1 o2:Option V):aA:=[((so "view"),o0),((so "way"),o1),((so "step"),o2)]
noncomputable def eA(n:Nat)(σ:aA)(kn:KN)(kr:KR):R V:=stm BB (so "piece_at") n 23 (bI (aL BB (so "piece_at"))) σ kn kr
noncomputable def gM:Expr:=bV (aL BB (so "piece_at"))
noncomputable def Cd(n:Nat)(σ:aA)(kn:KN)(kr:KR):R V:=stm BB (so "piece_at") n 24 (List.drop 1 (aL BB (so "piece_at"))) σ kn kr
theorem Rt:rn (n+1) "piece_at" [.fz a1,.fz a2]=(rb (ofP (items a2)) fun l1=>aQ (eA n) gM l1 (eL (ζ a1) (ζ a2) none) (fun σ=>Cd n σ (fun _=>R.ok (.fz .none)) R.ok) R.ok):=by kernel_rfl
theorem Ru:aR gM d0 (eL p0 p1 p2)=.ok (eL p0 p1 (ζ d0)):=by kernel_rfl
theorem Rv:eA n (eL (some w1) (ζ x2) (ζ d0)) kn kr=(ifS (aC (aG (aU w1) (.ok (.fz (.int 0)))) .Eq (.ok (.fz (.str (so "then"))))) (rb (aG (aU w1) (ofP (aF .Add (.int 1) d0))) fun v1=>(kn (eL (some v1) (ζ x2) (ζ d0)))) (ifS (aC (aG (aU w1) (.ok (.fz (.int 0)))) .Eq (.ok (.fz (.str (so "each"))))) (rb (aG (aU w1) (.ok (.fz (.int 1)))) fun v2=>(kn (eL (some v2) (ζ x2) (ζ d0)))) (rb (aG (cU (aO (plI (aG (aU w1) (.ok (.fz (.int 1))))) (fun d3=>(tst (aC (ofP (getItem d3 (.int 0))) .Eq (.ok (.fz d0))))) (fun d3=>(ofP (getItem d3 (.int 2)))))) (.ok (.fz (.int 0)))) fun v4=>(kn (eL (some v4) (ζ x2) (ζ d0)))))):=by kernel_rfl
theorem Rw:Cd n (eL (some w1) (ζ x2) o3) kn kr=(dQ w1 kr):=by kernel_rfl
theorem Rx:rn (n+1) "has_part" [.fz a1,.fz a2]=(rb (aV (.ok (.fz (.bool (bT a1)))) (aN (ofP (cmp .In a2 a1)))) R.ok):=by kernel_rfl
theorem Ry:rn (n+1) "is_sifted" [.fz a1,.fz a2,.fz a3]=(rb (aV (aN (ofP (cmp .In a2 a1))) (aV (aD (rn n "is_whole") [(ofP (getItem a1 a2))]) (aC (ofP (getItem a1 a2)) .GtE (.ok (.fz a3))))) R.ok):=by kernel_rfl
noncomputable def dR(o0 o1 o2 o3 o4:Option V):aA:=[((so "view"),o0),((so "tree"),o1),((so "one"),o2),((so "other"),o3),((so "key"),o4)]
noncomputable def t0(n:Nat)(σ:aA)(kn:KN)(kr:KR):R V:=stm BB (so "fits_join") n 23 (bI (List.drop 4 (aL BB (so "fits_join")))) σ kn kr
noncomputable def t6:Expr:=bV (List.drop 4 (aL BB (so "fits_join")))
noncomputable def Ce(n:Nat)(σ:aA)(kn:KN)(kr:KR):R V:=stm BB (so "fits_join") n 24 (List.drop 5 (aL BB (so "fits_join"))) σ kn kr
theorem Rz:rn (n+1) "fits_join" [.fz a1,.fz a2]=(ifS (orS (unS .Not (aD (rn n "has_part") [(.ok (.fz a2)),(ofP (getItem a1 (.int 1)))])) (unS .Not (aD (rn n "has_part") [(.ok (.fz a2)),(ofP (getItem a1 (.int 2)))]))) (R.ok (.fz (.bool false))) (rb (aG (.ok a2) (ofP (getItem a1 (.int 1)))) fun v1=>(rb (aG (.ok a2) (ofP (getItem a1 (.int 2)))) fun v2=>(ifS (orS (unS .Not (aD (rn n "all_branches") [(aW (V.cl v1))])) (unS .Not (aD (rn n "all_branches") [(aW (V.cl v2))]))) (R.ok (.fz (.bool false))) (rb (plI (ofP (rdv (V.cl (V.cl v1))))) fun l3=>aQ (t0 n) t6 l3 (dR (ζ a1) (ζ a2) (some (V.cl (V.cl v1))) (some (V.cl v2)) none) (fun σ=>Ce n σ (fun _=>R.ok (.fz .none)) R.ok) R.ok))))):=by kernel_rfl
theorem R0:aR t6 d0 (dR p0 p1 p2 p3 p4)=.ok (dR p0 p1 p2 p3 (ζ d0)):=by kernel_rfl
theorem R1:t0 n (dR (ζ x1) (ζ x2) (some w3) (some w4) (ζ d0)) kn kr=(ifS (aC (aO (plI (aG (aU w3) (.ok (.fz d0)))) (fun d1=>(tst (aC (.ok (.fz d1)) .NotIn (ofP (getItem x1 (.int 3)))))) (fun d1=>(.ok (.fz d1)))) .NotEq (.ok (.own (.list [])))) (kr (.fz (.bool false))) (kn (dR (ζ x1) (ζ x2) (some w3) (some w4) (ζ d0)))):=by kernel_rfl
noncomputable def t7(n:Nat)(σ:aA)(kn:KN)(kr:KR):R V:=stm BB (so "fits_join") n 23 (bI (List.drop 5 (aL BB (so "fits_join")))) σ kn kr
noncomputable def t8:Expr:=bV (List.drop 5 (aL BB (so "fits_join")))
noncomputable def Cf(n:Nat)(σ:aA)(kn:KN)(kr:KR):R V:=stm BB (so "fits_join") n 24 (List.drop 6 (aL BB (so "fits_join"))) σ kn kr
theorem R2:Ce n (dR (ζ x1) (ζ x2) (some w3) (some w4) o5) kn kr=(rb (plI (ofP (rdv (V.cl w4)))) fun l1=>aQ (t7 n) t8 l1 (dR (ζ x1) (ζ x2) (some w3) (some (V.cl w4)) o5) (fun σ=>Cf n σ kn kr) kr):=by kernel_rfl
theorem R3:aR t8 d0 (dR p0 p1 p2 p3 p4)=.ok (dR p0 p1 p2 p3 (ζ d0)):=by kernel_rfl
theorem R4:t7 n (dR (ζ x1) (ζ x2) (some w3) (some w4) (ζ d0)) kn kr=(ifS (aC (aO (plI (aG (aU w4) (.ok (.fz d0)))) (fun d1=>(tst (aC (.ok (.fz d1)) .In (ofP (getItem x1 (.int 3)))))) (fun d1=>(.ok (.fz d1)))) .NotEq (.ok (.own (.list [])))) (kr (.fz (.bool false))) (kn (dR (ζ x1) (ζ x2) (some w3) (some w4) (ζ d0)))):=by kernel_rfl
theorem R5:Cf n (dR (ζ x1) (ζ x2) (some w3) (some w4) o5) kn kr=(kr (.fz (.bool true))):=by kernel_rfl
noncomputable def gN(o0 o1 o2 o3:Option V):aA:=[((so "view"),o0),((so "tree"),o1),((so "found"),o2),((so "name"),o3)]
noncomputable def t9(n:Nat)(σ:aA)(kn:KN)(kr:KR):R V:=stm BB (so "shown_call") n 23 (bI (List.drop 2 (aL BB (so "shown_call")))) σ kn kr
noncomputable def uA:Expr:=bV (List.drop 2 (aL BB (so "shown_call")))
noncomputable def Cg(n:Nat)(σ:aA)(kn:KN)(kr:KR):R V:=stm BB (so "shown_call") n 24 (List.drop 3 (aL BB (so "shown_call"))) σ kn kr
theorem R6:rn (n+1) "shown_call" [.fz a1,.fz a2]=(rb (aD (rn n "need_fit") [(aV (aD (rn n "has_part") [(.ok (.fz a2)),(ofP (getItem a1 (.int 1)))]) (aC (ofP (getItem a1 (.int 2))) .NotIn (.ok (.fz a2))))]) fun _=>(rb (ofP (items a2)) fun l1=>aQ (t9 n) uA l1 (gN (ζ a1) (ζ a2) (some (.own (.dict []))) none) (fun σ=>Cg n σ (fun _=>R.ok (.fz .none)) R.ok) R.ok)):=by kernel_rfl
theorem R7:aR uA d0 (gN p0 p1 p2 p3)=.ok (gN p0 p1 p2 (ζ d0)):=by kernel_rfl
theorem R8:t9 n (gN (ζ x1) (ζ x2) (some (.own x3)) (ζ d0)) kn kr=(ifS (aC (.ok (.fz d0)) .Eq (ofP (getItem x1 (.int 1)))) (bD (ofP (getItem x2 d0)) (.ok x3) (ofP (getItem x1 (.int 2))) fun o1=>(kn (gN (ζ x1) (ζ x2) (some (.own o1)) (ζ d0)))) (bD (ofP (getItem x2 d0)) (.ok x3) (.ok (.fz d0)) fun o2=>(kn (gN (ζ x1) (ζ x2) (some (.own o2)) (ζ d0))))):=by kernel_rfl
theorem R9:Cg n (gN (ζ x1) (ζ x2) (some (.own x3)) o4) kn kr=(kr (.own x3)):=by kernel_rfl
noncomputable def iK(o0 o1 o2 o3 o4 o5:Option V):aA:=[((so "view"),o0),((so "tree"),o1),((so "found"),o2),((so "name"),o3),((so "part"),o4),((so "inner"),o5)]
noncomputable def lC(n:Nat)(σ:aA)(kn:KN)(kr:KR):R V:=stm BB (so "shown_beside") n 23 (bI (List.drop 1 (aL BB (so "shown_beside")))) σ kn kr
noncomputable def lD:Expr:=bV (List.drop 1 (aL BB (so "shown_beside")))
noncomputable def Ch(n:Nat)(σ:aA)(kn:KN)(kr:KR):R V:=stm BB (so "shown_beside") n 24 (List.drop 2 (aL BB (so "shown_beside"))) σ kn kr
theorem Sa:rn (n+1) "shown_beside" [.fz a1,.fz a2]=(rb (plI (ofP (getItem a1 (.int 1)))) fun l1=>aQ (lC n) lD l1 (iK (ζ a1) (ζ a2) (some (.own (.dict []))) none none none) (fun σ=>Ch n σ (fun _=>R.ok (.fz .none)) R.ok) R.ok):=by kernel_rfl
theorem Sb:aR lD (.tuple [d0,d1,d2]) (iK p0 p1 p2 p3 p4 p5)=.ok (iK p0 p1 p2 (ζ d0) (ζ d1) (ζ d2)):=by kernel_rfl
theorem Sc:lC n (iK (ζ x1) (ζ x2) (some (.own x3)) (ζ d0) (ζ d1) (ζ d2)) kn kr=(rb (aD (rn n "need_fit") [(rn n "has_part" [.fz x2,.fz d1])]) fun _=>(bD (aD (rn n "shown") [(.ok (.fz d2)),(ofP (getItem x2 d1))]) (.ok x3) (.ok (.fz d0)) fun o1=>(kn (iK (ζ x1) (ζ x2) (some (.own o1)) (ζ d0) (ζ d1) (ζ d2))))):=by kernel_rfl
theorem Sd:Ch n (iK (ζ x1) (ζ x2) (some (.own x3)) o4 o5 o6) kn kr=(kr (.own x3)):=by kernel_rfl
noncomputable def eX(o0 o1 o2 o3:Option V):aA:=[((so "view"),o0),((so "tree"),o1),((so "found"),o2),((so "key"),o3)]
noncomputable def pB(n:Nat)(σ:aA)(kn:KN)(kr:KR):R V:=stm BB (so "shown_sift") n 23 (bI (List.drop 2 (aL BB (so "shown_sift")))) σ kn kr
noncomputable def pC:Expr:=bV (List.drop 2 (aL BB (so "shown_sift")))
noncomputable def Ci(n:Nat)(σ:aA)(kn:KN)(kr:KR):R V:=stm BB (so "shown_sift") n 24 (List.drop 3 (aL BB (so "shown_sift"))) σ kn kr
theorem Se:rn (n+1) "shown_sift" [.fz a1,.fz a2]=(rb (aD (rn n "need_fit") [(rn n "all_branches" [.fz a2])]) fun _=>(rb (ofP (items a2)) fun l1=>aQ (pB n) pC l1 (eX (ζ a1) (ζ a2) (some (.own (.dict []))) none) (fun σ=>Ci n σ (fun _=>R.ok (.fz .none)) R.ok) R.ok)):=by kernel_rfl
theorem Sf:aR pC d0 (eX p0 p1 p2 p3)=.ok (eX p0 p1 p2 (ζ d0)):=by kernel_rfl
theorem Sg:pB n (eX (ζ x1) (ζ x2) (some (.own x3)) (ζ d0)) kn kr=(ifS (aD (rn n "is_sifted") [(ofP (getItem x2 d0)),(ofP (getItem x1 (.int 1))),(ofP (getItem x1 (.int 2)))]) (bD (ofP (getItem x2 d0)) (.ok x3) (.ok (.fz d0)) fun o1=>(kn (eX (ζ x1) (ζ x2) (some (.own o1)) (ζ d0)))) (kn (eX (ζ x1) (ζ x2) (some (.own x3)) (ζ d0)))):=by kernel_rfl
theorem Sh:Ci n (eX (ζ x1) (ζ x2) (some (.own x3)) o4) kn kr=(kr (.own x3)):=by kernel_rfl
noncomputable def eY(o0 o1 o2 o3 o4 o5 o6:Option V):aA:=[((so "view"),o0),((so "tree"),o1),((so "one"),o2),((so "other"),o3),((so "found"),o4),((so "key"),o5),((so "row"),o6)]
noncomputable def pD(n:Nat)(σ:aA)(kn:KN)(kr:KR):R V:=stm BB (so "shown_join") n 23 (bI (List.drop 4 (aL BB (so "shown_join")))) σ kn kr
noncomputable def pE:Expr:=bV (List.drop 4 (aL BB (so "shown_join")))
noncomputable def Cj(n:Nat)(σ:aA)(kn:KN)(kr:KR):R V:=stm BB (so "shown_join") n 24 (List.drop 5 (aL BB (so "shown_join"))) σ kn kr
theorem Si:rn (n+1) "shown_join" [.fz a1,.fz a2]=(rb (aD (rn n "need_fit") [(rn n "fits_join" [.fz a1,.fz a2])]) fun _=>(rb (aG (.ok a2) (ofP (getItem a1 (.int 1)))) fun v1=>(rb (aG (.ok a2) (ofP (getItem a1 (.int 2)))) fun v2=>(rb (plI (ofP (rdv (V.cl v1)))) fun l3=>aQ (pD n) pE l3 (eY (ζ a1) (ζ a2) (some (V.cl v1)) (some v2) (some (.own (.dict []))) none none) (fun σ=>Cj n σ (fun _=>R.ok (.fz .none)) R.ok) R.ok)))):=by kernel_rfl
theorem Sj:aR pE d0 (eY p0 p1 p2 p3 p4 p5 p6)=.ok (eY p0 p1 p2 p3 p4 (ζ d0) p6):=by kernel_rfl
theorem Sk:pD n (eY (ζ x1) (ζ x2) (some w3) (some w4) (some (.own x5)) (ζ d0) o7) kn kr=(ifS (aC (.ok (.fz d0)) .In (ofP (rdv (V.cl w4)))) (rb (aK bG (aG (aU w3) (.ok (.fz d0)))) fun v1=>(gL (ofP (dB v1)) (so "update") [(aG (aU (V.cl w4)) (.ok (.fz d0)))] fun o2=>(bD (.ok (.fz o2)) (.ok x5) (.ok (.fz d0)) fun o3=>(kn (eY (ζ x1) (ζ x2) (some w3) (some (V.cl w4)) (some (.own o3)) (ζ d0) (ζ o2)))))) (kn (eY (ζ x1) (ζ x2) (some w3) (some (V.cl w4)) (some (.own x5)) (ζ d0) o7))):=by kernel_rfl
theorem Sl:Cj n (eY (ζ x1) (ζ x2) (some w3) (some w4) (some (.own x5)) o6 o7) kn kr=(kr (.own x5)):=by kernel_rfl
noncomputable def iL(o0 o1 o2 o3:Option V):aA:=[((so "view"),o0),((so "tree"),o1),((so "found"),o2),((so "name"),o3)]
noncomputable def uB(n:Nat)(σ:aA)(kn:KN)(kr:KR):R V:=stm BB (so "shown_each") n 23 (bI (List.drop 2 (aL BB (so "shown_each")))) σ kn kr
noncomputable def uC:Expr:=bV (List.drop 2 (aL BB (so "shown_each")))
noncomputable def Ck(n:Nat)(σ:aA)(kn:KN)(kr:KR):R V:=stm BB (so "shown_each") n 24 (List.drop 3 (aL BB (so "shown_each"))) σ kn kr
theorem Sm:rn (n+1) "shown_each" [.fz a1,.fz a2]=(rb (rn n "need_fit" [.fz (.bool (bT a2))]) fun _=>(rb (ofP (items a2)) fun l1=>aQ (uB n) uC l1 (iL (ζ a1) (ζ a2) (some (.own (.dict []))) none) (fun σ=>Ck n σ (fun _=>R.ok (.fz .none)) R.ok) R.ok)):=by kernel_rfl
theorem Sn:aR uC d0 (iL p0 p1 p2 p3)=.ok (iL p0 p1 p2 (ζ d0)):=by kernel_rfl
theorem So:uB n (iL (ζ x1) (ζ x2) (some (.own x3)) (ζ d0)) kn kr=(bD (aD (rn n "shown") [(ofP (getItem x1 (.int 1))),(ofP (getItem x2 d0))]) (.ok x3) (.ok (.fz d0)) fun o1=>(kn (iL (ζ x1) (ζ x2) (some (.own o1)) (ζ d0)))):=by kernel_rfl
theorem Sp:Ck n (iL (ζ x1) (ζ x2) (some (.own x3)) o4) kn kr=(kr (.own x3)):=by kernel_rfl
theorem Sq:rn (n+1) "need_tree" [.fz a1]=(ifS (unS .Not (rn n "is_tree" [.fz a1])) (lB (so "BadTree") [(.ok (.fz (.str (so "no tree"))))]) (R.ok (.fz .none))):=by kernel_rfl
theorem Sr:rn (n+1) "show" [.fz a1,.fz a2]=(rb (rn n "need_view" [.fz a1]) fun _=>(rb (rn n "need_tree" [.fz a2]) fun _=>(rb (aD (rn n "copied") [(rn n "shown" [.fz a1,.fz a2])]) R.ok))):=by kernel_rfl
theorem Ss:rn (n+1) "need_put" [.fz a1,.fz a2,.fz a3,.fz a4]=(ifS (unS .Not (.ok (.fz a1))) (lA [(so "way"),(so "kind"),(so "part")] (so "BadPut") [(.ok (.fz a2)),(.ok (.fz a3)),(rn n "copied" [.fz a4])]) (R.ok (.fz .none))):=by kernel_rfl
noncomputable def gO(o0 o1 o2 o3 o4:Option V):aA:=[((so "view"),o0),((so "new"),o1),((so "way"),o2),((so "found"),o3),((so "name"),o4)]
noncomputable def uD(n:Nat)(σ:aA)(kn:KN)(kr:KR):R V:=stm BB (so "put_call") n 23 (bI (List.drop 2 (aL BB (so "put_call")))) σ kn kr
noncomputable def uE:Expr:=bV (List.drop 2 (aL BB (so "put_call")))
noncomputable def Cl(n:Nat)(σ:aA)(kn:KN)(kr:KR):R V:=stm BB (so "put_call") n 24 (List.drop 3 (aL BB (so "put_call"))) σ kn kr
theorem Su:rn (n+1) "put_call" [.fz a1,.fz a2,.fz a3]=(rb (aD (rn n "need_put") [(aV (.ok (.fz (.bool (bT a2)))) (aV (aC (ofP (getItem a1 (.int 2))) .In (.ok (.fz a2))) (aC (ofP (getItem a1 (.int 1))) .NotIn (.ok (.fz a2))))),(.ok (.fz a3)),(.ok (.fz (.str (so "form")))),(.ok (.fz a2))]) fun _=>(rb (ofP (items a2)) fun l1=>aQ (uD n) uE l1 (gO (ζ a1) (ζ a2) (ζ a3) (some (.own (.dict []))) none) (fun σ=>Cl n σ (fun _=>R.ok (.fz .none)) R.ok) R.ok)):=by kernel_rfl
theorem Sw:aR uE d0 (gO p0 p1 p2 p3 p4)=.ok (gO p0 p1 p2 p3 (ζ d0)):=by kernel_rfl
theorem Sx:uD n (gO (ζ x1) (ζ x2) (ζ x3) (some (.own x4)) (ζ d0)) kn kr=(ifS (aC (.ok (.fz d0)) .Eq (ofP (getItem x1 (.int 2)))) (bD (ofP (getItem x2 d0)) (.ok x4) (ofP (getItem x1 (.int 1))) fun o1=>(kn (gO (ζ x1) (ζ x2) (ζ x3) (some (.own o1)) (ζ d0)))) (bD (ofP (getItem x2 d0)) (.ok x4) (.ok (.fz d0)) fun o2=>(kn (gO (ζ x1) (ζ x2) (ζ x3) (some (.own o2)) (ζ d0))))):=by kernel_rfl
theorem Sy:Cl n (gO (ζ x1) (ζ x2) (ζ x3) (some (.own x4)) o5) kn kr=(kr (.own x4)):=by kernel_rfl
noncomputable def gP(o0 o1 o2 o3 o4 o5 o6 o7 o8:Option V):aA:=[((so "view"),o0),((so "old"),o1),((so "new"),o2),((so "way"),o3),((so "names"),o4),((so "found"),o5),((so "name"),o6),((so "part"),o7),((so "inner"),o8)]
noncomputable def fH(n:Nat)(σ:aA)(kn:KN)(kr:KR):R V:=stm BB (so "put_beside") n 23 (bI (List.drop 3 (aL BB (so "put_beside")))) σ kn kr
noncomputable def fJ:Expr:=bV (List.drop 3 (aL BB (so "put_beside")))
noncomputable def Cm(n:Nat)(σ:aA)(kn:KN)(kr:KR):R V:=stm BB (so "put_beside") n 24 (List.drop 4 (aL BB (so "put_beside"))) σ kn kr
theorem Sz:rn (n+1) "put_beside" [.fz a1,.fz a2,.fz a3,.fz a4]=(rb (aO (plI (ofP (getItem a1 (.int 1)))) (fun d1=>(.ok true)) (fun d1=>(ofP (getItem d1 (.int 0))))) fun v2=>(rb (aD (rn n "need_put") [(aV (.ok (.fz (.bool (bT a3)))) (aC (ofP (cI a3)) .Eq (aK cI (ofP (rdv (V.cl v2)))))),(.ok (.fz a4)),(.ok (.fz (.str (so "form")))),(.ok (.fz a3))]) fun _=>(rb (ofP (bG a2)) fun v3=>(rb (plI (ofP (getItem a1 (.int 1)))) fun l4=>aQ (fH n) fJ l4 (gP (ζ a1) (ζ a2) (ζ a3) (ζ a4) (some (V.cl v2)) (some v3) none none none) (fun σ=>Cm n σ (fun _=>R.ok (.fz .none)) R.ok) R.ok)))):=by kernel_rfl
theorem S0:aR fJ (.tuple [d0,d1,d2]) (gP p0 p1 p2 p3 p4 p5 p6 p7 p8)=.ok (gP p0 p1 p2 p3 p4 p5 (ζ d0) (ζ d1) (ζ d2)):=by kernel_rfl
theorem S1:fH n (gP (ζ x1) (ζ x2) (ζ x3) (ζ x4) (some w5) (some w6) (ζ d0) (ζ d1) (ζ d2)) kn kr=(bD (aD (rn n "put_back") [(.ok (.fz d2)),(ofP (getItem x2 d1)),(ofP (getItem x3 d0)),(aB .Add (.ok (.fz x4)) (cA [(.ok (.fz d0))]))]) (ofP (dB w6)) (.ok (.fz d1)) fun o1=>(kn (gP (ζ x1) (ζ x2) (ζ x3) (ζ x4) (some w5) (some (.own o1)) (ζ d0) (ζ d1) (ζ d2)))):=by kernel_rfl
theorem S2:Cm n (gP (ζ x1) (ζ x2) (ζ x3) (ζ x4) (some w5) (some w6) o7 o8 o9) kn kr=(dQ w6 kr):=by kernel_rfl
noncomputable def iM(o0 o1 o2 o3 o4 o5 o6 o7:Option V):aA:=[((so "view"),o0),((so "old"),o1),((so "new"),o2),((so "way"),o3),((so "key"),o4),((so "good"),o5),((so "hidden"),o6),((so "found"),o7)]
noncomputable def uF(n:Nat)(σ:aA)(kn:KN)(kr:KR):R V:=stm BB (so "put_sift") n 23 (bI (List.drop 5 (aL BB (so "put_sift")))) σ kn kr
noncomputable def uG:Expr:=bV (List.drop 5 (aL BB (so "put_sift")))
noncomputable def Cn(n:Nat)(σ:aA)(kn:KN)(kr:KR):R V:=stm BB (so "put_sift") n 24 (List.drop 6 (aL BB (so "put_sift"))) σ kn kr
theorem S3:rn (n+1) "put_sift" [.fz a1,.fz a2,.fz a3,.fz a4]=(rb (aV (rn n "all_branches" [.fz a3]) (aK cJ (aO (ofP (items a3)) (fun d1=>(.ok true)) (fun d1=>(aD (rn n "is_sifted") [(ofP (getItem a3 d1)),(ofP (getItem a1 (.int 1))),(ofP (getItem a1 (.int 2)))]))))) fun v2=>(rb (aD (rn n "need_put") [(aW (V.cl v2)),(.ok (.fz a4)),(.ok (.fz (.str (so "form")))),(.ok (.fz a3))]) fun _=>(rb (aO (ofP (items a2)) (fun d3=>(tst (unS .Not (aD (rn n "is_sifted") [(ofP (getItem a2 d3)),(ofP (getItem a1 (.int 1))),(ofP (getItem a1 (.int 2)))])))) (fun d3=>(.ok (.fz d3)))) fun v4=>(rb (aD (rn n "need_put") [(aC (aO (ofP (items a3)) (fun d6=>(tst (aC (.ok (.fz d6)) .In (ofP (rdv (V.cl v4)))))) (fun d6=>(.ok (.fz d6)))) .Eq (.ok (.own (.list [])))),(.ok (.fz a4)),(.ok (.fz (.str (so "hidden")))),(.ok (.fz a3))]) fun _=>(rb (plI (ofP (rdv (V.cl (V.cl v4))))) fun l7=>aQ (uF n) uG l7 (iM (ζ a1) (ζ a2) (ζ a3) (ζ a4) none (some (V.cl v2)) (some (V.cl (V.cl v4))) (some (.own (.dict [])))) (fun σ=>Cn n σ (fun _=>R.ok (.fz .none)) R.ok) R.ok))))):=by kernel_rfl
theorem S4:aR uG d0 (iM p0 p1 p2 p3 p4 p5 p6 p7)=.ok (iM p0 p1 p2 p3 (ζ d0) p5 p6 p7):=by kernel_rfl
theorem S5:uF n (iM (ζ x1) (ζ x2) (ζ x3) (ζ x4) (ζ d0) (some w6) (some w7) (some (.own x8))) kn kr=(bD (ofP (getItem x2 d0)) (.ok x8) (.ok (.fz d0)) fun o1=>(kn (iM (ζ x1) (ζ x2) (ζ x3) (ζ x4) (ζ d0) (some w6) (some w7) (some (.own o1))))):=by kernel_rfl
theorem S6:Cn n (iM (ζ x1) (ζ x2) (ζ x3) (ζ x4) o5 (some w6) (some w7) (some (.own x8))) kn kr=(gL (.ok x8) (so "update") [(.ok (.fz x3))] fun o1=>(kr (.own o1))):=by kernel_rfl
noncomputable def iN(o0 o1 o2 o3 o4 o5 o6 o7 o8 o9 o10:Option V):aA:=[((so "view"),o0),((so "old"),o1),((so "new"),o2),((so "way"),o3),((so "one"),o4),((so "other"),o5),((so "key"),o6),((so "left"),o7),((so "right"),o8),((so "row"),o9),((so "found"),o10)]
noncomputable def uH(n:Nat)(σ:aA)(kn:KN)(kr:KR):R V:=stm BB (so "put_join") n 23 (bI (List.drop 6 (aL BB (so "put_join")))) σ kn kr
noncomputable def uI:Expr:=bV (List.drop 6 (aL BB (so "put_join")))
noncomputable def Co(n:Nat)(σ:aA)(kn:KN)(kr:KR):R V:=stm BB (so "put_join") n 24 (List.drop 7 (aL BB (so "put_join"))) σ kn kr
theorem S7:rn (n+1) "put_join" [.fz a1,.fz a2,.fz a3,.fz a4]=(rb (aD (rn n "need_put") [(rn n "all_branches" [.fz a3]),(.ok (.fz a4)),(.ok (.fz (.str (so "form")))),(.ok (.fz a3))]) fun _=>(rb (aG (.ok a2) (ofP (getItem a1 (.int 1)))) fun v1=>(rb (aG (.ok a2) (ofP (getItem a1 (.int 2)))) fun v2=>(rb (aD (rn n "need_put") [(aC (aO (ofP (items a3)) (fun d4=>(tst (aC (aC (.ok (.fz d4)) .In (ofP (rdv (V.cl v1)))) .NotEq (aC (.ok (.fz d4)) .In (ofP (rdv (V.cl v2))))))) (fun d4=>(.ok (.fz d4)))) .Eq (.ok (.own (.list [])))),(.ok (.fz a4)),(.ok (.fz (.str (so "hidden")))),(.ok (.fz a3))]) fun _=>(rb (aK bG (aO (plI (ofP (rdv (V.cl (V.cl v1))))) (fun d5=>(tst (aC (.ok (.fz d5)) .NotIn (ofP (rdv (V.cl (V.cl v2))))))) (fun d5=>(aM [(.ok (.fz d5)),(aG (aU (V.cl (V.cl v1))) (.ok (.fz d5)))])))) fun v6=>(rb (aK bG (aO (plI (ofP (rdv (V.cl (V.cl (V.cl v2)))))) (fun d7=>(tst (aC (.ok (.fz d7)) .NotIn (ofP (rdv (V.cl (V.cl (V.cl v1)))))))) (fun d7=>(aM [(.ok (.fz d7)),(aG (aU (V.cl (V.cl (V.cl v2)))) (.ok (.fz d7)))])))) fun v8=>(rb (ofP (items a3)) fun l9=>aQ (uH n) uI l9 (iN (ζ a1) (ζ a2) (ζ a3) (ζ a4) (some (V.cl (V.cl (V.cl v1)))) (some (V.cl (V.cl (V.cl v2)))) none (some v6) (some v8) none none) (fun σ=>Co n σ (fun _=>R.ok (.fz .none)) R.ok) R.ok))))))):=by kernel_rfl
theorem S8:aR uI d0 (iN p0 p1 p2 p3 p4 p5 p6 p7 p8 p9 p10)=.ok (iN p0 p1 p2 p3 p4 p5 (ζ d0) p7 p8 p9 p10):=by kernel_rfl
theorem S9:uH n (iN (ζ x1) (ζ x2) (ζ x3) (ζ x4) (some w5) (some w6) (ζ d0) (some w8) (some w9) o10 none) kn kr=(rb (ofP (getItem x3 d0)) fun v1=>(bD (aK bG (aO (plI (ofP (rdv (V.cl v1)))) (fun d2=>(tst (aC (.ok (.fz d2)) .In (ofP (getItem x1 (.int 3)))))) (fun d2=>(aM [(.ok (.fz d2)),(aG (aU (V.cl v1)) (.ok (.fz d2)))])))) (ofP (dB w8)) (.ok (.fz d0)) fun o3=>(bD (aK bG (aO (plI (ofP (rdv (V.cl (V.cl v1))))) (fun d4=>(tst (aC (.ok (.fz d4)) .NotIn (ofP (getItem x1 (.int 3)))))) (fun d4=>(aM [(.ok (.fz d4)),(aG (aU (V.cl (V.cl v1))) (.ok (.fz d4)))])))) (ofP (dB w9)) (.ok (.fz d0)) fun o5=>(kn (iN (ζ x1) (ζ x2) (ζ x3) (ζ x4) (some w5) (some w6) (ζ d0) (some (.own o3)) (some (.own o5)) (some (V.cl (V.cl v1))) none))))):=by kernel_rfl
theorem Ta:Co n (iN (ζ x1) (ζ x2) (ζ x3) (ζ x4) (some w5) (some w6) o7 (some w8) (some w9) o10 none) kn kr=(rb (ofP (bG x2)) fun v1=>(bD (ofP (rdv (V.cl w8))) (ofP (dB v1)) (ofP (getItem x1 (.int 1))) fun o2=>(bD (ofP (rdv (V.cl w9))) (.ok o2) (ofP (getItem x1 (.int 2))) fun o3=>(kr (.own o3))))):=by kernel_rfl
noncomputable def f9(o0 o1 o2 o3 o4 o5:Option V):aA:=[((so "view"),o0),((so "old"),o1),((so "new"),o2),((so "way"),o3),((so "found"),o4),((so "name"),o5)]
noncomputable def pF(n:Nat)(σ:aA)(kn:KN)(kr:KR):R V:=stm BB (so "put_each") n 23 (bI (List.drop 3 (aL BB (so "put_each")))) σ kn kr
noncomputable def pG:Expr:=bV (List.drop 3 (aL BB (so "put_each")))
noncomputable def Cp(n:Nat)(σ:aA)(kn:KN)(kr:KR):R V:=stm BB (so "put_each") n 24 (List.drop 4 (aL BB (so "put_each"))) σ kn kr
theorem Tc:rn (n+1) "put_each" [.fz a1,.fz a2,.fz a3,.fz a4]=(rb (rn n "need_put" [.fz (.bool (bT a3)),.fz a4,.fz (.str (so "form")),.fz a3]) fun _=>(rb (aD (rn n "need_put") [(aC (ofP (cI a3)) .Eq (ofP (cI a2))),(.ok (.fz a4)),(.ok (.fz (.str (so "names")))),(.ok (.fz a3))]) fun _=>(rb (plI (ofP (cI a3))) fun l1=>aQ (pF n) pG l1 (f9 (ζ a1) (ζ a2) (ζ a3) (ζ a4) (some (.own (.dict []))) none) (fun σ=>Cp n σ (fun _=>R.ok (.fz .none)) R.ok) R.ok))):=by kernel_rfl
theorem Td:aR pG d0 (f9 p0 p1 p2 p3 p4 p5)=.ok (f9 p0 p1 p2 p3 p4 (ζ d0)):=by kernel_rfl
theorem Te:pF n (f9 (ζ x1) (ζ x2) (ζ x3) (ζ x4) (some (.own x5)) (ζ d0)) kn kr=(bD (aD (rn n "put_back") [(ofP (getItem x1 (.int 1))),(ofP (getItem x2 d0)),(ofP (getItem x3 d0)),(aB .Add (.ok (.fz x4)) (cA [(.ok (.fz d0))]))]) (.ok x5) (.ok (.fz d0)) fun o1=>(kn (f9 (ζ x1) (ζ x2) (ζ x3) (ζ x4) (some (.own o1)) (ζ d0)))):=by kernel_rfl
theorem Tf:Cp n (f9 (ζ x1) (ζ x2) (ζ x3) (ζ x4) (some (.own x5)) o6) kn kr=(kr (.own x5)):=by kernel_rfl
theorem Tg:rn (n+1) "put" [.fz a1,.fz a2,.fz a3]=(rb (rn n "need_view" [.fz a1]) fun _=>(rb (rn n "need_tree" [.fz a2]) fun _=>(rb (rn n "shown" [.fz a1,.fz a2]) fun _=>(rb (rn n "need_tree" [.fz a3]) fun _=>(rb (aD (rn n "copied") [(rn n "put_back" [.fz a1,.fz a2,.fz a3,.fz (.list [])])]) R.ok))))):=by kernel_rfl
theorem Th:rn (n+1) "_law_cell_at" [.fz a1,.fz a2]=(ifS (aC (.ok (.fz a2)) .Lt (ofP (bL a1))) (rb (ofP (getItem a1 a2)) R.ok) (R.ok (.fz (.int 0)))):=by kernel_rfl
theorem Ti:rn (n+1) "_law_mixed" [.fz a1,.fz a2]=(rb (aB .Mod (aB .Add (aB .Add (aB .Mult (aD (rn n "_law_cell_at") [(.ok (.fz a1)),(aB .Add (.ok (.fz (.int 2))) (ofP (aF .Mod a2 (.int 24))))]) (.ok (.fz (.int 48271)))) (ofP (aF .Mult (.int 7919) a2))) (.ok (.fz (.int 12345)))) (.ok (.fz (.int 2147483647)))) R.ok):=by kernel_rfl
theorem Tj:rn (n+1) "_law_name" [.fz a1,.fz a2]=(rb (aB .Add (.ok (.fz (.int 1))) (ofP (aF .Mod a1 (.int 8)))) fun v1=>(rb (aO (rgI (.ok (.fz (.int 8)))) (fun d2=>(.ok true)) (fun d2=>(aG (.ok (.str (so "abcdefghijklmnopqrstuvwxyz"))) (aB .Mod (aB .Add (ofP (aF .FloorDiv a1 (.int 8))) (ofP (aF .Mult (.int 5) d2))) (.ok (.fz (.int 26))))))) fun v3=>(ifS (aC (aB .Mod (ofP (aF .FloorDiv a1 (.int 1664))) (.ok (.fz (.int 3)))) .Eq (.ok (.fz (.int 1)))) (bD (aG (.ok (.str (so "abcdefghijklmnopqrstuvwxyz"))) (aB .Mod (aB .Add (ofP (aF .FloorDiv a1 (.int 8))) (ofP (aF .FloorDiv a2 (.int 8)))) (.ok (.fz (.int 26))))) (ofP (dB v3)) (.ok (.fz (.int 0))) fun o4=>(rb (dL (so "join") (.ok (.fz (.str (so "")))) [(cF (.ok o4) none (some (aB .Add (.ok (.fz (.int 1))) (ofP (aF .Mod a2 (.int 8))))))]) R.ok)) (bD (aG (.ok (.str (so "abcdefghijklmnopqrstuvwxyz"))) (aB .Mod (aB .Add (aB .Add (ofP (aF .FloorDiv a1 (.int 8))) (.ok (.fz (.int 7)))) (.ok (.fz a2))) (.ok (.fz (.int 26))))) (ofP (dB v3)) (aB .Mod (ofP (aF .FloorDiv a1 (.int 208))) (ofP (rdv v1))) fun o5=>(rb (dL (so "join") (.ok (.fz (.str (so "")))) [(cF (.ok o5) none (some (ofP (rdv (V.cl v1)))))]) R.ok))))):=by kernel_rfl
theorem Tk:rn (n+1) "_law_names" [.fz a1]=(rb (aO (rgI (.ok (.fz (.int 14)))) (fun d1=>(.ok true)) (fun d1=>(aD (rn n "_law_name") [(rn n "_law_cell_at" [.fz a1,.fz (.int 0)]),(.ok (.fz d1))]))) R.ok):=by kernel_rfl
theorem Tl:rn (n+1) "_law_number" [.fz a1]=(ifS (aC (ofP (aF .Mod a1 (.int 5))) .Eq (.ok (.fz (.int 4)))) (rb (aB .Add (aG (cU (cA [(ofP (aF .Pow (.int 10) (.int 20))),(unS .USub (ofP (aF .Pow (.int 10) (.int 20)))),(ofP (aF .Pow (.int 10) (.int 12))),(.ok (.fz (.int 0)))])) (aB .Mod (ofP (aF .FloorDiv a1 (.int 5))) (.ok (.fz (.int 4))))) (aB .Mod (ofP (aF .FloorDiv a1 (.int 20))) (.ok (.fz (.int 3))))) R.ok) (ifS (aC (ofP (aF .Mod a1 (.int 5))) .Eq (.ok (.fz (.int 3)))) (rb (aB .Sub (aB .Mod (aB .Mult (ofP (aF .FloorDiv a1 (.int 5))) (.ok (.fz (.int 48271)))) (.ok (.fz (.int 2000003)))) (.ok (.fz (.int 1000001)))) R.ok) (ifS (aC (ofP (aF .Mod a1 (.int 15))) .Eq (.ok (.fz (.int 2)))) (rb (aB .Mult (aK gF (aB .Mult (.ok (.fz (.str (so "37")))) (aB .Add (.ok (.fz (.int 1))) (aB .Mod (ofP (aF .FloorDiv a1 (.int 15))) (.ok (.fz (.int 14))))))) (aB .Sub (.ok (.fz (.int 1))) (aB .Mult (aB .Mod (ofP (aF .FloorDiv a1 (.int 210))) (.ok (.fz (.int 2)))) (.ok (.fz (.int 2)))))) R.ok) (rb (aB .Sub (aB .Mod (ofP (aF .FloorDiv a1 (.int 5))) (.ok (.fz (.int 9)))) (.ok (.fz (.int 4)))) R.ok)))):=by kernel_rfl
noncomputable def cP(o0 o1 o2 o3 o4 o5 o6 o7 o8 o9:Option V):aA:=[((so "_law_script"),o0),((so "_law_k"),o1),((so "_law_names_here"),o2),((so "_law_fields"),o3),((so "_law_found"),o4),((so "_law_j"),o5),((so "_law_row"),o6),((so "_law_i"),o7),((so "_law_field"),o8),((so "_law_cell"),o9)]
noncomputable def pH(n:Nat)(σ:aA)(kn:KN)(kr:KR):R V:=stm BB (so "_law_table") n 23 (bI (List.drop 1 (aL BB (so "_law_table")))) σ kn kr
noncomputable def pI:Expr:=bV (List.drop 1 (aL BB (so "_law_table")))
noncomputable def Cq(n:Nat)(σ:aA)(kn:KN)(kr:KR):R V:=stm BB (so "_law_table") n 24 (List.drop 2 (aL BB (so "_law_table"))) σ kn kr
theorem Tm:rn (n+1) "_law_table" [.fz a1,.fz a2,.fz a3,.fz a4]=(rb (rgI (.ok (.fz (.int 4)))) fun l1=>aQ (pH n) pI l1 (cP (ζ a1) (ζ a2) (ζ a3) (ζ a4) (some (.own (.dict []))) none none none none none) (fun σ=>Cq n σ (fun _=>R.ok (.fz .none)) R.ok) R.ok):=by kernel_rfl
theorem Tn:aR pI d0 (cP p0 p1 p2 p3 p4 p5 p6 p7 p8 p9)=.ok (cP p0 p1 p2 p3 p4 (ζ d0) p6 p7 p8 p9):=by kernel_rfl
noncomputable def lE(n:Nat)(σ:aA)(kn:KN)(kr:KR):R V:=stm BB (so "_law_table") n 21 (bI (List.drop 1 (jQ (bI (List.drop 1 (aL BB (so "_law_table"))))))) σ kn kr
noncomputable def lF:Expr:=bV (List.drop 1 (jQ (bI (List.drop 1 (aL BB (so "_law_table"))))))
noncomputable def uJ(n:Nat)(σ:aA)(kn:KN)(kr:KR):R V:=stm BB (so "_law_table") n 22 (List.drop 2 (jQ (bI (List.drop 1 (aL BB (so "_law_table")))))) σ kn kr
theorem To:pH n (cP (ζ x1) (ζ x2) (ζ x3) (ζ x4) (some (.own x5)) (ζ d0) o7 o8 o9 o10) kn kr=(ifS (aC (aB .Mod (aD (rn n "_law_mixed") [(.ok (.fz x1)),(aB .Add (.ok (.fz x2)) (ofP (aF .Mult (.int 10) d0)))]) (.ok (.fz (.int 3)))) .Gt (.ok (.fz (.int 0)))) (rb (enI (.ok (.fz x4))) fun l1=>aQ (lE n) lF l1 (cP (ζ x1) (ζ x2) (ζ x3) (ζ x4) (some (.own x5)) (ζ d0) (some (.own (.dict []))) o8 o9 o10) (fun σ=>uJ n σ (fun σ=>stm BB (so "_law_table") n 23 (List.drop 1 (bI (List.drop 1 (aL BB (so "_law_table"))))) σ kn kr) kr) kr) (kn (cP (ζ x1) (ζ x2) (ζ x3) (ζ x4) (some (.own x5)) (ζ d0) o7 o8 o9 o10))):=by kernel_rfl
theorem Tp:Cq n (cP (ζ x1) (ζ x2) (ζ x3) (ζ x4) (some (.own x5)) o6 o7 o8 o9 o10) kn kr=(kr (.own x5)):=by kernel_rfl
theorem Tq:aR lF (.tuple [d0,d1]) (cP p0 p1 p2 p3 p4 p5 p6 p7 p8 p9)=.ok (cP p0 p1 p2 p3 p4 p5 p6 (ζ d0) (ζ d1) p9):=by kernel_rfl
theorem Ts:lE n (cP (ζ x1) (ζ x2) (ζ x3) (ζ x4) (some (.own x5)) (ζ x6) (some (.own x7)) (ζ d0) (ζ d1) o10) kn kr=(rb (aD (rn n "_law_mixed") [(.ok (.fz x1)),(aB .Add (aB .Add (aB .Add (.ok (.fz x2)) (ofP (aF .Mult (.int 10) x6))) (.ok (.fz d0))) (.ok (.fz (.int 1))))]) fun v1=>(ifS (aC (aB .Mod (ofP (rdv (V.cl v1))) (.ok (.fz (.int 4)))) .Gt (.ok (.fz (.int 0)))) (bD (aD (rn n "_law_number") [(aB .FloorDiv (ofP (rdv (V.cl (V.cl v1)))) (.ok (.fz (.int 4))))]) (.ok x7) (.ok (.fz d1)) fun o2=>(kn (cP (ζ x1) (ζ x2) (ζ x3) (ζ x4) (some (.own x5)) (ζ x6) (some (.own o2)) (ζ d0) (ζ d1) (some (V.cl (V.cl v1)))))) (ifS (aC (aB .Mod (ofP (rdv (V.cl (V.cl v1)))) (.ok (.fz (.int 12)))) .Eq (.ok (.fz (.int 0)))) (bD (cO [((ofP (getItem x3 (.int 0))),(aB .Mod (aB .FloorDiv (ofP (rdv (V.cl (V.cl (V.cl v1))))) (.ok (.fz (.int 12)))) (.ok (.fz (.int 5)))))]) (.ok x7) (.ok (.fz d1)) fun o3=>(kn (cP (ζ x1) (ζ x2) (ζ x3) (ζ x4) (some (.own x5)) (ζ x6) (some (.own o3)) (ζ d0) (ζ d1) (some (V.cl (V.cl (V.cl v1))))))) (kn (cP (ζ x1) (ζ x2) (ζ x3) (ζ x4) (some (.own x5)) (ζ x6) (some (.own x7)) (ζ d0) (ζ d1) (some (V.cl (V.cl v1)))))))):=by kernel_rfl
theorem Tt:uJ n (cP (ζ x1) (ζ x2) (ζ x3) (ζ x4) (some (.own x5)) (ζ x6) (some (.own x7)) o8 o9 o10) kn kr=(bD (.ok (.fz x7)) (.ok x5) (aG (.ok x3) (ofP (aF .Add (.int 9) x6))) fun o1=>(kn (cP (ζ x1) (ζ x2) (ζ x3) (ζ x4) (some (.own o1)) (ζ x6) (ζ x7) o8 o9 o10))):=by kernel_rfl
noncomputable def dM(o0 o1 o2 o3:Option V):aA:=[((so "_law_script"),o0),((so "_law_names_here"),o1),((so "_law_found"),o2),((so "_law_k"),o3)]
noncomputable def lG(n:Nat)(σ:aA)(kn:KN)(kr:KR):R V:=stm BB (so "_law_house") n 23 (bI (List.drop 5 (aL BB (so "_law_house")))) σ kn kr
noncomputable def lH:Expr:=bV (List.drop 5 (aL BB (so "_law_house")))
noncomputable def Cr(n:Nat)(σ:aA)(kn:KN)(kr:KR):R V:=stm BB (so "_law_house") n 24 (List.drop 6 (aL BB (so "_law_house"))) σ kn kr
theorem Tu:rn (n+1) "_law_house" [.fz a1,.fz a2]=(rb (cO [((ofP (getItem a2 (.int 0))),(aD (rn n "_law_number") [(rn n "_law_mixed" [.fz a1,.fz (.int 1)])]))]) fun v1=>(bD (cO [((ofP (getItem a2 (.int 5))),(aD (rn n "_law_number") [(rn n "_law_mixed" [.fz a1,.fz (.int 2)])])),((ofP (getItem a2 (.int 6))),(cO [((ofP (getItem a2 (.int 0))),(.ok (.fz (.int 3))))]))]) (ofP (dB v1)) (ofP (getItem a2 (.int 1))) fun o2=>(bD (aD (rn n "_law_table") [(.ok (.fz a1)),(.ok (.fz (.int 20))),(.ok (.fz a2)),(cF (.ok a2) (some (.ok (.fz (.int 5)))) (some (.ok (.fz (.int 7)))))]) (.ok o2) (ofP (getItem a2 (.int 2))) fun o3=>(bD (aD (rn n "_law_table") [(.ok (.fz a1)),(.ok (.fz (.int 70))),(.ok (.fz a2)),(cF (.ok a2) (some (.ok (.fz (.int 7)))) (some (.ok (.fz (.int 9)))))]) (.ok o3) (ofP (getItem a2 (.int 3))) fun o4=>(bD (cO [((ofP (getItem a2 (.int 2))),(aD (rn n "_law_table") [(.ok (.fz a1)),(.ok (.fz (.int 120))),(.ok (.fz a2)),(cF (.ok a2) (some (.ok (.fz (.int 5)))) (some (.ok (.fz (.int 9)))))])),((ofP (getItem a2 (.int 0))),(.ok (.fz (.int 1))))]) (.ok o4) (ofP (getItem a2 (.int 4))) fun o5=>(rb (rgI (.ok (.fz (.int 5)))) fun l6=>aQ (lG n) lH l6 (dM (ζ a1) (ζ a2) (some (.own o5)) none) (fun σ=>Cr n σ (fun _=>R.ok (.fz .none)) R.ok) R.ok)))))):=by kernel_rfl
theorem Tv:aR lH d0 (dM p0 p1 p2 p3)=.ok (dM p0 p1 p2 (ζ d0)):=by kernel_rfl
theorem Tw:lG n (dM (ζ x1) (ζ x2) (some (.own x3)) (ζ d0)) kn kr=(ifS (aC (aB .Mod (aD (rn n "_law_mixed") [(.ok (.fz x1)),(ofP (aF .Add (.int 200) d0))]) (.ok (.fz (.int 9)))) .Eq (.ok (.fz (.int 0)))) (gL (.ok x3) (so "pop") [(ofP (getItem x2 d0))] fun o1=>(kn (dM (ζ x1) (ζ x2) (some (.own o1)) (ζ d0)))) (kn (dM (ζ x1) (ζ x2) (some (.own x3)) (ζ d0)))):=by kernel_rfl
theorem Tx:Cr n (dM (ζ x1) (ζ x2) (some (.own x3)) o4) kn kr=(rb (aG (cU (cA [(.ok (.fz x3)),(dL (so "get") (.ok (.fz x3)) [(ofP (getItem x2 (.int 2))),(.ok (.own (.dict [])))]),(dL (so "get") (.ok (.fz x3)) [(ofP (getItem x2 (.int 4))),(.ok (.fz (.int 5)))])])) (aB .Mod (aB .Mod (rn n "_law_cell_at" [.fz x1,.fz (.int 1)]) (.ok (.fz (.int 5)))) (.ok (.fz (.int 3))))) kr):=by kernel_rfl
theorem lI:rn (n+1) "_law_copy" [.fz a1]=(ifS (.ok (.fz (.bool (bT a1)))) (rb (aK bG (aO (ofP (items a1)) (fun d1=>(.ok true)) (fun d1=>(aM [(.ok (.fz d1)),(aD (rn n "_law_copy") [(ofP (getItem a1 d1))])])))) R.ok) (R.ok (.fz a1))):=by kernel_rfl
theorem uK:rn (n+1) "_law_same" [.fz a1,.fz a2]=(ifS (.ok (.fz (.bool (bT a2)))) (ifS (orS (unS .Not (.ok (.fz (.bool (bT a1))))) (aC (aK cI (ofP (dF a1))) .NotEq (aK cI (ofP (dF a2))))) (R.ok (.fz (.bool false))) (rb (aK cJ (aO (ofP (items a2)) (fun d1=>(.ok true)) (fun d1=>(aD (rn n "_law_same") [(ofP (getItem a1 d1)),(ofP (getItem a2 d1))])))) R.ok)) (rb (aV (.ok (.fz (.bool (fU a1)))) (aV (unS .Not (.ok (.fz (.bool (gE a1))))) (aN (ofP (cmp .Eq a1 a2))))) R.ok)):=by kernel_rfl
theorem Cs:rn (n+1) "_law_is_table" [.fz a1]=(ifS (unS .Not (.ok (.fz (.bool (bT a1))))) (R.ok (.fz (.bool false))) (rb (aC (aO (ofP (items a1)) (fun d1=>(tst (unS .Not (eW (so "dict") (ofP (getItem a1 d1)))))) (fun d1=>(.ok (.fz d1)))) .Eq (.ok (.own (.list [])))) R.ok)):=by kernel_rfl
theorem Ty:rn (n+1) "_law_high" [.fz a1,.fz a2,.fz a3]=(rb (aV (eW (so "int") (dL (so "get") (.ok (.fz a1)) [(.ok (.fz a2))])) (aC (ofP (getItem a1 a2)) .GtE (.ok (.fz a3)))) R.ok):=by kernel_rfl
noncomputable def cQ(o0 o1 o2 o3 o4 o5:Option V):aA:=[((so "_law_view_here"),o0),((so "_law_tree"),o1),((so "_law_one"),o2),((so "_law_other_here"),o3),((so "_law_key"),o4),((so "_law_found"),o5)]
noncomputable def pJ(n:Nat)(σ:aA)(kn:KN)(kr:KR):R V:=stm BB (so "_law_joins") n 23 (bI (List.drop 3 (aL BB (so "_law_joins")))) σ kn kr
noncomputable def pK:Expr:=bV (List.drop 3 (aL BB (so "_law_joins")))
noncomputable def uL(n:Nat)(σ:aA)(kn:KN)(kr:KR):R V:=stm BB (so "_law_joins") n 24 (List.drop 4 (aL BB (so "_law_joins"))) σ kn kr
theorem Tz:rn (n+1) "_law_joins" [.fz a1,.fz a2]=(rb (dL (so "get") (.ok (.fz a2)) [(ofP (getItem a1 (.int 1)))]) fun v1=>(rb (dL (so "get") (.ok (.fz a2)) [(ofP (getItem a1 (.int 2)))]) fun v2=>(ifS (orS (unS .Not (aD (rn n "_law_is_table") [(aW (V.cl v1))])) (unS .Not (aD (rn n "_law_is_table") [(aW (V.cl v2))]))) (R.ok (.fz .none)) (rb (plI (ofP (rdv (V.cl (V.cl v1))))) fun l3=>aQ (pJ n) pK l3 (cQ (ζ a1) (ζ a2) (some (V.cl (V.cl v1))) (some (V.cl v2)) none none) (fun σ=>uL n σ (fun _=>R.ok (.fz .none)) R.ok) R.ok)))):=by kernel_rfl
theorem T0:aR pK d0 (cQ p0 p1 p2 p3 p4 p5)=.ok (cQ p0 p1 p2 p3 (ζ d0) p5):=by kernel_rfl
theorem T3:pJ n (cQ (ζ x1) (ζ x2) (some w3) (some w4) (ζ d0) none) kn kr=(ifS (aC (aO (plI (aG (aU w3) (.ok (.fz d0)))) (fun d1=>(tst (aC (.ok (.fz d1)) .NotIn (ofP (getItem x1 (.int 3)))))) (fun d1=>(.ok (.fz d1)))) .NotEq (.ok (.own (.list [])))) (kr (.fz .none)) (kn (cQ (ζ x1) (ζ x2) (some w3) (some w4) (ζ d0) none))):=by kernel_rfl
noncomputable def pL(n:Nat)(σ:aA)(kn:KN)(kr:KR):R V:=stm BB (so "_law_joins") n 23 (bI (List.drop 4 (aL BB (so "_law_joins")))) σ kn kr
noncomputable def pM:Expr:=bV (List.drop 4 (aL BB (so "_law_joins")))
noncomputable def uM(n:Nat)(σ:aA)(kn:KN)(kr:KR):R V:=stm BB (so "_law_joins") n 24 (List.drop 5 (aL BB (so "_law_joins"))) σ kn kr
theorem T5:uL n (cQ (ζ x1) (ζ x2) (some w3) (some w4) o5 none) kn kr=(rb (plI (ofP (rdv (V.cl w4)))) fun l1=>aQ (pL n) pM l1 (cQ (ζ x1) (ζ x2) (some w3) (some (V.cl w4)) o5 none) (fun σ=>uM n σ kn kr) kr):=by kernel_rfl
theorem T6:aR pM d0 (cQ p0 p1 p2 p3 p4 p5)=.ok (cQ p0 p1 p2 p3 (ζ d0) p5):=by kernel_rfl
theorem T7:pL n (cQ (ζ x1) (ζ x2) (some w3) (some w4) (ζ d0) none) kn kr=(ifS (aC (aO (plI (aG (aU w4) (.ok (.fz d0)))) (fun d1=>(tst (aC (.ok (.fz d1)) .In (ofP (getItem x1 (.int 3)))))) (fun d1=>(.ok (.fz d1)))) .NotEq (.ok (.own (.list [])))) (kr (.fz .none)) (kn (cQ (ζ x1) (ζ x2) (some w3) (some w4) (ζ d0) none))):=by kernel_rfl
noncomputable def lJ(n:Nat)(σ:aA)(kn:KN)(kr:KR):R V:=stm BB (so "_law_joins") n 23 (bI (List.drop 6 (aL BB (so "_law_joins")))) σ kn kr
noncomputable def lK:Expr:=bV (List.drop 6 (aL BB (so "_law_joins")))
noncomputable def uN(n:Nat)(σ:aA)(kn:KN)(kr:KR):R V:=stm BB (so "_law_joins") n 24 (List.drop 7 (aL BB (so "_law_joins"))) σ kn kr
theorem T8:uM n (cQ (ζ x1) (ζ x2) (some w3) (some w4) o5 none) kn kr=(rb (plI (ofP (rdv (V.cl w3)))) fun l1=>aQ (lJ n) lK l1 (cQ (ζ x1) (ζ x2) (some (V.cl w3)) (some w4) o5 (some (.own (.dict [])))) (fun σ=>uN n σ kn kr) kr):=by kernel_rfl
theorem T9:aR lK d0 (cQ p0 p1 p2 p3 p4 p5)=.ok (cQ p0 p1 p2 p3 (ζ d0) p5):=by kernel_rfl
theorem Ua:lJ n (cQ (ζ x1) (ζ x2) (some w3) (some w4) (ζ d0) (some (.own x6))) kn kr=(ifS (aC (.ok (.fz d0)) .In (ofP (rdv (V.cl w4)))) (bD (aK bG (aB .Add (aK fB (aG (aU w3) (.ok (.fz d0)))) (aK fB (aG (aU (V.cl w4)) (.ok (.fz d0)))))) (.ok x6) (.ok (.fz d0)) fun o1=>(kn (cQ (ζ x1) (ζ x2) (some w3) (some (V.cl w4)) (ζ d0) (some (.own o1))))) (kn (cQ (ζ x1) (ζ x2) (some w3) (some (V.cl w4)) (ζ d0) (some (.own x6))))):=by kernel_rfl
theorem Ub:uN n (cQ (ζ x1) (ζ x2) (some w3) (some w4) o5 (some (.own x6))) kn kr=(rb (rn n "_law_copy" [.fz x6]) kr):=by kernel_rfl
theorem Uc:rn (n+1) "_law_several" [.fz a1]=(ifS (aC (aO (ofP (items a1)) (fun d1=>(tst (aC (ofP (getItem d1 (.int 1))) .Is (.ok (.fz .none))))) (fun d1=>(.ok (.fz d1)))) .NotEq (.ok (.own (.list [])))) (R.ok (.fz .none)) (rb (ofP (bG a1)) R.ok)):=by kernel_rfl
theorem Ud:rn (n+1) "_law_least" [.fz a1,.fz a2,.fz a3]=(rb (aO (plI (aK cI (ofP (dF a2)))) (fun d1=>(tst (eW (so "dict") (ofP (getItem a2 d1))))) (fun d1=>(ofP (getItem a2 d1)))) fun v2=>(rb (aO (plI (ofP (rdv (V.cl v2)))) (fun d3=>(tst (eW (so "int") (dL (so "get") (.ok (.fz d3)) [(.ok (.fz a3))])))) (fun d3=>(ofP (getItem d3 a3)))) fun v4=>(ifS (orS (aC (ofP (rdv (V.cl v4))) .Eq (.ok (.own (.list [])))) (aC (ofP (aF .Mod a1 (.int 3))) .Eq (.ok (.fz (.int 0))))) (rb (aB .Sub (aB .Mod (ofP (aF .FloorDiv a1 (.int 3))) (.ok (.fz (.int 7)))) (.ok (.fz (.int 3)))) R.ok) (rb (aB .Sub (aB .Add (aG (aU (V.cl (V.cl v4))) (aB .Mod (ofP (aF .FloorDiv a1 (.int 3))) (aK bL (ofP (rdv (V.cl (V.cl v4))))))) (aB .Mod (ofP (aF .FloorDiv a1 (.int 12))) (.ok (.fz (.int 3))))) (.ok (.fz (.int 1)))) R.ok)))):=by kernel_rfl
theorem Ct:rn (n+1) "_law_simple" [.fz a1,.fz a2,.fz a3]=(ifS (orS (unS .Not (.ok (.fz (.bool (bT a2))))) (aC (ofP (aF .Mod a1 (.int 4))) .Eq (.ok (.fz (.int 0))))) (R.ok (.fz (.tuple [(.str (so "whole"))]))) (rb (aK cI (ofP (dF a2))) fun v1=>(ifS (aV (aC (ofP (rdv (V.cl v1))) .NotEq (.ok (.own (.list [])))) (aC (ofP (aF .Mod a1 (.int 4))) .Lt (.ok (.fz (.int 3))))) (ifS (aC (ofP (aF .Mod a1 (.int 4))) .Eq (.ok (.fz (.int 1)))) (rb (aM [(.ok (.fz (.str (so "pick")))),(aG (aU (V.cl (V.cl v1))) (aB .Mod (ofP (aF .FloorDiv a1 (.int 4))) (aK bL (ofP (rdv (V.cl (V.cl v1)))))))]) R.ok) (rb (aG (.ok a3) (aB .Mod (ofP (aF .FloorDiv a1 (.int 16))) (.ok (.fz (.int 14))))) fun v2=>(ifS (aC (ofP (rdv (V.cl v2))) .NotIn (.ok (.fz a2))) (rb (aM [(.ok (.fz (.str (so "call")))),(aG (aU (V.cl (V.cl v1))) (aB .Mod (ofP (aF .FloorDiv a1 (.int 4))) (aK bL (ofP (rdv (V.cl (V.cl v1))))))),(ofP (rdv (V.cl (V.cl v2))))]) R.ok) (ifS (rn n "_law_is_table" [.fz a2]) (rb (aG (.ok a3) (aB .Add (.ok (.fz (.int 5))) (aB .Mod (ofP (aF .FloorDiv a1 (.int 4))) (.ok (.fz (.int 4)))))) fun v3=>(rb (aM [(.ok (.fz (.str (so "sift")))),(ofP (rdv (V.cl v3))),(aD (rn n "_law_least") [(ofP (aF .FloorDiv a1 (.int 16))),(.ok (.fz a2)),(aW (V.cl v3))])]) R.ok)) (R.ok (.fz (.tuple [(.str (so "whole"))]))))))) (ifS (rn n "_law_is_table" [.fz a2]) (rb (aG (.ok a3) (aB .Add (.ok (.fz (.int 5))) (aB .Mod (ofP (aF .FloorDiv a1 (.int 4))) (.ok (.fz (.int 4)))))) fun v4=>(rb (aM [(.ok (.fz (.str (so "sift")))),(ofP (rdv (V.cl v4))),(aD (rn n "_law_least") [(ofP (aF .FloorDiv a1 (.int 16))),(.ok (.fz a2)),(aW (V.cl v4))])]) R.ok)) (R.ok (.fz (.tuple [(.str (so "whole"))]))))))):=by kernel_rfl
theorem Ue:rn (n+1) "_law_small" [.fz a1,.fz a2,.fz a3]=(rb (aD (rn n "_law_simple") [(ofP (aF .FloorDiv a1 (.int 6))),(.ok (.fz a2)),(.ok (.fz a3))]) fun v1=>(ifS (orS (aC (ofP (aF .Mod a1 (.int 6))) .Lt (.ok (.fz (.int 2)))) (unS .Not (.ok (.fz (.bool (bT a2)))))) (dQ v1 R.ok) (rb (aK cI (ofP (dF a2))) fun v2=>(rb (aM [(.ok (.fz (.str (so "then")))),(ofP (rdv (V.cl v1))),(aD (rn n "_law_simple") [(ofP (aF .FloorDiv a1 (.int 7))),(aD (rn n "_law_seen") [(aW (V.cl v1)),(.ok (.fz a2))]),(.ok (.fz a3))])]) fun v3=>(ifS (aV (aC (ofP (aF .Mod a1 (.int 6))) .Gt (.ok (.fz (.int 2)))) (aC (ofP (rdv (V.cl v2))) .NotEq (.ok (.own (.list []))))) (rb (aG (aU (V.cl (V.cl v2))) (aB .Mod (ofP (aF .FloorDiv a1 (.int 6))) (aK bL (ofP (rdv (V.cl (V.cl v2))))))) fun v4=>(rb (aD (rn n "_law_simple") [(ofP (aF .FloorDiv a1 (.int 11))),(aG (.ok a2) (ofP (rdv (V.cl v4)))),(.ok (.fz a3))]) fun v5=>(rb (aG (cU (cA [(aM [(.ok (.fz (.str (so "each")))),(ofP (rdv (V.cl v5)))]),(aM [(.ok (.fz (.str (so "beside")))),(aM [(aM [(aG (.ok a3) (aB .Mod (ofP (aF .FloorDiv a1 (.int 36))) (.ok (.fz (.int 14))))),(ofP (rdv (V.cl (V.cl v4)))),(ofP (rdv (V.cl v5)))])])])])) (ofP (aF .Mod a1 (.int 2)))) fun v6=>(ifS (aV (aC (ofP (aF .Mod a1 (.int 6))) .Eq (.ok (.fz (.int 5)))) (aC (aB .Mod (ofP (aF .FloorDiv a1 (.int 6))) (.ok (.fz (.int 3)))) .Eq (.ok (.fz (.int 0))))) (rb (aM [(.ok (.fz (.str (so "join")))),(ofP (getItem a3 (.int 2))),(ofP (getItem a3 (.int 3))),(aK fA (cF (.ok a3) (some (.ok (.fz (.int 5)))) (some (.ok (.fz (.int 7))))))]) fun v7=>(rb (d8 (aC (aD (rn n "_law_seen") [(aW (V.cl v7)),(.ok (.fz a2))]) .Is (.ok (.fz .none))) (ofP (rdv (V.cl (V.cl v1)))) (ofP (rdv (V.cl v7)))) R.ok)) (rb (d8 (aC (aD (rn n "_law_seen") [(aW (V.cl v6)),(.ok (.fz a2))]) .Is (.ok (.fz .none))) (ofP (rdv (V.cl (V.cl v1)))) (ofP (rdv (V.cl v6)))) R.ok))))) (ifS (aV (aC (ofP (aF .Mod a1 (.int 6))) .Eq (.ok (.fz (.int 5)))) (aC (aB .Mod (ofP (aF .FloorDiv a1 (.int 6))) (.ok (.fz (.int 3)))) .Eq (.ok (.fz (.int 0))))) (rb (aM [(.ok (.fz (.str (so "join")))),(ofP (getItem a3 (.int 2))),(ofP (getItem a3 (.int 3))),(aK fA (cF (.ok a3) (some (.ok (.fz (.int 5)))) (some (.ok (.fz (.int 7))))))]) fun v8=>(rb (d8 (aC (aD (rn n "_law_seen") [(aW (V.cl v8)),(.ok (.fz a2))]) .Is (.ok (.fz .none))) (ofP (rdv (V.cl (V.cl v1)))) (ofP (rdv (V.cl v8)))) R.ok)) (rb (d8 (aC (aD (rn n "_law_seen") [(aW (V.cl v3)),(.ok (.fz a2))]) .Is (.ok (.fz .none))) (ofP (rdv (V.cl (V.cl v1)))) (ofP (rdv (V.cl v3)))) R.ok))))))):=by kernel_rfl
noncomputable def iO(o0 o1 o2 o3 o4 o5 o6:Option V):aA:=[((so "_law_more"),o0),((so "_law_tree"),o1),((so "_law_some"),o2),((so "_law_names_here"),o3),((so "_law_rows"),o4),((so "_law_j"),o5),((so "_law_part"),o6)]
noncomputable def uO(n:Nat)(σ:aA)(kn:KN)(kr:KR):R V:=stm BB (so "_law_wide") n 23 (bI (List.drop 1 (aL BB (so "_law_wide")))) σ kn kr
noncomputable def uP:Expr:=bV (List.drop 1 (aL BB (so "_law_wide")))
noncomputable def Cu(n:Nat)(σ:aA)(kn:KN)(kr:KR):R V:=stm BB (so "_law_wide") n 24 (List.drop 2 (aL BB (so "_law_wide"))) σ kn kr
theorem Uf:rn (n+1) "_law_wide" [.fz a1,.fz a2,.fz a3,.fz a4]=(rb (rgI (k9 [(ofP (bL a3)),(aB .Add (.ok (.fz (.int 1))) (aB .Mod (ofP (aF .FloorDiv a1 (.int 16))) (.ok (.fz (.int 6)))))])) fun l1=>aQ (uO n) uP l1 (iO (ζ a1) (ζ a2) (ζ a3) (ζ a4) (some (.own (.list []))) none none) (fun σ=>Cu n σ (fun _=>R.ok (.fz .none)) R.ok) R.ok):=by kernel_rfl
theorem Ug:aR uP d0 (iO p0 p1 p2 p3 p4 p5 p6)=.ok (iO p0 p1 p2 p3 p4 (ζ d0) p6):=by kernel_rfl
theorem Uh:uO n (iO (ζ x1) (ζ x2) (ζ x3) (ζ x4) (some (.own x5)) (ζ d0) o7) kn kr=(rb (aG (.ok x3) (aB .Mod (ofP (aF .Add x1 d0)) (ofP (bL x3)))) fun v1=>(gL (.ok x5) (so "append") [(aM [(aG (.ok x4) (aB .Mod (aB .Add (ofP (aF .FloorDiv x1 (.int 64))) (.ok (.fz d0))) (.ok (.fz (.int 14))))),(ofP (rdv (V.cl v1))),(aD (rn n "_law_small") [(aB .Add (ofP (aF .FloorDiv x1 (.int 7))) (ofP (aF .Mult (.int 5) d0))),(aG (.ok x2) (ofP (rdv (V.cl v1)))),(.ok (.fz x4))])])] fun o2=>(kn (iO (ζ x1) (ζ x2) (ζ x3) (ζ x4) (some (.own o2)) (ζ d0) (some (V.cl v1)))))):=by kernel_rfl
theorem Ui:Cu n (iO (ζ x1) (ζ x2) (ζ x3) (ζ x4) (some (.own x5)) o6 o7) kn kr=(rb (aM [(.ok (.fz (.str (so "beside")))),(ofP (fA x5))]) kr):=by kernel_rfl
theorem Uj:rn (n+1) "_law_piece" [.fz a1,.fz a2,.fz a3]=(rb (ofP (aF .Mod a1 (.int 10))) fun v1=>(rb (ofP (aF .FloorDiv a1 (.int 10))) fun v2=>(ifS (orS (unS .Not (.ok (.fz (.bool (bT a2))))) (aC (ofP (rdv (V.cl v1))) .Eq (.ok (.fz (.int 0))))) (R.ok (.fz (.tuple [(.str (so "whole"))]))) (rb (aK cI (ofP (dF a2))) fun v3=>(rb (aG (.ok a3) (aB .Add (.ok (.fz (.int 5))) (aB .Mod (ofP (rdv (V.cl v2))) (.ok (.fz (.int 4)))))) fun v4=>(rb (aM [(.ok (.fz (.str (so "sift")))),(ofP (rdv (V.cl v4))),(aD (rn n "_law_least") [(aB .FloorDiv (ofP (rdv (V.cl (V.cl v2)))) (.ok (.fz (.int 4)))),(.ok (.fz a2)),(aW (V.cl v4))])]) fun v5=>(ifS (aV (aC (ofP (rdv (V.cl (V.cl v1)))) .Lt (.ok (.fz (.int 3)))) (aC (ofP (rdv (V.cl v3))) .NotEq (.ok (.own (.list []))))) (rb (aM [(.ok (.fz (.str (so "pick")))),(aG (aU (V.cl (V.cl v3))) (aB .Mod (ofP (rdv (V.cl (V.cl (V.cl v2))))) (aK bL (ofP (rdv (V.cl (V.cl v3)))))))]) fun v6=>(dQ v6 R.ok)) (ifS (aV (aC (ofP (rdv (V.cl (V.cl (V.cl v1))))) .Eq (.ok (.fz (.int 3)))) (aV (aC (ofP (rdv (V.cl (V.cl v3)))) .NotEq (.ok (.own (.list [])))) (aC (aG (.ok a3) (aB .Mod (aB .FloorDiv (ofP (rdv (V.cl (V.cl (V.cl v2))))) (.ok (.fz (.int 16)))) (.ok (.fz (.int 14))))) .NotIn (ofP (rdv (V.cl (V.cl v3))))))) (rb (aM [(.ok (.fz (.str (so "call")))),(aG (aU (V.cl (V.cl (V.cl v3)))) (aB .Mod (ofP (rdv (V.cl (V.cl (V.cl (V.cl v2)))))) (aK bL (ofP (rdv (V.cl (V.cl (V.cl v3)))))))),(aG (.ok a3) (aB .Mod (aB .FloorDiv (ofP (rdv (V.cl (V.cl (V.cl (V.cl v2)))))) (.ok (.fz (.int 16)))) (.ok (.fz (.int 14)))))]) fun v7=>(dQ v7 R.ok)) (ifS (aV (aC (ofP (rdv (V.cl (V.cl (V.cl (V.cl v1)))))) .Eq (.ok (.fz (.int 4)))) (aC (ofP (rdv (V.cl (V.cl (V.cl v3))))) .NotEq (.ok (.own (.list []))))) (rb (aD (rn n "_law_wide") [(aW (V.cl (V.cl (V.cl (V.cl v2))))),(.ok (.fz a2)),(aW (V.cl (V.cl (V.cl (V.cl v3))))),(.ok (.fz a3))]) fun v8=>(dQ v8 R.ok)) (ifS (orS (aC (ofP (rdv (V.cl (V.cl (V.cl (V.cl (V.cl v1))))))) .Eq (.ok (.fz (.int 7)))) (aC (ofP (rdv (V.cl (V.cl (V.cl (V.cl (V.cl v1))))))) .Eq (.ok (.fz (.int 8))))) (rb (aB .Add (.ok (.fz (.int 5))) (aB .Mult (.ok (.fz (.int 2))) (aB .Mod (ofP (rdv (V.cl (V.cl (V.cl (V.cl v2)))))) (.ok (.fz (.int 2)))))) fun v9=>(rb (cF (.ok a3) (some (ofP (rdv (V.cl v9)))) (some (aB .Add (ofP (rdv (V.cl v9))) (.ok (.fz (.int 2)))))) fun v10=>(ifS (aC (aB .Mod (aB .FloorDiv (ofP (rdv (V.cl (V.cl (V.cl (V.cl (V.cl v2))))))) (.ok (.fz (.int 2)))) (.ok (.fz (.int 4)))) .Eq (.ok (.fz (.int 1)))) (rb (aB .Add (.ok (.fz (.int 4))) (aB .Mod (aB .FloorDiv (ofP (rdv (V.cl (V.cl (V.cl (V.cl (V.cl (V.cl v2)))))))) (.ok (.fz (.int 8)))) (.ok (.fz (.int 4))))) fun v11=>(rb (cF (.ok a3) (some (ofP (rdv (V.cl v11)))) (some (aB .Add (aB .Add (ofP (rdv (V.cl v11))) (.ok (.fz (.int 1)))) (aB .Mod (aB .FloorDiv (ofP (rdv (V.cl (V.cl (V.cl (V.cl (V.cl (V.cl (V.cl v2))))))))) (.ok (.fz (.int 32)))) (.ok (.fz (.int 6))))))) fun v12=>(rb (aM [(.ok (.fz (.str (so "join")))),(aG (.ok a3) (aB .Add (.ok (.fz (.int 2))) (aB .Mod (ofP (rdv (V.cl (V.cl (V.cl (V.cl (V.cl (V.cl (V.cl (V.cl v2)))))))))) (.ok (.fz (.int 2)))))),(aG (.ok a3) (aB .Sub (.ok (.fz (.int 3))) (aB .Mod (ofP (rdv (V.cl (V.cl (V.cl (V.cl (V.cl (V.cl (V.cl (V.cl v2)))))))))) (.ok (.fz (.int 2)))))),(aK fA (ofP (rdv (V.cl v12))))]) fun v13=>(dQ v13 R.ok)))) (rb (aM [(.ok (.fz (.str (so "join")))),(aG (.ok a3) (aB .Add (.ok (.fz (.int 2))) (aB .Mod (ofP (rdv (V.cl (V.cl (V.cl (V.cl (V.cl (V.cl v2)))))))) (.ok (.fz (.int 2)))))),(aG (.ok a3) (aB .Sub (.ok (.fz (.int 3))) (aB .Mod (ofP (rdv (V.cl (V.cl (V.cl (V.cl (V.cl (V.cl v2)))))))) (.ok (.fz (.int 2)))))),(aK fA (ofP (rdv (V.cl v10))))]) fun v14=>(dQ v14 R.ok))))) (ifS (aC (ofP (rdv (V.cl (V.cl (V.cl (V.cl (V.cl (V.cl v1)))))))) .Eq (.ok (.fz (.int 9)))) (rb (aM [(.ok (.fz (.str (so "each")))),(aD (rn n "_law_small") [(aB .FloorDiv (ofP (rdv (V.cl (V.cl (V.cl (V.cl v2)))))) (.ok (.fz (.int 5)))),(d8 (aC (ofP (rdv (V.cl (V.cl (V.cl (V.cl v3)))))) .NotEq (.ok (.own (.list [])))) (aG (.ok a2) (aG (aU (V.cl (V.cl (V.cl (V.cl v3))))) (aB .Mod (ofP (rdv (V.cl (V.cl (V.cl (V.cl v2)))))) (aK bL (ofP (rdv (V.cl (V.cl (V.cl (V.cl v3)))))))))) (.ok (.fz (.int 0)))),(.ok (.fz a3))])]) fun v15=>(dQ v15 R.ok)) (dQ v5 R.ok)))))))))))):=by kernel_rfl
theorem Uk:rn (n+1) "_law_fitting" [.fz a1,.fz a2,.fz a3]=(rb (rn n "_law_piece" [.fz a1,.fz a2,.fz a3]) fun v1=>(rb (d8 (aC (aD (rn n "_law_seen") [(aW (V.cl v1)),(.ok (.fz a2))]) .Is (.ok (.fz .none))) (.ok (.fz (.tuple [(.str (so "whole"))]))) (ofP (rdv (V.cl v1)))) R.ok)):=by kernel_rfl
noncomputable def cV(o0 o1 o2 o3 o4 o5 o6 o7 o8:Option V):aA:=[((so "_law_script"),o0),((so "_law_first"),o1),((so "_law_tree"),o2),((so "_law_names_here"),o3),((so "_law_pieces"),o4),((so "_law_now"),o5),((so "_law_k"),o6),((so "_law_view_here"),o7),((so "_law_piece_here"),o8)]
noncomputable def uQ(n:Nat)(σ:aA)(kn:KN)(kr:KR):R V:=stm BB (so "_law_view") n 23 (bI (List.drop 2 (aL BB (so "_law_view")))) σ kn kr
noncomputable def uR:Expr:=bV (List.drop 2 (aL BB (so "_law_view")))
noncomputable def uS(n:Nat)(σ:aA)(kn:KN)(kr:KR):R V:=stm BB (so "_law_view") n 24 (List.drop 3 (aL BB (so "_law_view"))) σ kn kr
theorem Ul:rn (n+1) "_law_view" [.fz a1,.fz a2,.fz a3,.fz a4]=(rb (rgI (aB .Add (.ok (.fz (.int 1))) (aB .Mod (rn n "_law_mixed" [.fz a1,.fz a2]) (.ok (.fz (.int 4)))))) fun l1=>aQ (uQ n) uR l1 (cV (ζ a1) (ζ a2) (ζ a3) (ζ a4) (some (.own (.list []))) (ζ a3) none none none) (fun σ=>uS n σ (fun _=>R.ok (.fz .none)) R.ok) R.ok):=by kernel_rfl
theorem Um:aR uR d0 (cV p0 p1 p2 p3 p4 p5 p6 p7 p8)=.ok (cV p0 p1 p2 p3 p4 p5 (ζ d0) p7 p8):=by kernel_rfl
theorem Un:uQ n (cV (ζ x1) (ζ x2) (ζ x3) (ζ x4) (some (.own x5)) (some w6) (ζ d0) none none) kn kr=(gL (.ok x5) (so "append") [(aD (rn n "_law_fitting") [(aD (rn n "_law_mixed") [(.ok (.fz x1)),(aB .Add (ofP (aF .Add x2 (.int 1))) (.ok (.fz d0)))]),(aW (V.cl w6)),(.ok (.fz x4))])] fun o1=>(rb (aD (rn n "_law_seen") [(aG (.ok o1) (unS .USub (.ok (.fz (.int 1))))),(aW (V.cl (V.cl w6)))]) fun v2=>(kn (cV (ζ x1) (ζ x2) (ζ x3) (ζ x4) (some (.own o1)) (some v2) (ζ d0) none none)))):=by kernel_rfl
noncomputable def lL(n:Nat)(σ:aA)(kn:KN)(kr:KR):R V:=stm BB (so "_law_view") n 22 (bI (jQ (List.drop 4 (aL BB (so "_law_view"))))) σ kn kr
noncomputable def lM:Expr:=bV (jQ (List.drop 4 (aL BB (so "_law_view"))))
noncomputable def Cv(n:Nat)(σ:aA)(kn:KN)(kr:KR):R V:=stm BB (so "_law_view") n 23 (List.drop 1 (jQ (List.drop 4 (aL BB (so "_law_view"))))) σ kn kr
noncomputable def lN(n:Nat)(σ:aA)(kn:KN)(kr:KR):R V:=stm BB (so "_law_view") n 23 (bI (List.drop 6 (aL BB (so "_law_view")))) σ kn kr
noncomputable def lO:Expr:=bV (List.drop 6 (aL BB (so "_law_view")))
noncomputable def uT(n:Nat)(σ:aA)(kn:KN)(kr:KR):R V:=stm BB (so "_law_view") n 24 (List.drop 7 (aL BB (so "_law_view"))) σ kn kr
theorem Uo:uS n (cV (ζ x1) (ζ x2) (ζ x3) (ζ x4) (some (.own x5)) (some w6) o7 none none) kn kr=(rb (ofP (getItem x5 (.int 0))) fun v1=>(ifS (aC (aB .Mod (aB .FloorDiv (rn n "_law_mixed" [.fz x1,.fz x2]) (.ok (.fz (.int 4)))) (.ok (.fz (.int 2)))) .Eq (.ok (.fz (.int 0)))) (rb (plI (cF (.ok x5) (some (.ok (.fz (.int 1)))) none)) fun l2=>aQ (lL n) lM l2 (cV (ζ x1) (ζ x2) (ζ x3) (ζ x4) (some (.own x5)) (some w6) o7 (some v1) none) (fun σ=>Cv n σ (fun σ=>stm BB (so "_law_view") n 24 (List.drop 5 (aL BB (so "_law_view"))) σ kn kr) kr) kr) (rb (aG (.ok x5) (unS .USub (.ok (.fz (.int 1))))) fun v3=>(rb (rvI (cF (.ok x5) none (some (unS .USub (.ok (.fz (.int 1))))))) fun l4=>aQ (lN n) lO l4 (cV (ζ x1) (ζ x2) (ζ x3) (ζ x4) (some (.own x5)) (some w6) o7 (some v3) none) (fun σ=>uT n σ kn kr) kr)))):=by kernel_rfl
theorem Up:aR lM d0 (cV p0 p1 p2 p3 p4 p5 p6 p7 p8)=.ok (cV p0 p1 p2 p3 p4 p5 p6 p7 (ζ d0)):=by kernel_rfl
theorem Uq:lL n (cV (ζ x1) (ζ x2) (ζ x3) (ζ x4) (some (.own x5)) (some w6) o7 (some w8) (ζ d0)) kn kr=(rb (aM [(.ok (.fz (.str (so "then")))),(ofP (rdv (V.cl w8))),(.ok (.fz d0))]) fun v1=>(kn (cV (ζ x1) (ζ x2) (ζ x3) (ζ x4) (some (.own x5)) (some w6) o7 (some v1) (ζ d0)))):=by kernel_rfl
theorem Ur:Cv n (cV (ζ x1) (ζ x2) (ζ x3) (ζ x4) (some (.own x5)) (some w6) o7 (some w8) o9) kn kr=(dQ w8 kr):=by kernel_rfl
theorem Us:aR lO d0 (cV p0 p1 p2 p3 p4 p5 p6 p7 p8)=.ok (cV p0 p1 p2 p3 p4 p5 p6 p7 (ζ d0)):=by kernel_rfl
theorem Ut:lN n (cV (ζ x1) (ζ x2) (ζ x3) (ζ x4) (some (.own x5)) (some w6) o7 (some w8) (ζ d0)) kn kr=(rb (aM [(.ok (.fz (.str (so "then")))),(.ok (.fz d0)),(ofP (rdv (V.cl w8)))]) fun v1=>(kn (cV (ζ x1) (ζ x2) (ζ x3) (ζ x4) (some (.own x5)) (some w6) o7 (some v1) (ζ d0)))):=by kernel_rfl
theorem Uu:uT n (cV (ζ x1) (ζ x2) (ζ x3) (ζ x4) (some (.own x5)) (some w6) o7 (some w8) o9) kn kr=(dQ w8 kr):=by kernel_rfl
theorem Uv:rn (n+1) "_law_other" [.fz a1,.fz a2,.fz a3]=(rb (ofP (aF .Mod a2 (.int 8))) fun v1=>(rb (ofP (aF .FloorDiv a2 (.int 8))) fun v2=>(ifS (aC (ofP (rdv (V.cl v1))) .Eq (.ok (.fz (.int 0)))) (rb (rn n "_law_copy" [.fz a1]) R.ok) (ifS (orS (unS .Not (.ok (.fz (.bool (bT a1))))) (aV (aC (ofP (rdv (V.cl (V.cl v1)))) .Eq (.ok (.fz (.int 1)))) (aC (aB .Mod (ofP (rdv (V.cl v2))) (.ok (.fz (.int 3)))) .Eq (.ok (.fz (.int 0)))))) (rb (aG (cU (cA [(aD (rn n "_law_number") [(aW (V.cl (V.cl v2)))]),(.ok (.own (.dict []))),(cO [((aG (.ok a3) (aB .Mod (ofP (rdv (V.cl (V.cl v2)))) (.ok (.fz (.int 14))))),(.ok (.fz (.int 1))))])])) (aB .Mod (aB .FloorDiv (ofP (rdv (V.cl (V.cl v2)))) (.ok (.fz (.int 14)))) (.ok (.fz (.int 3))))) R.ok) (rb (rn n "_law_copy" [.fz a1]) fun v3=>(rb (aK cI (ofP (dF a1))) fun v4=>(ifS (orS (aC (ofP (rdv (V.cl (V.cl (V.cl v1))))) .Eq (.ok (.fz (.int 2)))) (aC (ofP (rdv (V.cl v4))) .Eq (.ok (.own (.list []))))) (rb (cO [((ofP (getItem a3 (.int 5))),(aB .Sub (aB .Mod (ofP (rdv (V.cl (V.cl v2)))) (.ok (.fz (.int 9)))) (.ok (.fz (.int 2))))),((ofP (getItem a3 (.int 7))),(aB .Sub (aB .Mod (aB .FloorDiv (ofP (rdv (V.cl (V.cl v2)))) (.ok (.fz (.int 9)))) (.ok (.fz (.int 9)))) (.ok (.fz (.int 2))))),((ofP (getItem a3 (.int 6))),(.ok (.fz (.int 2)))),((ofP (getItem a3 (.int 8))),(.ok (.fz (.int 3))))]) fun v5=>(rb (aG (.ok a3) (aG (cU (cA [(aB .Add (.ok (.fz (.int 9))) (aB .Mod (aB .FloorDiv (ofP (rdv (V.cl (V.cl (V.cl v2))))) (.ok (.fz (.int 81)))) (.ok (.fz (.int 4))))),(aB .Mod (aB .FloorDiv (ofP (rdv (V.cl (V.cl (V.cl v2))))) (.ok (.fz (.int 81)))) (.ok (.fz (.int 14))))])) (aB .Mod (ofP (rdv (V.cl (V.cl (V.cl v2))))) (.ok (.fz (.int 2)))))) fun v6=>(bD (aG (cU (cA [(ofP (rdv (V.cl v5))),(aB .Mod (ofP (rdv (V.cl (V.cl (V.cl (V.cl v2)))))) (.ok (.fz (.int 7))))])) (aK gF (aC (aB .Mod (aB .FloorDiv (ofP (rdv (V.cl (V.cl (V.cl (V.cl v2)))))) (.ok (.fz (.int 3)))) (.ok (.fz (.int 5)))) .Eq (.ok (.fz (.int 1)))))) (ofP (dB v3)) (ofP (rdv v6)) fun o7=>(R.ok (.own o7))))) (rb (aG (aU (V.cl (V.cl v4))) (aB .Mod (ofP (rdv (V.cl (V.cl v2)))) (aK bL (ofP (rdv (V.cl (V.cl v4))))))) fun v8=>(ifS (aC (ofP (rdv (V.cl (V.cl (V.cl (V.cl v1)))))) .Eq (.ok (.fz (.int 3)))) (gL (ofP (dB v3)) (so "pop") [(ofP (rdv (V.cl v8)))] fun o9=>(R.ok (.own o9))) (ifS (aC (ofP (rdv (V.cl (V.cl (V.cl (V.cl (V.cl v1))))))) .Eq (.ok (.fz (.int 4)))) (rb (ofP ((dB v3).bind nU)) fun l10=>rb (ofP (rdv (V.cl v8))) fun k11=>rb (ofP (rR l10 (dOf k11))) fun q12=>rb (.ok (Prod.snd q12)) fun o14=>rb (aG (.ok a3) (aB .Mod (aB .FloorDiv (ofP (rdv (V.cl (V.cl v2)))) (.ok (.fz (.int 16)))) (.ok (.fz (.int 14))))) fun i15=>rb (ofP (setItem o14 (dOf i15) (Prod.fst q12))) fun o13=>(R.ok (.own o13))) (ifS (aC (ofP (rdv (V.cl (V.cl (V.cl (V.cl (V.cl (V.cl v1)))))))) .Eq (.ok (.fz (.int 5)))) (bD (aG (cU (cA [(aD (rn n "_law_number") [(aW (V.cl (V.cl (V.cl v2))))]),(.ok (.own (.dict [])))])) (aB .Mod (aB .FloorDiv (ofP (rdv (V.cl (V.cl (V.cl v2))))) (.ok (.fz (.int 8)))) (.ok (.fz (.int 2))))) (ofP (dB v3)) (ofP (rdv v8)) fun o16=>(R.ok (.own o16))) (bD (aD (rn n "_law_other") [(aG (.ok a1) (ofP (rdv (V.cl v8)))),(aB .FloorDiv (ofP (rdv (V.cl (V.cl (V.cl v2))))) (.ok (.fz (.int 8)))),(.ok (.fz a3))]) (ofP (dB v3)) (ofP (rdv (V.cl v8))) fun o17=>(R.ok (.own o17)))))))))))))):=by kernel_rfl
theorem Uw:rn (n+1) "_law_tried" [.fz a1,.fz a2,.fz a3]=(Cb BB (so "BadPut") (rn n "put" [.fz a1,.fz a2,.fz a3]) (fun y1=>(aM [(aK jA (jR BB y1 (so "way"))),(jR BB y1 (so "kind")),(aD (run BB n true (so "_law_copy")) [(jR BB y1 (so "part"))])])) (R.ok (.fz .none)) R.ok):=by kernel_rfl
noncomputable def dS(o0 o1 o2 o3 o4 o5:Option V):aA:=[((so "_law_piece_here"),o0),((so "_law_part"),o1),((so "_law_tables"),o2),((so "_law_key"),o3),((so "_law_k"),o4),((so "_law_fields"),o5)]
noncomputable def uU(n:Nat)(σ:aA)(kn:KN)(kr:KR):R V:=stm BB (so "_law_other_tree") n 23 (bI (List.drop 2 (aL BB (so "_law_other_tree")))) σ kn kr
noncomputable def uV:Expr:=bV (List.drop 2 (aL BB (so "_law_other_tree")))
noncomputable def Cw(n:Nat)(σ:aA)(kn:KN)(kr:KR):R V:=stm BB (so "_law_other_tree") n 24 (List.drop 3 (aL BB (so "_law_other_tree"))) σ kn kr
theorem Cx:rn (n+1) "_law_other_tree" [.fz a1,.fz a2]=(ifS (aC (ofP (getItem a1 (.int 0))) .Eq (.ok (.fz (.str (so "sift"))))) (R.ok (.fz a2)) (rb (ofP (items a2)) fun l1=>aQ (uU n) uV l1 (dS (ζ a1) (ζ a2) (some (.pil [.dict [],.dict []])) none none none) (fun σ=>Cw n σ (fun _=>R.ok (.fz .none)) R.ok) R.ok)):=by kernel_rfl
theorem Ux:aR uV d0 (dS p0 p1 p2 p3 p4 p5)=.ok (dS p0 p1 p2 (ζ d0) p4 p5):=by kernel_rfl
noncomputable def lP(n:Nat)(σ:aA)(kn:KN)(kr:KR):R V:=stm BB (so "_law_other_tree") n 22 (bI (bI (List.drop 2 (aL BB (so "_law_other_tree"))))) σ kn kr
noncomputable def pN:Expr:=bV (bI (List.drop 2 (aL BB (so "_law_other_tree"))))
noncomputable def uW(n:Nat)(σ:aA)(kn:KN)(kr:KR):R V:=stm BB (so "_law_other_tree") n 23 (List.drop 1 (bI (List.drop 2 (aL BB (so "_law_other_tree"))))) σ kn kr
theorem Uy:uU n (dS (ζ x1) (ζ x2) (some (.pil q3)) (ζ d0) o5 o6) kn kr=(rb (rgI (.ok (.fz (.int 2)))) fun l1=>aQ (lP n) pN l1 (dS (ζ x1) (ζ x2) (some (.pil q3)) (ζ d0) o5 o6) (fun σ=>uW n σ kn kr) kr):=by kernel_rfl
theorem Uz:Cw n (dS (ζ x1) (ζ x2) (some (.pil q3)) o4 o5 o6) kn kr=(rb (cO [((ofP (getItem x1 (.int 1))),(ofP (getItem (.list q3) (.int 0)))),((ofP (getItem x1 (.int 2))),(ofP (getItem (.list q3) (.int 1))))]) kr):=by kernel_rfl
theorem Cy:aR pN d0 (dS p0 p1 p2 p3 p4 p5)=.ok (dS p0 p1 p2 p3 (ζ d0) p5):=by kernel_rfl
theorem U0:lP n (dS (ζ x1) (ζ x2) (some (.pil q3)) (ζ x4) (ζ d0) o6) kn kr=(rb (aO (plI (ofP (getItem x2 x4))) (fun d1=>(tst (aC (aC (.ok (.fz d1)) .In (ofP (getItem x1 (.int 3)))) .Eq (aN (ofP (cmp .Eq d0 (.int 0))))))) (fun d1=>(.ok (.fz d1)))) fun v2=>(Rh (aK bG (aO (plI (ofP (rdv (V.cl v2)))) (fun d3=>(.ok true)) (fun d3=>(aM [(.ok (.fz d3)),(aG (cU (ofP (getItem x2 x4))) (.ok (.fz d3)))])))) q3 (.ok (.fz d0)) (.ok (.fz x4)) fun o4=>(kn (dS (ζ x1) (ζ x2) (some (.pil o4)) (ζ x4) (ζ d0) (some (V.cl v2)))))):=by kernel_rfl
theorem U1:uW n (dS (ζ x1) (ζ x2) (some (.pil q3)) (ζ x4) o5 o6) kn kr=(kn (dS (ζ x1) (ζ x2) (some (.pil q3)) (ζ x4) o5 o6)):=by kernel_rfl
noncomputable def pO(o0 o1 o2 o3 o4 o5:Option V):aA:=[((so "_law_view_here"),o0),((so "_law_told"),o1),((so "_law_way"),o2),((so "_law_kind"),o3),((so "_law_part"),o4),((so "_law_piece_here"),o5)]
noncomputable def Cz:Expr:=bV (aL BB (so "_law_is_so"))
noncomputable def C2(n:Nat)(σ:aA)(kn:KN)(kr:KR):R V:=stm BB (so "_law_is_so") n 24 (List.drop 1 (aL BB (so "_law_is_so"))) σ kn kr
theorem U2:rn (n+1) "_law_is_so" [.fz a1,.fz a2]=(rb (.ok (.fz a2)) fun v1=>rb (ofP (aR Cz (dOf v1) (pO (ζ a1) (ζ a2) none none none none))) fun σ=>C2 n σ (fun _=>R.ok (.fz .none)) R.ok):=by kernel_rfl
theorem U3:aR Cz (.tuple [d0,d1,d2]) (pO p0 p1 p2 p3 p4 p5)=.ok (pO p0 p1 (ζ d0) (ζ d1) (ζ d2) p5):=by kernel_rfl
theorem U4:C2 n (pO (ζ x1) (ζ x2) (ζ d0) (ζ d1) (ζ d2) none) kn kr=(rb (aD (rn n "piece_at") [(.ok (.fz x1)),(ofP (dF d0))]) fun v1=>(ifS (aN (ofP (cmp .Eq d1 (.str (so "form"))))) (rb (aD (rn n "_law_never") [(aW (V.cl v1)),(.ok (.fz d2))]) kr) (ifS (aD (rn n "_law_never") [(aW (V.cl v1)),(.ok (.fz d2))]) (kr (.fz (.bool false))) (ifS (aN (ofP (cmp .Eq d1 (.str (so "hidden"))))) (ifS (aC (aG (aU (V.cl v1)) (.ok (.fz (.int 0)))) .NotIn (.ok (.fz (.tuple [(.str (so "sift")),(.str (so "join"))])))) (kr (.fz (.bool false))) (rb (aD (rn n "_law_same") [(aD (rn n "show") [(aW (V.cl (V.cl v1))),(aD (rn n "_law_other_tree") [(aW (V.cl (V.cl v1))),(.ok (.fz d2))])]),(.ok (.fz d2))]) kr)) (rb (aV (aN (ofP (cmp .Eq d1 (.str (so "names"))))) (aC (aG (aU (V.cl v1)) (.ok (.fz (.int 0)))) .Eq (.ok (.fz (.str (so "each")))))) kr))))):=by kernel_rfl
noncomputable def gQ(o0 o1 o2 o3 o4 o5 o6 o7 o8 o9:Option V):aA:=[((so "_law_script"),o0),((so "_law_names_here"),o1),((so "_law_tree"),o2),((so "_law_turn"),o3),((so "_law_cell"),o4),((so "_law_view_here"),o5),((so "_law_new"),o6),((so "_law_told"),o7),((so "_law_whole"),o8),((so "_law_beside"),o9)]
noncomputable def lQ(n:Nat)(σ:aA)(kn:KN)(kr:KR):R V:=stm BB (so "law") n 23 (bI (List.drop 2 (aL BB (so "law")))) σ kn kr
noncomputable def lR:Expr:=bV (List.drop 2 (aL BB (so "law")))
noncomputable def C3(n:Nat)(σ:aA)(kn:KN)(kr:KR):R V:=stm BB (so "law") n 24 (List.drop 3 (aL BB (so "law"))) σ kn kr
theorem U5:rn (n+1) "law" [.fz a1]=(rb (rn n "_law_names" [.fz a1]) fun v1=>(rb (aD (rn n "_law_house") [(.ok (.fz a1)),(aW (V.cl v1))]) fun v2=>(rb (enI (cF (.ok a1) (some (.ok (.fz (.int 2)))) (some (.ok (.fz (.int 14)))))) fun l3=>aQ (lQ n) lR l3 (gQ (ζ a1) (some (V.cl v1)) (some v2) none none none none none none none) (fun σ=>C3 n σ (fun _=>R.ok (.fz .none)) R.ok) R.ok))):=by kernel_rfl
theorem U6:aR lR (.tuple [d0,d1]) (gQ p0 p1 p2 p3 p4 p5 p6 p7 p8 p9)=.ok (gQ p0 p1 p2 (ζ d0) (ζ d1) p5 p6 p7 p8 p9):=by kernel_rfl
theorem U7:lQ n (gQ (ζ x1) (some w2) (some w3) (ζ d0) (ζ d1) o6 o7 o8 o9 o10) kn kr=(rb (aD (rn n "_law_view") [(.ok (.fz x1)),(aB .Add (.ok (.fz (.int 400))) (ofP (aF .Mult (.int 9) d0))),(aW (V.cl w3)),(aW (V.cl w2))]) fun v1=>(rb (aD (rn n "_law_other") [(aD (rn n "_law_seen") [(aW (V.cl v1)),(aW (V.cl (V.cl w3)))]),(aB .Add (ofP (aF .FloorDiv d1 (.int 3))) (.ok (.fz d0))),(aW (V.cl (V.cl w2)))]) fun v2=>(rb (aD (rn n "_law_other") [(aW (V.cl v2)),(aB .Mult (ofP (aF .FloorDiv d1 (.int 11))) (ofP (aF .Mod d1 (.int 2)))),(aW (V.cl (V.cl (V.cl w2))))]) fun v3=>(rb (aD (rn n "_law_tried") [(aW (V.cl (V.cl v1))),(aW (V.cl (V.cl (V.cl w3)))),(aW (V.cl v3))]) fun v4=>(ifS (aC (ofP (rdv (V.cl v4))) .IsNot (.ok (.fz .none))) (ifS (unS .Not (aD (rn n "_law_is_so") [(aW (V.cl (V.cl (V.cl v1)))),(aW (V.cl (V.cl v4)))])) (kr (.fz (.bool false))) (rb (aM [(.ok (.fz (.str (so "then")))),(ofP (rdv (V.cl (V.cl (V.cl (V.cl v1)))))),(.ok (.fz (.tuple [(.str (so "whole"))])))]) fun v5=>(ifS (aC (aD (rn n "_law_tried") [(aW (V.cl v5)),(aW (V.cl (V.cl (V.cl (V.cl w3))))),(aW (V.cl (V.cl v3)))]) .NotEq (aM [(aB .Add (cA [(.ok (.fz (.int 0)))]) (aG (aU (V.cl (V.cl v4))) (.ok (.fz (.int 0))))),(aG (aU (V.cl (V.cl v4))) (.ok (.fz (.int 1)))),(aG (aU (V.cl (V.cl v4))) (.ok (.fz (.int 2))))])) (kr (.fz (.bool false))) (rb (aM [(.ok (.fz (.str (so "beside")))),(aM [(aM [(.ok (.fz (.str (so "a")))),(.ok (.fz (.str (so "a")))),(ofP (rdv (V.cl (V.cl (V.cl (V.cl (V.cl v1)))))))])])]) fun v6=>(ifS (aC (aD (rn n "_law_tried") [(aW (V.cl v6)),(cO [((.ok (.fz (.str (so "a")))),(ofP (rdv (V.cl (V.cl (V.cl (V.cl (V.cl w3))))))))]),(cO [((.ok (.fz (.str (so "a")))),(ofP (rdv (V.cl (V.cl (V.cl v3))))))])]) .NotEq (aM [(aB .Add (cA [(.ok (.fz (.str (so "a"))))]) (aG (aU (V.cl (V.cl v4))) (.ok (.fz (.int 0))))),(aG (aU (V.cl (V.cl v4))) (.ok (.fz (.int 1)))),(aG (aU (V.cl (V.cl v4))) (.ok (.fz (.int 2))))])) (kr (.fz (.bool false))) (kn (gQ (ζ x1) (some (V.cl (V.cl (V.cl w2)))) (some (V.cl (V.cl (V.cl (V.cl (V.cl w3)))))) (ζ d0) (ζ d1) (some (V.cl (V.cl (V.cl (V.cl (V.cl v1)))))) (some (V.cl (V.cl (V.cl v3)))) (some (V.cl (V.cl v4))) (some (V.cl v5)) (some (V.cl v6))))))))) (ifS (unS .Not (aD (rn n "_law_same") [(aD (rn n "show") [(aW (V.cl (V.cl (V.cl v1)))),(aD (rn n "put") [(aW (V.cl (V.cl (V.cl v1)))),(aW (V.cl (V.cl (V.cl (V.cl w3))))),(aW (V.cl (V.cl v3)))])]),(aW (V.cl (V.cl v3)))])) (kr (.fz (.bool false))) (kn (gQ (ζ x1) (some (V.cl (V.cl (V.cl w2)))) (some (V.cl (V.cl (V.cl (V.cl w3))))) (ζ d0) (ζ d1) (some (V.cl (V.cl (V.cl v1)))) (some (V.cl (V.cl v3))) (some (V.cl v4)) o9 o10)))))))):=by kernel_rfl
theorem U8:C3 n (gQ (ζ x1) (some w2) (some w3) o4 o5 o6 o7 o8 o9 o10) kn kr=(kr (.fz (.bool true))):=by kernel_rfl
theorem uX:run BB (n+1) true (so "_law_copy") [.fz a1]=(ifS (.ok (.fz (.bool (bT a1)))) (rb (aK bG (aO (heI (.ok (.fz a1))) (fun d1=>(.ok true)) (fun d1=>(aM [(.ok (.fz d1)),(aD (run BB n true (so "_law_copy")) [(ofP (getItem a1 d1))])])))) R.ok) (R.ok (.fz a1))):=by kernel_rfl
end Mine.Internal
namespace Mine.Internal
open Classical PySem
inductive T where
 |num (i:Int)
 |br (f:Str→Option T)
set_option genInjectivity false in
inductive W where
 |whole
 |pick (n:Str)
 |call (a b:Str)
 |sift (f:Str) (l:Int)
 |join (a b:Str) (fs:List Str)
 |each (v:W)
 |andThen (a b:W)
 |beside (r:W)
 |bnil
 |bcons (n p:Str) (v r:W)
noncomputable def grd{α:Type}(p:Prop)(x:Option α):Option α:=if p then x else none
theorem cB{α:Type}{p:Prop}(h:p)(x:Option α):grd p x=x:=if_pos h
theorem cW{α:Type}{p:Prop}(h:¬ p)(x:Option α):grd p x=none:=if_neg h
theorem dN{α:Type}{p:Prop}{x:Option α}{y:α}(h:grd p x=some y):p∧x=some y:=by
 by_cases e:p
 ·rw[cB e] at h;exact⟨e,h⟩
 ·rw[cW e] at h;exact ns h
noncomputable def T.get:T→Str→Option T
 | .num _,_=>none
 | .br f,k=>f k
theorem bW(f:Str→Option T)(k:Str):(T.br f).get k=f k:=rfl
noncomputable def upd(f:Str→Option T)(k:Str)(x:Option T):Str→Option T:=fun j=>if j=k then x else f j
def bQ(f:Str→Option T):Prop:=∀ k t,f k=some t→∃ g,t=.br g
def cK(a:Str)(l:Int)(t:T):Prop:=∃ i,t.get a=some (.num i)∧l≤i
structure FitJ(fs:List Str)(g h:Str→Option T):Prop where
 ga:bQ g
 ha:bQ h
 gf:∀ k t,g k=some t→∀ x,(t.get x).isSome=true→x∈fs
 hf:∀ k t,h k=some t→∀ x,(t.get x).isSome=true→x∉fs
noncomputable def pP(r s:T):T:=.br fun x=>(s.get x).or (r.get x)
noncomputable def gA(g h:Str→Option T):Str→Option T:=fun k=>(g k).bind fun r=>(h k).bind fun s=>some (pP r s)
noncomputable def W.names:W→List Str
 | .bcons n _ _ r=>n::r.names
 |_=>[]
noncomputable def W.parts:W→List Str
 | .bcons _ p _ r=>p::r.parts
 |_=>[]
theorem fK:W.bnil.names=[]:=rfl
theorem fL(n p:Str)(v r:W):(W.bcons n p v r).names=n::r.names:=rfl
theorem fM:W.bnil.parts=[]:=rfl
theorem fN(n p:Str)(v r:W):(W.bcons n p v r).parts=p::r.parts:=rfl
noncomputable def W.isRows:W→Bool
 | .bcons _ _ _ _=>true
 | .bnil=>true
 |_=>false
noncomputable def gB(x y:Str)(g:Str→Option T):Str→Option T:=fun k=>if k=y then g x else if k=x then none else g k
noncomputable def gR(a:Str)(l:Int)(g:Str→Option T):Str→Option T:=fun k=>(g k).bind fun x=>grd (cK a l x) (some x)
noncomputable def C4(fs:List Str)(x y:T):Option T:=match x with
 | .num _=>none
 | .br g=>match y with
  | .num _=>none
  | .br h=>grd (FitJ fs g h) (some (.br (gA g h)))
theorem dH{α β:Type}{o:Option α}{k:α→Option β}{y:β}(h:o.bind k=some y):∃ x,o=some x∧k x=some y:=by
 cases o with
 |none=>exact ns h
 |some x=>exact⟨x,rfl,h⟩
noncomputable def aI:W→T→Option T
 | .whole,t=>some t
 | .pick n,t=>t.get n
 | .call a b,t=>grd ((t.get a).isSome=true∧t.get b=none) (some (.br (gB a b t.get)))
 | .sift a l,t=>match t with
  | .num _=>none
  | .br g=>grd (bQ g) (some (.br (gR a l g)))
 | .join a b fs,t=>(t.get a).bind fun x=>(t.get b).bind fun y=>C4 fs x y
 | .each v,t=>match t with
  | .num _=>none
  | .br g=>grd (∀ k x,g k=some x→(aI v x).isSome=true) (some (.br fun k=>(g k).bind (aI v)))
 | .andThen a b,t=>(aI a t).bind (aI b)
 | .beside r,t=>aI r t
 | .bnil,t=>some (.br fun _=>none)
 | .bcons n p v r,t=>(t.get p).bind fun x=>(aI v x).bind fun y=>(aI r t).bind fun z=>some (.br (upd z.get n (some y)))
noncomputable def bC(P:Str→Prop)(one other new:Str→Option T):Str→Option T:=fun k=>match new k with
 |some x=>some (.br fun f=>grd (P f) (x.get f))
 |none=>if (other k).isSome then none else one k
noncomputable def aP:W→T→T→Option T
 | .whole,_,new=>some new
 | .pick n,old,new=>some (.br (upd old.get n (some new)))
 | .call a b,_,new=>grd ((new.get b).isSome=true∧new.get a=none) (some (.br (gB b a new.get)))
 | .sift a l,old,new=>match new with
  | .num _=>none
  | .br h=>grd ((bQ h∧∀ k x,h k=some x→cK a l x)∧∀ k x,(h k).isSome=true→old.get k=some x→cK a l x)
    (some (.br fun k=>(h k).or ((old.get k).bind fun x=>grd (¬ cK a l x) (some x))))
 | .join a b fs,old,new=>match new with
  | .num _=>none
  | .br h=>(old.get a).bind fun one=>(old.get b).bind fun other =>
   grd (bQ h∧∀ k,(h k).isSome=true→((one.get k).isSome=(other.get k).isSome))
    (some (.br (upd (upd old.get a (some (.br (bC (fun f=>f∈fs) one.get other.get h)))) b (some (.br (bC (fun f=>f∉fs) other.get one.get h))))))
 | .each v,old,new=>match new with
  | .num _=>none
  | .br h=>grd ((∀ k,(h k).isSome=(old.get k).isSome)∧∀ k x y,old.get k=some x→h k=some y→(aP v x y).isSome=true)
    (some (.br fun k=>(old.get k).bind fun x=>(h k).bind fun y=>aP v x y))
 | .andThen a b,old,new=>(aI a old).bind fun m=>(aP b m new).bind fun mid=>aP a old mid
 | .beside r,old,new=>match new with
  | .num _=>none
  | .br h=>grd (∀ k,(h k).isSome=true↔k∈r.names) (aP r old new)
 | .bnil,old,_=>some old
 | .bcons n p v r,old,new=>(old.get p).bind fun o=>(new.get n).bind fun x=>(aP v o x).bind fun y=>(aP r old new).bind fun z=>some (.br (upd z.get p (some y)))
def W.wf:W→Prop
 | .call a b=>a≠b
 | .join a b _=>a≠b
 | .each v=>v.wf∧v.isRows=false
 | .andThen a b=>(a.wf∧a.isRows=false)∧b.wf∧b.isRows=false
 | .beside r=>r.wf∧r.isRows=true
 | .bcons n p v r=>(v.wf∧v.isRows=false)∧(r.wf∧r.isRows=true)∧n∉r.names∧p∉r.parts
 |_=>True
theorem pQ{a b:Str}{fs:List Str}{t:T}{g h:Str→Option T}(ha:t.get a=some (.br g))(hb:t.get b=some (.br h)):aI (.join a b fs) t=grd (FitJ fs g h) (some (.br (gA g h))):=by
 show((t.get a).bind fun x=>(t.get b).bind fun y=>C4 fs x y)=_;rw[ha,hb];rfl
theorem pR{a b:Str}{fs:List Str}{t s:T}(e:aI (.join a b fs) t=some s):∃ g h,t.get a=some (.br g)∧t.get b=some (.br h)∧FitJ fs g h∧s=.br (gA g h):=by
 obtain⟨x,h1,e⟩:=dH e;obtain⟨y,h2,e⟩:=dH e;cases x with
 |num i=>exact ns e
 |br g =>
  cases y with
  |num i=>exact ns e
  |br h =>
   obtain⟨F,e⟩:=dN e;obtain rfl:=si e;exact⟨g,h,h1,h2,F,rfl⟩
def U9(w:W):Prop:=∀ old new s r,aI w old=some s→aP w old new=some r→aI w r=some new
def Va(w:W):Prop:=∀ old new s z,aI w old=some s→aP w old new=some z→(∀ k,k∉w.parts→z.get k=old.get k) ∧
  ∀ z':T,(∀ k,k∈w.parts→z'.get k=z.get k)→∃ t,aI w z'=some (.br t)∧∀ k,t k=if k∈w.names then new.get k else none
structure PGs(w:W):Prop where
 a:w.isRows=false→U9 w
 b:w.isRows=true→Va w
def PG(w:W):Prop:=w.wf→PGs w
theorem pg:∀ w:W,PG w:=by
 intro w
 induction w with
 |whole=>exact fun _=>⟨fun _ old new s r h1 h2=>by cases h2;rfl,fun h=>(by cases h)⟩
 |pick n =>
  refine fun _=>⟨fun _ old new s r h1 h2=>?_,fun h=>(by exact bft h)⟩
  obtain rfl:=si h2;show upd old.get n (some new) n=_;simp[upd]
 |call a b =>
  refine fun hw=>⟨fun _ old new s r h1 h2=>?_,fun h=>(by exact bft h)⟩
  have hab:a≠b:=hw;obtain⟨hc,h2⟩:=dN h2;obtain rfl:=si h2;cases new with
  |num i=>cases hc.1
  |br g =>
   simp only[bW] at hc;refine(cB ?_ _).trans ?_
   ·simp only[bW,gB];simp[hc.1,hab.symm]
   ·congr 2;funext k;simp only[bW,gB]
    by_cases e1:k=b
    ·subst e1;simp
    ·by_cases e2:k=a
     ·subst e2;simp[e1,hc.2]
     ·simp[e1,e2]
 |sift a l =>
  refine fun hw=>⟨fun _ old new s r h1 h2=>?_,fun h=>(by exact bft h)⟩
  cases new with
  |num i=>exact ns h2
  |br h =>
   refine hde fun _ θ=>?_;obtain⟨⟨⟨hb,hs⟩,ho⟩,h2⟩:=dN h2;apply θ;obtain rfl:=si h2;cases old with
   |num i=>exact ns h1
   |br g =>
    obtain⟨hg,h1⟩:=dN h1;refine(cB ?_ _).trans ?_
    ·intro k t hk;simp only[bW] at hk;cases e:h k with
     |some x =>
      rw[e] at hk;cases hk;exact hb k t e
     |none =>
      rw[e,Option.none_or] at hk;cases gk:g k with
      |none=>rw[gk] at hk;exact ns hk
      |some x =>
       rw[gk] at hk;obtain⟨_,e⟩:=dN hk;obtain rfl:=si e;exact hg k _ gk
    ·congr 2;funext k;simp only[gR,bW];cases hk:h k with
     |some x=>simp[cB (hs k x hk)]
     |none =>
      cases gk:g k with
      |none=>rfl
      |some x=>by_cases e:cK a l x<;>simp[e,grd]
 |join a b fs =>
  refine fun hw=>⟨fun _ old new s r h1 h2=>?_,fun h=>(by exact bft h)⟩
  have hab:a≠b:=hw;cases new with
  |num i=>exact ns h2
  |br h =>
   refine hde fun _ θ=>?_;obtain⟨g,o,ga,oa,F,_⟩:=pR h1;replace h2:((old.get a).bind fun one=>(old.get b).bind fun other=>grd (bQ h∧∀ k,(h k).isSome=true→((one.get k).isSome=(other.get k).isSome)) (some (T.br (upd (upd old.get a (some (.br (bC (fun f=>f∈fs) one.get other.get h)))) b (some (.br (bC (fun f=>f∉fs) other.get one.get h)))))))=some r:=h2;rw[ga,oa] at h2;obtain⟨hc,h2⟩:=dN h2;apply θ;obtain rfl:=si h2;have e1:upd (upd old.get a (some (.br (bC (fun f=>f∈fs) g o h)))) b (some (.br (bC (fun f=>f∉fs) o g h))) a=some (.br (bC (fun f=>f∈fs) g o h)):=by simp[upd,hab]
   have e2:upd (upd old.get a (some (.br (bC (fun f=>f∈fs) g o h)))) b (some (.br (bC (fun f=>f∉fs) o g h))) b=some (.br (bC (fun f=>f∉fs) o g h)):=by simp[upd]
   have e1':(T.br (upd (upd old.get a (some (.br (bC (fun f=>f∈fs) g o h)))) b (some (.br (bC (fun f=>f∉fs) o g h))))).get a=_:=e1;have e2':(T.br (upd (upd old.get a (some (.br (bC (fun f=>f∈fs) g o h)))) b (some (.br (bC (fun f=>f∉fs) o g h))))).get b=_:=e2;refine(pQ e1' e2').trans ((cB ?_ _).trans ?_)
   ·refine⟨fun k t ht=>?_,fun k t ht=>?_,fun k t ht x hx=>?_,fun k t ht x hx=>?_⟩
    ·simp only[bC] at ht
     split at ht
     ·obtain rfl:=si ht;exact⟨_,rfl⟩
     ·split at ht
      ·exact ns ht
      ·exact F.ga k t ht
    ·simp only[bC] at ht
     split at ht
     ·obtain rfl:=si ht;exact⟨_,rfl⟩
     ·split at ht
      ·exact ns ht
      ·exact F.ha k t ht
    ·simp only[bC] at ht
     split at ht
     ·obtain rfl:=si ht;simp only[bW,grd] at hx
      by_cases e:x∈fs
      ·exact e
      ·simp[e] at hx
     ·split at ht
      ·exact ns ht
      ·exact F.gf k t ht x hx
    ·simp only[bC] at ht
     split at ht
     ·obtain rfl:=si ht;simp only[bW,grd] at hx
      by_cases e:x∈fs
      ·simp[e] at hx
      ·exact e
     ·split at ht
      ·exact ns ht
      ·exact F.hf k t ht x hx
   ·congr 2;funext k;simp only[gA,bC];cases hk:h k with
    |some x =>
     obtain⟨x,rfl⟩:=hc.1 k x hk;simp only[Option.bind_some,pP,bW,Option.some.injEq,T.br.injEq,grd];funext f
     by_cases e:f∈fs<;>simp[e]
    |none =>
     cases gk:g k<;>cases ok:o k<;>simp
 |each v ih =>
  refine fun hw=>⟨fun _ old new s r h1 h2=>?_,fun h=>(by exact bft h)⟩
  have ih:=(ih hw.1).1 hw.2;cases new with
  |num i=>exact ns h2
  |br h =>
   cases old with
   |num i=>exact ns h1
   |br g =>
    refine hde fun _ θ=>?_;obtain⟨hs,h1⟩:=dN h1;obtain⟨hc,h2⟩:=dN h2;apply θ;obtain rfl:=si h2;have key:∀ k,((g k).bind fun x=>(h k).bind fun y=>aP v x y).bind (aI v)=h k∧∀ z,((g k).bind fun x=>(h k).bind fun y=>aP v x y)=some z→(aI v z).isSome=true:=by
     intro k;cases gk:g k with
     |none =>
      cases hk:h k with
      |none=>exact⟨rfl,fun z hz=>by exact ns hz⟩
      |some y=>have:=hc.1 k;rw[bW,gk,hk] at this;exact btf this
     |some x =>
      cases hk:h k with
      |none=>have:=hc.1 k;rw[bW,gk,hk] at this;exact bft this
      |some y =>
       simp only[Option.bind_some];have hp:=hc.2 k x y gk hk;cases pk:aP v x y with
       |none=>rw[pk] at hp;exact bft hp
       |some z =>
        have hx:=hs k x gk;cases sk:aI v x with
        |none=>rw[sk] at hx;exact bft hx
        |some s' =>
         have:=ih x y s' z sk pk;refine⟨this,fun z' hz=>?_⟩;obtain rfl:=si hz;rw[this];rfl
    refine(cB (fun k x hx=>(key k).2 x hx) _).trans ?_;congr 2;funext k;exact(key k).1
 |andThen a b iha ihb =>
  refine fun hw=>⟨fun _ old new s r h1 h2=>?_,fun h=>(by exact bft h)⟩
  have iha:=(iha hw.1.1).1 hw.1.2;have ihb:=(ihb hw.2.1).1 hw.2.2;refine hde fun _ θ=>?_;obtain⟨m,sa,h1⟩:=dH h1;obtain⟨m',sa',h2⟩:=dH h2;rw[sa] at sa';cases sa';obtain⟨mid,pb,h2⟩:=dH h2;apply θ;show(aI a r).bind (aI b)=_;rw[iha old mid m r sa h2];exact ihb m new s mid h1 pb
 |beside r ih =>
  refine fun hw=>⟨fun _ old new s z h1 h2=>?_,fun h=>(by exact bft h)⟩
  have ih:=(ih hw.1).2 hw.2;cases new with
  |num i=>exact ns h2
  |br h =>
   refine hde fun _ θ=>?_;obtain⟨hc,h2⟩:=dN h2;obtain⟨t,e1,e2⟩:=(ih old (.br h) s z h1 h2).2 z fun _ _=>rfl;apply θ;show aI r z=_;rw[e1];congr 2;funext k;rw[e2 k]
   split
   ·rfl
   ·rename_i hn;cases hk:h k with
    |none=>rfl
    |some x=>exact absurd ((hc k).mp (by rw[hk];rfl)) hn
 |bnil =>
  refine fun hw=>⟨fun h=>(by exact btf h),fun _ old new s z h1 h2=>?_⟩
  obtain rfl:=si h2;exact⟨fun _ _=>rfl,fun z' _=>⟨_,rfl,fun k=>by simp[fK,fL]⟩⟩
 |bcons n p v r ihv ihr =>
  refine fun hw=>⟨fun h=>(by exact btf h),fun _ old new s z h1 h2=>?_⟩
  refine hde fun _ θ=>?_;obtain⟨⟨v1,v2⟩,⟨r1,r2⟩,hn,hp⟩:=hw;have ihv:=(ihv v1).1 v2;have ihr:=(ihr r1).2 r2;obtain⟨o,op,h1⟩:=dH h1;obtain⟨so,sv,h1⟩:=dH h1;obtain⟨s1,sr,_⟩:=dH h1;obtain⟨o',op',h2⟩:=dH h2;rw[op] at op';cases op';obtain⟨x,nn,h2⟩:=dH h2;obtain⟨y,pv,h2⟩:=dH h2;obtain⟨z1,pr,h2⟩:=dH h2;obtain rfl:=si h2;obtain⟨q1,q2⟩:=ihr old new s1 z1 sr pr;apply θ;refine⟨fun k hk=>?_,fun z' hz=>?_⟩
  ·have hk1:k≠p:=fun e=>hk (by simp[fM,fN,e]);have hk2:k∉r.parts:=fun e=>hk (by simp[fM,fN,e]);show upd z1.get p (some y) k=_;simp only[upd,if_neg hk1];exact q1 k hk2
  ·have zp:z'.get p=some y:=by
    rw[hz p (by simp[fM,fN])];simp[bW,upd]
   refine hde fun _ θ=>?_;obtain⟨t,e1,e2⟩:=q2 z' fun k hk=>by
    rw[hz k (by simp[fM,fN,hk])];have:k≠p:=fun e=>hp (e▸hk);simp[bW,upd,this]
   apply θ;have hv:=ihv o x so y sv pv;refine⟨upd t n (some x),?_,fun k=>?_⟩
   ·show((z'.get p).bind fun x=>(aI v x).bind fun y=>(aI r z').bind fun z=>some (T.br (upd z.get n (some y))))=_;rw[zp,Option.bind_some,hv,Option.bind_some,e1];rfl
   simp only[upd,bW,fK,fL,List.mem_cons]
   by_cases e:k=n
   ·subst e;simp only[true_or,if_true];exact nn.symm
   ·simp only[e,if_false,false_or];exact e2 k
theorem C5{w:W}(hw:w.wf)(hr:w.isRows=false){old new s r:T}(h1:aI w old=some s)(h2:aP w old new=some r):aI w r=some new:=(pg w hw).1 hr old new s r h1 h2
def ltS(a b:Str):Prop:=a.cps.toList < b.cps.toList
set_option genInjectivity false in
structure Rf where
 way:List PyData
 kind:Str
 part:T
noncomputable def dI:Str:=so "form"
noncomputable def dC:Str:=so "hidden"
noncomputable def lU:Str:=so "names"
inductive Lst(P:Str→Prop)(k:Str):Prop where
 |mk (h:P k) (g:∀ j,ltS j k→¬ P j):Lst P k
noncomputable def lst(P:Str→Prop):Str:=if h:∃ k,Lst P k then choose h else dI
theorem C6{P:Str→Prop}{k:Str}(tri:∀ {a b:Str},¬ ltS b a→a≠b→ltS a b)(h:Lst P k):lst P=k:=by
 have e:∃ k,Lst P k:=⟨k,h⟩
 have:Lst P (lst P):=by unfold lst;rw[dif_pos e];exact choose_spec e
 obtain⟨a1,a2⟩:=h;obtain⟨b1,b2⟩:=this;refine Classical.byContradiction fun hn=>?_
 by_cases hl:ltS k (lst P)
 ·exact b2 k hl a1
 ·exact a2 _ (tri hl hn) b1
def jS(a:Str)(l:Int):T→Prop
 | .num _=>False
 | .br h=>bQ h∧∀ k x,h k=some x→cK a l x
def jT:T→Prop
 | .num _=>False
 | .br h=>bQ h
noncomputable def frm(p:Prop)(s:Str):Str:=if p then s else dI
theorem uY{p:Prop}(h:p)(s:Str):frm p s=s:=if_pos h
theorem lV{p:Prop}(h:¬ p)(s:Str):frm p s=dI:=if_neg h
noncomputable def sel(p:Prop)(x y:Rf):Rf:=if p then x else y
theorem lW{p:Prop}(h:p)(x y:Rf):sel p x y=x:=if_pos h
theorem pT{p:Prop}(h:¬ p)(x y:Rf):sel p x y=y:=if_neg h
noncomputable def eB(v:W)(f h:Str→Option T):Str:=lst fun k=>∃ x y,f k=some x∧h k=some y∧aP v x y=none
noncomputable def a8:W→T→T→List PyData→Rf
 | .sift a l,_,new,w=>⟨w,frm (jS a l new) dC,new⟩
 | .join _ _ _,_,new,w=>⟨w,frm (jT new) dC,new⟩
 | .each v,old,new,w=>match new with
  | .num _=>⟨w,dI,new⟩
  | .br h=>sel (∀ k,(h k).isSome=(old.get k).isSome) (((old.get (eB v old.get h)).bind fun x=>(h (eB v old.get h)).map fun y=>a8 v x y (w++[.str (eB v old.get h)])).getD ⟨w,dI,new⟩) ⟨w,lU,new⟩
 | .andThen a b,old,new,w=>(aI a old).elim ⟨w,dI,new⟩ fun m=>(aP b m new).elim (a8 b m new (w++[.int 1])) fun mid=>a8 a old mid (w++[.int 0])
 | .beside r,old,new,w=>match new with
  | .num _=>⟨w,dI,new⟩
  | .br h=>sel (∀ k,(h k).isSome=true↔k∈r.names) (a8 r old new w) ⟨w,dI,new⟩
 | .bcons n p v r,old,new,w=>(old.get p).elim ⟨w,dI,new⟩ fun o=>(new.get n).elim ⟨w,dI,new⟩ fun x=>(aP v o x).elim (a8 v o x (w++[.str n])) fun _=>a8 r old new w
 |_,_,new,w=>⟨w,dI,new⟩
end Mine.Internal
namespace Mine.Internal
open PySem
abbrev TT:=T
abbrev WW:=W
abbrev LP:=List (Str×PyData)
noncomputable def mkd(l:LP):List (PyData×PyData):=l.map fun p=>(.str p.1,p.2)
noncomputable def ks(l:LP):List Str:=l.map (·.1)
noncomputable def lk:LP→Str→Option PyData
 | [],_=>none
 |p::r,x=>if x=p.1 then some p.2 else lk r x
noncomputable def st:LP→Str→PyData→LP
 | [],x,u=>[(x,u)]
 |p::r,x,u=>if x=p.1 then (p.1,u)::r else p::st r x u
noncomputable def sts:LP→LP→LP
 | [],acc=>acc
 |p::r,acc=>sts r (st acc p.1 p.2)
noncomputable def dl:LP→Str→LP
 | [],_=>[]
 |p::r,x=>if x=p.1 then r else p::dl r x
theorem gS:∀ (l:LP) (x:Str),bS (mkd l) x=lk l x:=by
 intro v0
 induction v0 with
 |nil =>
  intro _;exact rfl
 |cons p r ih =>
  intro x;show(if x=p.1 then some p.2 else bS (mkd r) x)=if x=p.1 then some p.2 else lk r x;rw[ih x]
theorem C7:∀ (l:LP) (x:Str) (u:PyData),eF (mkd l) x u=mkd (st l x u):=by
 intro v0
 induction v0 with
 |nil =>
  intro _ _;exact rfl
 |cons p r ih =>
  intro x u;show(if x=p.1 then (.str p.1,u)::mkd r else (.str p.1,p.2)::eF (mkd r) x u)=mkd (if x=p.1 then (p.1,u)::r else p::st r x u);rw[ih x u]
  split<;>rfl
theorem uZ:∀ (l:LP) (x:Str),dK (mkd l) x=mkd (dl l x):=by
 intro v0
 induction v0 with
 |nil =>
  intro _;exact rfl
 |cons p r ih =>
  intro x;show(if x=p.1 then mkd r else (.str p.1,p.2)::dK (mkd r) x)=mkd (if x=p.1 then r else p::dl r x);rw[ih x]
  split<;>rfl
theorem u0:∀ (ps acc:LP),dA ps (mkd acc)=mkd (sts ps acc):=by
 intro v0
 induction v0 with
 |nil =>
  intro _;exact rfl
 |cons p r ih =>
  intro acc;show dA r (eF (mkd acc) p.1 p.2)=_;simp only[C7,ih];rfl
theorem pU(l:LP):(mkd l).map (·.1)=(ks l).map PyData.str:=by
 simp[mkd,ks,List.map_map,Function.comp_def]
theorem pV(l:LP):(mkd l).length=l.length:=by simp[mkd]
theorem mk_keys?:∀ l:LP,keys? (mkd l)=some l
 | []=>rfl
 |p::r=>by
  show(keys? (mkd r)).map ((p.1,p.2)::·)=_;rw[mk_keys? r];rfl
theorem pW:∀ (l:LP) (x:Str) (u:PyData) (y:Str),lk (st l x u) y=if y=x then some u else lk l y:=by
 intro v0
 induction v0 with
 |nil =>
  intro x u y;exact rfl
 |cons p r ih =>
  intro x u y;show lk (if x=p.1 then (p.1,u)::r else p::st r x u) y=if y=x then some u else if y=p.1 then some p.2 else lk r y
  by_cases h:x=p.1
  ·rw[if_pos h];show(if y=p.1 then some u else lk r y)=_;subst h
   split<;>rfl
  ·rw[if_neg h];show(if y=p.1 then some p.2 else lk (st r x u) y)=_;rw[ih x u y]
   by_cases e:y=x
   ·subst e;rw[if_neg h,if_pos rfl,if_pos rfl]
   ·rw[if_neg e,if_neg e]
theorem lX:∀ {l:LP} {x:Str} , (lk l x).isSome=true↔x∈ks l
 | [],x=>⟨fun h=>bft h,fun h=>b5 h⟩
 |p::r,x=>by
  show(if x=p.1 then some p.2 else lk r x).isSome=true↔x∈p.1::ks r
  by_cases h:x=p.1
  ·simp[h]
  ·rw[if_neg h,lX (l:=r)];simp[h]
theorem lY{l:LP}{x:Str}{d:PyData}(h:lk l x=some d):x∈ks l:=lX.mp (by rw[h];rfl)
theorem Vb:∀ {l:LP} (x:Str) (u:PyData),(ks l).Nodup→(ks (st l x u)).Nodup∧∀ y,y∈ks (st l x u)↔y=x∨y∈ks l:=by
 intro v0
 induction v0 with
 |nil =>
  intro x u _;refine⟨aw.mpr ⟨fun h=>b5 h,cm⟩,fun y=>⟨fun h=>.inl (List.mem_singleton.mp h),fun h=>?_⟩⟩;rcases h with rfl | h
  ·exact ah
  ·exact b5 h
 |cons p r ih =>
  intro x u h;have h1:p.1∉ks r∧(ks r).Nodup:=aw.mp h;show(ks (if x=p.1 then (p.1,u)::r else p::st r x u)).Nodup∧∀ y,y∈ks (if x=p.1 then (p.1,u)::r else p::st r x u)↔y=x∨y∈p.1::ks r
  by_cases e:x=p.1
  ·rw[if_pos e];refine⟨h,fun y=>?_⟩;show y∈p.1::ks r↔_;rw[e];simp
  ·rw[if_neg e];obtain⟨i1,i2⟩:=ih x u h1.2;refine⟨aw.mpr ⟨fun hm=>?_,i1⟩,fun y=>?_⟩
   ·rcases(i2 p.1).mp hm with e' | e'
    ·exact e e'.symm
    ·exact h1.1 e'
   ·show y∈p.1::ks (st r x u)↔_;rw[List.mem_cons,i2,List.mem_cons];constructor
    ·rintro(a | a | a)<;>simp[a]
    ·rintro(a | a | a)<;>simp[a]
theorem C8:∀ {l:LP} (x:Str),(ks l).Nodup→(ks (dl l x)).Nodup∧(∀ y,y∈ks (dl l x)→y∈ks l)∧∀ y,lk (dl l x) y=if y=x then none else lk l y:=by
 intro v0
 induction v0 with
 |nil =>
  intro x _;exact⟨cm,fun y hy=>hy,fun y=>(ite_self none).symm⟩
 |cons p r ih =>
  intro x h;have h1:p.1∉ks r∧(ks r).Nodup:=aw.mp h;show(ks (if x=p.1 then r else p::dl r x)).Nodup∧(∀ y,y∈ks (if x=p.1 then r else p::dl r x)→y∈p.1::ks r)∧∀ y,lk (if x=p.1 then r else p::dl r x) y=if y=x then none else if y=p.1 then some p.2 else lk r y
  by_cases e:x=p.1
  ·rw[if_pos e];refine⟨h1.2,fun y hy=>ae _ hy,fun y=>?_⟩
   by_cases e':y=x
   ·rw[if_pos e'];refine ocs (lk r y) (fun hl=>?_) fun d hl=>?_
    ·try rewrite[hl]
     rfl
    ·exact absurd (e▸e'▸lY hl) h1.1
   ·rw[if_neg e',if_neg (e▸e')]
  ·rw[if_neg e];obtain⟨i1,i2,i3⟩:=ih x h1.2;refine⟨aw.mpr ⟨fun hm=>h1.1 (i2 _ hm),i1⟩,fun y hy=>?_,fun y=>?_⟩
   ·rcases List.mem_cons.mp hy with rfl | hy
    ·simp
    ·exact ae _ (i2 y hy)
   ·show(if y=p.1 then some p.2 else lk (dl r x) y)=_;rw[i3]
    by_cases e':y=x
    ·subst e';rw[if_neg e,if_pos rfl,if_pos rfl]
    ·rw[if_neg e',if_neg e']
noncomputable def big:Nat:=10 ^ 29
inductive Sem(N:List Str):Nat→PyData→TT→Prop where
 |num {m:Nat} {i:Int}:i.natAbs < big→Sem N m (.int i) (.num i)
 |br {m:Nat} {l:LP} {f:Str→Option TT}:(ks l).Nodup→(∀ k∈ks l,k∈N)→(∀ k,(lk l k).isSome=(f k).isSome)→(∀ k d t,lk l k=some d→f k=some t→Sem N m d t)→Sem N (m+1) (.dict (mkd l)) (.br f)
structure Bld(N:List Str)(m:Nat)(l:LP)(f:Str→Option TT):Prop where
 nd:(ks l).Nodup
 sub:∀ k∈ks l,k∈N
 dom:∀ k,(lk l k).isSome=(f k).isSome
 sem:∀ k d t,lk l k=some d→f k=some t→Sem N m d t
variable {N:List Str} {m:Nat}
theorem Bld.toSem{l:LP}{f:Str→Option TT}(B:Bld N m l f):Sem N (m+1) (.dict (mkd l)) (.br f):=.br B.nd B.sub B.dom B.sem
inductive SemI(N:List Str):Nat→PyData→TT→Prop where
 |num {m:Nat} (i:Int) (h:i.natAbs < big):SemI N m (.int i) (.num i)
 |br (m:Nat) (l:LP) (f:Str→Option TT) (B:Bld N m l f):SemI N (m+1) (.dict (mkd l)) (.br f)
inductive SemE(N:List Str)(m:Nat)(d:PyData)(t:TT):Prop where
 |num (i:Int) (e1:d=.int i) (e2:t=.num i) (h:i.natAbs < big):SemE N m d t
 |br (m':Nat) (l:LP) (f:Str→Option TT) (e:m=m'+1) (e1:d=.dict (mkd l)) (e2:t=.br f) (B:Bld N m' l f):SemE N m d t
inductive SemB(N:List Str)(m:Nat)(d:PyData)(f:Str→Option TT):Prop where
 |mk (m':Nat) (l:LP) (e:m=m'+1) (e1:d=.dict (mkd l)) (B:Bld N m' l f):SemB N m d f
inductive SemF(N:List Str)(f:Str→Option TT):Nat→PyData→Prop where
 |mk (m:Nat) (l:LP) (B:Bld N m l f):SemF N f (m+1) (.dict (mkd l))
theorem Sem.inv{d:PyData}{t:TT}(h:Sem N m d t):SemI N m d t:=by
 cases h with
 |num h=>exact .num _ h
 |br a b c e=>exact .br _ _ _ ⟨a,b,c,e⟩
theorem Sem.inv'{d:PyData}{t:TT}(h:Sem N m d t):SemE N m d t:=by
 cases h with
 |num h=>exact .num _ rfl rfl h
 |br a b c e=>exact .br _ _ _ rfl rfl rfl ⟨a,b,c,e⟩
@[elab_as_elim] theorem Sem.by {motive:Nat→PyData→TT→Prop} {m:Nat} {d:PyData} {t:TT} (h:Sem N m d t) (h1:∀ (m:Nat) (i:Int),i.natAbs < big→motive m (.int i) (.num i)) (h2:∀ (m:Nat) (l:LP) (f:Str→Option TT),Bld N m l f→motive (m+1) (.dict (mkd l)) (.br f)):motive m d t:=by
 cases h with
 |num h=>exact h1 _ _ h
 |br a b c e=>exact h2 _ _ _ ⟨a,b,c,e⟩
@[elab_as_elim] theorem Sem.byB {motive:Nat→PyData→Prop} {f:Str→Option TT} {m:Nat} {d:PyData} (h:Sem N m d (.br f)) (h2:∀ (m:Nat) (l:LP),Bld N m l f→motive (m+1) (.dict (mkd l))):motive m d:=by
 cases h with
 |br a b c e=>exact h2 _ _ ⟨a,b,c,e⟩
theorem Sem.br_inv{d:PyData}{f:Str→Option TT}(h:Sem N m d (.br f)):SemF N f m d:=by
 cases h with
 |br a b c e=>exact⟨_,_,a,b,c,e⟩
theorem Sem.br_inv'{d:PyData}{f:Str→Option TT}(h:Sem N m d (.br f)):SemB N m d f:=by
 cases h with
 |br a b c e=>exact⟨_,_,rfl,rfl,a,b,c,e⟩
inductive BGet(N:List Str)(m:Nat)(l:LP)(k:Str)(t:TT):Prop where
 |mk (d:PyData) (h:lk l k=some d) (s:Sem N m d t):BGet N m l k t
inductive BGe'(N:List Str)(m:Nat)(f:Str→Option TT)(k:Str)(d:PyData):Prop where
 |mk (t:TT) (h:f k=some t) (s:Sem N m d t):BGe' N m f k d
inductive BKey(N:List Str)(m:Nat)(l:LP)(f:Str→Option TT)(k:Str):Prop where
 |mk (d:PyData) (t:TT) (h:lk l k=some d) (g:f k=some t) (s:Sem N m d t):BKey N m l f k
theorem Sem.num_inv{d:PyData}{i:Int}(h:Sem N m d (.num i)):d=.int i∧i.natAbs < big:=by
 cases h with
 |num h=>exact⟨rfl,h⟩
theorem Sem.mono:∀ {m m':Nat} {d:PyData} {t:TT},Sem N m d t→m≤m'→Sem N m' d t
 := by
 intro m
 induction m with
 |zero =>
  intro m' d t s h;cases s with
  |num h=>exact .num h
 |succ m ih =>
  intro m' d t s h;cases s with
  |num h=>exact .num h
  |br a b c e =>
   cases m' with
   |zero=>exact absurd h (Nat.not_succ_le_zero _)
   |succ m'=>exact .br a b c fun k d t h1 h2=>ih (e k d t h1 h2) (bc h)
theorem Bld.mono{m':Nat}{l:LP}{f:Str→Option TT}(B:Bld N m l f)(h:m≤m'):Bld N m' l f:=⟨B.nd,B.sub,B.dom,fun k d t h1 h2=>(B.sem k d t h1 h2).mono h⟩
theorem Bld.nil:Bld N m [] fun _=>none:=⟨by simp[ks],by simp[ks],fun k=>rfl,fun k d t h=>by exact ns h⟩
theorem Bld.ext{l:LP}{f g:Str→Option TT}(B:Bld N m l f)(h:∀ k,f k=g k):Bld N m l g:=by
 have:f=g:=funext h;exact this▸B
theorem Bld.set{l:LP}{f:Str→Option TT}(B:Bld N m l f){k:Str}{d:PyData}{t:TT}(hk:k∈N)(h:Sem N m d t):Bld N m (st l k d) (upd f k (some t)):=by
 obtain⟨q1,q2⟩:=Vb k d B.nd;refine⟨q1,fun y hy=>?_,fun y=>?_,fun y e u h1 h2=>?_⟩
 ·rcases(q2 y).mp hy with rfl | hy
  ·exact hk
  ·exact B.sub y hy
 ·rw[pW]
  by_cases e:y=k
  ·simp[upd,e]
  ·simp only[upd,if_neg e];exact B.dom y
 ·rw[pW] at h1
  by_cases e:y=k
  ·rw[if_pos e] at h1;simp only[upd,if_pos e] at h2;obtain rfl:=si h1;obtain rfl:=si h2;exact h
  ·rw[if_neg e] at h1;simp only[upd,if_neg e] at h2;exact B.sem y _ u h1 h2
theorem Bld.del{l:LP}{f:Str→Option TT}(B:Bld N m l f)(k:Str):Bld N m (dl l k) (upd f k none):=by
 obtain⟨q1,q2,q3⟩:=C8 k B.nd;refine⟨q1,fun y hy=>B.sub y (q2 y hy),fun y=>?_,fun y e u h1 h2=>?_⟩
 ·rw[q3]
  by_cases e:y=k
  ·simp[upd,e]
  ·simp only[upd,if_neg e];exact B.dom y
 ·rw[q3] at h1
  by_cases e:y=k
  ·rw[if_pos e] at h1;exact ns h1
  ·rw[if_neg e] at h1;simp only[upd,if_neg e] at h2;exact B.sem y _ u h1 h2
theorem Bld.get{l:LP}{f:Str→Option TT}(B:Bld N m l f){k:Str}{t:TT}(h:f k=some t):BGet N m l k t:=by
 refine ocs (lk l k) (fun e=>?_) fun d e=>?_
 ·have:=B.dom k;simp only[e,h] at this;exact bft this
 ·exact⟨d,e,B.sem k d t e h⟩
theorem Bld.get'{l:LP}{f:Str→Option TT}(B:Bld N m l f){k:Str}{d:PyData}(h:lk l k=some d):BGe' N m f k d:=by
 refine ocs (f k) (fun e=>?_) fun t e=>?_
 ·have:=B.dom k;simp only[e,h] at this;exact btf this
 ·exact⟨t,e,B.sem k d t h e⟩
theorem Bld.none_iff{l:LP}{f:Str→Option TT}(B:Bld N m l f){k:Str}:f k=none↔lk l k=none:=by
 have:=B.dom k;cases e:f k<;>cases e':lk l k<;>simp_all
theorem Bld.key{l:LP}{f:Str→Option TT}(B:Bld N m l f){k:Str}(h:k∈ks l):BKey N m l f k:=by
 have h1:=lX.mpr h;refine ocs (lk l k) (fun e=>?_) fun d e=>?_
 ·rw[e] at h1;exact bft h1
 ·obtain⟨t,a,b⟩:=B.get' e;exact⟨d,t,e,a,b⟩
theorem Bld.mem{l:LP}{f:Str→Option TT}(B:Bld N m l f){k:Str}:k∈ks l↔(f k).isSome=true:=by
 rw[← B.dom,lX]
theorem lZ{α:Type}[DecidableEq α]:∀ {a b:List α},a.Nodup→(∀ x∈a,x∈b)→a.length≤b.length:=by
 intro v0
 induction v0 with
 |nil =>
  intro _ _ _;exact aj _
 |cons x r ih =>
  intro b hn hs;obtain⟨h1,h2⟩:=aw.mp hn;have hx:=hs x (by simp);have:=ih (b:=b.erase x) h2 fun y hy=>(List.mem_erase_of_ne (fun e:y=x=>h1 (e▸hy))).mpr (hs y (by simp[hy]));simp only[List.length_erase_of_mem hx] at this;have hp:0 < b.length:=List.length_pos_of_mem hx;show r.length+1≤b.length;exact Gq this hp
theorem Bld.len{l:LP}{f:Str→Option TT}(B:Bld N m l f):l.length≤N.length:=by
 have:=lZ B.nd B.sub;simpa[ks] using this
inductive Out{α β:Type}(S:α→β→aA)(c:KN→KR→R V)(I:α→Prop)(E:X→Prop)(Q:V→Prop):Prop where
 |kn (a:α) (j:β) (hi:I a) (h:∀ kn kr,c kn kr=kn (S a j)):Out S c I E Q
 |exc (x:X) (hi:E x) (h:∀ kn kr,c kn kr=.exc x):Out S c I E Q
 |kr (v:V) (hi:Q v) (h:∀ kn kr,c kn kr=kr v):Out S c I E Q
theorem iP{α β:Type}{S:α→β→aA}{b:aA→KN→KR→R V}{t:Expr}{I:List PyData→α→Prop}{E:X→Prop}{Q:V→Prop} :
  ∀ {l p:List PyData} {a:α} {j:β},(∀ q d r a j,p++l=q++d::r→I q a→Out S (fun kn kr=>rb (ofP (aR t d (S a j))) fun σ=>b σ kn kr) (I (q++[d])) E Q)→I p a→Out S (aQ b t l (S a j)) (I (p++l)) E Q
 | [],p,a,j,_,hi=>Out.kn a j (by simpa using hi) fun _ _=>rfl
 |d::r,p,a,j,h,hi=>by
  rcases h p d r a j rfl hi with ⟨a',j',hi',e⟩ | ⟨x,hx,e⟩ | ⟨v,hv,e⟩
  ·have e1:p++d::r=(p++[d])++r:=by simp
   have:=iP (S:=S) (b:=b) (t:=t) (l:=r) (p:=p++[d]) (a:=a') (j:=j') (I:=I) (E:=E) (Q:=Q) (fun q d' r' a j hq=>h q d' r' a j (e1.trans hq)) hi';rw[← e1] at this;rcases this with ⟨a2,j2,h2,e2⟩ | ⟨x,hx,e2⟩ | ⟨v,hv,e2⟩
   ·exact Out.kn a2 j2 h2 fun kn kr=>(e _ _).trans (e2 kn kr)
   ·exact Out.exc x hx fun kn kr=>(e _ _).trans (e2 kn kr)
   ·exact Out.kr v hv fun kn kr=>(e _ _).trans (e2 kn kr)
  ·exact Out.exc x hx fun kn kr=>e _ _
  ·exact Out.kr v hv fun kn kr=>e _ _
section
variable {α β:Type}
theorem aE(a:α)(k:α→R β):rb (.ok a) k=k a:=rfl
theorem u1(x:X)(k:α→R β):rb (.exc x) k=.exc x:=rfl
theorem aJ(a:α):ofP (.ok a)=.ok a:=rfl
theorem eC(a:α):nx (.ok a)=.ok a:=rfl
theorem fO(a:α)(f:α→P β):P.bind (.ok a) f=f a:=rfl
theorem fP(a:α):ofO (some a)=.ok a:=rfl
theorem cD(a b:α):(if true=true then a else b)=a:=rfl
theorem dJ(a b:α):(if false=true then a else b)=b:=rfl
end
theorem pX(b:Bool):tst (.ok (.fz (.bool b)))=.ok b:=rfl
theorem u3(b:Bool):c8 (.fz (.bool b))=.ok b:=rfl
theorem fQ(d:PyData):dOf (.fz d)=d:=rfl
theorem l5(d:PyData):dOf (.own d)=d:=rfl
theorem bN(d:PyData):V.cl (.fz d)=.fz d:=rfl
theorem gC(d:PyData):V.cl (.own d)=.fz d:=rfl
theorem cG(d:PyData):aW (.fz d)=.ok (.fz d):=rfl
theorem b6(d:PyData):rdv (.fz d)=.ok (.fz d):=rfl
theorem l8(d:PyData):aU (.fz d)=.ok d:=rfl
theorem u4(d:PyData):aU (.own d)=.ok d:=rfl
theorem u5(d:PyData)(k:V→R V):dQ (.fz d) k=k (.fz d):=rfl
theorem u6(d:PyData)(k:V→R V):dQ (.own d) k=k (.own d):=rfl
theorem mB(d:PyData):dB (.own d)=.ok d:=rfl
theorem u7:eK []=.ok []:=rfl
theorem u8(v:V)(r:List (R V)):eK (.ok v::r)=rb (eK r) fun vs=>.ok (v.cl::vs):=rfl
theorem u9(b:Bool):fzb (.ok b)=.ok (.fz (.bool b)):=rfl
theorem vA(b:Bool):aN (.ok b)=.ok (.fz (.bool b)):=rfl
theorem vB(d:PyData):iA (.fz d)=.ok d:=rfl
theorem vC:pA none=.ok none:=rfl
theorem vD(i:Int):pA (some (.ok (.fz (.int i))))=.ok (some i):=rfl
theorem pY(b:Bool):fC .Not (.fz (.bool b))=.ok (.fz (.bool !b)):=rfl
theorem vE(i:Int):fC .USub (.fz (.int i))=.ok (.fz (.int (-i))):=rfl
theorem vF:(!true)=false:=rfl
theorem vG:(!false)=true:=rfl
theorem pZ(l:LP)(x:Str):getItem (.dict (mkd l)) (.str x)=frz (lk l x):=by
 show frz (bS (mkd l) x)=_;rw[gS]
theorem a9{l:LP}{x:Str}{d:PyData}(h:lk l x=some d):getItem (.dict (mkd l)) (.str x)=.ok (.fz d):=by
 simp only[pZ,h];rfl
theorem dD(l:LP)(x:Str):Internal.contains (.str x) (.dict (mkd l))=.ok (lk l x).isSome:=by
 show P.ok (bS (mkd l) x).isSome=_;rw[gS]
theorem bO(l:LP):Internal.items (.dict (mkd l))=.ok ((ks l).map .str):=by
 show P.ok ((mkd l).map (·.1))=_;rw[pU]
theorem b7{l:LP}(x:Str)(d:PyData)(h:l.length < bA):Internal.setItem (.dict (mkd l)) (.str x) d=.ok (.dict (mkd (st l x d))):=by
 show(if (mkd l).length < bA then P.ok (PyData.dict (eF (mkd l) x d)) else .no)=_;rw[pV,if_pos h,C7]
theorem mD(l:List (PyData×PyData)):bT (.dict l)=true:=rfl
theorem qA(i:Int):bT (.int i)=false:=rfl
theorem vH(l:List (PyData×PyData)):fU (.dict l)=false:=rfl
theorem vI(i:Int):fU (.int i)=true:=rfl
theorem vJ(i:Int):gE (.int i)=false:=rfl
theorem vK(l:List (PyData×PyData)):gE (.dict l)=false:=rfl
theorem C9:∀ bs:List Bool,bools? (bs.map PyData.bool)=some bs
 | []=>rfl
 |b::r=>by
  show(bools? (r.map PyData.bool)).map (b::·)=_;rw[C9 r];rfl
theorem gT:∀ xs:List Str,strs? (xs.map PyData.str)=some xs
 | []=>rfl
 |b::r=>by
  show(strs? (r.map PyData.str)).map (b::·)=_;rw[gT r];rfl
theorem Da(bs:List Bool):cJ (.list (bs.map PyData.bool))=.ok (.fz (.bool (bs.all id))):=by
 show fzb ((ofO (bools? (bs.map PyData.bool))).bind fun bs=>.ok (bs.all id))=_;rw[C9];rfl
theorem qB{t:PyData→R Bool}{e:PyData→R V}{g:PyData→PyData}:∀ {l:List PyData},(∀ d∈l,t d=.ok true∧∃ v,e d=.ok v∧dOf v=g d)→aX t e l=.ok (l.map g):=by
 intro v0
 induction v0 with
 |nil =>
  intro _;exact rfl
 |cons d r ih =>
  intro h;obtain⟨h1,v,h2,h3⟩:=h d (by simp);show rb (nx (t d)) (fun b=>if b then rb (nx (e d)) fun v=>rb (aX t e r) fun xs=>.ok (dOf v::xs) else aX t e r)=_;simp only[h1,eC,aE,cD,h2,eC,aE,ih fun d hd=>h d (ae _ hd),h3];rfl
theorem jU{xs:List Str}{e:PyData→R V}{g:Str→Bool}(h:∀ x∈xs,e (.str x)=.ok (.fz (.bool (g x)))):aK cJ (aO (.ok (xs.map .str)) (fun _=>.ok true) e)=.ok (.fz (.bool (xs.all g))):=by
 have:aX (fun _=>.ok true) e (xs.map .str)=.ok ((xs.map g).map .bool):=by
  rw[qB (g:=fun d=>match d with | .str x=>.bool (g x) | d=>d) fun d hd=>?_]
  ·simp[Function.comp_def]
  ·obtain⟨x,hx,rfl⟩:=bi.mp hd;exact⟨rfl,_,h x hx,rfl⟩
 show rb (rb (rb (.ok (xs.map .str)) fun l=>aX (fun _=>.ok true) e l) fun r=>ofP (own (.list r))) (fun v=>ofP (cJ (dOf v)))=_;simp only[aE,this];show ofP (cJ (.list ((xs.map g).map .bool)))=_;simp only[Da];simp[Function.comp_def,ofP]
theorem Db{l:List PyData}{e:PyData→R V}{g:PyData→Bool}(h:∀ x∈l,e x=.ok (.fz (.bool (g x)))):aK cJ (aO (.ok l) (fun _=>.ok true) e)=.ok (.fz (.bool (l.all g))):=by
 have:aX (fun _=>.ok true) e l=.ok ((l.map g).map .bool):=by
  simp only[qB (g:=fun d=>.bool (g d)) fun d hd=>⟨rfl,_,h d hd,rfl⟩];simp[Function.comp_def]
 show rb (rb (rb (.ok l) fun l=>aX (fun _=>.ok true) e l) fun r=>ofP (own (.list r))) (fun v=>ofP (cJ (dOf v)))=_;simp only[aE,this];show ofP (cJ (.list ((l.map g).map .bool)))=_;simp only[Da];simp[Function.comp_def,ofP]
theorem qC{t:PyData→R Bool}{g:Str→Bool}:∀ {xs:List Str},(∀ x∈xs,t (.str x)=.ok (g x))→aX t (fun d=>.ok (.fz d)) (xs.map .str)=.ok ((xs.filter g).map .str):=by
 intro v0
 induction v0 with
 |nil =>
  intro _;exact rfl
 |cons x r ih =>
  intro h;show rb (nx (t (.str x))) (fun b=>if b then rb (nx (.ok (.fz (.str x)))) fun v=>rb (aX t (fun d=>.ok (.fz d)) (r.map .str)) fun xs=>.ok (dOf v::xs) else aX t (fun d=>.ok (.fz d)) (r.map .str))=_;rw[h x (by simp),eC,aE,ih fun d hd=>h d (ae _ hd)];cases hg:g x
  ·rw[dJ,List.filter_cons_of_neg (by simp[hg])]
  ·rw[cD,List.filter_cons_of_pos hg];rfl
noncomputable def bE(p:Str×PyData):PyData:=.tuple [.str p.1,p.2]
theorem Dc:∀ ps:LP,twos? (ps.map bE)=some (mkd ps)
 | []=>rfl
 |p::r=>by
  show(twos? (r.map bE)).map ((.str p.1,p.2)::·)=_;simp only[Dc r];rfl
theorem qD{ps:LP}(h:ps.length < 4096):bG (.list (ps.map bE))=.ok (.own (.dict (mkd (sts ps [])))):=by
 show((ofO (twos? (ps.map bE))).bind fun l=>(ofO (keys? l)).bind fun l=>if l.length < 4096 then own (.dict (dA l [])) else .no)=_;simp only[Dc,fP,fO,mk_keys?,fP,fO,if_pos h];show P.ok (V.own (.dict (dA ps (mkd []))))=_;simp only[u0]
theorem jV{N:List Str}{m:Nat}{F:Str→Option TT}:∀ {ps acc:LP} {f:Str→Option TT},Bld N m acc f→(∀ p∈ps,p.1∈N∧∃ t,F p.1=some t∧Sem N m p.2 t)→Bld N m (sts ps acc) fun k=>if k∈ks ps then F k else f k
 | [],acc,f,B,_=>B.ext fun k=>by simp[ks]
 |p::r,acc,f,B,h=>by
  obtain⟨h1,t,h2,h3⟩:=h p (by simp);refine(jV (F:=F) (B.set h1 h3) fun q hq=>h q (by simp[hq])).ext fun k=>?_;show(if k∈ks r then F k else upd f p.1 (some t) k)=if k∈p.1::ks r then F k else f k
  by_cases e1:k∈ks r
  ·simp[e1]
  ·by_cases e2:k=p.1
   ·subst e2;simp[e1,upd,h2]
   ·simp[e1,e2,upd]
theorem Dd{N:List Str}{m:Nat}{F:Str→Option TT}{t:PyData→R Bool}{e:PyData→R V}:∀ {xs:List Str},(∀ x∈xs,x∈N∧((t (.str x)=.ok false∧F x=none)∨t (.str x)=.ok true∧∃ v d u,e (.str x)=.ok v∧dOf v=.tuple [.str x,d]∧F x=some u∧Sem N m d u)) →
  ∃ ps:LP,aX t e (xs.map .str)=.ok (ps.map bE)∧ps.length≤xs.length∧(∀ k,k∈ks ps↔k∈xs∧(F k).isSome=true)∧∀ p∈ps,p.1∈N∧∃ u,F p.1=some u∧Sem N m p.2 u
 := by
 intro xs
 induction xs with
 |nil=>exact fun _=>⟨[],rfl,ay _,fun k=>⟨fun h=>b5 h,fun h=>b5 h.1⟩,fun p hp=>b5 hp⟩
 |cons x r ih =>
  intro h;obtain⟨ps,e1,e2,e3,e4⟩:=ih fun y hy=>h y (ae _ hy);have hs:aX t e ((x::r).map .str)=rb (nx (t (.str x))) (fun b=>if b then rb (nx (e (.str x))) fun v=>rb (aX t e (r.map .str)) fun xs=>.ok (dOf v::xs) else aX t e (r.map .str)):=rfl;obtain⟨hN,⟨h1,h2⟩ | ⟨h1,v,d,u,h2,h3,h4,h5⟩⟩:=h x (by simp)
  ·refine⟨ps,?_,bp e2,fun k=>?_,e4⟩
   ·simp only[hs,h1,eC,aE,dJ,e1]
   ·simp only[e3 k]
    by_cases ek:k=x
    ·subst ek;simp[h2]
    ·simp[ek]
  ·refine⟨(x,d)::ps,?_,am e2,fun k=>?_,fun p hp=>?_⟩
   ·simp only[hs,h1,eC,aE,cD,h2,eC,aE,e1,aE,h3];rfl
   ·show k∈x::ks ps↔_;simp only[List.mem_cons,e3 k]
    by_cases ek:k=x
    ·subst ek;simp[h4]
    ·simp[ek]
   ·rcases List.mem_cons.mp hp with rfl | hp
    ·exact⟨hN,u,h4,h5⟩
    ·exact e4 p hp
theorem jW{N:List Str}{m:Nat}{F:Str→Option TT}{t:PyData→R Bool}{e:PyData→R V}{xs:List Str}(hl:xs.length < 4096)(h:∀ x∈xs,x∈N∧((t (.str x)=.ok false∧F x=none)∨t (.str x)=.ok true∧∃ v d u,e (.str x)=.ok v∧dOf v=.tuple [.str x,d]∧F x=some u∧Sem N m d u)) :
  ∃ l:LP,aK bG (aO (.ok (xs.map .str)) t e)=.ok (.own (.dict (mkd l)))∧Bld N m l fun k=>if k∈xs then F k else none:=by
 obtain⟨ps,e1,e2,e3,e4⟩:=Dd h;refine⟨sts ps [],?_,(jV (F:=F) Bld.nil e4).ext fun k=>?_⟩
 ·show rb (rb (rb (.ok (xs.map .str)) fun l=>aX t e l) fun r=>ofP (own (.list r))) (fun v=>ofP (bG (dOf v)))=_;rw[aE,e1];show ofP (bG (.list (ps.map bE)))=_;rw[qD (al e2 hl)];rfl
 ·by_cases hk:k∈xs
  ·rw[if_pos hk];refine ocs (F k) (fun hF=>?_) fun u hF=>?_
   ·try rewrite[hF]
    rw[if_neg];intro hc;have:=((e3 k).mp hc).2;rw[hF] at this;exact bft this
   ·rw[if_pos ((e3 k).mpr ⟨hk,by rw[hF];rfl⟩)]
  ·rw[if_neg hk,if_neg fun hc=>hk ((e3 k).mp hc).1]
theorem Bld.all{N:List Str}{m:Nat}{l:LP}{f F:Str→Option TT}(B:Bld N m l f)(h:∀ k,f k=none→F k=none){l':LP}{m':Nat}(C:Bld N m' l' fun k=>if k∈ks l then F k else none):Bld N m' l' F :=
 C.ext fun k=>by
  by_cases hk:k∈ks l
  ·rw[if_pos hk]
  ·rw[if_neg hk];refine(h k ?_).symm;refine ocs (f k) (fun e=>?_) fun t e=>?_
   ·try rewrite[e]
    rfl
   ·exact absurd (B.mem.mpr (by rw[e];rfl)) hk
theorem jX(xs:List Str):eqO (.list (xs.map .str)) (.list [])=.ok xs.isEmpty:=by
 cases xs with
 |nil=>rfl
 |cons x r=>rfl
noncomputable def inL(c:Nat):Bool:=Txt.contains (so "abcdefghijklmnopqrstuvwxyz") ⟨#[c]⟩
structure okN(x:Str):Prop where
 lo:1≤x.cps.size
 hi:x.cps.size≤8
 let_:∀ c∈x.cps.toList,inL c=true
theorem gU(n:Nat){x:Str}(h:okN x):rn (n+1) "is_name" [.fz (.str x)]=.ok (.fz (.bool true)):=by
 simp only[Ri];have h1:decide ((1:Int)≤(x.cps.size:Int))=true:=by have:=h.lo;simp;exact xE this
 have h2:decide ((x.cps.size:Int)≤8)=true:=by have:=h.hi;simp;exact Gr this
 have hc:f8 (.ok (.fz (.int 1))) .LtE (ofP (bL (.str x))) .LtE (.ok (.fz (.int 8)))=.ok (.fz (.bool true)):=by
  show aN (if decide ((1:Int)≤(x.cps.size:Int))=true then .ok (decide ((x.cps.size:Int)≤8)) else .ok false)=_;simp only[h1,cD,h2];rfl
 have ha:aK cJ (aO (ofP (items (.str x))) (fun _=>.ok true) (fun d1=>(aN (ofP (cmp .In d1 (.str (so "abcdefghijklmnopqrstuvwxyz")))))))=.ok (.fz (.bool true)):=by
  refine(Db (l:=x.cps.toList.map b8) (g:=fun _=>true) fun d hd=>?_).trans (by simp);obtain⟨c,hc,rfl⟩:=bi.mp hd;show R.ok (V.fz (.bool (inL c)))=_;simp only[h.let_ c hc]
 simp only[hc,ha];rfl
theorem mE(n:Nat)(d:PyData):rn (n+1) "is_whole" [.fz d]=.ok (.fz (.bool (fU d&&!gE d))):=by
 simp only[Rj];cases fU d<;>cases gE d<;>rfl
structure Wld(N:List Str):Prop where
 len:N.length≤15
 nd:N.Nodup
 ok:∀ x∈N,okN x
structure Wl4(N:List Str):Prop where
 w:Wld N
 len:N.length=14
variable {N:List Str} {m:Nat}
theorem Bld.lt(H:Wld N){l:LP}{f:Str→Option TT}(B:Bld N m l f){k:Nat}(hk:15 < k):l.length < k:=by
 exact al (aa B.len H.len) hk
@[elab_as_elim] theorem exnE {motive:Nat→Prop} {a c x:Nat} (n:Nat) (h:a+c≤n) (i:x≤n) (g:∀ k,x≤k+c→motive (k+c)):motive n:=by
 have e:=Nat.sub_add_cancel (aa (bq c a) h);rw[← e];exact g _ (by rw[e];exact i)
theorem fd{a b k c:Nat}(h:a+k+c≤b+c):a≤b:=aa (ak a k) (cg h)
theorem mx{k x y r s:Nat}(h:k*max x y+r≤s):k*x+r≤s∧k*y+r≤s:=⟨aa (ag (cf k (bu x y)) r) h,aa (ag (cf k (cb x y)) r) h⟩
theorem c7(l:LP):(ks l).length=l.length:=by simp[ks]
theorem vL(H:Wld N):∀ {m n:Nat} {d:PyData} {t:TT},Sem N m d t→m+1≤n→rn (n+1) "is_tree" [.fz d]=.ok (.fz (.bool true)):=by
 intro m
 induction m with
 |zero =>
  intro n d t h hn;obtain⟨i,rfl,rfl,_⟩ | ⟨_,_,_,e,_⟩:=h.inv'
  ·refine exnE (c:=1) n hn hn fun n hn=>?_;simp only[tW,mE];rfl
  ·cases e
 |succ m ih =>
  intro n d t h hn;refine exnE (c:=1) n hn hn fun n hn=>?_;obtain⟨i,rfl,rfl,_⟩ | ⟨_,l,f,e,rfl,rfl,B⟩:=h.inv'
  ·simp only[tW,mE];rfl
  ·cases e;simp only[tW,mE,bO];have:=jU (xs:=ks l) (g:=fun _=>true) (e:=fun d1=>(aV (rn (n+1) "is_name" [.fz d1]) (aD (rn (n+1) "is_tree") [(ofP (getItem (.dict (mkd l)) d1))]))) fun x hx=>by
    obtain⟨d,t,h1,h2,h3⟩:=B.key hx;simp only[gU n (H.ok x (B.sub x hx)),a9 h1];exact ih h3 (by exact Gs hn)
   simp only[aJ,this];simp[ifS,unS,fU,bT,pX,aE,ofP,pY]
inductive Gives(r:R V)(P:PyData→Prop):Prop where
 |mk (v:V) (d:PyData) (e:r=.ok v) (c:v.cl=.fz d) (p:P d):Gives r P
theorem eZ{v:V}{d:PyData}(h:v.cl=.fz d):dOf v=d:=by
 cases v with
 |fz=>cases h;rfl
 |own=>cases h;rfl
 |pil=>cases h;rfl
 |ex=>cases h
theorem De{f:List V→R V}{r:R V}{v:V}{d:PyData}(h:r=.ok v)(hv:v.cl=.fz d):aD f [r]=f [.fz d]:=by
 rw[h];show f [v.cl]=_;rw[hv]
theorem mF{α β:Type}{S:α→β→aA}{b:aA→KN→KR→R V}{t:Expr}{I:List Str→α→Prop}{E:X→Prop}{Q:V→Prop} :
  ∀ {l p:List Str} {a:α} {j:β},(∀ q d r a j,p++l=q++d::r→I q a→Out S (fun kn kr=>rb (ofP (aR t (.str d) (S a j))) fun σ=>b σ kn kr) (I (q++[d])) E Q)→I p a→Out S (aQ b t (l.map .str) (S a j)) (I (p++l)) E Q
 | [],p,a,j,_,hi=>Out.kn a j (by simpa using hi) fun _ _=>rfl
 |d::r,p,a,j,h,hi=>by
  rcases h p d r a j rfl hi with ⟨a',j',hi',e⟩ | ⟨x,hx,e⟩ | ⟨v,hv,e⟩
  ·have e1:p++d::r=(p++[d])++r:=by simp
   have:=mF (S:=S) (b:=b) (t:=t) (l:=r) (p:=p++[d]) (a:=a') (j:=j') (I:=I) (E:=E) (Q:=Q) (fun q d' r' a j hq=>h q d' r' a j (e1.trans hq)) hi';rw[← e1] at this;rcases this with ⟨a2,j2,h2,e2⟩ | ⟨x,hx,e2⟩ | ⟨v,hv,e2⟩
   ·exact Out.kn a2 j2 h2 fun kn kr=>(e _ _).trans (e2 kn kr)
   ·exact Out.exc x hx fun kn kr=>(e _ _).trans (e2 kn kr)
   ·exact Out.kr v hv fun kn kr=>(e _ _).trans (e2 kn kr)
  ·exact Out.exc x hx fun kn kr=>e _ _
  ·exact Out.kr v hv fun kn kr=>e _ _
theorem qE{β:Type}{S:β→aA}{b:aA→KN→KR→R V}{t:Expr}{c:Str→Bool}{v:V}{xs:List Str}(h:∀ x∈xs,∀ j,∃ j',∀ kn kr,(rb (ofP (aR t (.str x) (S j))) fun σ=>b σ kn kr)=if c x=true then kn (S j') else kr v) :
  ∀ j,∃ j',∀ kn kr,aQ b t (xs.map .str) (S j) kn kr=if xs.all c=true then kn (S j') else kr v:=by
 induction xs with
 |nil=>exact fun j=>⟨j,fun _ _=>rfl⟩
 |cons x xs ih =>
  intro j;obtain⟨j1,e1⟩:=h x ah j;obtain⟨j2,e2⟩:=ih (fun x hx=>h x (ae _ hx)) j1;refine⟨j2,fun kn kr=>(e1 _ kr).trans ?_⟩;rw[List.all_cons,e2];cases c x<;>rfl
theorem iQ{q r l:List Str}{x:Str}(h:[]++l=q++x::r):x∈l:=by
 have:x∈q++x::r:=by simp
 simp only[← h] at this;simpa using this
theorem Df(H:Wld N){β:Type}{S:LP→β→aA}{b:aA→KN→KR→R V}{t:Expr}{xs:List Str}(F:Str→Option TT){E:X→Prop}(P:Str→Prop){j:β}
  (h:∀ q x r,[]++xs=q++x::r→(∀ y∈q,P y)→∀ a j,a.length < bA→x∈N∧((P x∧F x=none∧∃ j',∀ kn kr,(rb (ofP (aR t (.str x) (S a j))) fun σ=>b σ kn kr)=kn (S a j')) ∨
   (P x∧∃ d u j',F x=some u∧Sem N m d u∧∀ kn kr,(rb (ofP (aR t (.str x) (S a j))) fun σ=>b σ kn kr)=kn (S (st a x d) j')) ∨
   (∃ e,E e∧∀ kn kr,(rb (ofP (aR t (.str x) (S a j))) fun σ=>b σ kn kr)=.exc e))) :
  (∃ a j',Bld N m a (fun k=>if k∈xs then F k else none)∧(∀ x∈xs,P x)∧∀ kn kr,aQ b t (xs.map .str) (S [] j) kn kr=kn (S a j'))∨∃ e,E e∧∀ kn kr,aQ b t (xs.map .str) (S [] j) kn kr=.exc e:=by
 have:=mF (S:=S) (b:=b) (t:=t) (l:=xs) (p:=[]) (a:=[]) (j:=j) (I:=fun p a=>Bld N m a (fun k=>if k∈p then F k else none)∧∀ x∈p,P x) (E:=E) (Q:=fun _=>False) (fun q x r a j hq hi=>?_) ⟨Bld.nil.ext fun k=>by simp,fun x hx=>by exact b5 hx⟩
 ·rcases this with ⟨a,j,h1,h2⟩ | ⟨e,h1,h2⟩ | ⟨v,hv,_⟩
  ·exact .inl ⟨a,j,h1.1,h1.2,h2⟩
  ·exact .inr ⟨e,h1,h2⟩
  ·exact hv.elim
 ·have hP:P x→∀ y∈q++[x],P y:=fun hx y hy=>by
   rcases List.mem_append.mp hy with hy | hy
   ·exact hi.2 y hy
   ·simp only[List.mem_singleton.mp hy];exact hx
  obtain⟨hN,⟨h0,h1,j',h2⟩ | ⟨h0,d,u,j',h1,h2,h3⟩ | ⟨e,h1,h2⟩⟩:=h q x r hq hi.2 a j (hi.1.lt H (by decide))
  ·refine Out.kn a j' ⟨hi.1.ext fun k=>?_,hP h0⟩ h2
   by_cases e:k=x
   ·subst e;simp[h1]
   ·simp[e]
  ·refine Out.kn (st a x d) j' ⟨(hi.1.set hN h2).ext fun k=>?_,hP h0⟩ h3
   by_cases e:k=x
   ·subst e;simp[h1,upd]
   ·simp[e,upd]
  ·exact Out.exc e h1 h2
theorem jY(H:Wld N){β:Type}{S:LP→β→aA}{b:aA→KN→KR→R V}{t:Expr}{xs:List Str}(F:Str→Option TT){E:X→Prop}{j:β}
  (h:∀ x∈xs,∀ a j,a.length < bA→x∈N∧((F x=none∧∃ j',∀ kn kr,(rb (ofP (aR t (.str x) (S a j))) fun σ=>b σ kn kr)=kn (S a j')) ∨
   (∃ d u j',F x=some u∧Sem N m d u∧∀ kn kr,(rb (ofP (aR t (.str x) (S a j))) fun σ=>b σ kn kr)=kn (S (st a x d) j')) ∨
   (∃ e,E e∧∀ kn kr,(rb (ofP (aR t (.str x) (S a j))) fun σ=>b σ kn kr)=.exc e))) :
  (∃ a j',Bld N m a (fun k=>if k∈xs then F k else none)∧∀ kn kr,aQ b t (xs.map .str) (S [] j) kn kr=kn (S a j'))∨∃ e,E e∧∀ kn kr,aQ b t (xs.map .str) (S [] j) kn kr=.exc e:=by
 rcases Df H (S:=S) (b:=b) (t:=t) (xs:=xs) (j:=j) (m:=m) F (E:=E) (fun _=>True) (fun q x r hq _ a j ha=>(h x (iQ hq) a j ha).imp id (Or.imp (fun h=>⟨trivial,h⟩) (Or.imp (fun h=>⟨trivial,h⟩) id))) with ⟨a,j',h1,_,h2⟩ | h
 ·exact .inl ⟨a,j',h1,h2⟩
 ·exact .inr h
theorem vM(H:Wld N):∀ {m n:Nat} {d:PyData} {t:TT},Sem N m d t→m≤n→Gives (rn (n+1) "copied" [.fz d]) fun d'=>Sem N m d' t:=by
 intro m
 induction m with
 |zero =>
  intro n d t h hn;obtain⟨i,rfl,rfl,hi⟩ | ⟨_,_,_,e,_⟩:=h.inv'
  ·exact⟨_,_,(tZ n _).trans rfl,rfl,.num hi⟩
  ·cases e
 |succ m ih =>
  intro n d t h hn;refine exnE (c:=1) n hn hn fun n hn=>?_;obtain⟨i,rfl,rfl,hi⟩ | ⟨_,l,f,e,rfl,rfl,B⟩:=h.inv'
  ·exact⟨_,_,(tZ _ _).trans rfl,rfl,.num hi⟩
  ·cases e;have:=jY H (m:=m) (S:=fun (a:LP) (j:Option V)=>iJ (ζ (.dict (mkd l))) (some (.own (.dict (mkd a)))) j) (b:=tX (n+1)) (t:=tY) (xs:=ks l) (j:=none) f (E:=fun _=>False) fun x hx a j ha=>?_
   ·obtain⟨a,j,hi,e⟩ | ⟨x,hx,_⟩:=this
    ·refine⟨.own (.dict (mkd a)),_,?_,rfl,(B.all (fun _ h=>h) hi).toSem⟩;simp only[tZ,bO];exact(e _ _).trans (Rn ..)
    ·exact hx.elim
   ·obtain⟨dx,tx,h1,h2,h3⟩:=B.key hx;obtain⟨v,d',e1,e2,e3⟩:=ih h3 (bc hn);refine⟨B.sub x hx,.inr (.inl ⟨d',tx,some (.fz (.str x)),h2,e3,fun kn kr=>?_⟩)⟩;simp only[Rl,aJ,aE,Rm,a9 h1];show rb (rn (n+1) "copied" [.fz dx]) (fun v=>rb (ofP (Internal.setItem (.dict (mkd a)) (.str x) (dOf v))) _)=_;simp only[e1,aE,eZ e2,b7 x d' ha];rfl
noncomputable def tl:PyData→List PyData
 | .tuple l=>l
 |_=>[]
noncomputable def enc:WW→PyData
 | .whole=>.tuple [.str (so "whole")]
 | .pick n=>.tuple [.str (so "pick"),.str n]
 | .call a b=>.tuple [.str (so "call"),.str a,.str b]
 | .sift f l=>.tuple [.str (so "sift"),.str f,.int l]
 | .join a b fs=>.tuple [.str (so "join"),.str a,.str b,.tuple (fs.map .str)]
 | .each v=>.tuple [.str (so "each"),enc v]
 | .andThen a b=>.tuple [.str (so "then"),enc a,enc b]
 | .beside r=>.tuple [.str (so "beside"),enc r]
 | .bnil=>.tuple []
 | .bcons n p v r=>.tuple (.tuple [.str n,.str p,enc v]::tl (enc r))
noncomputable def aY(r:WW):List PyData:=tl (enc r)
theorem gV{r:WW}(h:r.isRows=true):enc r=.tuple (aY r):=by
 cases r<;>first | rfl | cases h
noncomputable def W.hgt:WW→Nat
 | .each v=>v.hgt+1
 | .andThen a b=>max a.hgt b.hgt+1
 | .beside r=>r.hgt+1
 | .bcons _ _ v r=>max v.hgt r.hgt
 |_=>0
def okW(N:List Str):WW→Prop
 | .whole=>True
 | .pick n=>n∈N
 | .call a b=>a∈N∧b∈N∧a≠b
 | .sift f l=>f∈N∧l.natAbs < 10 ^ 30
 | .join a b fs=>(a∈N∧b∈N∧a≠b)∧(1≤fs.length∧fs.length≤6)∧fs.Nodup∧∀ f∈fs,f∈N
 | .each v=>okW N v∧v.isRows=false
 | .andThen a b=>(okW N a∧a.isRows=false)∧okW N b∧b.isRows=false
 | .beside r=>(okW N r∧r.isRows=true)∧1≤r.names.length∧r.names.length≤6
 | .bnil=>True
 | .bcons n p v r=>(n∈N∧p∈N)∧(okW N v∧v.isRows=false)∧(okW N r∧r.isRows=true)∧n∉r.names∧p∉r.parts
variable {N:List Str}
theorem okW.wf:∀ {w:WW},okW N w→w.wf:=by
 intro w
 induction w with
 |call a b=>exact fun h=>h.2.2
 |join a b fs=>exact fun h=>h.1.2.2
 |each v ih=>exact fun h=>⟨ih h.1,h.2⟩
 |andThen a b iha ihb=>exact fun h=>⟨⟨iha h.1.1,h.1.2⟩,ihb h.2.1,h.2.2⟩
 |beside r ih=>exact fun h=>⟨ih h.1.1,h.1.2⟩
 |bcons n p v r ihv ihr=>exact fun h=>⟨⟨ihv h.2.1.1,h.2.1.2⟩,⟨ihr h.2.2.1.1,h.2.2.1.2⟩,h.2.2.2⟩
 |_=>exact fun _=>trivial
theorem Vc:∀ {l:List Str},l.Nodup→cH l=l:=by
 intro v0
 induction v0 with
 |nil =>
  intro _;exact rfl
 |cons a r ih =>
  intro h;obtain⟨h1,h2⟩:=aw.mp h;show(if r.contains a then cH r else a::cH r)=_;rw[if_neg (by simpa using h1),ih h2]
theorem Dg{l:List Str}(h:l.Nodup)(hl:l.length < 64):eI (.tuple (l.map .str))=.ok (.fz (.int l.length)):=by
 show((ofO (strs? (l.map .str))).bind fun ss=>if ss.length < 64 then fz (.int (cH ss.reverse).length) else .no)=_;rw[gT,fP,fO,if_pos hl,Vc (by simpa[List.Nodup,List.pairwise_reverse,ne_comm] using h),List.length_reverse];rfl
theorem Vd{l:List Str}(h:l.Nodup)(hl:l.length < 64):eI (.list (l.map .str))=.ok (.fz (.int l.length)):=Dg h hl
theorem Dh(H:Wld N)(n:Nat){a b:Str}(ha:a∈N)(hb:b∈N)(hab:a≠b):rn (n+2) "are_two_names" [.fz (.str a),.fz (.str b)]=.ok (.fz (.bool true)):=by
 simp only[Rq,gU n (H.ok a ha),gU n (H.ok b hb)];show R.ok (V.fz (.bool !(a==b)))=_;simp only[beq_false_of_ne hab];rfl
theorem Ve(n:Nat){l:Int}(hl:l.natAbs < 10 ^ 30):rn (n+2) "is_least" [.fz (.int l)]=.ok (.fz (.bool true)):=by
 rw[Rr,mE];show R.ok (V.fz (.bool (decide ((if l < 0 then -l else l) < (10 ^ 30:Int)))))=_;congr;rw[decide_eq_true_eq,show(if l < 0 then -l else l)=(l.natAbs:Int) from by
  split
  ·rename_i h;exact(Int.ofNat_natAbs_of_nonpos (cq h)).symm
  ·rename_i h;exact(Int.natAbs_of_nonneg (cv.mp h)).symm]
 exact ci.mpr hl
theorem Di{α:Type}{l:List α}(h1:1≤l.length)(h2:l.length≤6):aN (if decide ((1:Int)≤(l.length:Int))=true then R.ok (decide ((l.length:Int)≤6)) else R.ok false)=.ok (.fz (.bool true)):=by
 have e1:decide ((1:Int)≤(l.length:Int))=true:=by simp;exact xE h1
 have e2:decide ((l.length:Int)≤6)=true:=by simp;exact Gu h2
 simp only[e1,cD,e2];rfl
theorem vN{l:List Str}{r:List PyData}{d:PyData}(hd:d=.tuple (l.map .str)∨d=.list (l.map .str))(h:l.Nodup)(hl:l.length < 64)(hr:r.length=l.length):aC (aK eI (.ok (.fz d))) .Eq (ofP (bL (.tuple r)))=.ok (.fz (.bool true)):=by
 show rb (ofP (eI d)) (fun a=>aN (ofP (cmp .Eq (dOf a) (.int r.length))))=_;rw[show eI d=.ok (.fz (.int l.length)) from hd.elim (fun e=>e▸Dg h hl) fun e=>e▸Vd h hl,hr];show R.ok (V.fz (.bool ((l.length:Int)==(l.length:Int))))=_;simp
theorem Vf(H:Wld N)(n:Nat){fs:List Str}(h1:1≤fs.length)(h2:fs.length≤6)(hn:fs.Nodup)(hN:∀ f∈fs,f∈N):rn (n+2) "are_fields" [.fz (.tuple (fs.map .str))]=.ok (.fz (.bool true)):=by
 have e0:f8 (.ok (.fz (.int 1))) .LtE (ofP (bL (.tuple (fs.map .str)))) .LtE (.ok (.fz (.int 6)))=.ok (.fz (.bool true)):=Di (l:=fs.map PyData.str) (by simpa using h1) (by simpa using h2);have e1:aK cJ (aO (ofP (items (.tuple (fs.map .str)))) (fun d1=>(.ok true)) (fun d1=>(rn (n+1) "is_name" [.fz d1])))=.ok (.fz (.bool true)) :=
  (jU (g:=fun _=>true) fun x hx=>gU n (H.ok x (hN x hx))).trans (by simp)
 rw[Rp,e0,e1,vN (.inl rfl) hn (by exact qX h2) (by simp)];rfl
theorem vO:∀ {r:WW},r.isRows=true→okW N r→(aX (fun _=>.ok true) (fun d=>ofP (getItem d (.int 0))) (aY r)=.ok (r.names.map .str)∧aX (fun _=>.ok true) (fun d=>ofP (getItem d (.int 1))) (aY r)=.ok (r.parts.map .str))∧(r.names.Nodup∧r.parts.Nodup)∧(aY r).length=r.names.length∧r.parts.length=r.names.length:=by
 intro r
 induction r with
 |bnil=>exact fun _ _=>⟨⟨rfl,rfl⟩,⟨cm,cm⟩,rfl,rfl⟩
 |bcons n p v r ihv ihr =>
  intro _ h;refine hde fun _ θ=>?_;obtain⟨⟨i1,i2⟩,⟨i3,i4⟩,i5,i6⟩:=ihr h.2.2.1.2 h.2.2.1.1;apply θ;refine⟨⟨?_,?_⟩,⟨aw.mpr ⟨h.2.2.2.1,i3⟩,aw.mpr ⟨h.2.2.2.2,i4⟩⟩,congrArg (·+1) i5,congrArg (·+1) i6⟩
  ·show rb (aX (fun _=>.ok true) (fun d=>ofP (getItem d (.int 0))) (aY r)) (fun xs=>.ok (.str n::xs))=_;rw[i1];rfl
  ·show rb (aX (fun _=>.ok true) (fun d=>ofP (getItem d (.int 1))) (aY r)) (fun xs=>.ok (.str p::xs))=_;rw[i2];rfl
 |_=>exact fun h=>by exact bft h
theorem Vg(n:Nat){r:WW}(hr:r.isRows=true)(ho:okW N r)(h1:1≤r.names.length)(h2:r.names.length≤6)(h:∀ d∈aY r,rn n "is_row" [.fz d]=.ok (.fz (.bool true))):rn (n+1) "is_beside" [.fz (enc r)]=.ok (.fz (.bool true)):=by
 refine hde fun _ θ=>?_;obtain⟨⟨i1,i2⟩,⟨i3,i4⟩,i5,i6⟩:=vO hr ho;apply θ;simp only[gV hr,Ro];have e0:f8 (.ok (.fz (.int 1))) .LtE (ofP (bL (.tuple (aY r)))) .LtE (.ok (.fz (.int 6)))=.ok (.fz (.bool true)):=Di (l:=aY r) (by exact Gv h1 i5) (by exact Gw h2 i5);have e1:aK cJ (aO (ofP (items (.tuple (aY r)))) (fun d1=>(.ok true)) (fun d1=>(rn n "is_row" [.fz d1])))=.ok (.fz (.bool true)) :=
  (Db (l:=aY r) (g:=fun _=>true) h).trans (by simp)
 have e2:aO (ofP (items (.tuple (aY r)))) (fun _=>.ok true) (fun d=>ofP (getItem d (.int 0)))=.ok (.own (.list (r.names.map .str))):=by
  show rb (aX (fun _=>.ok true) (fun d=>ofP (getItem d (.int 0))) (aY r)) (fun r=>ofP (own (.list r)))=_;simp only[i1];rfl
 have e3:aO (ofP (items (.tuple (aY r)))) (fun _=>.ok true) (fun d=>ofP (getItem d (.int 1)))=.ok (.own (.list (r.parts.map .str))):=by
  show rb (aX (fun _=>.ok true) (fun d=>ofP (getItem d (.int 1))) (aY r)) (fun r=>ofP (own (.list r)))=_;simp only[i2];rfl
 simp only[e0,e1,e2,e3];show rb (aV (aC (aK eI (.ok (.fz (.list (r.names.map .str))))) .Eq (ofP (bL (.tuple (aY r))))) (aC (aK eI (.ok (.fz (.list (r.parts.map .str))))) .Eq (ofP (bL (.tuple (aY r)))))) R.ok=_;rw[vN (.inr rfl) i3 (by exact qX h2) i5,vN (.inr rfl) i4 (by exact Gx h2 i6) (by exact Gy i5 i6)];rfl
section
theorem Vh(n:Nat):rn (n+1) "is_view" [.fz (enc .whole)]=.ok (.fz (.bool true)):=by kernel_rfl
theorem Vi(n:Nat)(x:Str):rn (n+1) "is_view" [.fz (enc (.pick x))]=rb (rn n "is_name" [.fz (.str x)]) R.ok:=by kernel_rfl
theorem Vj(n:Nat)(x y:Str):rn (n+1) "is_view" [.fz (enc (.call x y))]=rb (rn n "are_two_names" [.fz (.str x),.fz (.str y)]) R.ok:=by kernel_rfl
theorem Vk(n:Nat)(x:Str)(l:Int):rn (n+1) "is_view" [.fz (enc (.sift x l))]=rb (aV (rn n "is_name" [.fz (.str x)]) (rn n "is_least" [.fz (.int l)])) R.ok:=by kernel_rfl
theorem Vl(n:Nat)(x y:Str)(fs:List Str):rn (n+1) "is_view" [.fz (enc (.join x y fs))]=rb (aV (rn n "are_two_names" [.fz (.str x),.fz (.str y)]) (rn n "are_fields" [.fz (.tuple (fs.map .str))])) R.ok:=by kernel_rfl
theorem Vm(n:Nat)(v:WW):rn (n+1) "is_view" [.fz (enc (.each v))]=rb (rn n "is_view" [.fz (enc v)]) R.ok:=by kernel_rfl
theorem Vn(n:Nat)(a b:WW):rn (n+1) "is_view" [.fz (enc (.andThen a b))]=rb (aV (rn n "is_view" [.fz (enc a)]) (rn n "is_view" [.fz (enc b)])) R.ok:=by kernel_rfl
theorem Vo(n:Nat)(r:WW):rn (n+1) "is_view" [.fz (enc (.beside r))]=rb (rn n "is_beside" [.fz (enc r)]) R.ok:=by kernel_rfl
theorem Vp(n:Nat)(x y:Str)(v:WW):rn (n+1) "is_row" [.fz (.tuple [.str x,.str y,enc v])]=rb (aV (rn n "is_name" [.fz (.str x)]) (aV (rn n "is_name" [.fz (.str y)]) (rn n "is_view" [.fz (enc v)]))) R.ok:=by kernel_rfl
end
def Vq(w:WW):Prop:=∀ n,3*w.hgt+3≤n→rn n "is_view" [.fz (enc w)]=.ok (.fz (.bool true))
def Vr(w:WW):Prop:=∀ n,3*w.hgt+4≤n→∀ d∈aY w,rn n "is_row" [.fz d]=.ok (.fz (.bool true))
structure ViewS(w:WW):Prop where
 a:w.isRows=false→Vq w
 b:w.isRows=true→Vr w
theorem Dj(H:Wld N):∀ {w:WW},okW N w→ViewS w:=by
 intro w
 induction w with
 |whole=>exact fun _=>⟨fun _ n hn=>exnE (c:=1) n hn hn fun n _=>Vh n,fun h=>by exact bft h⟩
 |pick x=>exact fun h=>⟨fun _ n hn=>by
   refine exnE (c:=2) n hn hn fun n hn=>?_;simp only[Vi,gU n (H.ok x h)];rfl,fun h=>by exact bft h⟩
 |call a b=>exact fun h=>⟨fun _ n hn=>by
   refine exnE (c:=3) n hn hn fun n hn=>?_;simp only[Vj,Dh H n h.1 h.2.1 h.2.2];rfl,fun h=>by exact bft h⟩
 |sift x l=>exact fun h=>⟨fun _ n hn=>by
   refine exnE (c:=3) n hn hn fun n hn=>?_;simp only[Vk,gU (n+1) (H.ok x h.1),Ve n h.2];rfl,fun h=>by exact bft h⟩
 |join a b fs=>exact fun h=>⟨fun _ n hn=>by
   refine exnE (c:=3) n hn hn fun n hn=>?_;simp only[Vl,Dh H n h.1.1 h.1.2.1 h.1.2.2,Vf H n h.2.1.1 h.2.1.2 h.2.2.1 h.2.2.2];rfl,fun h=>by exact bft h⟩
 |each v ih=>exact fun h=>⟨fun _ n hn=>by
   have hn:3*(v.hgt+1)+3≤n:=hn;refine exnE (c:=1) n hn hn fun n hn=>?_;simp only[Vm,(ih h.1).1 h.2 n (fd (k:=2) (c:=1) hn)];rfl,fun h=>by exact bft h⟩
 |andThen a b iha ihb=>exact fun h=>⟨fun _ n hn=>by
   have hn:3*(max a.hgt b.hgt+1)+3≤n:=hn;refine exnE (c:=1) n hn hn fun n hn=>?_;simp only[Vn,(iha h.1.1).1 h.1.2 n (mx (fd (k:=2) (c:=1) hn)).1,(ihb h.2.1).1 h.2.2 n (mx (k:=3) (r:=3) (fd (k:=2) (c:=1) hn)).2];rfl,fun h=>by exact bft h⟩
 |beside r ih=>exact fun h=>⟨fun _ n hn=>by
   have hn:3*(r.hgt+1)+3≤n:=hn;refine exnE (c:=2) n hn hn fun n hn=>?_;simp only[Vo,Vg n h.1.2 h.1.1 h.2.1 h.2.2 fun d hd=>(ih h.1.1).2 h.1.2 n (fd (k:=0) (c:=2) hn) d hd];rfl,fun h=>by exact bft h⟩
 |bnil=>exact fun _=>⟨fun h=>(by cases h),fun _ n _ d hd=>by cases hd⟩
 |bcons x y v r ihv ihr =>
  intro h;refine⟨fun h=>(by exact btf h),fun _ n hn d hd=>?_⟩;have hn:3*(max v.hgt r.hgt)+4≤n:=hn;rcases List.mem_cons.mp (show d∈.tuple [.str x,.str y,enc v]::aY r from hd) with rfl | hd
  ·refine exnE (c:=2) n hn hn fun n hn=>?_;simp only[Vp,gU n (H.ok x h.1.1),gU n (H.ok y h.1.2),(ihv h.2.1.1).1 h.2.1.2 (n+1) (fd (k:=0) (c:=1) (mx hn).1)];rfl
  ·exact(ihr h.2.2.1.1).2 h.2.2.1.2 n (mx hn).2 d hd
variable {N:List Str} {m:Nat}
theorem vP:∀ {l:LP} {p:Str×PyData},(ks l).Nodup→p∈l→lk l p.1=some p.2
 |q::r,p,h,hp=>by
  obtain⟨h1,h2⟩:=aw.mp (show(q.1::ks r).Nodup from h);show(if p.1=q.1 then some q.2 else lk r p.1)=_;rcases List.mem_cons.mp hp with rfl | hp
  ·rw[if_pos rfl]
  ·rw[if_neg fun e:p.1=q.1=>h1 (e▸fy (f:=(·.1)) hp),vP h2 hp]
theorem Bld.upd{l1 l2:LP}{f g:Str→Option TT}(B:Bld N m l1 f)(C:Bld N m l2 g):Bld N m (sts l2 l1) fun k=>(g k).or (f k):=by
 refine(jV (F:=g) B fun p hp=>?_).ext fun k=>?_
 ·have h:=vP C.nd hp;obtain⟨t,a,b⟩:=C.get' h;exact⟨C.sub _ (lY h),t,a,b⟩
 ·by_cases hk:k∈ks l2
  ·obtain⟨d,t,_,h2,_⟩:=C.key hk;rw[if_pos hk,h2];rfl
  ·have:g k=none:=by
    refine ocs (g k) (fun e=>?_) fun t e=>?_
    ·try rewrite[e]
     rfl
    ·exact absurd (C.mem.mpr (by rw[e];rfl)) hk
   rw[if_neg hk,this];rfl
theorem Dk{l1 l2:LP}(h:l1.length+l2.length < 4096):gI (so "update") (.dict (mkd l1)) [.dict (mkd l2)]=.ok (.dict (mkd (sts l2 l1))):=by
 show((ofO (keys? (mkd l2))).bind fun m=>if (mkd l1).length+m.length < 4096 then P.ok (PyData.dict (dA m (mkd l1))) else .no)=_;simp only[mk_keys?,fP,fO,pV,if_pos h,u0]
section
theorem jZ(n:Nat):rn (n+1) "need_fit" [.fz (.bool true)]=.ok (.fz .none):=by kernel_rfl
theorem Vs(n:Nat)(d:PyData):rn (n+1) "shown" [.fz (enc .whole),.fz d]=.ok (.fz d):=by kernel_rfl
theorem Vt(n:Nat)(x:Str)(d:PyData):rn (n+1) "shown" [.fz (enc (.pick x)),.fz d]=rb (aD (rn n "need_fit") [rn n "has_part" [.fz d,.fz (.str x)]]) fun _=>rb (ofP (getItem d (.str x))) R.ok:=by kernel_rfl
theorem Vu(n:Nat)(x y:Str)(d:PyData):rn (n+1) "shown" [.fz (enc (.call x y)),.fz d]=rb (rn n "shown_call" [.fz (enc (.call x y)),.fz d]) R.ok:=by kernel_rfl
theorem Vv(n:Nat)(x:Str)(l:Int)(d:PyData):rn (n+1) "shown" [.fz (enc (.sift x l)),.fz d]=rb (rn n "shown_sift" [.fz (enc (.sift x l)),.fz d]) R.ok:=by kernel_rfl
theorem Vx(n:Nat)(x y:Str)(fs:List Str)(d:PyData):rn (n+1) "shown" [.fz (enc (.join x y fs)),.fz d]=rb (rn n "shown_join" [.fz (enc (.join x y fs)),.fz d]) R.ok:=by kernel_rfl
theorem Vy(n:Nat)(v:WW)(d:PyData):rn (n+1) "shown" [.fz (enc (.each v)),.fz d]=rb (rn n "shown_each" [.fz (enc (.each v)),.fz d]) R.ok:=by kernel_rfl
theorem Vz(n:Nat)(v:WW)(d:PyData):rn (n+1) "shown" [.fz (enc (.beside v)),.fz d]=rb (rn n "shown_beside" [.fz (enc (.beside v)),.fz d]) R.ok:=by kernel_rfl
theorem V0(n:Nat)(a b:WW)(d:PyData):rn (n+1) "shown" [.fz (enc (.andThen a b)),.fz d]=rb (aD (rn n "shown") [.ok (.fz (enc b)),rn n "shown" [.fz (enc a),.fz d]]) R.ok:=by kernel_rfl
end
theorem mG(n:Nat)(l:LP)(x:Str):rn (n+1) "has_part" [.fz (.dict (mkd l)),.fz (.str x)]=.ok (.fz (.bool (lk l x).isSome)):=by
 rw[Rx];show rb (aN (ofP (Internal.contains (.str x) (.dict (mkd l))))) R.ok=_;rw[dD];rfl
noncomputable def dec(p:Prop):Bool:=@decide p (Classical.propDecidable p)
theorem bR{p:Prop}:dec p=true↔p:=by unfold dec;simp
theorem cX{p:Prop}:dec p=false↔¬ p:=by unfold dec;simp
theorem eD{p:Prop}{b:Bool}(h:b=true↔p):b=dec p:=by rw[Bool.eq_iff_iff,bR];exact h
noncomputable def sb(a:Str)(l:Int)(t:TT):Bool:=dec (cK a l t)
theorem mH{a:Str}{l:Int}{t:TT}:sb a l t=true↔cK a l t:=bR
theorem gW{a:Str}{l:Int}{t:TT}:sb a l t=false↔¬ cK a l t:=cX
theorem vQ(n:Nat){l:LP}{f:Str→Option TT}(B:Bld N m l f)(a:Str)(i:Int):rn (n+2) "is_sifted" [.fz (.dict (mkd l)),.fz (.str a),.fz (.int i)]=.ok (.fz (.bool (sb a i (.br f)))):=by
 rw[Ry];show rb (aV (aN (ofP (Internal.contains (.str a) (.dict (mkd l))))) (aV (aD (rn (n+1) "is_whole") [(ofP (getItem (.dict (mkd l)) (.str a)))]) (aC (ofP (getItem (.dict (mkd l)) (.str a))) .GtE (.ok (.fz (.int i)))))) R.ok=_;rw[dD,pZ];cases e:lk l a with
 |none =>
  have:sb a i (.br f)=false:=gW.mpr fun ⟨j,h,_⟩=>by
   have h:f a=some (.num j):=h;rw[B.none_iff.mpr e] at h;cases h
  rw[this];rfl
 |some d =>
  obtain⟨t,h1,h2⟩:=B.get' e;show rb (aV (rn (n+1) "is_whole" [.fz d]) (aN (ofP (cmp .GtE d (.int i))))) R.ok=_;rw[mE];obtain⟨j,rfl,rfl,_⟩ | ⟨_,l',f',_,rfl,rfl,_⟩:=h2.inv'
  ·show R.ok (V.fz (.bool (decide (i≤j))))=_;rw[show decide (i≤j)=sb a i (.br f) from eD (decide_eq_true_iff.trans ⟨fun h=>⟨j,h1,h⟩,fun ⟨k,h,h'⟩=>by
    have h:f a=some (.num k):=h;rw[h1] at h;cases h;exact h'⟩)]
  ·have:sb a i (.br f)=false:=gW.mpr fun ⟨j,h,_⟩=>by
    have h:f a=some (.num j):=h;rw[h1] at h;cases h
   rw[this];rfl
noncomputable def abB:TT→Bool
 | .num _=>false
 | .br f=>dec (bQ f)
theorem mI(n:Nat){d:PyData}{t:TT}(h:Sem N m d t):rn (n+1) "all_branches" [.fz d]=.ok (.fz (.bool (abB t))):=by
 rw[Rk];obtain⟨i,rfl,rfl,_⟩ | ⟨m,l,f,_,rfl,rfl,B⟩:=h.inv'
 ·rfl
 ·have:=jU (xs:=ks l) (e:=fun d1=>eW (so "dict") (ofP (getItem (.dict (mkd l)) d1))) (g:=fun x=>match lk l x with | some d=>bT d | none=>false) fun x hx=>by
   obtain⟨d,t,h1,h2,h3⟩:=B.key hx;rw[a9 h1,h1];rfl
  rw[bO,aJ,this];show R.ok (V.fz (.bool ((ks l).all _)))=_;refine congrArg (fun b=>R.ok (V.fz (.bool b))) (eD ?_);rw[be];constructor
  ·intro h k t hk;obtain⟨d,h1,h2⟩:=B.get hk;have:=h k (lY h1);rw[h1] at this;obtain⟨i,rfl,rfl,_⟩ | ⟨_,l',f',_,rfl,rfl,_⟩:=h2.inv'
   ·exact bft this
   ·exact⟨_,rfl⟩
  ·intro h x hx;obtain⟨d,t,h1,h2,h3⟩:=B.key hx;obtain⟨g,rfl⟩:=h x t h2;obtain⟨_,l',_,rfl,_⟩:=h3.br_inv';rw[h1];rfl
theorem V1(n:Nat){d:PyData}{f:Str→Option TT}(h:Sem N m d (.br f))(ha:bQ f):rn (n+1) "all_branches" [.fz d]=.ok (.fz (.bool true)):=by
 rw[mI n h];rw[show abB (.br f)=true from bR.mpr ha]
theorem j0(fs:List Str)(x:Str):Internal.contains (.str x) (.tuple (fs.map .str))=.ok (fs.contains x):=by
 show((ofO (strs? (fs.map .str))).bind fun ss=>P.ok (ss.contains x))=_;rw[gT];rfl
theorem V2{xs:List Str}{t:PyData→R Bool}{g:Str→Bool}(h:∀ x∈xs,t (.str x)=.ok (g x)):aC (aO (.ok (xs.map .str)) t (fun d=>.ok (.fz d))) .NotEq (.ok (.own (.list [])))=.ok (.fz (.bool (!(xs.filter g).isEmpty))):=by
 show rb (rb (aX t (fun d=>.ok (.fz d)) (xs.map .str)) fun r=>ofP (own (.list r))) _=_;rw[qC h];show aN (ofP (bP (eqO (.list ((xs.filter g).map .str)) (.list []))))=_;rw[jX];rfl
theorem vR{xs:List Str}{t:PyData→R Bool}{g:Str→Bool}(h:∀ x∈xs,t (.str x)=.ok (g x)):aC (aO (.ok (xs.map .str)) t (fun d=>.ok (.fz d))) .Eq (.ok (.own (.list [])))=.ok (.fz (.bool (xs.filter g).isEmpty)):=by
 show rb (rb (aX t (fun d=>.ok (.fz d)) (xs.map .str)) fun r=>ofP (own (.list r))) _=_;rw[qC h];show aN (ofP (eqO (.list ((xs.filter g).map .str)) (.list [])))=_;rw[jX];rfl
theorem mJ{xs:List Str}{g:Str→Bool}:(xs.filter g).isEmpty=true↔∀ x∈xs,g x=false:=by
 rw[List.isEmpty_iff,ie];simp
def mK(g:Str→Option TT)(P:Str→Prop):Prop:=∀ k t,g k=some t→∀ x,(t.get x).isSome=true→P x
noncomputable def gX(g:Str→Option TT)(P:Str→Prop)(k:Str):Bool:=dec (∀ t,g k=some t→∀ x,(t.get x).isSome=true→P x)
theorem qF{l:LP}{g:Str→Option TT}(B:Bld N m l g)(P:Str→Prop):(ks l).all (gX g P)=dec (mK g P):=eD (by
 rw[be];exact⟨fun h k t hk=>bR.mp (h k (B.mem.mpr (by rw[hk];rfl))) t hk,fun h k _=>bR.mpr (h k)⟩)
theorem qG{l lr:LP}{g r:Str→Option TT}{x:Str}{P:Str→Prop}{c:Str→Bool}{T:PyData→R Bool}(hT:∀ y,T (.str y)=.ok (c y))(hc:∀ y,c y=false↔P y)(Br:Bld N m lr r)(h1:lk l x=some (.dict (mkd lr)))(h2:g x=some (.br r))(A B:R V) :
  ifS (aC (aO (plI (aG (aU (.fz (.dict (mkd l)))) (.ok (.fz (.str x))))) T (fun d=>.ok (.fz d))) .NotEq (.ok (.own (.list [])))) A B=if gX g P x=true then B else A:=by
 show ifS (aC (aO (plI (ofP (getItem (.dict (mkd l)) (.str x)))) T _) _ _) _ _=_;rw[a9 h1];show ifS (aC (aO (ofP (items (.dict (mkd lr)))) T _) _ _) _ _=_;rw[bO,aJ,V2 (g:=c) fun y _=>hT y,show((ks lr).filter c).isEmpty=gX g P x from eD (mJ.trans ⟨fun h t ht y hy=>by
  rw[h2] at ht;obtain rfl:=si ht;exact(hc y).mp (h y (Br.mem.mpr hy)),fun h y hy=>(hc y).mpr (h _ h2 y (Br.mem.mp hy))⟩)]
 cases gX g P x<;>rfl
theorem Dl(a b:Str)(fs:List Str)(y:Str):tst (aC (.ok (.fz (.str y))) .NotIn (ofP (getItem (enc (.join a b fs)) (.int 3))))=.ok (!fs.contains y):=by
 show tst (aN (ofP (bP (Internal.contains (.str y) (.tuple (fs.map .str))))))=_;rw[j0];rfl
theorem Dm(a b:Str)(fs:List Str)(y:Str):tst (aC (.ok (.fz (.str y))) .In (ofP (getItem (enc (.join a b fs)) (.int 3))))=.ok (fs.contains y):=by
 show tst (aN (ofP (Internal.contains (.str y) (.tuple (fs.map .str)))))=_;rw[j0];rfl
theorem Dn(fs:List Str)(y:Str):(!fs.contains y)=false↔y∈fs:=by simp
theorem Do(fs:List Str)(y:Str):fs.contains y=false↔y∉fs:=by simp
theorem gY{f:Str→Option TT}{a b:Str}{fs:List Str}(h:∀ g k,f a=some (.br g)→f b=some (.br k)→¬ FitJ fs g k):aI (.join a b fs) (.br f)=none:=by
 refine ocs (aI (.join a b fs) (.br f)) (fun e=>e) fun s e=>?_;obtain⟨g,k,h1,h2,F,_⟩:=pR e;exact absurd F (h g k h1 h2)
theorem Dp{t:TT}(h:abB t=true):∃ g,t=.br g∧bQ g:=by
 cases t with
 |num=>exact bft h
 |br g=>exact⟨g,rfl,bR.mp h⟩
theorem V3(n:Nat){a b:Str}{fs:List Str}{l:LP}{f:Str→Option TT}(B:Bld N m l f):rn (n+2) "fits_join" [.fz (enc (.join a b fs)),.fz (.dict (mkd l))]=.ok (.fz (.bool (aI (.join a b fs) (.br f)).isSome)):=by
 simp only[Rz];show ifS (orS (unS .Not (rn (n+1) "has_part" [.fz (.dict (mkd l)),.fz (.str a)])) (unS .Not (rn (n+1) "has_part" [.fz (.dict (mkd l)),.fz (.str b)]))) _ (rb (ofP (getItem (.dict (mkd l)) (.str a))) fun v1=>rb (ofP (getItem (.dict (mkd l)) (.str b))) fun v2=>_)=_;simp only[mG,mG];refine ocs (lk l a) (fun e=>?_) fun d1 e1=>?_
 ·simp only[e,gY fun g k h1 _ _=>ns ((B.none_iff.mpr e).symm.trans h1)];rfl
 refine ocs (lk l b) (fun e=>?_) fun d2 e2=>?_
 ·simp only[e1,e,gY fun g k _ h1 _=>ns ((B.none_iff.mpr e).symm.trans h1)];rfl
 refine hde fun _ θ=>?_;obtain⟨t1,f1,s1⟩:=B.get' e1;obtain⟨t2,f2,s2⟩:=B.get' e2;apply θ;simp only[e1,e2,a9 e1,a9 e2];show ifS (orS (unS .Not (rn (n+1) "all_branches" [.fz d1])) (unS .Not (rn (n+1) "all_branches" [.fz d2]))) _ (rb (ofP (items d1)) fun l3=>_)=_;simp only[mI n s1,mI n s2];refine bcs (abB t1) (fun c1=>?_) fun c1=>?_
 ·rw[c1,gY fun g k h1 _ F=>by
   simp only[f1] at h1;obtain rfl:=si h1;exact cX.mp c1 F.ga];rfl
 refine bcs (abB t2) (fun c2=>?_) fun c2=>?_
 ·rw[c1,c2,gY fun g k _ h1 F=>by
   simp only[f2] at h1;obtain rfl:=si h1;exact cX.mp c2 F.ha];rfl
 simp only[c1,c2];refine hde fun _ θ=>?_;obtain⟨g,rfl,ga⟩:=Dp c1;obtain⟨h,rfl,ha⟩:=Dp c2;obtain⟨_,l1,_,rfl,B1⟩:=s1.br_inv';obtain⟨_,l2,_,rfl,B2⟩:=s2.br_inv';obtain⟨j1,L1⟩:=qE (S:=fun (j:Option V)=>dR (ζ (enc (.join a b fs))) (ζ (.dict (mkd l))) (ζ (.dict (mkd l1))) (ζ (.dict (mkd l2))) j) (b:=t0 (n+1)) (t:=t6) (c:=gX g (·∈fs)) (v:=.fz (.bool false)) (xs:=ks l1) (fun x hx j=>⟨some (.fz (.str x)),fun kn kr=>by
  obtain⟨d,t,h1,h2,h3⟩:=B1.key hx;obtain⟨r1,rfl⟩:=ga x t h2;obtain⟨_,lr,_,rfl,Br⟩:=h3.br_inv';simp only[R0,aJ,aE,R1];exact qG (Dl a b fs) (Dn fs) Br h1 h2 _ _⟩) none
 obtain⟨j2,L2⟩:=qE (S:=fun (j:Option V)=>dR (ζ (enc (.join a b fs))) (ζ (.dict (mkd l))) (ζ (.dict (mkd l1))) (ζ (.dict (mkd l2))) j) (b:=t7 (n+1)) (t:=t8) (c:=gX h (·∉fs)) (v:=.fz (.bool false)) (xs:=ks l2) (fun x hx j=>⟨some (.fz (.str x)),fun kn kr=>by
  obtain⟨d,t,h1,h2,h3⟩:=B2.key hx;obtain⟨r1,rfl⟩:=ha x t h2;obtain⟨_,lr,_,rfl,Br⟩:=h3.br_inv';simp only[R3,aJ,aE,R4];exact qG (Dm a b fs) (Do fs) Br h1 h2 _ _⟩) j1
 apply θ;simp only[bO];refine(L1 _ _).trans ?_;simp only[qF B1,R2];show(if _ then rb (ofP (items (.dict (mkd l2)))) _ else _)=_;simp only[bO,aJ,aE,bN,L2,qF B2,R5,pQ (t:=.br f) f1 f2]
 by_cases p1:mK g (·∈fs)
 case neg=>rw[cX.mpr p1,cW fun F=>p1 F.gf];rfl
 by_cases p2:mK h (·∉fs)
 case neg=>rw[cX.mpr p2,bR.mpr p1,cW fun F=>p2 F.hf];rfl
 rw[bR.mpr p2,bR.mpr p1,cB ⟨ga,ha,p1,p2⟩];rfl
variable {N:List Str} {m:Nat}
theorem Dq(H:Wld N){β:Type}{S:LP→β→aA}{b:aA→KN→KR→R V}{t:Expr}{l:LP}{f:Str→Option TT}(B:Bld N m l f){x y:Str}(hy:y∈N)(hfy:f y=none){j:β}
  (h:∀ k d a j,lk l k=some d→a.length < bA→∃ j',∀ kn kr,(rb (ofP (aR t (.str k) (S a j))) fun σ=>b σ kn kr)=kn (S (st a (if k=x then y else k) d) j')) :
  ∃ a j',Bld N m a (gB x y f)∧∀ kn kr,aQ b t ((ks l).map .str) (S [] j) kn kr=kn (S a j'):=by
 have:=mF (S:=S) (b:=b) (t:=t) (l:=ks l) (p:=[]) (a:=[]) (j:=j) (I:=fun p a=>Bld N m a fun k=>if k=y then (if x∈p then f x else none) else if k=x then none else if k∈p then f k else none) (E:=fun _=>False) (Q:=fun _=>False) (fun q k r a j hq hi=>?_) (Bld.nil.ext fun k=>by simp)
 ·rcases this with ⟨a,j,h1,h2⟩ | ⟨e,h1,_⟩ | ⟨v,hv,_⟩
  ·refine⟨a,j,h1.ext fun k=>?_,h2⟩;have hn:∀ k,k∉ks l→f k=none:=fun k hk=>by
    refine ocs (f k) (fun e=>?_) fun t e=>?_
    ·try rewrite[e]
     rfl
    ·exact absurd (B.mem.mpr (by rw[e];rfl)) hk
   simp only[List.nil_append,gB];have e1:(if x∈ks l then f x else none)=f x:=by
    by_cases hx:x∈ks l
    ·rw[if_pos hx]
    ·rw[if_neg hx,hn x hx]
   have e2:(if k∈ks l then f k else none)=f k:=by
    by_cases hx:k∈ks l
    ·rw[if_pos hx]
    ·rw[if_neg hx,hn k hx]
   rw[e1,e2]
  ·exact h1.elim
  ·exact hv.elim
 ·have hk:=iQ hq;obtain⟨d,u,h1,h2,h3⟩:=B.key hk;obtain⟨j',e⟩:=h k d a j h1 (hi.lt H (by decide));refine Out.kn _ j' ((hi.set (k:=if k=x then y else k) (by split;exact hy;exact B.sub k hk) h3).ext fun z=>?_) e;have hky:k≠y:=fun e=>by rw[e,hfy] at h2;exact ns h2
  simp only[upd,List.mem_append,List.mem_singleton]
  by_cases e1:k=x
  ·subst e1
   by_cases e2:z=y
   ·simp[e2,h2]
   ·by_cases e3:z=k
    ·subst e3;simp[hky]
    ·simp[e2,e3]
  ·by_cases e2:z=k
   ·subst e2;simp[hky,e1,h2]
   ·by_cases e3:z=y
    ·subst e3;simp[e1,Ne.symm hky,Ne.symm e1]
    ·simp[e1,e2,e3]
theorem V4(H:Wld N)(n:Nat){x y:Str}(hy:y∈N){l:LP}{f:Str→Option TT}(B:Bld N m l f)(hx:(f x).isSome=true)(hfy:f y=none):Gives (rn (n+2) "shown_call" [.fz (enc (.call x y)),.fz (.dict (mkd l))]) fun d=>Sem N (m+1) d (.br (gB x y f)):=by
 have hxl:(lk l x).isSome=true:=(B.dom x).trans hx;obtain⟨a,j,h1,h2⟩:=Dq H (S:=fun (a:LP) (j:Option V)=>gN (ζ (enc (.call x y))) (ζ (.dict (mkd l))) (some (.own (.dict (mkd a)))) j) (b:=t9 (n+1)) (t:=uA) B (x:=x) hy hfy (j:=none) fun k d a j hk ha=>⟨some (.fz (.str k)),fun kn kr=>by
  simp only[R7,aJ,aE,R8];show(if (k==x)=true then bD (ofP (getItem (.dict (mkd l)) (.str k))) (.ok (.dict (mkd a))) (.ok (.fz (.str y))) _ else bD (ofP (getItem (.dict (mkd l)) (.str k))) (.ok (.dict (mkd a))) (.ok (.fz (.str k))) _)=_;simp only[a9 hk]
  by_cases e:k=x
  ·rw[if_pos (by simpa using e),if_pos e];show rb (ofP (Internal.setItem (.dict (mkd a)) (.str y) d)) _=_;simp only[b7 y d ha];rfl
  ·rw[if_neg (by simpa using e),if_neg e];show rb (ofP (Internal.setItem (.dict (mkd a)) (.str k) d)) _=_;simp only[b7 k d ha];rfl⟩
 refine⟨.own (.dict (mkd a)),_,?_,rfl,h1.toSem⟩;simp only[R6];show rb (aD (rn (n+1) "need_fit") [aV (rn (n+1) "has_part" [.fz (.dict (mkd l)),.fz (.str x)]) (aN (ofP (bP (Internal.contains (.str y) (.dict (mkd l))))))]) _=_;simp only[mG,hxl,dD,B.none_iff.mp hfy];show rb (rn (n+1) "need_fit" [.fz (.bool true)]) _=_;simp only[jZ,bO];exact(h2 _ _).trans (R9 ..)
theorem V5(H:Wld N)(n:Nat){x:Str}{i:Int}{l:LP}{f:Str→Option TT}(B:Bld N m l f)(hf:bQ f):Gives (rn (n+3) "shown_sift" [.fz (enc (.sift x i)),.fz (.dict (mkd l))]) fun d=>Sem N (m+1) d (.br (gR x i f)):=by
 have:=jY H (m:=m) (S:=fun (a:LP) (j:Option V)=>eX (ζ (enc (.sift x i))) (ζ (.dict (mkd l))) (some (.own (.dict (mkd a)))) j) (b:=pB (n+2)) (t:=pC) (xs:=ks l) (j:=none) (gR x i f) (E:=fun _=>False) fun k hk a j ha=>?_
 ·obtain⟨a,j,hi,e⟩ | ⟨x,hx,_⟩:=this
  ·refine⟨.own (.dict (mkd a)),_,?_,rfl,(B.all (fun k h=>by show(f k).bind _=none;simp only[h];rfl) hi).toSem⟩;simp only[Se,V1 _ B.toSem hf];show rb (rn (n+2) "need_fit" [.fz (.bool true)]) _=_;simp only[jZ,bO];exact(e _ _).trans (Sh ..)
  ·exact hx.elim
 ·obtain⟨d,t,h1,h2,h3⟩:=B.key hk;refine hde fun _ θ=>?_;obtain⟨g,rfl⟩:=hf k t h2;obtain⟨_,lr,_,rfl,Br⟩:=h3.br_inv';apply θ;have hF:gR x i f k=grd (cK x i (.br g)) (some (.br g)):=by show(f k).bind _=_;simp only[h2];rfl
  have hb:∀ kn kr,(rb (ofP (aR pC (.str k) (eX (ζ (enc (.sift x i))) (ζ (.dict (mkd l))) (some (.own (.dict (mkd a)))) j))) fun σ=>pB (n+2) σ kn kr) =
    if sb x i (.br g)=true then kn (eX (ζ (enc (.sift x i))) (ζ (.dict (mkd l))) (some (.own (.dict (mkd (st a k (.dict (mkd lr))))))) (ζ (.str k))) else kn (eX (ζ (enc (.sift x i))) (ζ (.dict (mkd l))) (some (.own (.dict (mkd a)))) (ζ (.str k))):=fun kn kr=>by
   simp only[Sf,aJ,aE,Sg,a9 h1];show ifS (rn (n+2) "is_sifted" [.fz (.dict (mkd lr)),.fz (.str x),.fz (.int i)]) (rb (ofP (Internal.setItem (.dict (mkd a)) (.str k) (.dict (mkd lr)))) _) _=_;simp only[vQ n Br,b7 k _ ha];rfl
  refine⟨B.sub k hk,?_⟩;refine bcs (sb x i (.br g)) (fun hs=>?_) fun hs=>?_
  ·exact .inl ⟨hF.trans (cW (gW.mp hs) _),some (.fz (.str k)),fun kn kr=>(hb kn kr).trans (by simp only[hs,dJ])⟩
  ·exact .inr (.inl ⟨.dict (mkd lr),.br g,some (.fz (.str k)),hF.trans (cB (mH.mp hs) _),h3,fun kn kr=>(hb kn kr).trans (by rw[hs,cD])⟩)
theorem V6(H:Wld N)(n:Nat){a b:Str}{fs:List Str}{m':Nat}{l l1 l2:LP}{f g h:Str→Option TT}(B:Bld N m' l f)(e1:lk l a=some (.dict (mkd l1)))(e2:lk l b=some (.dict (mkd l2)))(B1:Bld N m l1 g)(B2:Bld N m l2 h)(F:FitJ fs g h)(hs:(aI (.join a b fs) (.br f)).isSome=true):Gives (rn (n+3) "shown_join" [.fz (enc (.join a b fs)),.fz (.dict (mkd l))]) fun d=>Sem N (m+1) d (.br (gA g h)):=by
 have:=jY H (m:=m) (S:=fun (c:LP) (j:Option V×Option V)=>eY (ζ (enc (.join a b fs))) (ζ (.dict (mkd l))) (ζ (.dict (mkd l1))) (ζ (.dict (mkd l2))) (some (.own (.dict (mkd c)))) j.1 j.2) (b:=pD (n+2)) (t:=pE) (xs:=ks l1) (j:=(none,none)) (gA g h) (E:=fun _=>False) fun k hk c j ha=>?_
 ·obtain⟨c,j,hi,e⟩ | ⟨x,hx,_⟩:=this
  ·refine⟨.own (.dict (mkd c)),_,?_,rfl,(B1.all (fun k h=>by show(g k).bind _=none;simp only[h];rfl) hi).toSem⟩;simp only[Si,V3 n B,hs];show rb (rn (n+2) "need_fit" [.fz (.bool true)]) (fun _=>rb (ofP (getItem (.dict (mkd l)) (.str a))) fun v1=>rb (ofP (getItem (.dict (mkd l)) (.str b))) fun v2=>_)=_;simp only[jZ,a9 e1,a9 e2,aE,aJ,aE,aJ,aE];show rb (ofP (items (.dict (mkd l1)))) _=_;simp only[bO];exact(e _ _).trans (Sl ..)
  ·exact hx.elim
 ·obtain⟨d,t,h1,h2,h3⟩:=B1.key hk;refine hde fun _ θ=>?_;obtain⟨r1,rfl⟩:=F.ga k t h2;obtain⟨m',lr,Br⟩:=h3.br_inv;apply θ;refine⟨B1.sub k hk,?_⟩;have hb:∀ kn kr,(rb (ofP (aR pE (.str k) (eY (ζ (enc (.join a b fs))) (ζ (.dict (mkd l))) (ζ (.dict (mkd l1))) (ζ (.dict (mkd l2))) (some (.own (.dict (mkd c)))) j.1 j.2))) fun σ=>pD (n+2) σ kn kr)=ifS (.ok (.fz (.bool (lk l2 k).isSome))) (rb (ofP (getItem (.dict (mkd l2)) (.str k))) fun v=>rb (ofP (gI (so "update") (.dict (mkd lr)) [dOf v])) fun o2=>rb (ofP (Internal.setItem (.dict (mkd c)) (.str k) o2)) fun o3=>kn (eY (ζ (enc (.join a b fs))) (ζ (.dict (mkd l))) (ζ (.dict (mkd l1))) (ζ (.dict (mkd l2))) (some (.own o3)) (ζ (.str k)) (ζ o2))) (kn (eY (ζ (enc (.join a b fs))) (ζ (.dict (mkd l))) (ζ (.dict (mkd l1))) (ζ (.dict (mkd l2))) (some (.own (.dict (mkd c)))) (ζ (.str k)) j.2)):=fun kn kr=>by
   simp only[Sj,aJ,aE,Sk];show ifS (aN (ofP (Internal.contains (.str k) (.dict (mkd l2))))) (rb (aK bG (ofP (getItem (.dict (mkd l1)) (.str k)))) fun v1=>gL (ofP (dB v1)) (so "update") [ofP (getItem (.dict (mkd l2)) (.str k))] _) _=_;simp only[dD,a9 h1,pZ];cases lk l2 k<;>rfl
  refine ocs (lk l2 k) (fun hk2=>?_) fun d2 hk2=>?_
  ·refine .inl ⟨?_,(some (.fz (.str k)),j.2),fun kn kr=>(hb kn kr).trans (by simp only[hk2];rfl)⟩;show(g k).bind (fun r=>(h k).bind _)=none;simp only[h2,B2.none_iff.mpr hk2];rfl
  ·refine hde fun _ θ=>?_;obtain⟨t2,q1,q2⟩:=B2.get' hk2;obtain⟨r2,rfl⟩:=F.ha k t2 q1;obtain⟨_,lr2,e,rfl,Br2⟩:=q2.br_inv';apply θ;cases e;refine .inr (.inl ⟨.dict (mkd (sts lr2 lr)),pP (.br r1) (.br r2),(some (.fz (.str k)),some (.fz (.dict (mkd (sts lr2 lr))))),?_,(Br.upd Br2).toSem,fun kn kr=>(hb kn kr).trans ?_⟩)
   ·show(g k).bind (fun r=>(h k).bind _)=_;simp only[h2,q1];rfl
   ·simp only[hk2,a9 hk2];show rb (ofP (gI (so "update") (.dict (mkd lr)) [.dict (mkd lr2)])) _=_;rw[Dk (qY Br.len Br2.len H.len)];show rb (ofP (Internal.setItem (.dict (mkd c)) (.str k) _)) _=_;simp only[b7 k _ ha];rfl
variable {N:List Str} {m:Nat}
inductive BindE{α β:Type}(o:Option α)(k:α→Option β)(y:β):Prop where
 |mk (x:α) (h:o=some x) (g:k x=some y):BindE o k y
theorem bind_some{α β:Type}{o:Option α}{k:α→Option β}{y:β}(h:o.bind k=some y):BindE o k y:=by
 cases o with
 |none=>exact ns h
 |some x=>exact⟨x,rfl,h⟩
theorem vT:∀ {r:WW} {t z:TT},r.isRows=true→r.wf→aI r t=some z→∃ f,z=.br f∧∀ k,(f k).isSome=true↔k∈r.names:=by
 intro r
 induction r with
 |bnil=>intro t z _ _ h;obtain rfl:=si h;exact⟨_,rfl,fun k=>by simp[fK,fL]⟩
 |bcons n p v r ihv ihr =>
  intro t z _ hw h;obtain⟨x,h1,h⟩:=bind_some h;obtain⟨y,h2,h⟩:=bind_some h;obtain⟨z1,h3,h⟩:=bind_some h;obtain rfl:=si h;obtain⟨f,rfl,hf⟩:=ihr hw.2.1.2 hw.2.1.1 h3;refine⟨_,rfl,fun k=>?_⟩;simp only[upd,bW,fK,fL,List.mem_cons]
  by_cases e:k=n
  ·simp[e]
  ·simp only[e,if_false,false_or];exact hf k
 |_=>intro t z h;exact bft h
theorem Gives.rb{r:R V}{P:PyData→Prop}(h:Gives r P):Gives (rb r R.ok) P:=by
 obtain⟨v,d,rfl,e,p⟩:=h;exact⟨v,d,rfl,e,p⟩
noncomputable def bj(vw tr:PyData)(c:LP)(j:Option V×Option V×Option V):aA:=iK (ζ vw) (ζ tr) (some (.own (.dict (mkd c)))) j.1 j.2.1 j.2.2
inductive ShB(N:List Str)(m n:Nat)(w:WW)(z:TT)(vw:PyData)(l:LP)(c:LP)(g:Str→Option TT)(j:Option V×Option V×Option V):Prop where
 |mk (c':LP) (j':Option V×Option V×Option V) (B:Bld N m c' (fun k=>(z.get k).or (g k))) (h:∀ kn kr,aQ (lC n) lD (aY w) (bj vw (.dict (mkd l)) c j) kn kr=kn (bj vw (.dict (mkd l)) c' j')):ShB N m n w z vw l c g j
def V7(N:List Str)(w:WW):Prop:=∀ {m n d t s},2*w.hgt+4≤n→Sem N m d t→aI w t=some s→Gives (rn n "shown" [.fz (enc w),.fz d]) fun d'=>Sem N m d' s
def V8(N:List Str)(w:WW):Prop:=∀ {m n l f z},2*w.hgt+4≤n→Bld N m l f→aI w (.br f)=some z→∀ vw c g j,Bld N m c g→ShB N m n w z vw l c g j
structure ShownS(N:List Str)(w:WW):Prop where
 a:w.isRows=false→V7 N w
 b:w.isRows=true→V8 N w
theorem qH(H:Wld N):∀ {w:WW},okW N w→ShownS N w:=by
 intro w
 induction w with
 |whole =>
  refine fun _=>⟨fun _ m n d t s hn hd hs=>?_,fun h=>by exact bft h⟩
  refine exnE (c:=1) n hn hn fun n hn=>?_;obtain rfl:=si hs;exact⟨_,_,Vs n d,rfl,hd⟩
 |pick x =>
  refine fun _=>⟨fun _ m n d t s hn hd hs=>?_,fun h=>by exact bft h⟩
  refine exnE (c:=2) n hn hn fun n hn=>?_;cases t with
  |num=>exact ns hs
  |br f =>
   revert hn;refine hd.byB fun m l B hn=>?_
   obtain⟨d,h1,h2⟩:=B.get hs;refine⟨.fz d,d,?_,rfl,h2.mono (ai _)⟩;simp only[Vt,mG,h1,a9 h1];show rb (rn (n+1) "need_fit" [.fz (.bool true)]) _=_;simp only[jZ];rfl
 |call x y =>
  refine fun ho=>⟨fun _ m n d t s hn hd hs=>?_,fun h=>by exact bft h⟩
  refine exnE (c:=3) n hn hn fun n hn=>?_;obtain⟨hc,hs⟩:=dN hs;obtain rfl:=si hs;cases t with
  |num=>cases hc.1
  |br f =>
   revert hn;refine hd.byB fun m l B hn=>?_
   simp only[Vu];exact(V4 H n ho.2.1 B hc.1 hc.2).rb
 |sift x i =>
  refine fun ho=>⟨fun _ m n d t s hn hd hs=>?_,fun h=>by exact bft h⟩
  refine exnE (c:=4) n hn hn fun n hn=>?_;cases t with
  |num=>exact ns hs
  |br f =>
   obtain⟨hc,hs⟩:=dN hs;obtain rfl:=si hs
   revert hn;refine hd.byB fun m l B hn=>?_
   simp only[Vv];exact(V5 H n B hc).rb
 |join a b fs =>
  refine fun ho=>⟨fun _ m n d t s hn hd hs=>?_,fun h=>by exact bft h⟩
  refine exnE (c:=4) n hn hn fun n hn=>?_;obtain⟨g,h,ga,ha,F,es⟩:=pR hs;cases t with
  |num=>exact ns ga
  |br f =>
   revert hn;refine hd.byB fun m l B hn=>?_
   rw[es];obtain⟨d1,q1,q2⟩:=B.get ga;obtain⟨d2,q3,q4⟩:=B.get ha;obtain⟨m,l1,B1⟩:=q2.br_inv;obtain⟨_,l2,e,rfl,B2⟩:=q4.br_inv';cases e;simp only[Vx];obtain⟨v,d,e1,e2,e3⟩:=(V6 H n B q1 q3 B1 B2 F (by rw[hs];rfl)).rb;exact⟨v,d,e1,e2,e3.mono (ai _)⟩
 |each v ih =>
  refine fun ho=>⟨fun _ m n d t s hn hd hs=>?_,fun h=>by exact bft h⟩
  have hn:2*(v.hgt+1)+4≤n:=hn;refine exnE (c:=3) n hn hn fun n hn=>?_;cases t with
  |num=>exact ns hs
  |br f =>
   obtain⟨hc,hs⟩:=dN hs;obtain rfl:=si hs
   revert hn;refine hd.byB fun m l B hn=>?_
   simp only[Vy];refine Gives.rb ?_;have:=jY H (m:=m) (S:=fun (a:LP) (j:Option V)=>iL (ζ (enc (.each v))) (ζ (.dict (mkd l))) (some (.own (.dict (mkd a)))) j) (b:=uB (n+1)) (t:=uC) (xs:=ks l) (j:=none) (fun k=>(f k).bind (aI v)) (E:=fun _=>False) fun k hk a j ha=>?_
   ·obtain⟨a,j,hi,e⟩ | ⟨x,hx,_⟩:=this
    ·refine⟨.own (.dict (mkd a)),_,?_,rfl,(B.all (fun k h=>by show(f k).bind _=none;simp only[h];rfl) hi).toSem⟩;simp only[Sm];show rb (rn (n+1) "need_fit" [.fz (.bool true)]) _=_;simp only[jZ,bO];exact(e _ _).trans (Sp ..)
    ·exact hx.elim
   ·obtain⟨dx,tx,h1,h2,h3⟩:=B.key hk;have hx:=hc k tx h2;refine ocs (aI v tx) (fun sx=>?_) fun u sx=>?_
    ·simp only[sx] at hx;exact bft hx
    ·obtain⟨w,d',e1,e2,e3⟩:=(ih ho.1).1 ho.2 (n:=n+1) (fd (k:=0) (c:=2) hn) h3 sx;refine⟨B.sub k hk,.inr (.inl ⟨d',u,some (.fz (.str k)),by show(f k).bind _=_;simp only[h2];exact sx,e3,fun kn kr=>?_⟩)⟩;simp only[Sn,aJ,aE,So,a9 h1];show rb (rn (n+1) "shown" [.fz (enc v),.fz dx]) (fun v=>rb (ofP (Internal.setItem (.dict (mkd a)) (.str k) (dOf v))) _)=_;simp only[e1,aE,eZ e2,b7 k d' ha];rfl
 |andThen a b iha ihb =>
  refine fun ho=>⟨fun _ m n d t s hn hd hs=>?_,fun h=>by exact bft h⟩
  have hn:2*(max a.hgt b.hgt+1)+4≤n:=hn;refine exnE (c:=1) n hn hn fun n hn=>?_;obtain⟨mid,h1,h2⟩:=bind_some hs;obtain⟨w,d',e1,e2,e3⟩:=(iha ho.1.1).1 ho.1.2 (n:=n) (mx (fd (k:=1) (c:=1) hn)).1 hd h1;simp only[V0,e1];refine Gives.rb ?_;show Gives (rn n "shown" [.fz (enc b),w.cl]) _;simp only[e2];exact(ihb ho.2.1).1 ho.2.2 (mx (fd (k:=1) (c:=1) hn)).2 e3 h2
 |beside r ih =>
  refine fun ho=>⟨fun _ m n d t s hn hd hs=>?_,fun h=>by exact bft h⟩
  have hn:2*(r.hgt+1)+4≤n:=hn;refine exnE (c:=2) n hn hn fun n hn=>?_;have hs:aI r t=some s:=hs;cases t with
  |num i =>
   exfalso;cases r with
   |bcons=>exact ns hs
   |bnil=>have:=ho.2.1;simp[fK,fL] at this
   |_=>cases ho.1.2
  |br f =>
   revert hn;refine hd.byB fun m l B hn=>?_
   simp only[Vz];refine Gives.rb ?_;obtain⟨c,j,h1,h2⟩:=(ih ho.1.1).2 ho.1.2 (n:=n) (fd (k:=0) (c:=2) hn) B hs (enc (.beside r)) [] (fun _=>none) (none,none,none) Bld.nil;obtain⟨f',rfl,_⟩:=vT ho.1.2 ho.1.1.wf hs;refine⟨.own (.dict (mkd c)),_,?_,rfl,(h1.ext fun k=>by simp[bW]).toSem⟩;simp only[Sa];show rb (ofP (items (enc r))) _=_;simp only[gV ho.1.2];exact(h2 _ _).trans (Sd ..)
 |bnil =>
  refine fun ho=>⟨fun h=>(by exact btf h),fun _ m n l f z hn B hs vw c g j hc=>?_⟩
  obtain rfl:=si hs;exact⟨c,j,hc.ext fun k=>by simp[bW],fun _ _=>rfl⟩
 |bcons x p v r ihv ihr =>
  refine fun ho=>⟨fun h=>(by exact btf h),fun _ m n l f z hn B hs vw c g j hc=>?_⟩
  have hn:2*(max v.hgt r.hgt)+4≤n:=hn;obtain⟨t1,h1,hs⟩:=bind_some hs;obtain⟨y,h2,hs⟩:=bind_some hs;obtain⟨z1,h3,hs⟩:=bind_some hs;obtain rfl:=si hs;obtain⟨d1,q1,q2⟩:=B.get h1;obtain⟨w,d',e1,e2,e3⟩:=(ihv ho.2.1.1).1 ho.2.1.2 (n:=n) (mx hn).1 q2 h2;obtain⟨c',j',i1,i2⟩:=(ihr ho.2.2.1.1).2 ho.2.2.1.2 (n:=n) (mx hn).2 B h3 vw (st c x d') _ (some (.fz (.str x)),some (.fz (.str p)),some (.fz (enc v))) (hc.set ho.1.1 e3);obtain⟨f1,rfl,hf1⟩:=vT ho.2.2.1.2 ho.2.2.1.1.wf h3;refine⟨c',j',i1.ext fun k=>?_,fun kn kr=>?_⟩
  ·simp only[bW,upd]
   by_cases e:k=x
   ·subst e;have:f1 k=none:=by
     refine ocs (f1 k) (fun ef=>?_) fun u ef=>?_
     ·try rewrite[ef]
      rfl
     ·exact absurd ((hf1 k).mp (by simp only[ef];rfl)) ho.2.2.2.1
    simp[this]
   ·simp[e]
  ·refine Eq.trans ?_ (i2 kn kr);show rb (ofP (aR lD (.tuple [.str x,.str p,enc v]) _)) (fun σ=>lC n σ (fun σ=>aQ (lC n) lD (aY r) σ kn kr) kr)=_
   revert e1 i2;refine exnE (c:=1) n hn hn fun n hn e1 i2=>?_
   unfold bj;simp only[Sb,aJ,aE,Sc,mG,q1,a9 q1];show rb (rn (n+1) "need_fit" [.fz (.bool true)]) (fun _=>rb (rn (n+1) "shown" [.fz (enc v),.fz d1]) (fun v=>rb (ofP (Internal.setItem (.dict (mkd c)) (.str x) (dOf v))) _))=_;simp only[jZ,aE,e1,aE,eZ e2,b7 x d' (hc.lt H (by decide))];rfl
section
theorem Dr(n:Nat)(d:PyData)(h:rn n "is_view" [.fz d]=.ok (.fz (.bool true))):rn (n+1) "need_view" [.fz d]=.ok (.fz .none):=by
 rw[Rs,h];rfl
theorem vU(n:Nat)(d:PyData)(h:rn n "is_tree" [.fz d]=.ok (.fz (.bool true))):rn (n+1) "need_tree" [.fz d]=.ok (.fz .none):=by
 rw[Sq,h];rfl
end
theorem Ds(H:Wld N){w:WW}(ho:okW N w)(hr:w.isRows=false){m n:Nat}{d:PyData}{t s:TT}(hn:3*w.hgt+m+6≤n)(hd:Sem N m d t)(hs:aI w t=some s):Gives (rn n "show" [.fz (enc w),.fz d]) fun d'=>Sem N m d' s:=by
 refine exnE (c:=3) n hn hn fun n hn=>?_;obtain⟨v,d1,e1,e2,e3⟩:=(qH H ho).1 hr (n:=n+2) (by exact Gz hn) hd hs;rw[Sr,Dr _ _ ((Dj H ho).1 hr (n+1) (by exact G0 hn)),vU _ _ (vL H hd (by exact G1 hn)),aE,aE,De e1 e2];exact(vM H e3 (by exact G2 hn)).rb
variable {N:List Str} {m:Nat}
theorem V9{a b:Str}(h:a.cps.toList=b.cps.toList):a=b:=by
 cases a;cases b;simp only[Str.mk.injEq];exact Array.toList_inj.mp h
theorem gZ(a:Str):¬ ltS a a:=List.lt_irrefl _
theorem qI{a b c:Str}(h1:ltS a b)(h2:ltS b c):ltS a c:=List.lt_trans h1 h2
theorem vV{a b:Str}(h:¬ ltS b a)(hn:a≠b):ltS a b:=by
 rcases Std.le_iff_lt_or_eq.mp (dh.mp h) with h | h
 ·exact h
 ·exact absurd (V9 h) hn
theorem vW{x a:Str}:∀ {l:List Str},x∈dU a l↔x=a∨x∈l
 | []=>by simp[dU]
 |b::r=>by
  show x∈(if b.cps.toList < a.cps.toList then b::dU a r else a::b::r)↔_
  split
  ·rw[List.mem_cons,vW (l:=r),List.mem_cons];constructor
   ·rintro(h | h | h)<;>simp[h]
   ·rintro(h | h | h)<;>simp[h]
  ·simp
theorem cR{x:Str}:∀ {l:List Str},x∈aZ l↔x∈l
 | []=>by simp[aZ]
 |a::r=>by
  show x∈dU a (aZ r)↔_;rw[vW,cR (l:=r),List.mem_cons]
theorem Wa{a:Str}:∀ {l:List Str},a∉l→l.Pairwise ltS→(dU a l).Pairwise ltS:=by
 intro v0
 induction v0 with
 |nil =>
  intro _ _;simp[dU]
 |cons b r ih =>
  intro hn h;obtain⟨h1,h2⟩:=ce.mp h;show(if b.cps.toList < a.cps.toList then b::dU a r else a::b::r).Pairwise ltS
  split
  ·rename_i hl;refine ce.mpr ⟨fun x hx=>?_,ih (fun hm=>hn (ae _ hm)) h2⟩;rcases vW.mp hx with rfl | hx
   ·exact hl
   ·exact h1 x hx
  ·rename_i hl;have hab:ltS a b:=vV hl fun e=>hn (by simp[e]);refine ce.mpr ⟨fun x hx=>?_,h⟩;rcases List.mem_cons.mp hx with rfl | hx
   ·exact hab
   ·exact qI hab (h1 x hx)
theorem mM:∀ {l:List Str},l.Nodup→(aZ l).Pairwise ltS:=by
 intro v0
 induction v0 with
 |nil =>
  intro _;exact .nil
 |cons a r ih =>
  intro h;obtain⟨h1,h2⟩:=aw.mp h;exact Wa (fun hm=>h1 (cR.mp hm)) (ih h2)
theorem Dt:∀ {a b:List Str},a.Pairwise ltS→b.Pairwise ltS→(∀ x,x∈a↔x∈b)→a=b
 | [],[],_,_,_=>rfl
 | [],y::s,_,_,h=>absurd ((h y).mpr (by simp)) (by simp)
 |x::r,[],_,_,h=>absurd ((h x).mp (by simp)) (by simp)
 |x::r,y::s,ha,hb,h=>by
  obtain⟨a1,a2⟩:=ce.mp ha;obtain⟨b1,b2⟩:=ce.mp hb;have e:x=y:=by
   rcases List.mem_cons.mp ((h x).mp (by simp)) with e | hx
   ·exact e
   ·rcases List.mem_cons.mp ((h y).mpr (by simp)) with e | hy
    ·exact e.symm
    ·exact absurd (qI (a1 y hy) (b1 x hx)) (gZ x)
  subst e;rw[Dt a2 b2 fun z=>?_];have:=h z;rw[List.mem_cons,List.mem_cons] at this;constructor
  ·intro hz;rcases this.mp (.inr hz) with rfl | h'
   ·exact absurd (a1 z hz) (gZ z)
   ·exact h'
  ·intro hz;rcases this.mpr (.inr hz) with rfl | h'
   ·exact absurd (b1 z hz) (gZ z)
   ·exact h'
theorem Du{l:List Str}(h:l.Nodup):(aZ l).Nodup:=(mM h).imp fun {a b} (h:ltS a b) (e:a=b)=>gZ b (e▸h)
theorem Wb{l:List Str}(h:l.Nodup):(aZ l).length=l.length:=Nat.le_antisymm (lZ (Du h) fun x hx=>cR.mp hx) (lZ h fun x hx=>cR.mpr hx)
theorem iR{l:List Str}(h:l.length < 64):eO (l.map .str)=.ok (.own (.list ((aZ l).map .str))):=by
 show((ofO (strs? (l.map .str))).bind fun l=>if l.length < 64 then own (.list ((aZ l).map .str)) else .no)=_;rw[gT,fP,fO,if_pos h];rfl
theorem vX{l:LP}(h:l.length < 64):cI (.dict (mkd l))=.ok (.own (.list ((aZ (ks l)).map .str))):=by
 show eO ((mkd l).map (·.1))=_;rw[pU,iR (by rw[c7];exact h)]
theorem qJ(a b:List Str):eqO (.list (a.map .str)) (.list (b.map .str))=.ok (a==b):=by
 show(if (a.map PyData.str).length=(b.map PyData.str).length then iW (a.map .str) (b.map .str) else P.ok false)=_;rw[List.length_map,List.length_map]
 by_cases h:a.length=b.length
 ·rw[if_pos h];show(match strs? (a.map .str) with | none=>P.no | some a=>match strs? (b.map .str) with | none=>.no | some b=>.ok (a==b))=_;rw[gT,gT]
 ·rw[if_neg h];congr;exact(beq_false_of_ne fun e=>h (by rw[e])).symm
theorem qK{a b:List Str}(ha:a.Nodup)(hb:b.Nodup):(aZ a==aZ b)=dec (∀ x,x∈a↔x∈b):=by
 refine eD (beq_iff_eq.trans ⟨fun e x=>?_,fun h=>Dt (mM ha) (mM hb) fun x=>?_⟩)
 ·rw[← cR,e,cR]
 ·rw[cR,cR];exact h x
theorem Dv(b:R V):aV (.ok (.fz (.bool false))) b=.ok (.fz (.bool false)):=rfl
theorem Wc(b:R V):aV (.ok (.fz (.bool true))) b=b:=rfl
theorem j4(f:List V→R V)(a b c d:PyData):aD f [.ok (.fz a),.ok (.fz b),.ok (.fz c),.ok (.fz d)]=f [.fz a,.fz b,.fz c,.fz d]:=rfl
noncomputable def BP(w k p:PyData):X:=⟨so "BadPut", [(so "way", w),(so "kind", k),(so "part", p)]⟩
inductive NeedR(N:List Str)(m n:Nat)(t:TT)(p:PyData):Prop where
 |mk (dp:PyData) (h:Sem N m dp t) (e:∀ (b:Bool) (w k:PyData),rn (n+2) "need_put" [.fz (.bool b),.fz w,.fz k,.fz p]=if b=true then .ok (.fz .none) else .exc (BP w k dp)):NeedR N m n t p
theorem mO(H:Wld N)(n:Nat){p:PyData}{t:TT}(h:Sem N m p t)(hn:m≤n):NeedR N m n t p:=by
 obtain⟨v,d,e1,e2,e3⟩:=vM H h hn;refine⟨d,e3,fun b w k=>?_⟩;rw[Ss];cases b with
 |true=>rfl
 |false =>
  show lA _ _ [_,_,rn (n+1) "copied" [.fz p]]=_;rw[e1];show R.exc ⟨_,[(_,w),(_,k),(_,dOf v.cl)]⟩=_;rw[e2];rfl
inductive PExc(N:List Str)(m:Nat)(x:Rf)(r:R V):Prop where
 |mk (dp:PyData) (e:r=.exc (BP (.list x.way) (.str x.kind) dp)) (h:Sem N m dp x.part):PExc N m x r
def bX(N:List Str)(m:Nat)(o:Option TT)(x:Rf)(r:R V):Prop:=match o with
 |some t=>Gives r fun d=>Sem N m d t
 |none=>PExc N m x r
theorem PExc.rb{x:Rf}{r:R V}(h:PExc N m x r)(f:V→R V):PExc N m x (rb r f):=by
 obtain⟨dp,rfl,h⟩:=h;exact⟨dp,rfl,h⟩
theorem bX.rb{o:Option TT}{x:Rf}{r:R V}(h:bX N m o x r):bX N m o x (rb r R.ok):=by
 cases o with
 |none=>exact PExc.rb h _
 |some t=>exact Gives.rb (P:=fun d=>Sem N m d t) h
theorem Wd(H:Wld N)(n:Nat){x y:Str}(hx:x∈N){d:PyData}{t:TT}(h:Sem N m d t)(hn:m≤n)(to:TT)(way:List PyData):bX N m (aP (.call x y) to t) (a8 (.call x y) to t way) (rn (n+3) "put_call" [.fz (enc (.call x y)),.fz d,.fz (.list way)]):=by
 rw[Su];obtain⟨dp,hdp,np⟩:=mO H n h hn;obtain⟨i,hi⟩ | ⟨m,l,f,B⟩:=h.inv
 ·show bX N m (grd _ _) _ (rb (rn (n+2) "need_put" [.fz (.bool false),.fz (.list way),.fz (.str (so "form")),.fz (.int i)]) _);rw[cW (fun h=>by cases h.1),np];exact⟨dp,rfl,hdp⟩
 ·show bX N (m+1) (grd _ _) _ (rb (aD (rn (n+2) "need_put") [aV (aN (ofP (Internal.contains (.str y) (.dict (mkd l))))) (aN (ofP (bP (Internal.contains (.str x) (.dict (mkd l)))))),.ok (.fz (.list way)),.ok (.fz (.str (so "form"))),.ok (.fz (.dict (mkd l)))]) _);rw[dD,dD];have hc:aV (aN (ofP (.ok (lk l y).isSome))) (aN (ofP (bP (.ok (lk l x).isSome))))=.ok (.fz (.bool ((lk l y).isSome&&!(lk l x).isSome))):=by cases (lk l y).isSome<;>rfl
  rw[hc];show bX N (m+1) (grd _ _) _ (rb (rn (n+2) "need_put" [.fz (.bool _),.fz (.list way),.fz (.str (so "form")),.fz (.dict (mkd l))]) _);rw[np,B.dom,B.dom];simp only[bW]
  by_cases hc:(f y).isSome=true∧f x=none
  ·rw[cB hc,hc.1,hc.2];refine hde fun _ θ=>?_;obtain⟨a,j,h1,h2⟩:=Dq H (S:=fun (a:LP) (j:Option V)=>gO (ζ (enc (.call x y))) (ζ (.dict (mkd l))) (ζ (.list way)) (some (.own (.dict (mkd a)))) j) (b:=uD (n+2)) (t:=uE) B (x:=y) hx hc.2 (j:=none) fun k d a j hk ha=>⟨some (.fz (.str k)),fun kn kr=>by
    rw[Sw,aJ,aE,Sx];show(if (k==y)=true then bD (ofP (getItem (.dict (mkd l)) (.str k))) (.ok (.dict (mkd a))) (.ok (.fz (.str x))) _ else bD (ofP (getItem (.dict (mkd l)) (.str k))) (.ok (.dict (mkd a))) (.ok (.fz (.str k))) _)=_;rw[a9 hk]
    by_cases e:k=y
    ·rw[if_pos (by simpa using e),if_pos e];show rb (ofP (Internal.setItem (.dict (mkd a)) (.str x) d)) _=_;rw[b7 x d ha];rfl
    ·rw[if_neg (by simpa using e),if_neg e];show rb (ofP (Internal.setItem (.dict (mkd a)) (.str k) d)) _=_;rw[b7 k d ha];rfl⟩
   apply θ;refine⟨.own (.dict (mkd a)),_,?_,rfl,h1.toSem⟩;rw[bO];exact(h2 _ _).trans (Sy ..)
  ·rw[cW hc];have:((f y).isSome&&!(f x).isSome)=false:=by
    refine ocs (f y) (fun e1=>?_) fun u e1=>?_
    ·try rewrite[e1]
     rfl
    ·try rewrite[e1]
     refine ocs (f x) (fun e2=>?_) fun v e2=>?_
     ·try rewrite[e2]
      exact absurd ⟨by rw[e1];rfl,e2⟩ hc
     ·try rewrite[e2]
      rfl
   rw[this];exact⟨dp,rfl,hdp⟩
theorem We(H:Wld N)(n:Nat){x:Str}{i:Int}{ln:LP}{d:PyData}{f:Str→Option TT}{t:TT}(way:List PyData)(B:Bld N m ln f)(hf:bQ f)(h:Sem N (m+1) d t)(hn:m+1≤n):bX N (m+1) (aP (.sift x i) (.br f) t) (a8 (.sift x i) (.br f) t way) (rn (n+3) "put_sift" [.fz (enc (.sift x i)),.fz (.dict (mkd ln)),.fz d,.fz (.list way)]):=by
 rw[S3,mI (n+1) h];obtain⟨dp,hdp,np⟩:=mO H n h hn;obtain⟨j,rfl,rfl,hi⟩ | ⟨_,l,g,e,rfl,rfl,C⟩:=h.inv'
 ·rw[show abB (T.num j)=false from rfl,Dv,aE,bN,cG,j4,np];exact⟨dp,by rw[show a8 (.sift x i) (.br f) (.num j) way=⟨way,frm _ dC,_⟩ from rfl,lV (p:=jS x i (.num j)) fun h=>h];rfl,hdp⟩
 cases e;have hg:aV (.ok (.fz (.bool (abB (.br g))))) (aK cJ (aO (ofP (items (.dict (mkd l)))) (fun d1=>(.ok true)) (fun d1=>(aD (rn (n+2) "is_sifted") [(ofP (getItem (.dict (mkd l)) d1)),(ofP (getItem (enc (.sift x i)) (.int 1))),(ofP (getItem (enc (.sift x i)) (.int 2)))]))))=.ok (.fz (.bool (dec (bQ g∧∀ k u,g k=some u→cK x i u)))):=by
  refine bcs (abB (.br g)) (fun ha=>?_) fun ha=>?_
  ·try rewrite[ha]
   have ha:¬ bQ g:=cX.mp ha;rw[show dec (bQ g∧∀ k u,g k=some u→cK x i u)=false from cX.mpr fun h=>ha h.1];rfl
  ·try rewrite[ha]
   have ha:bQ g:=bR.mp ha;have:=jU (xs:=ks l) (g:=fun k=>match g k with | some u=>sb x i u | none=>true) (e:=fun d1=>(aD (rn (n+2) "is_sifted") [(ofP (getItem (.dict (mkd l)) d1)),(ofP (getItem (enc (.sift x i)) (.int 1))),(ofP (getItem (enc (.sift x i)) (.int 2)))])) fun k hk=>by
    obtain⟨d,u,h1,h2,h3⟩:=C.key hk;obtain⟨r,rfl⟩:=ha k u h2;obtain⟨_,lr,_,rfl,Br⟩:=h3.br_inv';rw[a9 h1,h2];exact vQ n Br x i
   rw[bO,aJ,this];show R.ok (V.fz (.bool _))=_;refine congrArg (fun b=>R.ok (V.fz (.bool b))) (eD ?_);rw[be];constructor
   ·intro h;refine⟨ha,fun k u hk=>?_⟩;have:=h k (C.mem.mpr (by rw[hk];rfl));rw[hk] at this;exact mH.mp this
   ·intro h k hk;obtain⟨d,u,h1,h2,h3⟩:=C.key hk;rw[h2];exact mH.mpr (h.2 k u h2)
 rw[hg];show bX N (m+1) (grd _ _) _ (rb (rn (n+2) "need_put" [.fz (.bool _),.fz (.list way),.fz (.str (so "form")),.fz (.dict (mkd l))]) _);rw[np]
 by_cases hc1:bQ g∧∀ k u,g k=some u→cK x i u
 case neg =>
  rw[cW fun h=>hc1 h.1,cX.mpr hc1,show a8 (.sift x i) (.br f) (.br g) way=⟨way,frm _ dC,_⟩ from rfl,lV (p:=jS x i (.br g)) hc1];exact⟨dp,rfl,hdp⟩
 rw[bR.mpr hc1];have hh:aO (ofP (items (.dict (mkd ln)))) (fun d3=>(tst (unS .Not (aD (rn (n+2) "is_sifted") [(ofP (getItem (.dict (mkd ln)) d3)),(ofP (getItem (enc (.sift x i)) (.int 1))),(ofP (getItem (enc (.sift x i)) (.int 2)))])))) (fun d3=>(.ok (.fz d3)))=.ok (.own (.list (((ks ln).filter fun k=>match f k with | some u=>!sb x i u | none=>false).map .str))):=by
  rw[bO];show rb (aX _ _ ((ks ln).map .str)) (fun r=>ofP (own (.list r)))=_;rw[qC (g:=fun k=>match f k with | some u=>!sb x i u | none=>false) fun k hk=>by
   obtain⟨d,u,h1,h2,h3⟩:=B.key hk;obtain⟨r,rfl⟩:=hf k u h2;obtain⟨_,lr,_,rfl,Br⟩:=h3.br_inv';rw[a9 h1,h2];show tst (unS .Not (rn (n+2) "is_sifted" [.fz (.dict (mkd lr)),.fz (.str x),.fz (.int i)]))=_;rw[vQ n Br x i];rfl]
  rfl
 rw[hh];generalize hH:((ks ln).filter fun k=>match f k with | some u=>!sb x i u | none=>false)=hs;have hmem:∀ k,k∈hs↔∃ u,f k=some u∧¬ cK x i u:=fun k=>by
  rw[← hH,List.mem_filter];constructor
  ·rintro⟨h1,h2⟩
   obtain⟨d,u,_,h4,_⟩:=B.key h1;rw[h4] at h2;exact⟨u,h4,gW.mp (by simpa using h2)⟩
  ·rintro⟨u,h1,h2⟩
   refine⟨B.mem.mpr (by rw[h1];rfl),?_⟩;rw[h1];simpa using gW.mpr h2
 show bX N (m+1) (grd _ _) _ (rb (aD (rn (n+2) "need_put") [aC (aO (ofP (items (.dict (mkd l)))) (fun d6=>tst (aN (ofP (Internal.contains d6 (.list (hs.map .str)))))) (fun d6=>.ok (.fz d6))) .Eq (.ok (.own (.list []))),.ok (.fz (.list way)),.ok (.fz (.str (so "hidden"))),.ok (.fz (.dict (mkd l)))]) fun _=>rb (ofP (items (.list (hs.map .str)))) _);rw[bO,aJ,vR (g:=fun k=>hs.contains k) fun k hk=>by
  show tst (aN (ofP ((ofO (strs? (hs.map .str))).bind fun ss=>P.ok (ss.contains k))))=_;rw[gT];rfl]
 show bX N (m+1) (grd _ _) _ (rb (rn (n+2) "need_put" [.fz (.bool _),.fz (.list way),.fz (.str (so "hidden")),.fz (.dict (mkd l))]) _);rw[np]
 by_cases hc2:∀ k u,(g k).isSome=true→f k=some u→cK x i u
 case neg =>
  rw[cW fun h=>hc2 h.2,show((ks l).filter fun k=>hs.contains k).isEmpty=false from by
   rw[Bool.eq_false_iff];intro he;refine hc2 fun k u h1 h2=>Classical.byContradiction fun h3=>?_;have:=mJ.mp he k (C.mem.mpr h1);rw[show hs.contains k=true from by simpa using (hmem k).mpr ⟨u,h2,h3⟩] at this;exact btf this,show a8 (.sift x i) (.br f) (.br g) way=⟨way,frm _ dC,_⟩ from rfl,uY (p:=jS x i (.br g)) hc1]
  exact⟨dp,rfl,hdp⟩
 rw[cB ⟨hc1,hc2⟩,show((ks l).filter fun k=>hs.contains k).isEmpty=true from mJ.mpr fun k hk=>by
  refine bcs (hs.contains k) (fun e=>?_) fun e=>?_
  ·try rewrite[e]
   rfl
  ·obtain⟨u,h1,h2⟩:=(hmem k).mp (by simpa using e);exact absurd (hc2 k u (C.mem.mp hk) h1) h2]
 have:=jY H (m:=m) (S:=fun (a:LP) (j:Option V)=>iM (ζ (enc (.sift x i))) (ζ (.dict (mkd ln))) (ζ (.dict (mkd l))) (ζ (.list way)) j (ζ (.bool true)) (ζ (.list (hs.map .str))) (some (.own (.dict (mkd a))))) (b:=uF (n+2)) (t:=uG) (xs:=hs) (j:=none) f (E:=fun _=>False) fun k hk a j ha=>by
  refine hde fun _ θ=>?_;obtain⟨u,h1,h2⟩:=(hmem k).mp hk;obtain⟨d,h3,h4⟩:=B.get h1;apply θ;refine⟨B.sub k (lY h3),.inr (.inl ⟨d,u,some (.fz (.str k)),h1,h4,fun kn kr=>?_⟩)⟩;rw[S4,aJ,aE,S5,a9 h3];show rb (ofP (Internal.setItem (.dict (mkd a)) (.str k) d)) _=_;rw[b7 k d ha];rfl
 obtain⟨a,j,hi,e⟩ | ⟨_,hx,_⟩:=this
 ·refine⟨.own (.dict (mkd (sts l a))),_,?_,rfl,((hi.upd C).ext fun k=>?_).toSem⟩
  ·refine(e _ _).trans ((S6 ..).trans ?_);show rb (ofP (gI (so "update") (.dict (mkd a)) [.dict (mkd l)])) _=_;rw[Dk (qY hi.len C.len H.len)];rfl
  ·congr 1;refine ocs (f k) (fun ef=>?_) fun u ef=>?_
   ·simp[bW,ef]
   ·by_cases hs':cK x i u
    ·have:k∉hs:=fun hk=>by
      obtain⟨u',h1,h2⟩:=(hmem k).mp hk;rw[ef] at h1;obtain rfl:=si h1;exact h2 hs'
     simp[bW,ef,this,grd,hs']
    ·have:k∈hs:=(hmem k).mpr ⟨u,ef,hs'⟩;simp[bW,ef,this,grd,hs']
 ·exact hx.elim
variable {N:List Str} {m:Nat}
theorem vY(l:LP):bG (.dict (mkd l))=.ok (.own (.dict (mkd l))):=rfl
theorem Dw{l:LP}{k:Str}{d:PyData}(h:lk l k=some d):aM [.ok (.fz (.str k)),aG (.ok (.dict (mkd l))) (.ok (.fz (.str k)))]=.ok (.fz (.tuple [.str k,d])):=by
 show rb (rb (R.ok (V.fz (.str k))) fun v=>rb (rb (ofP (getItem (.dict (mkd l)) (.str k))) fun v=>.ok [v.cl]) fun vs=>.ok (v.cl::vs)) _=_;rw[a9 h];rfl
theorem qL(H:Wld N){l:LP}{r:Str→Option TT}(B:Bld N m l r){F:Str→Option TT}{t:PyData→R Bool}{c:Str→Bool}(ht:∀ k,t (.str k)=.ok (c k))(hF:∀ k,F k=if c k=true then r k else none) :
  ∃ l':LP,aK bG (aO (.ok ((ks l).map .str)) t (fun d=>aM [.ok (.fz d),aG (.ok (.dict (mkd l))) (.ok (.fz d))]))=.ok (.own (.dict (mkd l')))∧Bld N m l' F:=by
 obtain⟨l',e,C⟩:=jW (N:=N) (m:=m) (F:=F) (t:=t) (e:=fun d=>aM [.ok (.fz d),aG (.ok (.dict (mkd l))) (.ok (.fz d))]) (xs:=ks l) (by rw[c7];exact B.lt H (by decide)) fun k hk=>by
  obtain⟨d,u,h1,h2,h3⟩:=B.key hk;refine⟨B.sub k hk,?_⟩;rw[ht,hF];refine bcs (c k) (fun hc=>?_) fun hc=>?_
  ·try rewrite[hc]
   exact .inl ⟨rfl,by simp only[dJ]⟩
  ·try rewrite[hc]
   exact .inr ⟨rfl,_,d,u,Dw h1,rfl,by rw[cD];exact h2,h3⟩
 exact⟨l',e,B.all (fun k hk=>by rw[hF,hk];split<;>rfl) C⟩
theorem Wf(H:Wld N)(n:Nat){a b:Str}{fs:List Str}(ha:a∈N)(hb:b∈N){lo l1 l2:LP}{d:PyData}(way:List PyData){f g h:Str→Option TT}{t:TT}(Bo:Bld N (m+1) lo f)(e1:lk lo a=some (.dict (mkd l1)))(e2:lk lo b=some (.dict (mkd l2)))(fa:f a=some (.br g))(fb:f b=some (.br h))(B1:Bld N m l1 g)(B2:Bld N m l2 h)(hd:Sem N (m+2) d t)(hn:m+2≤n) :
  bX N (m+3) (aP (.join a b fs) (.br f) t) (a8 (.join a b fs) (.br f) t way) (rn (n+3) "put_join" [.fz (enc (.join a b fs)),.fz (.dict (mkd lo)),.fz d,.fz (.list way)]):=by
 refine hde fun _ θ=>?_;obtain⟨dp,hdp,np⟩:=mO H n hd hn;apply θ;have hdp:Sem N (m+3) dp t:=hdp.mono (ai _);simp only[S7,mI (n+1) hd,j4,np];obtain⟨j,rfl,rfl,hi⟩ | ⟨_,l,q,e,rfl,rfl,C⟩:=hd.inv'
 ·exact⟨dp,by rw[show a8 (.join a b fs) (.br f) (.num j) way=⟨way,frm _ dC,_⟩ from rfl,lV (p:=jT (.num j)) fun h=>h];rfl,hdp⟩
 cases e;have hp:aP (.join a b fs) (.br f) (.br q)=grd (bQ q∧∀ k,(q k).isSome=true→((g k).isSome=(h k).isSome)) (some (.br (upd (upd f a (some (.br (bC (fun f=>f∈fs) g h q)))) b (some (.br (bC (fun f=>f∉fs) h g q)))))):=by
  show((f a).bind fun one=>(f b).bind fun other=>_)=_;simp only[fa,fb];rfl
 simp only[hp]
 by_cases hc1:bQ q
 case neg =>
  rw[cW fun h=>hc1 h.1,show abB (.br q)=false from cX.mpr hc1,show a8 (.join a b fs) (.br f) (.br q) way=⟨way,frm _ dC,_⟩ from rfl,lV (p:=jT (.br q)) hc1];exact⟨dp,rfl,hdp⟩
 simp only[show abB (.br q)=true from bR.mpr hc1,cD,aE];show bX N (m+3) (grd _ _) _ (rb (ofP (getItem (.dict (mkd lo)) (.str a))) fun v1=>rb (ofP (getItem (.dict (mkd lo)) (.str b))) fun v2=>_);simp only[a9 e1,a9 e2,aJ,aJ,aE,aE];have hcmp:aC (aO (ofP (items (.dict (mkd l)))) (fun d4=>(tst (aC (aC (.ok (.fz d4)) .In (ofP (rdv (V.cl (.fz (.dict (mkd l1))))))) .NotEq (aC (.ok (.fz d4)) .In (ofP (rdv (V.cl (.fz (.dict (mkd l2)))))))))) (fun d4=>(.ok (.fz d4)))) .Eq (.ok (.own (.list [])))=.ok (.fz (.bool (dec (∀ k,(q k).isSome=true→((g k).isSome=(h k).isSome))))):=by
  rw[bO,aJ,vR (g:=fun k=>!((lk l1 k).isSome==(lk l2 k).isSome)) fun k hk=>by
   show tst (rb (aN (ofP (Internal.contains (.str k) (.dict (mkd l1))))) fun a=>aN (rb (aN (ofP (Internal.contains (.str k) (.dict (mkd l2))))) fun v=>ofP (cmp .NotEq (dOf a) (dOf v))))=_;simp only[dD,dD];rfl]
  refine congrArg (fun b=>R.ok (V.fz (.bool b))) (eD ?_);simp only[mJ];constructor
  ·intro h k hk;have:=h k (C.mem.mpr hk);simp only[B1.dom,B2.dom] at this;simpa using this
  ·intro h k hk;simp only[B1.dom,B2.dom,h k (C.mem.mp hk)];simp
 simp only[hcmp,j4,np]
 by_cases hc2:∀ k,(q k).isSome=true→((g k).isSome=(h k).isSome)
 case neg =>
  rw[cW fun h=>hc2 h.2,cX.mpr hc2,show a8 (.join a b fs) (.br f) (.br q) way=⟨way,frm _ dC,_⟩ from rfl,uY (p:=jT (.br q)) hc1];exact⟨dp,rfl,hdp⟩
 rw[cB ⟨hc1,hc2⟩,bR.mpr hc2,cD,aE];refine hde fun _ θ=>?_;obtain⟨ll,el,Bl⟩:=qL H B1 (F:=fun k=>if (h k).isSome then none else g k) (t:=fun d5=>tst (aN (ofP (bP (Internal.contains d5 (.dict (mkd l2))))))) (c:=fun k=>!(lk l2 k).isSome) (fun k=>by simp only[dD];rfl) fun k=>by
  simp only[B2.dom];cases (h k).isSome<;>rfl
 obtain⟨lr,er,Br⟩:=qL H B2 (F:=fun k=>if (g k).isSome then none else h k) (t:=fun d5=>tst (aN (ofP (bP (Internal.contains d5 (.dict (mkd l1))))))) (c:=fun k=>!(lk l1 k).isSome) (fun k=>by simp only[dD];rfl) fun k=>by
  simp only[B1.dom];cases (g k).isSome<;>rfl
 apply θ;show bX N (m+3) _ _ (rb (aK bG (aO (ofP (items (.dict (mkd l1)))) (fun d5=>tst (aN (ofP (bP (Internal.contains d5 (.dict (mkd l2))))))) (fun d=>aM [.ok (.fz d),aG (.ok (.dict (mkd l1))) (.ok (.fz d))]))) fun v6=>rb (aK bG (aO (ofP (items (.dict (mkd l2)))) (fun d5=>tst (aN (ofP (bP (Internal.contains d5 (.dict (mkd l1))))))) (fun d=>aM [.ok (.fz d),aG (.ok (.dict (mkd l2))) (.ok (.fz d))]))) fun v8=>_);simp only[bO,bO,aJ,aJ,el,er,aE,aE,bO,aJ,aE];have L:=mF (S:=fun (c:LP×LP) (j:Option V×Option V)=>iN (ζ (enc (.join a b fs))) (ζ (.dict (mkd lo))) (ζ (.dict (mkd l))) (ζ (.list way)) (ζ (.dict (mkd l1))) (ζ (.dict (mkd l2))) j.1 (some (.own (.dict (mkd c.1)))) (some (.own (.dict (mkd c.2)))) j.2 none) (b:=uH (n+2)) (t:=uI) (l:=ks l) (p:=[]) (a:=(ll,lr)) (j:=(none,none))
  (I:=fun p c=>Bld N (m+1) c.1 (fun k=>if k∈p then bC (fun f=>f∈fs) g h q k else if (h k).isSome then none else g k)∧Bld N (m+1) c.2 (fun k=>if k∈p then bC (fun f=>f∉fs) h g q k else if (g k).isSome then none else h k)) (E:=fun _=>False) (Q:=fun _=>False) (fun p k r c j hq hi=>by
   have hk:=iQ hq;refine hde fun _ θ=>?_;obtain⟨dk,u,h1,h2,h3⟩:=C.key hk;obtain⟨rw',rfl⟩:=hc1 k u h2;obtain⟨_,lw,e,rfl,Bw⟩:=h3.br_inv';cases e;have hlT:bC (fun f=>f∈fs) g h q k=some (.br fun fl=>grd (fl∈fs) (rw' fl)):=by simp only[bC,h2,bW]
   have hlF:bC (fun f=>f∉fs) h g q k=some (.br fun fl=>grd (fl∉fs) (rw' fl)):=by simp only[bC,h2,bW]
   obtain⟨x1,ex1,Bx1⟩:=qL H Bw (F:=fun fl=>grd (fl∈fs) (rw' fl)) (t:=fun d5=>tst (aN (ofP (Internal.contains d5 (.tuple (fs.map .str)))))) (c:=fun k=>fs.contains k) (fun k=>by simp only[j0];rfl) fun k=>by
    by_cases e:k∈fs<;>simp[e,grd]
   obtain⟨x2,ex2,Bx2⟩:=qL H Bw (F:=fun fl=>grd (fl∉fs) (rw' fl)) (t:=fun d5=>tst (aN (ofP (bP (Internal.contains d5 (.tuple (fs.map .str))))))) (c:=fun k=>!fs.contains k) (fun k=>by simp only[j0];rfl) fun k=>by
    by_cases e:k∈fs<;>simp[e,grd]
   apply θ;refine Out.kn (st c.1 k (.dict (mkd x1)),st c.2 k (.dict (mkd x2))) (some (.fz (.str k)),some (.fz (.dict (mkd lw)))) ⟨(hi.1.set (C.sub k hk) Bx1.toSem).ext fun z=>?_,(hi.2.set (C.sub k hk) Bx2.toSem).ext fun z=>?_⟩ fun kn kr=>?_
   ·by_cases e:z=k
    ·subst e;simp only[upd,List.mem_append,List.mem_singleton,or_true,if_true,hlT]
    ·simp[upd,e]
   ·by_cases e:z=k
    ·subst e;simp only[upd,List.mem_append,List.mem_singleton,or_true,if_true,hlF]
    ·simp[upd,e]
   ·simp only[S8,aJ,aE,S9,a9 h1,aJ,aE];show rb (aK bG (aO (ofP (items (.dict (mkd lw)))) (fun d5=>tst (aN (ofP (Internal.contains d5 (.tuple (fs.map .str)))))) (fun d=>aM [.ok (.fz d),aG (.ok (.dict (mkd lw))) (.ok (.fz d))]))) (fun v=>rb (ofP (Internal.setItem (.dict (mkd c.1)) (.str k) (dOf v))) fun o3=>rb (aK bG (aO (ofP (items (.dict (mkd lw)))) (fun d5=>tst (aN (ofP (bP (Internal.contains d5 (.tuple (fs.map .str))))))) (fun d=>aM [.ok (.fz d),aG (.ok (.dict (mkd lw))) (.ok (.fz d))]))) (fun v=>rb (ofP (Internal.setItem (.dict (mkd c.2)) (.str k) (dOf v))) fun o5=>_))=_;simp only[bO,aJ,ex1,ex2,aE,l5,b7 k _ (hi.1.lt H (by decide)),aJ,aE,aE,l5,b7 k _ (hi.2.lt H (by decide))];rfl) ⟨(Bl.mono (ai _)).ext fun k=>by simp,(Br.mono (ai _)).ext fun k=>by simp⟩
 obtain⟨c,j,hi,e⟩ | ⟨_,hx,_⟩ | ⟨_,hv,_⟩:=L
 ·have hqn:∀ k,k∉ks l→q k=none:=fun k hk=>by
   refine ocs (q k) (fun e=>?_) fun t e=>?_
   ·try rewrite[e]
    rfl
   ·exact absurd (C.mem.mpr (by rw[e];rfl)) hk
  have I1:=hi.1.ext (g:=bC (fun f=>f∈fs) g h q) fun k=>by
   by_cases hk:k∈ks l
   ·simp[hk]
   ·simp[hk,bC,hqn k hk]
  have I2:=hi.2.ext (g:=bC (fun f=>f∉fs) h g q) fun k=>by
   by_cases hk:k∈ks l
   ·simp[hk]
   ·simp[hk,bC,hqn k hk]
  refine⟨.own (.dict (mkd (st (st lo a (.dict (mkd c.1))) b (.dict (mkd c.2))))),_,?_,rfl,(((Bo.mono (ai _)).set ha I1.toSem).set hb I2.toSem).toSem⟩;refine(e _ _).trans ((Ta ..).trans ?_);simp only[vY,aJ,aE];show rb (ofP (Internal.setItem (.dict (mkd lo)) (.str a) (.dict (mkd c.1)))) (fun o2=>rb (ofP (Internal.setItem o2 (.str b) (.dict (mkd c.2)))) fun o3=>_)=_;have B2':=(Bo.mono (ai _)).set ha I1.toSem;rw[b7 a _ (Bo.lt H (by decide)),aJ,aE,b7 b _ (B2'.lt H (by decide))];rfl
 ·exact hx.elim
 ·exact hv.elim
variable {N:List Str} {m:Nat}
noncomputable def W.grow:WW→Nat
 | .pick _=>1
 | .join _ _ _=>1
 | .each v=>v.grow
 | .andThen a b=>a.grow+b.grow
 | .beside r=>r.grow
 | .bcons _ _ v r=>max v.grow r.grow
 |_=>0
section
theorem Wg(n:Nat)(o d w:PyData):rn (n+1) "put_back" [.fz (enc .whole),.fz o,.fz d,.fz w]=.ok (.fz d):=by kernel_rfl
theorem Wh(n:Nat)(x:Str)(o d w:PyData):rn (n+1) "put_back" [.fz (enc (.pick x)),.fz o,.fz d,.fz w]=rb (ofP (bG o)) fun v=>rb (ofP (dB v)) fun o=>rb (ofP (Internal.setItem o (.str x) d)) fun o=>.ok (.own o):=by kernel_rfl
theorem Wi(n:Nat)(x y:Str)(o d w:PyData):rn (n+1) "put_back" [.fz (enc (.call x y)),.fz o,.fz d,.fz w]=rb (rn n "put_call" [.fz (enc (.call x y)),.fz d,.fz w]) R.ok:=by kernel_rfl
theorem Wj(n:Nat)(x:Str)(l:Int)(o d w:PyData):rn (n+1) "put_back" [.fz (enc (.sift x l)),.fz o,.fz d,.fz w]=rb (rn n "put_sift" [.fz (enc (.sift x l)),.fz o,.fz d,.fz w]) R.ok:=by kernel_rfl
theorem Wk(n:Nat)(x y:Str)(fs:List Str)(o d w:PyData):rn (n+1) "put_back" [.fz (enc (.join x y fs)),.fz o,.fz d,.fz w]=rb (rn n "put_join" [.fz (enc (.join x y fs)),.fz o,.fz d,.fz w]) R.ok:=by kernel_rfl
theorem Wl(n:Nat)(v:WW)(o d w:PyData):rn (n+1) "put_back" [.fz (enc (.each v)),.fz o,.fz d,.fz w]=rb (rn n "put_each" [.fz (enc (.each v)),.fz o,.fz d,.fz w]) R.ok:=by kernel_rfl
theorem Wm(n:Nat)(v:WW)(o d w:PyData):rn (n+1) "put_back" [.fz (enc (.beside v)),.fz o,.fz d,.fz w]=rb (rn n "put_beside" [.fz (enc (.beside v)),.fz o,.fz d,.fz w]) R.ok:=by kernel_rfl
theorem Wn(n:Nat)(a b:WW)(o d:PyData)(w:List PyData):rn (n+1) "put_back" [.fz (enc (.andThen a b)),.fz o,.fz d,.fz (.list w)]=rb (aD (rn n "put_back") [.ok (.fz (enc b)),rn n "shown" [.fz (enc a),.fz o],.ok (.fz d),ofP (eE .Add w (.list [.int 1]))]) fun v=>rb (aD (rn n "put_back") [.ok (.fz (enc a)),.ok (.fz o),aW v.cl,ofP (eE .Add w (.list [.int 0]))]) R.ok:=by kernel_rfl
end
theorem qM{w:List PyData}(x:PyData)(h:w.length < 1000):eE .Add w (.list [x])=.ok (.own (.list (w++[x]))):=by
 show(if iV .Add=true∧w.length+[x].length≤bA then P.ok (V.own (.list (w++[x]))) else .no)=_;rw[if_pos ⟨rfl,by have:bA=16777216:=rfl;simp only[List.length_singleton];exact G3 h this⟩]
theorem Wo:∀ {r:WW} {f:Str→Option TT} {new z:TT},r.isRows=true→r.wf→aP r (.br f) new=some z→∃ g,z=.br g∧∀ k,k∉r.parts→g k=f k:=by
 intro r
 induction r with
 |bnil=>intro f new z _ _ h;obtain rfl:=si h;exact⟨_,rfl,fun _ _=>rfl⟩
 |bcons n p v r ihv ihr =>
  intro f new z _ hw h;obtain⟨o,h1,h⟩:=bind_some h;obtain⟨x,h2,h⟩:=bind_some h;obtain⟨y,h3,h⟩:=bind_some h;obtain⟨z1,h4,h⟩:=bind_some h;obtain rfl:=si h;obtain⟨g,rfl,hg⟩:=ihr hw.2.1.2 hw.2.1.1 h4;refine⟨_,rfl,fun k hk=>?_⟩;have hk1:k≠p:=fun e=>hk (by simp[fM,fN,e]);simp only[upd,if_neg hk1,bW];exact hg k fun e=>hk (by simp[fM,fN,e])
 |_=>intro f new z h;exact bft h
noncomputable def pj(vw old new way names:PyData)(c:LP)(j:Option V×Option V×Option V):aA:=gP (ζ vw) (ζ old) (ζ new) (ζ way) (ζ names) (some (.own (.dict (mkd c)))) j.1 j.2.1 j.2.2
theorem Wp{xs q r:List Str}{x i:Str}(hs:xs.Pairwise ltS)(hq:[]++xs=q++x::r)(hi:ltS i x)(hm:i∈xs):i∈q:=by
 have hq:xs=q++x::r:=hq;subst hq;rcases List.mem_append.mp hm with h | h
 ·exact h
 ·have h2:=(List.pairwise_append.mp hs).2.1;rcases List.mem_cons.mp h with rfl | h
  ·exact absurd hi (gZ _)
  ·exact absurd (qI hi ((ce.mp h2).1 i h)) (gZ _)
inductive EachX(N:List Str)(m:Nat)(v:WW)(f q:Str→Option TT)(w:List PyData)(e:X):Prop where
 |mk (k:Str) (x y:TT) (d:PyData) (hl:Lst (fun k=>∃ x y,f k=some x∧q k=some y∧aP v x y=none) k) (h1:f k=some x) (h2:q k=some y) (h3:aP v x y=none) (he:e=BP (.list (a8 v x y (w++[.str k])).way) (.str (a8 v x y (w++[.str k])).kind) d) (hd:Sem N m d (a8 v x y (w++[.str k])).part):EachX N m v f q w e
theorem Wq(H:Wld N)(n:Nat){v:WW}{f:Str→Option TT}{t:TT}{l:LP}{d:PyData}{w:List PyData}(hw:w.length < 1000)(B:Bld N m l f)(hd:Sem N (m+1) d t)(hn:m+1≤n){g:Nat}
  (ih:∀ k o x to tx,f k=some to→Sem N m o to→Sem N m x tx→bX N (m+g) (aP v to tx) (a8 v to tx (w++[.str k])) (rn (n+2) "put_back" [.fz (enc v),.fz o,.fz x,.fz (.list (w++[.str k]))])) :
  bX N (m+g+1) (aP (.each v) (.br f) t) (a8 (.each v) (.br f) t w) (rn (n+3) "put_each" [.fz (enc (.each v)),.fz (.dict (mkd l)),.fz d,.fz (.list w)]):=by
 obtain⟨dp,hdp,np⟩:=mO H n hd hn;have hdp:Sem N (m+g+1) dp t:=hdp.mono (am (ak _ _));rw[Tc,np];obtain⟨j,rfl,rfl,hi⟩ | ⟨_,ln,q,e,rfl,rfl,C⟩:=hd.inv'
 ·exact⟨dp,rfl,hdp⟩
 cases e;rw[mD,cD,aE,vX (C.lt H (by decide)),vX (B.lt H (by decide))];have hc:aC (ofP (.ok (.own (.list ((aZ (ks ln)).map .str))))) .Eq (ofP (.ok (.own (.list ((aZ (ks l)).map .str)))))=.ok (.fz (.bool (dec (∀ k,(q k).isSome=(f k).isSome)))):=by
  show aN (ofP (eqO (.list ((aZ (ks ln)).map .str)) (.list ((aZ (ks l)).map .str))))=_;rw[qJ,qK C.nd B.nd];refine congrArg (fun b=>R.ok (V.fz (.bool b))) (eD (bR.trans ⟨fun h k=>?_,fun h k=>?_⟩))
  ·have:=h k;rw[C.mem,B.mem] at this;exact Bool.eq_iff_iff.mpr this
  ·rw[C.mem,B.mem,h k]
 rw[hc,j4,np];show bX N (m+g+1) (grd ((∀ k,(q k).isSome=(f k).isSome)∧∀ k x y,f k=some x→q k=some y→(aP v x y).isSome=true) (some (.br fun k=>(f k).bind fun x=>(q k).bind fun y=>aP v x y))) (sel (∀ k,(q k).isSome=(f k).isSome) (((f (eB v f q)).bind fun x=>(q (eB v f q)).map fun y=>a8 v x y (w++[.str (eB v f q)])).getD ⟨w,dI,.br q⟩) ⟨w,lU,.br q⟩) _
 by_cases hc1:∀ k,(q k).isSome=(f k).isSome
 case neg =>
  rw[cW fun h=>hc1 h.1,cX.mpr hc1,pT hc1];exact⟨dp,rfl,hdp⟩
 rw[bR.mpr hc1,cD,aE,lW hc1];have:=Df H (m:=m+g) (S:=fun (a:LP) (j:Option V)=>f9 (ζ (enc (.each v))) (ζ (.dict (mkd l))) (ζ (.dict (mkd ln))) (ζ (.list w)) (some (.own (.dict (mkd a)))) j) (b:=pF (n+2)) (t:=pG) (xs:=aZ (ks ln)) (j:=none) (fun k=>(f k).bind fun x=>(q k).bind fun y=>aP v x y) (P:=fun k=>((f k).bind fun x=>(q k).bind fun y=>aP v x y).isSome=true) (E:=fun e=>EachX N (m+g) v f q w e) fun q0 k r0 hq0 hP a j ha=>by
  have hk:=iQ hq0;obtain⟨dn,tn,h1,h2,h3⟩:=C.key (cR.mp hk);have hf:(f k).isSome=true:=by rw[← hc1 k,h2];rfl
  cases hfk:f k with
  |none=>rw[hfk] at hf;exact bft hf
  |some to =>
   obtain⟨do_,h4,h5⟩:=B.get hfk;have hp:=ih k do_ dn to tn hfk h5 h3;refine⟨C.sub k (cR.mp hk),?_⟩;have hb:∀ kn kr,(rb (ofP (aR pG (.str k) (f9 (ζ (enc (.each v))) (ζ (.dict (mkd l))) (ζ (.dict (mkd ln))) (ζ (.list w)) (some (.own (.dict (mkd a)))) j))) fun σ=>pF (n+2) σ kn kr)=rb (rn (n+2) "put_back" [.fz (enc v),.fz do_,.fz dn,.fz (.list (w++[.str k]))]) fun v'=>rb (ofP (Internal.setItem (.dict (mkd a)) (.str k) (dOf v'))) fun o1=>kn (f9 (ζ (enc (.each v))) (ζ (.dict (mkd l))) (ζ (.dict (mkd ln))) (ζ (.list w)) (some (.own o1)) (ζ (.str k))):=fun kn kr=>by
    rw[Td,aJ,aE,Te,a9 h1,a9 h4];show rb (aD (rn (n+2) "put_back") [.ok (.fz (enc v)),.ok (.fz do_),.ok (.fz dn),ofP (eE .Add w (.list [.str k]))]) _=_;rw[qM _ hw];rfl
   refine ocs (aP v to tn) (fun hpt=>?_) fun z hpt=>?_
   ·rw[hpt] at hp;obtain⟨d2,hp,hd2⟩:=hp;exact .inr (.inr ⟨_,⟨k,to,tn,d2,⟨⟨to,tn,hfk,h2,hpt⟩,fun i hi ⟨x,y,e1,e2,e3⟩=>by
     have:=hP i (Wp (mM C.nd) hq0 hi (cR.mpr (C.mem.mpr (by rw[e2];rfl))));rw[e1,e2] at this;exact bft ((congrArg Option.isSome e3).symm.trans this)⟩,hfk,h2,hpt,rfl,hd2⟩,fun kn kr=>(hb kn kr).trans (by rw[hp];rfl)⟩)
   ·rw[hpt] at hp;obtain⟨v',d',e1,e2,e3⟩:=hp;exact .inr (.inl ⟨by rw[h2];exact(congrArg Option.isSome hpt).trans rfl,d',z,some (.fz (.str k)),by rw[h2];exact hpt,e3,fun kn kr=>(hb kn kr).trans (by
     rw[e1,aE,eZ e2,b7 k d' ha];rfl)⟩)
 obtain⟨a,j,hi,hall,e⟩ | ⟨_,⟨k,x,y,d2,hl,h1,h2,h3,rfl,hd2⟩,e⟩:=this
 ·rw[cB ⟨hc1,fun k x y hx hy=>by
   have:=hall k (cR.mpr (C.mem.mpr (by rw[hy];rfl)));rw[hx,hy] at this;exact this⟩]
  refine⟨.own (.dict (mkd a)),_,(e _ _).trans (Tf ..),rfl,(hi.ext fun k=>?_).toSem⟩
  by_cases hk:k∈aZ (ks ln)
  ·rw[if_pos hk]
  ·rw[if_neg hk];have:q k=none:=by
    refine ocs (q k) (fun e=>?_) fun t e=>?_
    ·try rewrite[e]
     rfl
    ·exact absurd (cR.mpr (C.mem.mpr (by rw[e];rfl))) hk
   rw[this];cases f k<;>rfl
 ·rw[cW fun h=>by have:=h.2 k x y h1 h2;rw[h3] at this;exact bft this];rw[show eB v f q=k from C6 vV hl,h1,h2];exact⟨d2,e _ _,hd2.mono (ai _)⟩
variable {N:List Str} {m:Nat}
theorem ml3{a m g n:Nat}(h:a+m+g≤n):m≤n:=aa (bq m a) (aa (ak _ g) h)
theorem wl1{a b:Nat}(h:a+b≤900):a < 1000:=al (aa (ak a b) h) (by decide)
theorem bX.mono{m':Nat}{o:Option TT}{x:Rf}{r:R V}(h:bX N m o x r)(hm:m≤m'):bX N m' o x r:=by
 cases o with
 |none=>obtain⟨dp,e,h⟩:=h;exact⟨dp,e,h.mono hm⟩
 |some t=>obtain⟨v,d,e1,e2,e3⟩:=h;exact⟨v,d,e1,e2,e3.mono hm⟩
theorem eM{α:Type}{o:Option α}(h:o.isSome=true):∃ x,o=some x:=by
 cases o with
 |none=>exact bft h
 |some x=>exact⟨x,rfl⟩
def Dx(N:List Str)(M:Nat)(n:Nat)(w:WW)(o:Option TT)(x:Rf)(vw old new way names:PyData)(c:LP)(g:Str→Option TT)(j:Option V×Option V×Option V):Prop:=match o with
 |some z=>∃ c' j',Bld N M c' (fun k=>if k∈w.parts then z.get k else g k)∧∀ kn kr,aQ (fH n) fJ (aY w) (pj vw old new way names c j) kn kr=kn (pj vw old new way names c' j')
 |none=>∃ dp,(∀ kn kr,aQ (fH n) fJ (aY w) (pj vw old new way names c j) kn kr=.exc (BP (.list x.way) (.str x.kind) dp))∧Sem N M dp x.part
theorem Wr(H:Wld N)(n:Nat){r:WW}(hr:r.isRows=true)(ho:okW N r){f:Str→Option TT}{t:TT}{l:LP}{d:PyData}{w:List PyData}(B:Bld N m l f)(hd:Sem N (m+1) d t)(hn:m+1≤n){M:Nat}(hM:m≤M)(hl:r.names.length≤6)
  (ih:∀ ln q names,d=.dict (mkd ln)→Bld N m ln q→(∀ k∈r.names,(q k).isSome=true)→t=.br q→Dx N M (n+2) r (aP r (.br f) (.br q)) (a8 r (.br f) (.br q) w) (enc (.beside r)) (.dict (mkd l)) (.dict (mkd ln)) (.list w) names l f (none,none,none)) :
  bX N (M+1) (aP (.beside r) (.br f) t) (a8 (.beside r) (.br f) t w) (rn (n+3) "put_beside" [.fz (enc (.beside r)),.fz (.dict (mkd l)),.fz d,.fz (.list w)]):=by
 obtain⟨⟨i1,i2⟩,⟨i3,i4⟩,i5,i6⟩:=vO hr ho;obtain⟨dp,hdp,np⟩:=mO H n hd hn;have hdp:Sem N (M+1) dp t:=hdp.mono (am hM);simp only[Sz];have hl1:aO (plI (ofP (getItem (enc (.beside r)) (.int 1)))) (fun d1=>(.ok true)) (fun d1=>(ofP (getItem d1 (.int 0))))=.ok (.own (.list (r.names.map .str))):=by
  show rb (rb (ofP (items (enc r))) fun l=>aX (fun _=>.ok true) (fun d=>ofP (getItem d (.int 0))) l) (fun r=>ofP (own (.list r)))=_;simp only[gV hr];show rb (aX (fun _=>.ok true) (fun d=>ofP (getItem d (.int 0))) (aY r)) (fun r=>ofP (own (.list r)))=_;simp only[i1];rfl
 simp only[hl1,aE];obtain⟨j,rfl,rfl,hi⟩ | ⟨_,ln,q,e,rfl,rfl,C⟩:=hd.inv'
 ·simp only[qA,Dv,j4,np];exact⟨dp,rfl,hdp⟩
 cases e;simp only[mD,Wc,vX (C.lt H (by decide))];have hc:aC (ofP (.ok (.own (.list ((aZ (ks ln)).map .str))))) .Eq (aK cI (ofP (rdv (V.cl (.own (.list (r.names.map .str)))))))=.ok (.fz (.bool (dec (∀ k,(q k).isSome=true↔k∈r.names)))):=by
  show aN (rb (ofP (eO (r.names.map .str))) fun v=>ofP (eqO (.list ((aZ (ks ln)).map .str)) (dOf v)))=_;rw[iR (by exact qX hl)];show aN (ofP (eqO (.list ((aZ (ks ln)).map .str)) (.list ((aZ r.names).map .str))))=_;simp only[qJ,qK C.nd i3];refine congrArg (fun b=>R.ok (V.fz (.bool b))) (eD (bR.trans ⟨fun h k=>?_,fun h k=>?_⟩))
  ·simp only[← C.mem];exact h k
  ·simp only[C.mem];exact h k
 simp only[hc,j4,np];show bX N (M+1) (grd (∀ k,(q k).isSome=true↔k∈r.names) (aP r (.br f) (.br q))) (sel (∀ k,(q k).isSome=true↔k∈r.names) (a8 r (.br f) (.br q) w) ⟨w,dI,.br q⟩) _
 by_cases hc1:∀ k,(q k).isSome=true↔k∈r.names
 case neg =>
  simp only[cW hc1,pT hc1];simp only[cX.mpr hc1];exact⟨dp,rfl,hdp⟩
 simp only[lW hc1];simp only[cB hc1,bR.mpr hc1,cD,aE,vY,aJ,aE];have hI:=ih ln q (.list (r.names.map .str)) rfl C (fun k hk=>(hc1 k).mpr hk) rfl;show bX N (M+1) _ _ (rb (ofP (items (enc r))) _);simp only[gV hr];refine ocs (aP r (.br f) (.br q)) (fun hp=>?_) fun z hp=>?_
 ·try rewrite[hp]
  simp only[hp] at hI;refine hde fun _ θ=>?_;obtain⟨d2,e,h2⟩:=hI;apply θ;exact⟨d2,e _ _,h2.mono (ai _)⟩
 ·try rewrite[hp]
  simp only[hp] at hI;refine hde fun _ θ=>?_;obtain⟨c,j,h1,h2⟩:=hI;obtain⟨z',rfl,hz⟩:=Wo hr ho.wf hp;apply θ;refine⟨.own (.dict (mkd c)),_,(h2 _ _).trans (S2 ..),rfl,(h1.ext fun k=>?_).toSem⟩
  by_cases hk:k∈r.parts
  ·simp only[if_pos hk];rfl
  ·simp only[if_neg hk];exact(hz k hk).symm
def Ws(N:List Str)(w:WW):Prop:=∀ {m n o d to tn wl},2*w.hgt+m+w.grow+8≤n→wl.length+w.hgt≤900→Sem N m o to→Sem N m d tn→(aI w to).isSome=true→bX N (m+w.grow) (aP w to tn) (a8 w to tn wl) (rn n "put_back" [.fz (enc w),.fz o,.fz d,.fz (.list wl)])
def Wt(N:List Str)(w:WW):Prop:=∀ {m n lo f ln q wl},2*w.hgt+m+w.grow+8≤n→wl.length+w.hgt+1≤900→Bld N m lo f→Bld N m ln q→(aI w (.br f)).isSome=true→(∀ k∈w.names,(q k).isSome=true)→∀ vw names M,m+w.grow≤M→∀ c g j,Bld N M c g→Dx N M n w (aP w (.br f) (.br q)) (a8 w (.br f) (.br q) wl) vw (.dict (mkd lo)) (.dict (mkd ln)) (.list wl) names c g j
structure PutS(N:List Str)(w:WW):Prop where
 a:w.isRows=false→Ws N w
 b:w.isRows=true→Wt N w
theorem Wu(H:Wld N):∀ {w:WW},okW N w→PutS N w:=by
 intro w
 induction w with
 |whole =>
  refine fun _=>⟨fun _ m n o d to tn wl hn hw hO hD hs=>?_,fun h=>by exact bft h⟩
  refine exnE (c:=1) n hn hn fun n hn=>?_;exact⟨_,_,Wg n _ _ _,rfl,hD⟩
 |pick x =>
  refine fun ho=>⟨fun _ m n o d to tn wl hn hw hO hD hs=>?_,fun h=>by exact bft h⟩
  refine exnE (c:=1) n hn hn fun n hn=>?_;cases to with
  |num=>exact bft hs
  |br f =>
   revert hD hn;refine hO.byB fun m l B hD hn=>?_
   refine⟨.own (.dict (mkd (st l x d))),_,?_,rfl,((B.mono (ai _)).set ho hD).toSem⟩;simp only[Wh,vY];show rb (ofP (Internal.setItem (.dict (mkd l)) (.str x) d)) _=_;simp only[b7 x d (B.lt H (by decide))];rfl
 |call x y =>
  refine fun ho=>⟨fun _ m n o d to tn wl hn hw hO hD hs=>?_,fun h=>by exact bft h⟩
  refine exnE (c:=4) n hn hn fun n hn=>?_;simp only[Wi];exact(Wd H n ho.1 hD (ml3 (fd (k:=4) (c:=4) hn)) to wl).rb
 |sift x i =>
  refine fun ho=>⟨fun _ m n o d to tn wl hn hw hO hD hs=>?_,fun h=>by exact bft h⟩
  refine exnE (c:=4) n hn hn fun n hn=>?_;cases to with
  |num=>exact bft hs
  |br f =>
   refine hde fun _ θ=>?_;obtain⟨s,hs⟩:=eM hs;obtain⟨hc,_⟩:=dN hs;apply θ
   revert hD hn;refine hO.byB fun m l B hD hn=>?_
   simp only[Wj];exact(We H n wl B hc hD (ml3 (fd (k:=4) (c:=4) hn))).rb
 |join a b fs =>
  refine fun ho=>⟨fun _ m n o d to tn wl hn hw hO hD hs=>?_,fun h=>by exact bft h⟩
  refine exnE (c:=4) n hn hn fun n hn=>?_;obtain⟨s,hs⟩:=eM hs;obtain⟨g,h,ga,ha,F,_⟩:=pR hs;cases to with
  |num=>exact ns ga
  |br f =>
   revert hD hn;refine hO.byB fun m l B hD hn=>?_
   refine hde fun _ θ=>?_;obtain⟨d1,q1,q2⟩:=B.get ga;obtain⟨d2,q3,q4⟩:=B.get ha;obtain⟨m,l1,B1⟩:=q2.br_inv;obtain⟨_,l2,e,rfl,B2⟩:=q4.br_inv';apply θ;cases e;simp only[Wk];exact(Wf H n ho.1.1 ho.1.2.1 wl B q1 q3 ga ha B1 B2 hD (ml3 (fd (k:=4) (c:=4) hn))).rb
 |each v ih =>
  refine fun ho=>⟨fun _ m n o d to tn wl hn hw hO hD hs=>?_,fun h=>by exact bft h⟩
  have hn:2*(v.hgt+1)+m+v.grow+8≤n:=hn;have hw:wl.length+(v.hgt+1)≤900:=hw;refine exnE (c:=4) n hn hn fun n hn=>?_;cases to with
  |num=>exact bft hs
  |br f =>
   obtain⟨s,hs⟩:=eM hs;obtain⟨hc,_⟩:=dN hs
   revert hD hn;refine hO.byB fun m l B hD hn=>?_
   simp only[Wl];refine bX.rb ?_;have:=Wq H n (v:=v) (w:=wl) (wl1 hw) B hD (ml3 (fd (k:=4) (c:=4) hn)) (g:=v.grow) fun k o x to tx hk h1 h2=>(ih ho.1).1 ho.2 (n:=n+2) (by exact xF hn) (by simp only[List.length_append,List.length_singleton];exact G4 hw) h1 h2 (hc k to hk);exact this.mono (ca (ba _ _ _))
 |andThen a b iha ihb =>
  refine fun ho=>⟨fun _ m n o d to tn wl hn hw hO hD hs=>?_,fun h=>by exact bft h⟩
  have hn:2*(max a.hgt b.hgt+1)+m+(a.grow+b.grow)+8≤n:=hn;have hw:wl.length+(max a.hgt b.hgt+1)≤900:=hw;refine exnE (c:=1) n hn hn fun n hn=>?_;obtain⟨s,hs⟩:=eM hs;obtain⟨mid,h1,h2⟩:=bind_some hs;obtain⟨v1,d1,e1,e2,e3⟩:=(qH H ho.1.1).1 ho.1.2 (n:=n) (by exact G5 hn) hO h1;have hb:=(ihb ho.2.1).1 ho.2.2 (n:=n) (wl:=wl++[.int 1]) (by exact G6 hn) (by simp only[List.length_append,List.length_singleton];exact G7 hw) e3 hD (by simp only[h2];rfl);have hpt:aP (.andThen a b) to tn=(aP b mid tn).bind fun mid=>aP a to mid:=by
   show((aI a to).bind fun m=>_)=_;simp only[h1];rfl
  have hrt:a8 (.andThen a b) to tn wl=(aP b mid tn).elim (a8 b mid tn (wl++[.int 1])) fun z=>a8 a to z (wl++[.int 0]):=by
   show(aI a to).elim _ _=_;simp only[h1];rfl
  simp only[Wn,e1,qM _ (wl1 hw),qM _ (wl1 hw),hpt,hrt];show bX N _ _ _ (rb (rn n "put_back" [.fz (enc b),v1.cl,.fz d,.fz (.list (wl++[.int 1]))]) _);simp only[e2];cases hp:aP b mid tn with
  |none =>
   simp only[hp] at hb;obtain⟨dp,hb,hdp⟩:=hb;simp only[hb];exact⟨dp,rfl,hdp.mono (by show m+b.grow≤m+(a.grow+b.grow);exact G8)⟩
  |some mt =>
   simp only[hp] at hb;obtain⟨v2,d2,g1,g2,g3⟩:=hb;have ha:=(iha ho.1.1).1 ho.1.2 (n:=n) (wl:=wl++[.int 0]) (by exact G9 hn) (by simp only[List.length_append,List.length_singleton];exact Ha hw) (hO.mono (ak m b.grow)) g3 (by simp only[h1];rfl);simp only[g1,aE,g2];exact ha.rb.mono (ca ((Nat.add_assoc m b.grow a.grow).trans (congrArg (m+·) (cz _ _))))
 |beside r ih =>
  refine fun ho=>⟨fun _ m n o d to tn wl hn hw hO hD hs=>?_,fun h=>by exact bft h⟩
  have hn:2*(r.hgt+1)+m+r.grow+8≤n:=hn;have hw:wl.length+(r.hgt+1)≤900:=hw;refine exnE (c:=4) n hn hn fun n hn=>?_;have hs:(aI r to).isSome=true:=hs;cases to with
  |num i =>
   exfalso;cases r with
   |bcons=>exact bft hs
   |bnil=>have:=ho.2.1;simp[fK,fL] at this
   |_=>cases ho.1.2
  |br f =>
   revert hD hn;refine hO.byB fun m l B hD hn=>?_
   simp only[Wm];refine bX.rb ?_;have:=Wr H n (r:=r) (w:=wl) ho.1.2 ho.1.1 B hD (ml3 (fd (k:=4) (c:=4) hn)) (M:=m+r.grow) (ak _ _) ho.2.2 fun ln q names _ C hq _=>(ih ho.1.1).2 ho.1.2 (n:=n+2) (by exact xF hn) (by exact Hb hw) B C hs hq _ _ _ (ay _) l f _ (B.mono (by exact Hc));exact this.mono (ca (ba _ _ _))
 |bnil =>
  refine fun ho=>⟨fun h=>(by cases h),fun _ m n lo f ln q wl hn hw B C hs hq vw names M hM c g j hc=>?_⟩
  exact⟨c,j,hc.ext fun k=>by simp[fM,fN],fun _ _=>rfl⟩
 |bcons x p v r ihv ihr =>
  refine fun ho=>⟨fun h=>(by cases h),fun _ m n lo f ln q wl hn hw B C hs hq vw names M hM c g j hc=>?_⟩
  have hn:2*(max v.hgt r.hgt)+m+max v.grow r.grow+8≤n:=hn;have hw:wl.length+max v.hgt r.hgt+1≤900:=hw;have hM:m+max v.grow r.grow≤M:=hM;refine hde fun _ θ=>?_;obtain⟨s,hs⟩:=eM hs;obtain⟨t1,h1,hs⟩:=bind_some hs;obtain⟨y,h2,hs⟩:=bind_some hs;obtain⟨z1,h3,hs⟩:=bind_some hs;obtain⟨d1,q1,q2⟩:=B.get h1;obtain⟨xn,h4⟩:=eM (hq x (by simp[fK,fL]));obtain⟨dn,q3,q4⟩:=C.get h4;apply θ;have hv:=(ihv ho.2.1.1).1 ho.2.1.2 (n:=n) (wl:=wl++[.str x]) (by exact He hn) (by simp only[List.length_append,List.length_singleton];exact Hf hw) q2 q4 (by simp only[h2];rfl);have hpt:aP (.bcons x p v r) (.br f) (.br q)=(aP v t1 xn).bind fun y=>(aP r (.br f) (.br q)).bind fun z=>some (.br (upd z.get p (some y))):=by
   show((f p).bind fun o=>(q x).bind fun x=>_)=_;have h1:f p=some t1:=h1;simp only[h1,h4];rfl
  have hrt:a8 (.bcons x p v r) (.br f) (.br q) wl=(aP v t1 xn).elim (a8 v t1 xn (wl++[.str x])) fun _=>a8 r (.br f) (.br q) wl:=by
   show(f p).elim _ (fun o=>(q x).elim _ _)=_;have h1:f p=some t1:=h1;simp only[h1,h4];rfl
  simp only[hpt,hrt];have hb:∀ kn kr,aQ (fH n) fJ (aY (.bcons x p v r)) (pj vw (.dict (mkd lo)) (.dict (mkd ln)) (.list wl) names c j) kn kr=rb (rn n "put_back" [.fz (enc v),.fz d1,.fz dn,.fz (.list (wl++[.str x]))]) fun v'=>rb (ofP (Internal.setItem (.dict (mkd c)) (.str p) (dOf v'))) fun o=>aQ (fH n) fJ (aY r) (gP (ζ vw) (ζ (.dict (mkd lo))) (ζ (.dict (mkd ln))) (ζ (.list wl)) (ζ names) (some (.own o)) (ζ (.str x)) (ζ (.str p)) (ζ (enc v))) kn kr:=fun kn kr=>by
   show rb (ofP (aR fJ (.tuple [.str x,.str p,enc v]) _)) (fun σ=>fH n σ (fun σ=>aQ (fH n) fJ (aY r) σ kn kr) kr)=_;unfold pj;simp only[S0,aJ,aE,S1,a9 q1,a9 q3];show rb (aD (rn n "put_back") [.ok (.fz (enc v)),.ok (.fz d1),.ok (.fz dn),ofP (eE .Add wl (.list [.str x]))]) _=_;simp only[qM _ (wl1 (b:=max v.hgt r.hgt+1) hw)];rfl
  cases hp:aP v t1 xn with
  |none =>
   simp only[hp] at hv;obtain⟨dp,hv,hdp⟩:=hv;exact⟨dp,fun kn kr=>(hb kn kr).trans (by simp only[hv];rfl),hdp.mono (by exact xG hM)⟩
  |some yt =>
   simp only[hp] at hv;obtain⟨v',d',e1,e2,e3⟩:=hv;have hr:=(ihr ho.2.2.1.1).2 ho.2.2.1.2 (n:=n) (wl:=wl) (by exact Hg hn) (by exact Hh hw) B C (by simp only[h3];rfl) (fun k hk=>hq k (by simp[fK,fL,hk])) vw names M (by exact Hi hM) (st c p d') (upd g p (some yt)) (some (.fz (.str x)),some (.fz (.str p)),some (.fz (enc v))) (hc.set ho.1.2 (e3.mono (by exact xG hM)));have hb':∀ kn kr,aQ (fH n) fJ (aY (.bcons x p v r)) (pj vw (.dict (mkd lo)) (.dict (mkd ln)) (.list wl) names c j) kn kr=aQ (fH n) fJ (aY r) (pj vw (.dict (mkd lo)) (.dict (mkd ln)) (.list wl) names (st c p d') (some (.fz (.str x)),some (.fz (.str p)),some (.fz (enc v)))) kn kr:=fun kn kr=>(hb kn kr).trans (by
    simp only[e1,aE,eZ e2,b7 p d' (hc.lt H (by decide))];rfl)
   simp only[Option.bind_some];cases hpr:aP r (.br f) (.br q) with
   |none =>
    simp only[hpr] at hr;obtain⟨dp,hr,hdp⟩:=hr;exact⟨dp,fun kn kr=>(hb' kn kr).trans (hr kn kr),hdp⟩
   |some z =>
    simp only[hpr] at hr;obtain⟨c',j',i1,i2⟩:=hr;refine⟨c',j',i1.ext fun k=>?_,fun kn kr=>(hb' kn kr).trans (i2 kn kr)⟩;simp only[fM,fN,List.mem_cons,bW,upd]
    by_cases e:k=p
    ·subst e;simp[ho.2.2.2.2]
    ·simp[e]
theorem Dy(H:Wld N){w:WW}(ho:okW N w)(hr:w.isRows=false){n:Nat}{o d:PyData}{to tn:TT}(hn:3*w.hgt+m+w.grow+10≤n)(hh:w.hgt≤900)(hO:Sem N m o to)(hD:Sem N m d tn){s:TT}(hs:aI w to=some s):bX N (m+w.grow) (aP w to tn) (a8 w to tn []) (rn n "put" [.fz (enc w),.fz o,.fz d]):=by
 refine exnE (c:=3) n hn hn fun n hn=>?_;obtain⟨v,d1,e1,e2,e3⟩:=(qH H ho).1 hr (n:=n+2) (by exact Hj hn) hO hs;have hp:=(Wu H ho).1 hr (n:=n+2) (wl:=[]) (by exact Hk hn) (by simpa using hh) hO hD (by rw[hs];rfl);rw[Tg,Dr _ _ ((Dj H ho).1 hr (n+1) (by exact Hl hn)),vU _ _ (vL H hO (by exact xH hn)),vU _ _ (vL H hD (by exact xH hn)),e1,aE,aE,aE,aE];refine ocs (aP w to tn) (fun hpt=>?_) fun z hpt=>?_
 ·try rewrite[hpt]
  rw[hpt] at hp;obtain⟨dp,hp,hdp⟩:=hp;rw[hp];exact⟨dp,rfl,hdp⟩
 ·try rewrite[hpt]
  rw[hpt] at hp;obtain⟨v',d',g1,g2,g3⟩:=hp;rw[De g1 g2];exact(vM H g3 (by exact Hm hn)).rb
variable {N:List Str} {m:Nat}
theorem Wv(a:PyData){v:V}{d:PyData}(hv:v.cl=.fz d):aM [.ok (.fz a),.ok v]=.ok (.fz (.tuple [a,d])):=by
 show(if [V.fz a,v.cl].length≤bA then R.ok (V.fz (.tuple (bY [V.fz a,v.cl]))) else .no)=_;rw[hv];rfl
theorem fR(a:PyData){r:R V}{v:V}{d:PyData}(hr:r=.ok v)(hv:v.cl=.fz d):aM [.ok (.fz a),r]=.ok (.fz (.tuple [a,d])):=by simp only[hr,Wv a hv]
theorem hJ(H:Wld N):∀ {m n:Nat} {d:PyData} {t:TT},Sem N m d t→m≤n→Gives (rn (n+1) "_law_copy" [.fz d]) fun d'=>Sem N m d' t:=by
 intro m
 induction m with
 |zero =>
  intro n d t h hn;obtain⟨i,rfl,rfl,hi⟩ | ⟨_,_,_,e,_⟩:=h.inv'
  ·exact⟨_,_,(lI n _).trans rfl,rfl,.num hi⟩
  ·cases e
 |succ m ih =>
  intro n d t h hn;refine exnE (c:=1) n hn hn fun n hn=>?_;obtain⟨i,rfl,rfl,hi⟩ | ⟨_,l,f,e,rfl,rfl,B⟩:=h.inv'
  ·exact⟨_,_,(lI _ _).trans rfl,rfl,.num hi⟩
  ·cases e;obtain⟨l',e,C⟩:=jW (N:=N) (m:=m) (F:=f) (t:=fun _=>.ok true) (e:=fun d1=>aM [.ok (.fz d1),aD (rn (n+1) "_law_copy") [ofP (getItem (.dict (mkd l)) d1)]]) (xs:=ks l) (by rw[c7];exact B.lt H (by decide)) fun k hk=>by
    obtain⟨d,u,h1,h2,h3⟩:=B.key hk;obtain⟨v,d',e1,e2,e3⟩:=ih h3 (bc hn);refine⟨B.sub k hk,.inr ⟨rfl,.fz (.tuple [.str k,d']),d',u,?_,rfl,h2,e3⟩⟩;rw[a9 h1];exact fR _ e1 e2
   refine⟨.own (.dict (mkd l')),_,?_,rfl,(B.all (fun _ h=>h) C).toSem⟩;rw[lI,bO,aJ,e];rfl
theorem Ww(n:Nat):rn (n+1) "_law_copy" [.fz .none]=.ok (.fz .none):=(lI n _).trans rfl
theorem list_dict(l:LP):dF (.dict (mkd l))=.ok (.own (.list ((ks l).map .str))):=by
 show own (.list ((mkd l).map (·.1)))=_;simp only[pU];rfl
theorem Dz(H:Wld N):∀ {m n:Nat} {d1 d2:PyData} {t:TT},Sem N m d1 t→Sem N m d2 t→m≤n→rn (n+1) "_law_same" [.fz d1,.fz d2]=.ok (.fz (.bool true)):=by
 intro m
 induction m with
 |zero =>
  intro n d1 d2 t h1 h2 hn;cases t with
  |num i =>
   obtain⟨rfl,_⟩:=h1.num_inv;obtain⟨rfl,_⟩:=h2.num_inv;simp only[uK];show R.ok (V.fz (.bool (i==i)))=_;simp
  |br f=>obtain⟨_,_,e,_⟩:=h1.br_inv';cases e
 |succ m ih =>
  intro n d1 d2 t h1 h2 hn;cases t with
  |num i =>
   obtain⟨rfl,_⟩:=h1.num_inv;obtain⟨rfl,_⟩:=h2.num_inv;simp only[uK];show R.ok (V.fz (.bool (i==i)))=_;simp
  |br f =>
   obtain⟨_,l1,e,rfl,B1⟩:=h1.br_inv';cases e;obtain⟨_,l2,e,rfl,B2⟩:=h2.br_inv';cases e;refine exnE (c:=1) n hn hn fun n hn=>?_;have e0:aC (aK cI (ofP (dF (.dict (mkd l1))))) .NotEq (aK cI (ofP (dF (.dict (mkd l2)))))=.ok (.fz (.bool false)):=by
    simp only[list_dict,list_dict];show rb (ofP (eO ((ks l1).map .str))) (fun a=>aN (rb (ofP (eO ((ks l2).map .str))) fun v=>ofP (cmp .NotEq (dOf a) (dOf v))))=_;rw[iR (by rw[c7];exact B1.lt H (by decide)),iR (by rw[c7];exact B2.lt H (by decide))];show aN (ofP (bP (eqO (.list ((aZ (ks l1)).map .str)) (.list ((aZ (ks l2)).map .str)))))=_;rw[qJ,qK B1.nd B2.nd,bR.mpr fun x=>by rw[B1.mem,B2.mem]];rfl
   have e1:=jU (xs:=ks l2) (g:=fun _=>true) (e:=fun d1=>aD (rn (n+1) "_law_same") [ofP (getItem (.dict (mkd l1)) d1),ofP (getItem (.dict (mkd l2)) d1)]) fun k hk=>by
    obtain⟨dk,u,q1,q2,q3⟩:=B2.key hk;obtain⟨dk',q4,q5⟩:=B1.get q2;simp only[a9 q1,a9 q4];exact ih q5 q3 (bc hn)
   simp only[uK,e0,bO,aJ,e1];show R.ok (V.fz (.bool ((ks l2).all fun _=>true)))=_;simp
theorem mP(n:Nat){d:PyData}{t:TT}(h:Sem N m d t):rn (n+1) "_law_is_table" [.fz d]=.ok (.fz (.bool (abB t))):=by
 rw[Cs];obtain⟨i,rfl,rfl,_⟩ | ⟨m,l,f,_,rfl,rfl,B⟩:=h.inv'
 ·rfl
 ·rw[bO,aJ,vR (g:=fun x=>match lk l x with | some d=>!bT d | none=>false) fun x hx=>by
   obtain⟨d,t,h1,h2,h3⟩:=B.key hx;rw[a9 h1,h1];rfl]
  show R.ok (V.fz (.bool _))=_;refine congrArg (fun b=>R.ok (V.fz (.bool b))) (eD ?_);rw[mJ];constructor
  ·intro h k t hk;obtain⟨d,h1,h2⟩:=B.get hk;have:=h k (lY h1);rw[h1] at this;obtain⟨i,rfl,rfl,_⟩ | ⟨_,l',f',_,rfl,rfl,_⟩:=h2.inv'
   ·exact btf this
   ·exact⟨_,rfl⟩
  ·intro h x hx;obtain⟨d,t,h1,h2,h3⟩:=B.key hx;obtain⟨g,rfl⟩:=h x t h2;obtain⟨_,l',_,rfl,_⟩:=h3.br_inv';rw[h1];rfl
theorem Wx(n:Nat):rn (n+1) "_law_is_table" [.fz .none]=.ok (.fz (.bool false)):=(Cs n _).trans rfl
theorem Wy(l:LP)(x:Str):eH (.dict (mkd l)) [.str x]=.ok (.fz ((lk l x).getD .none)):=by
 show fz ((bS (mkd l) x).getD .none)=_;rw[gS];rfl
theorem mQ(l:LP)(x:Str):dL (so "get") (.ok (.fz (.dict (mkd l)))) [.ok (.fz (.str x))]=.ok (.fz ((lk l x).getD .none)):=by
 show ofP (eH (.dict (mkd l)) [.str x])=_;rw[Wy];rfl
theorem D0(n:Nat){l:LP}{f:Str→Option TT}(B:Bld N m l f)(a:Str)(i:Int):rn (n+1) "_law_high" [.fz (.dict (mkd l)),.fz (.str a),.fz (.int i)]=.ok (.fz (.bool (sb a i (.br f)))):=by
 rw[Ty,mQ,pZ];refine ocs (lk l a) (fun e=>?_) fun d e=>?_
 ·try rewrite[e]
  have:sb a i (.br f)=false:=gW.mpr fun ⟨j,h,_⟩=>by
   have h:f a=some (.num j):=h;rw[B.none_iff.mpr e] at h;cases h
  rw[this];rfl
 ·try rewrite[e]
  obtain⟨t,h1,h2⟩:=B.get' e;obtain⟨j,rfl,rfl,_⟩ | ⟨_,l',f',_,rfl,rfl,_⟩:=h2.inv'
  ·show R.ok (V.fz (.bool (decide (i≤j))))=_;rw[show decide (i≤j)=sb a i (.br f) from eD (decide_eq_true_iff.trans ⟨fun h=>⟨j,h1,h⟩,fun ⟨k,h,h'⟩=>by
    have h:f a=some (.num k):=h;rw[h1] at h;cases h;exact h'⟩)]
  ·have:sb a i (.br f)=false:=gW.mpr fun ⟨j,h,_⟩=>by
    have h:f a=some (.num j):=h;rw[h1] at h;cases h
   rw[this];rfl
theorem D1(xs:List PyData):eqO (.list xs) (.list [])=.ok xs.isEmpty:=by
 cases xs with
 |nil=>rfl
 |cons x r=>rfl
theorem Wz{t:PyData→R Bool}{g:PyData→Bool}:∀ {xs:List PyData},(∀ x∈xs,t x=.ok (g x))→aX t (fun d=>.ok (.fz d)) xs=.ok (xs.filter g):=by
 intro v0
 induction v0 with
 |nil =>
  intro _;exact rfl
 |cons x r ih =>
  intro h;show rb (nx (t x)) (fun b=>if b then rb (nx (.ok (.fz x))) fun v=>rb (aX t (fun d=>.ok (.fz d)) r) fun xs=>.ok (dOf v::xs) else aX t (fun d=>.ok (.fz d)) r)=_;rw[h x (by simp),eC,aE,ih fun d hd=>h d (ae _ hd)];cases hg:g x
  ·rw[dJ,List.filter_cons_of_neg (by simp[hg])]
  ·rw[cD,List.filter_cons_of_pos hg];rfl
theorem D2{xs:List PyData}{t:PyData→R Bool}{g:PyData→Bool}(h:∀ x∈xs,t x=.ok (g x)):aC (aO (.ok xs) t (fun d=>.ok (.fz d))) .NotEq (.ok (.own (.list [])))=.ok (.fz (.bool (!(xs.filter g).isEmpty))):=by
 show rb (rb (aX t (fun d=>.ok (.fz d)) xs) fun r=>ofP (own (.list r))) _=_;rw[Wz h];show aN (ofP (bP (eqO (.list (xs.filter g)) (.list []))))=_;rw[D1];rfl
noncomputable def sec:PyData→PyData
 | .tuple [_,d]=>d
 |d=>d
theorem D3(n:Nat)(ps:LP):rn (n+1) "_law_several" [.fz (.list (ps.map bE))]=if ((ps.map bE).filter fun d=>dX (sec d)).isEmpty=true then rb (ofP (bG (.list (ps.map bE)))) R.ok else .ok (.fz .none):=by
 rw[Uc];show ifS (aC (aO (.ok (ps.map bE)) (fun d1=>tst (aC (ofP (getItem d1 (.int 1))) .Is (.ok (.fz .none)))) (fun d1=>.ok (.fz d1))) .NotEq (.ok (.own (.list [])))) _ _=_;rw[D2 (g:=fun d=>dX (sec d)) fun d hd=>by
  obtain⟨p,_,rfl⟩:=bi.mp hd;rfl]
 cases ((ps.map bE).filter fun d=>dX (sec d)).isEmpty<;>rfl
theorem D4(n:Nat){ps:LP}{p:Str×PyData}(hp:p∈ps)(h:p.2=.none):rn (n+1) "_law_several" [.fz (.list (ps.map bE))]=.ok (.fz .none):=by
 rw[D3,if_neg];intro he;rw[List.isEmpty_iff,ie] at he;exact he (bE p) (fy hp) (by show dX p.2=true;rw[h];rfl)
theorem D5(n:Nat){ps:LP}(h:∀ p∈ps,dX p.2=false)(hl:ps.length < 4096):rn (n+1) "_law_several" [.fz (.list (ps.map bE))]=.ok (.own (.dict (mkd (sts ps [])))):=by
 rw[D3,if_pos,qD hl]
 ·rfl
 ·rw[List.isEmpty_iff,ie];intro d hd;obtain⟨p,hp,rfl⟩:=bi.mp hd;show ¬ dX p.2=true;rw[h p hp];exact eq
theorem Sem.notNone{d:PyData}{t:TT}(h:Sem N m d t):dX d=false:=by
 obtain⟨i,rfl,rfl,_⟩ | ⟨m,l,f,_,rfl,rfl,B⟩:=h.inv'<;>rfl
variable {N:List Str} {m:Nat}
def cE(N:List Str)(m:Nat)(o:Option TT)(r:R V):Prop:=match o with
 |some s=>Gives r fun d=>Sem N m d s
 |none=>r=.ok (.fz .none)
theorem cE.rb{o:Option TT}{r:R V}(h:cE N m o r):cE N m o (rb r R.ok):=by
 cases o with
 |none=>have h:r=.ok (.fz .none):=h;rw[h];rfl
 |some t=>exact Gives.rb (P:=fun d=>Sem N m d t) h
theorem D6(l:LP):fB (.dict (mkd l))=.ok (.own (.list (l.map bE))):=by
 show own (.list ((mkd l).map fun p=>.tuple [p.1,p.2]))=_;simp only[mkd,List.map_map];rfl
theorem D7:∀ (a b c:LP),sts (a++b) c=sts b (sts a c):=by
 intro v0
 induction v0 with
 |nil =>
  intro _ _;exact rfl
 |cons p r ih =>
  intro b c;exact ih b (st c p.1 p.2)
noncomputable def js(vw tr one other:PyData)(j:Option V)(fo:Option V):aA:=cQ (ζ vw) (ζ tr) (ζ one) (ζ other) j fo
theorem W0(H:Wld N)(n:Nat){a b:Str}{fs:List Str}{l:LP}{f:Str→Option TT}(B:Bld N m l f)(hn:m≤n):cE N (m+1) (aI (.join a b fs) (.br f)) (rn (n+2) "_law_joins" [.fz (enc (.join a b fs)),.fz (.dict (mkd l))]):=by
 simp only[Tz];show cE N (m+1) _ (rb (dL (so "get") (.ok (.fz (.dict (mkd l)))) [.ok (.fz (.str a))]) fun v1=>rb (dL (so "get") (.ok (.fz (.dict (mkd l)))) [.ok (.fz (.str b))]) fun v2=>_);simp only[mQ,mQ,aE,aE];have ht:∀ x,(∃ g,f x=some (.br g)∧bQ g∧∃ l' m',m=m'+1∧lk l x=some (.dict (mkd l'))∧Bld N m' l' g∧rn (n+1) "_law_is_table" [.fz ((lk l x).getD .none)]=.ok (.fz (.bool true)))∨((∀ g,f x=some (.br g)→¬ bQ g)∧rn (n+1) "_law_is_table" [.fz ((lk l x).getD .none)]=.ok (.fz (.bool false))):=fun x=>by
  refine ocs (lk l x) (fun e=>?_) fun d e=>?_
  ·try rewrite[e]
   exact .inr ⟨fun g hg=>(by simp only[B.none_iff.mpr e] at hg;cases hg),Wx n⟩
  ·try rewrite[e]
   obtain⟨t,h1,h2⟩:=B.get' e;show(∃ g,_∧_∧∃ l' m',m=m'+1∧some d=some (.dict (mkd l'))∧_∧rn (n+1) "_law_is_table" [.fz d]=_)∨(_∧rn (n+1) "_law_is_table" [.fz d]=_);simp only[mP n h2];obtain⟨i,_⟩ | ⟨m',l',g,B'⟩:=h2.inv
   ·exact .inr ⟨fun g hg=>(by simp only[h1] at hg;cases hg),rfl⟩
   ·by_cases hg:bQ g
    ·exact .inl ⟨g,h1,hg,l',m',rfl,rfl,B',by simp only[show abB (.br g)=true from bR.mpr hg]⟩
    ·exact .inr ⟨fun g' hg'=>(by simp only[h1] at hg';cases hg';exact hg),by simp only[show abB (.br g)=false from cX.mpr hg]⟩
 simp only[bN,bN,bN,cG,cG];show cE N (m+1) _ (ifS (orS (unS .Not (rn (n+1) "_law_is_table" [.fz ((lk l a).getD .none)])) (unS .Not (rn (n+1) "_law_is_table" [.fz ((lk l b).getD .none)]))) _ _);obtain⟨g,fa,ga,l1,m',rfl,e1,B1,q1⟩ | ⟨ha,q1⟩:=ht a
 case inr=>simp only[q1,gY fun g h h1 h2 F=>ha g h1 F.ga];rfl
 obtain⟨h,fb,hb,l2,_,e,e2,B2,q2⟩ | ⟨hb,q2⟩:=ht b
 case inr=>simp only[q1,q2,gY fun g h h1 h2 F=>hb h h2 F.ha];rfl
 cases e;rw[q1,q2,e1,e2];show cE N (m'+1+1) _ (rb (ofP (items (.dict (mkd l1)))) fun l3=>aQ (pJ (n+1)) pK l3 (js (enc (.join a b fs)) (.dict (mkd l)) (.dict (mkd l1)) (.dict (mkd l2)) none none) (fun σ=>uL (n+1) σ (fun _=>R.ok (.fz .none)) R.ok) R.ok);simp only[bO,aJ,aE];obtain⟨j,L1⟩:=qE (S:=fun (j:Option V)=>js (enc (.join a b fs)) (.dict (mkd l)) (.dict (mkd l1)) (.dict (mkd l2)) j none) (b:=pJ (n+1)) (t:=pK) (c:=gX g (·∈fs)) (v:=.fz .none) (xs:=ks l1) (fun x hx j=>⟨some (.fz (.str x)),fun kn kr=>by
  obtain⟨d,t,h1,h2,h3⟩:=B1.key hx;obtain⟨r1,rfl⟩:=ga x t h2;obtain⟨_,lr,_,rfl,Br⟩:=h3.br_inv';unfold js;simp only[T0,aJ,aE,T3];exact qG (Dl a b fs) (Dn fs) Br h1 h2 _ _⟩) none
 simp only[L1,qF B1]
 by_cases c1:mK g (·∈fs)
 case neg=>rw[cX.mpr c1,gY fun g' h' h1 h2 F=>by rw[fa] at h1;cases h1;exact c1 F.gf];rfl
 simp only[bR.mpr c1,cD];unfold js;simp only[T5];show cE N (m'+1+1) _ (rb (ofP (items (.dict (mkd l2)))) fun l3=>aQ (pL (n+1)) pM l3 (js (enc (.join a b fs)) (.dict (mkd l)) (.dict (mkd l1)) (.dict (mkd l2)) j none) (fun σ=>uM (n+1) σ (fun _=>R.ok (.fz .none)) R.ok) R.ok);simp only[bO,aJ,aE];obtain⟨j2,L2⟩:=qE (S:=fun (j:Option V)=>js (enc (.join a b fs)) (.dict (mkd l)) (.dict (mkd l1)) (.dict (mkd l2)) j none) (b:=pL (n+1)) (t:=pM) (c:=gX h (·∉fs)) (v:=.fz .none) (xs:=ks l2) (fun x hx j=>⟨some (.fz (.str x)),fun kn kr=>by
  obtain⟨d,t,h1,h2,h3⟩:=B2.key hx;obtain⟨r1,rfl⟩:=hb x t h2;obtain⟨_,lr,_,rfl,Br⟩:=h3.br_inv';unfold js;simp only[T6,aJ,aE,T7];exact qG (Dm a b fs) (Do fs) Br h1 h2 _ _⟩) j
 simp only[L2,qF B2]
 by_cases c2:mK h (·∉fs)
 case neg=>rw[cX.mpr c2,gY fun g' h' h1 h2 F=>by rw[fb] at h2;cases h2;exact c2 F.hf];rfl
 rw[bR.mpr c2,cD];unfold js;simp only[T8];show cE N (m'+1+1) _ (rb (ofP (items (.dict (mkd l1)))) fun l3=>aQ (lJ (n+1)) lK l3 (js (enc (.join a b fs)) (.dict (mkd l)) (.dict (mkd l1)) (.dict (mkd l2)) j2 (some (.own (.dict [])))) (fun σ=>uN (n+1) σ (fun _=>R.ok (.fz .none)) R.ok) R.ok);simp only[bO,aJ,aE];have hyes:aI (.join a b fs) (.br f)=some (.br (gA g h)):=(pQ (t:=.br f) fa fb).trans (cB ⟨ga,hb,c1,c2⟩ _);simp only[hyes];have L:=jY H (m:=m') (S:=fun (c:LP) (j:Option V)=>js (enc (.join a b fs)) (.dict (mkd l)) (.dict (mkd l1)) (.dict (mkd l2)) j (some (.own (.dict (mkd c))))) (b:=lJ (n+1)) (t:=lK) (xs:=ks l1) (j:=j2) (gA g h) (E:=fun _=>False) fun k hk c j ha=>by
  refine hde fun _ θ=>?_;obtain⟨d,t,h1,h2,h3⟩:=B1.key hk;obtain⟨r1,rfl⟩:=ga k t h2;obtain⟨m',lr,Br⟩:=h3.br_inv;apply θ;refine⟨B1.sub k hk,?_⟩;have hb':∀ kn kr,(rb (ofP (aR lK (.str k) (js (enc (.join a b fs)) (.dict (mkd l)) (.dict (mkd l1)) (.dict (mkd l2)) j (some (.own (.dict (mkd c))))))) fun σ=>lJ (n+1) σ kn kr)=ifS (.ok (.fz (.bool (lk l2 k).isSome))) (bD (aK bG (aB .Add (.ok (.own (.list (lr.map bE)))) (aK fB (ofP (getItem (.dict (mkd l2)) (.str k)))))) (.ok (.dict (mkd c))) (.ok (.fz (.str k))) fun o3=>kn (js (enc (.join a b fs)) (.dict (mkd l)) (.dict (mkd l1)) (.dict (mkd l2)) (ζ (.str k)) (some (.own o3)))) (kn (js (enc (.join a b fs)) (.dict (mkd l)) (.dict (mkd l1)) (.dict (mkd l2)) (ζ (.str k)) (some (.own (.dict (mkd c)))))):=fun kn kr=>by
   unfold js;simp only[T9,aJ,aE,Ua];show ifS (aN (ofP (Internal.contains (.str k) (.dict (mkd l2))))) (bD (aK bG (aB .Add (aK fB (ofP (getItem (.dict (mkd l1)) (.str k)))) (aK fB (ofP (getItem (.dict (mkd l2)) (.str k)))))) _ _ _) _=_;simp only[dD,a9 h1,show aK fB (ofP (.ok (.fz (.dict (mkd lr)))))=.ok (.own (.list (lr.map bE))) from congrArg ofP (D6 lr)];rfl
  refine ocs (lk l2 k) (fun hk2=>?_) fun d2 hk2=>?_
  ·refine .inl ⟨?_,some (.fz (.str k)),fun kn kr=>(hb' kn kr).trans (by simp only[hk2];rfl)⟩;show(g k).bind (fun r=>(h k).bind _)=none;simp only[h2,B2.none_iff.mpr hk2];rfl
  ·refine hde fun _ θ=>?_;obtain⟨t2,q1,q2⟩:=B2.get' hk2;obtain⟨r2,rfl⟩:=hb k t2 q1;obtain⟨_,lr2,e,rfl,Br2⟩:=q2.br_inv';apply θ;cases e;have hl1:=Br.len;have hl2:=Br2.len;have hN:=H.len;refine .inr (.inl ⟨.dict (mkd (sts (lr++lr2) [])),pP (.br r1) (.br r2),some (.fz (.str k)),?_,?_,fun kn kr=>(hb' kn kr).trans ?_⟩)
   ·show(g k).bind (fun r=>(h k).bind _)=_;simp only[h2,q1];rfl
   ·simp only[D7];exact(((Bld.nil.upd Br).upd Br2).ext fun x=>by simp[bW]).toSem
   ·simp only[hk2,a9 hk2,show aK fB (ofP (.ok (.fz (.dict (mkd lr2)))))=.ok (.own (.list (lr2.map bE))) from congrArg ofP (D6 lr2)];show rb (rb (ofP (eE .Add (lr.map bE) (.list (lr2.map bE)))) fun v=>ofP (bG (dOf v))) _=_;rw[show eE .Add (lr.map bE) (.list (lr2.map bE))=.ok (.own (.list ((lr++lr2).map bE))) from by
     show(if iV .Add=true∧(lr.map bE).length+(lr2.map bE).length≤bA then P.ok (V.own (.list (lr.map bE++lr2.map bE))) else .no)=_;rw[if_pos ⟨rfl,by have:bA=16777216:=rfl;simp only[List.length_map];exact Hn hl1 hl2 hN this⟩,dj]]
    show rb (ofP (bG (.list ((lr++lr2).map bE)))) _=_;rw[qD (by rw[List.length_append];exact qY hl1 hl2 hN)];show rb (ofP (Internal.setItem (.dict (mkd c)) (.str k) _)) _=_;simp only[b7 k _ ha];rfl
 obtain⟨c,j,hi,e⟩ | ⟨_,hx,_⟩:=L
 ·have hs:Sem N (m'+1) (.dict (mkd c)) (.br (gA g h)):=(B1.all (fun k h=>by show(g k).bind _=none;simp only[h];rfl) hi).toSem;simp only[show js (enc (.join a b fs)) (.dict (mkd l)) (.dict (mkd l1)) (.dict (mkd l2)) j2 (some (.own (.dict [])))=js (enc (.join a b fs)) (.dict (mkd l)) (.dict (mkd l1)) (.dict (mkd l2)) j2 (some (.own (.dict (mkd [])))) from rfl,e];unfold js;simp only[Ub];obtain⟨v,d,g1,g2,g3⟩:=(hJ H hs (n:=n) hn).rb;exact⟨v,d,g1,g2,g3.mono (ai _)⟩
 ·exact hx.elim
variable {N:List Str} {m:Nat}
section
theorem W1(n:Nat)(d:PyData):rn (n+1) "_law_seen" [.fz (enc .whole),.fz d]=rb (rn n "_law_copy" [.fz d]) R.ok:=by kernel_rfl
theorem W2(n:Nat)(a b:WW)(d:PyData):rn (n+1) "_law_seen" [.fz (enc (.andThen a b)),.fz d]=rb (rn n "_law_seen" [.fz (enc a),.fz d]) fun v=>rb (d8 (aC (ofP (rdv v.cl)) .Is (.ok (.fz .none))) (.ok (.fz .none)) (aD (rn n "_law_seen") [.ok (.fz (enc b)),aW v.cl])) R.ok:=by kernel_rfl
theorem W3(n:Nat)(x:Str)(i:Int):rn (n+1) "_law_seen" [.fz (enc (.pick x)),.fz (.int i)]=.ok (.fz .none):=by kernel_rfl
theorem W4(n:Nat)(x y:Str)(i:Int):rn (n+1) "_law_seen" [.fz (enc (.call x y)),.fz (.int i)]=.ok (.fz .none):=by kernel_rfl
theorem W5(n:Nat)(x:Str)(y i:Int):rn (n+1) "_law_seen" [.fz (enc (.sift x y)),.fz (.int i)]=.ok (.fz .none):=by kernel_rfl
theorem W6(n:Nat)(x y:Str)(fs:List Str)(i:Int):rn (n+1) "_law_seen" [.fz (enc (.join x y fs)),.fz (.int i)]=.ok (.fz .none):=by kernel_rfl
theorem W7(n:Nat)(v:WW)(i:Int):rn (n+1) "_law_seen" [.fz (enc (.each v)),.fz (.int i)]=.ok (.fz .none):=by kernel_rfl
theorem W8(n:Nat)(v:WW)(i:Int):rn (n+1) "_law_seen" [.fz (enc (.beside v)),.fz (.int i)]=.ok (.fz .none):=by kernel_rfl
theorem W9(n:Nat)(x:Str)(l:List (PyData×PyData)):rn (n+1) "_law_seen" [.fz (enc (.pick x)),.fz (.dict l)]=rb (aD (rn n "_law_copy") [dL (so "get") (.ok (.fz (.dict l))) [.ok (.fz (.str x))]]) R.ok:=by kernel_rfl
theorem Xa(n:Nat)(x y:Str)(l:List (PyData×PyData)):rn (n+1) "_law_seen" [.fz (enc (.call x y)),.fz (.dict l)]=ifS (orS (aN (ofP (bP (Internal.contains (.str x) (.dict l))))) (aN (ofP (Internal.contains (.str y) (.dict l))))) (.ok (.fz .none)) (rb (aO (ofP (items (.dict l))) (fun d3=>tst (aN (ofP (cmp .NotEq d3 (.str x))))) (fun d3=>aM [.ok (.fz d3),aD (rn n "_law_copy") [ofP (getItem (.dict l) d3)]])) fun v4=>rb (aK bG (aB .Add (ofP (rdv v4.cl)) (cA [aM [.ok (.fz (.str y)),aD (rn n "_law_copy") [ofP (getItem (.dict l) (.str x))]]]))) R.ok):=by kernel_rfl
theorem Xb(n:Nat)(r:WW)(l:List (PyData×PyData)):rn (n+1) "_law_seen" [.fz (enc (.beside r)),.fz (.dict l)]=ifS (aC (aO (ofP (items (enc r))) (fun d5=>tst (aC (ofP (getItem d5 (.int 1))) .NotIn (.ok (.fz (.dict l))))) (fun d5=>.ok (.fz d5))) .NotEq (.ok (.own (.list [])))) (.ok (.fz .none)) (rb (aD (rn n "_law_several") [aO (ofP (items (enc r))) (fun d7=>.ok true) (fun d7=>aM [ofP (getItem d7 (.int 0)),aD (rn n "_law_seen") [ofP (getItem d7 (.int 2)),aG (.ok (.dict l)) (ofP (getItem d7 (.int 1)))]])]) R.ok):=by kernel_rfl
theorem Xc(n:Nat)(v:WW)(l:List (PyData×PyData)):rn (n+1) "_law_seen" [.fz (enc (.each v)),.fz (.dict l)]=rb (aD (rn n "_law_several") [aO (ofP (items (.dict l))) (fun d9=>.ok true) (fun d9=>aM [.ok (.fz d9),aD (rn n "_law_seen") [.ok (.fz (enc v)),ofP (getItem (.dict l) d9)]])]) R.ok:=by kernel_rfl
theorem Xd(n:Nat)(x y:Str)(fs:List Str)(l:List (PyData×PyData)):rn (n+1) "_law_seen" [.fz (enc (.join x y fs)),.fz (.dict l)]=rb (rn n "_law_joins" [.fz (enc (.join x y fs)),.fz (.dict l)]) R.ok:=by kernel_rfl
theorem Xe(n:Nat)(x:Str)(i:Int)(l:List (PyData×PyData)):rn (n+1) "_law_seen" [.fz (enc (.sift x i)),.fz (.dict l)]=ifS (unS .Not (rn n "_law_is_table" [.fz (.dict l)])) (.ok (.fz .none)) (rb (aK bG (aO (ofP (items (.dict l))) (fun d10=>tst (aD (rn n "_law_high") [ofP (getItem (.dict l) d10),.ok (.fz (.str x)),.ok (.fz (.int i))])) (fun d10=>aM [.ok (.fz d10),aD (rn n "_law_copy") [ofP (getItem (.dict l) d10)]]))) R.ok):=by kernel_rfl
end
theorem Xf:∀ {r:WW} {f:Str→Option TT} {z:TT},r.isRows=true→r.wf→aI r (.br f)=some z→∀ p∈r.parts,(f p).isSome=true:=by
 intro r
 induction r with
 |bnil=>intro f z _ _ _ p hp;exact b5 hp
 |bcons n p v r ihv ihr =>
  intro f z _ hw h q hq;obtain⟨x,h1,h⟩:=bind_some h;obtain⟨y,h2,h⟩:=bind_some h;obtain⟨z1,h3,h⟩:=bind_some h;rcases List.mem_cons.mp (show q∈p::r.parts from hq) with rfl | hq
  ·have h1:f q=some x:=h1;rw[h1];rfl
  ·exact ihr hw.2.1.2 hw.2.1.1 h3 q hq
 |_=>intro f z h;exact bft h
noncomputable def vZ:PyData→Str
 | .tuple [_,.str p,_]=>p
 |_=>⟨#[]⟩
theorem Xg{l:LP}:∀ {r:WW},r.isRows=true→okW N r→(∀ d∈aY r,tst (aC (ofP (getItem d (.int 1))) .NotIn (.ok (.fz (.dict (mkd l)))))=.ok (!(lk l (vZ d)).isSome))∧(((aY r).filter fun d=>!(lk l (vZ d)).isSome).isEmpty=true↔∀ p∈r.parts,(lk l p).isSome=true):=by
 intro r
 induction r with
 |bnil=>intro _ _;exact⟨fun d hd=>(by exact b5 hd),⟨fun _ _ h=>b5 h,fun _=>rfl⟩⟩
 |bcons n p v r ihv ihr =>
  intro _ ho;obtain⟨i1,i2⟩:=ihr ho.2.2.1.2 ho.2.2.1.1;refine⟨fun d hd=>?_,?_⟩
  ·rcases List.mem_cons.mp (show d∈.tuple [.str n,.str p,enc v]::aY r from hd) with rfl | hd
   ·show tst (aN (ofP (bP (Internal.contains (.str p) (.dict (mkd l))))))=_;rw[dD];rfl
   ·exact i1 d hd
  ·rw[List.isEmpty_iff] at i2 ⊢;show List.filter _ (.tuple [.str n,.str p,enc v]::aY r)=[]↔∀ q∈p::r.parts,_;rw[fm,← i2,List.filter_cons];show(if (!(lk l p).isSome)=true then _ else _)=[]↔_;cases (lk l p).isSome<;>simp
 |_=>intro h;exact bft h
noncomputable def wA(n:Nat)(l:LP):PyData→R V:=fun d7=>aM [ofP (getItem d7 (.int 0)),aD (rn n "_law_seen") [ofP (getItem d7 (.int 2)),aG (.ok (.dict (mkd l))) (ofP (getItem d7 (.int 1)))]]
inductive SeenW(N:List Str)(m:Nat)(r:R (List PyData))(nm:List Str)(o:Option TT):Prop where
 |mk (ps:LP) (e1:r=.ok (ps.map bE)) (e2:ks ps=nm) (e3:(∃ z,o=some z∧∀ p∈ps,p.1∈N∧∃ u,z.get p.1=some u∧Sem N m p.2 u)∨o=none∧∃ p∈ps,p.2=.none):SeenW N m r nm o
def Xh(N:List Str)(w:WW):Prop:=∀ {m n d t},w.hgt+m+3≤n→Sem N m d t→cE N m (aI w t) (rn n "_law_seen" [.fz (enc w),.fz d])
def Xi(N:List Str)(w:WW):Prop:=∀ {m n l f},w.hgt+m+3≤n→Bld N m l f→(∀ p∈w.parts,(f p).isSome=true)→SeenW N m (aX (fun _=>.ok true) (wA n l) (aY w)) w.names (aI w (.br f))
structure SeenS(N:List Str)(w:WW):Prop where
 a:w.isRows=false→Xh N w
 b:w.isRows=true→Xi N w
theorem D8(H:Wld N):∀ {w:WW},okW N w→SeenS N w:=by
 intro w
 induction w with
 |whole =>
  refine fun _=>⟨fun _ m n d t hn hd=>?_,fun h=>by exact bft h⟩
  refine exnE (c:=2) n hn hn fun n hn=>?_;rw[W1];exact(hJ H hd (by exact Ho hn)).rb
 |pick x =>
  refine fun _=>⟨fun _ m n d t hn hd=>?_,fun h=>by exact bft h⟩
  refine exnE (c:=2) n hn hn fun n hn=>?_
  revert hn;refine hd.by (fun m i _ hn=>?_) fun m l f B hn=>?_
  ·exact W3 _ _ _
  ·rw[W9,mQ];refine cE.rb ?_;show cE N (m+1) (f x) (rn (n+1) "_law_copy" [.fz ((lk l x).getD .none)]);refine ocs (f x) (fun e=>?_) fun u e=>?_
   ·try rewrite[e]
    rw[B.none_iff.mp e];exact Ww n
   ·try rewrite[e]
    obtain⟨d,h1,h2⟩:=B.get e;rw[h1];obtain⟨v,d',g1,g2,g3⟩:=hJ H h2 (n:=n) (by exact mX hn);exact⟨v,d',g1,g2,g3.mono (ai _)⟩
 |call x y =>
  refine fun ho=>⟨fun _ m n d t hn hd=>?_,fun h=>by exact bft h⟩
  refine exnE (c:=2) n hn hn fun n hn=>?_
  revert hn;refine hd.by (fun m i _ hn=>?_) fun m l f B hn=>?_
  ·rw[show aI (.call x y) (.num i:TT)=none from cW (fun h=>by cases h.1) _];exact W4 _ _ _ _
  ·rw[Xa,dD,dD,B.dom,B.dom];show cE N (m+1) (grd ((f x).isSome=true∧f y=none) (some (.br (gB x y f)))) _
   by_cases hc:(f x).isSome=true∧f y=none
   case neg =>
    rw[cW hc];cases e1:f x with
    |none=>rfl
    |some u =>
     refine ocs (f y) (fun e2=>?_) fun v e2=>?_
     ·exact absurd ⟨by rw[e1];rfl,e2⟩ hc
     ·try rewrite[e2]
      rfl
   rw[cB hc,hc.1,hc.2];refine hde fun _ θ=>?_;obtain⟨u,hu⟩:=eM hc.1;obtain⟨dx,q1,q2⟩:=B.get hu;obtain⟨v,dx',g1,g2,g3⟩:=hJ H q2 (n:=n) (by exact mX hn);obtain⟨ps,e1,e2,e3,e4⟩:=Dd (N:=N) (m:=m) (F:=fun k=>if k=x then none else f k) (t:=fun d3=>tst (aN (ofP (cmp .NotEq d3 (.str x))))) (e:=fun d3=>aM [.ok (.fz d3),aD (rn (n+1) "_law_copy") [ofP (getItem (.dict (mkd l)) d3)]]) (xs:=ks l) fun k hk=>by
    obtain⟨d,u,h1,h2,h3⟩:=B.key hk;refine⟨B.sub k hk,?_⟩;show(R.ok (!(k==x))=_∧_)∨R.ok (!(k==x))=_∧_
    by_cases e:k=x
    ·exact .inl ⟨by simp[e],by simp[e]⟩
    ·obtain⟨v,d',e1,e2,e3⟩:=hJ H h3 (n:=n) (by exact mX hn);refine .inr ⟨by simp[e],.fz (.tuple [.str k,d']),d',u,?_,rfl,by simp only[if_neg e];exact h2,e3⟩;rw[a9 h1];exact fR _ e1 e2
   apply θ;have hl:=B.lt H (k:=1000) (by decide);rw[c7] at e2;refine⟨.own (.dict (mkd (sts (ps++[(y,dx')]) []))),_,?_,rfl,?_⟩
   ·rw[bO,a9 q1];show rb (rb (aX _ _ ((ks l).map .str)) fun r=>ofP (own (.list r))) (fun v4=>rb (aK bG (aB .Add (ofP (rdv v4.cl)) (cA [aM [.ok (.fz (.str y)),rn (n+1) "_law_copy" [.fz dx]]]))) R.ok)=_;rw[e1,fR _ g1 g2];show rb (rb (ofP (eE .Add (ps.map bE) (.list [.tuple [.str y,dx']]))) fun v=>ofP (bG (dOf v))) R.ok=_;rw[show eE .Add (ps.map bE) (.list [.tuple [.str y,dx']])=.ok (.own (.list ((ps++[(y,dx')]).map bE))) from by
     show(if iV .Add=true∧(ps.map bE).length+1≤bA then P.ok (V.own (.list (ps.map bE++[.tuple [.str y,dx']]))) else .no)=_;rw[if_pos ⟨rfl,by have:bA=16777216:=rfl;simp only[List.length_map];exact Hp e2 hl this⟩,dj];rfl]
    show rb (ofP (bG (.list ((ps++[(y,dx')]).map bE)))) R.ok=_;rw[qD (by rw[List.length_append];simp only[List.length_singleton];exact Hq e2 hl)];rfl
   ·rw[D7];refine(((jV (F:=fun k=>if k=x then none else f k) Bld.nil e4).set ho.2.1 g3).ext fun k=>?_).toSem;simp only[upd,gB]
    by_cases ky:k=y
    ·rw[if_pos ky,if_pos ky,hu]
    ·rw[if_neg ky,if_neg ky]
     by_cases kx:k=x
     ·rw[if_pos kx];simp[kx]
     ·rw[if_neg kx]
      by_cases hk:k∈ks ps
      ·rw[if_pos hk]
      ·rw[if_neg hk];refine ocs (f k) (fun ef=>?_) fun u ef=>?_
       ·try rewrite[ef]
        rfl
       ·exact absurd ((e3 k).mpr ⟨B.mem.mpr (by rw[ef];rfl),by simp[kx,ef]⟩) hk
 |sift x i =>
  refine fun _=>⟨fun _ m n d t hn hd=>?_,fun h=>by exact bft h⟩
  refine exnE (c:=2) n hn hn fun n hn=>?_
  revert hn;refine hd.by (fun m i _ hn=>?_) fun m l f B hn=>?_
  ·exact W5 _ _ _ _
  ·rw[Xe,mP n B.toSem];show cE N (m+1) (grd (bQ f) (some (.br (gR x i f)))) _
   by_cases hc:bQ f
   case neg=>rw[cW hc,show abB (.br f)=false from cX.mpr hc];rfl
   rw[cB hc,show abB (.br f)=true from bR.mpr hc];obtain⟨l',e,C⟩:=jW (N:=N) (m:=m) (F:=gR x i f) (t:=fun d10=>tst (aD (rn (n+1) "_law_high") [ofP (getItem (.dict (mkd l)) d10),.ok (.fz (.str x)),.ok (.fz (.int i))])) (e:=fun d10=>aM [.ok (.fz d10),aD (rn (n+1) "_law_copy") [ofP (getItem (.dict (mkd l)) d10)]]) (xs:=ks l) (by rw[c7];exact B.lt H (by decide)) fun k hk=>by
    obtain⟨d,u,h1,h2,h3⟩:=B.key hk;obtain⟨g,rfl⟩:=hc k u h2;obtain⟨_,lr,_,rfl,Br⟩:=h3.br_inv';refine⟨B.sub k hk,?_⟩;rw[a9 h1,show gR x i f k=grd (cK x i (.br g)) (some (.br g)) from by show(f k).bind _=_;rw[h2];rfl];show(tst (rn (n+1) "_law_high" [.fz (.dict (mkd lr)),.fz (.str x),.fz (.int i)])=_∧_)∨tst (rn (n+1) "_law_high" [.fz (.dict (mkd lr)),.fz (.str x),.fz (.int i)])=_∧_;rw[D0 n Br x i];refine bcs (sb x i (.br g)) (fun hs=>?_) fun hs=>?_
    ·try rewrite[hs]
     exact .inl ⟨rfl,cW (gW.mp hs) _⟩
    ·try rewrite[hs]
     obtain⟨v,d',e1,e2,e3⟩:=hJ H h3 (n:=n) (by exact mX hn);exact .inr ⟨rfl,.fz (.tuple [.str k,d']),d',.br g,fR _ e1 e2,rfl,cB (mH.mp hs) _,e3⟩
   refine⟨.own (.dict (mkd l')),_,?_,rfl,(B.all (fun k h=>by show(f k).bind _=none;rw[h];rfl) C).toSem⟩;rw[bO,aJ,e];rfl
 |join a b fs =>
  refine fun _=>⟨fun _ m n d t hn hd=>?_,fun h=>by exact bft h⟩
  refine exnE (c:=3) n hn hn fun n hn=>?_
  revert hn;refine hd.by (fun m i _ hn=>?_) fun m l f B hn=>?_
  ·exact W6 _ _ _ _ _
  ·rw[Xd];exact(W0 H n B (by exact Hr hn)).rb
 |each v ih =>
  refine fun ho=>⟨fun _ m n d t hn hd=>?_,fun h=>by exact bft h⟩
  have hn:v.hgt+1+m+3≤n:=hn;refine exnE (c:=2) n hn hn fun n hn=>?_
  revert hn;refine hd.by (fun m i _ hn=>?_) fun m l f B hn=>?_
  ·exact W7 _ _ _
  ·have key:∀ xs:List Str,(∀ x∈xs,x∈ks l)→∃ ps:LP,aX (fun _=>.ok true) (fun d9=>aM [.ok (.fz d9),aD (rn (n+1) "_law_seen") [.ok (.fz (enc v)),ofP (getItem (.dict (mkd l)) d9)]]) (xs.map .str)=.ok (ps.map bE)∧ks ps=xs∧∀ p∈ps,(p.2=.none∧(f p.1).bind (aI v)=none∧(f p.1).isSome=true)∨∃ u,(f p.1).bind (aI v)=some u∧Sem N m p.2 u:=by
    intro xs
    induction xs with
    |nil=>exact fun _=>⟨[],rfl,rfl,fun p hp=>by exact b5 hp⟩
    |cons x r ihx =>
     intro hx;refine hde fun _ θ=>?_;obtain⟨ps,e1,e2,e3⟩:=ihx fun y hy=>hx y (ae _ hy);obtain⟨d,u,h1,h2,h3⟩:=B.key (hx x (by simp));apply θ;have hv:=(ih ho.1).1 ho.2 (n:=n+1) (by exact xI hn) h3;have hs:aX (fun _=>.ok true) (fun d9=>aM [.ok (.fz d9),aD (rn (n+1) "_law_seen") [.ok (.fz (enc v)),ofP (getItem (.dict (mkd l)) d9)]]) ((x::r).map .str)=rb (nx (aM [.ok (.fz (.str x)),aD (rn (n+1) "_law_seen") [.ok (.fz (enc v)),ofP (getItem (.dict (mkd l)) (.str x))]])) fun w=>rb (.ok (ps.map bE)) fun xs=>.ok (dOf w::xs):=by rw[← e1];rfl
     rw[hs,a9 h1];refine ocs (aI v u) (fun hsu=>?_) fun s hsu=>?_
     ·rw[hsu] at hv;refine⟨(x,.none)::ps,?_,by rw[← e2];rfl,fun p hp=>?_⟩
      ·rw[fR (.str x) (show aD (rn (n+1) "_law_seen") [.ok (.fz (enc v)),ofP (.ok (.fz d))]=.ok (.fz .none) from hv) rfl];rfl
      ·rcases List.mem_cons.mp hp with rfl | hp
       ·exact .inl ⟨rfl,by show(f x).bind _=none;rw[h2];exact hsu,by show(f x).isSome=true;rw[h2];rfl⟩
       ·exact e3 p hp
     ·rw[hsu] at hv;obtain⟨w,d',g1,g2,g3⟩:=hv;refine⟨(x,d')::ps,?_,by rw[← e2];rfl,fun p hp=>?_⟩
      ·rw[fR (.str x) (show aD (rn (n+1) "_law_seen") [.ok (.fz (enc v)),ofP (.ok (.fz d))]=.ok w from g1) g2];rfl
      ·rcases List.mem_cons.mp hp with rfl | hp
       ·exact .inr ⟨s,by show(f x).bind _=_;rw[h2];exact hsu,g3⟩
       ·exact e3 p hp
   obtain⟨ps,e1,e2,e3⟩:=key (ks l) fun _ h=>h;have hl:ps.length < 4096:=by rw[← c7,e2,c7];exact B.lt H (by decide)
   rw[Xc,bO];refine cE.rb ?_;show cE N (m+1) (grd _ _) (aD (rn (n+1) "_law_several") [rb (aX _ _ ((ks l).map .str)) fun r=>ofP (own (.list r))]);rw[e1];show cE N (m+1) (grd _ _) (rn (n+1) "_law_several" [.fz (.list (ps.map bE))])
   by_cases hc:∀ k x,f k=some x→(aI v x).isSome=true
   ·rw[cB hc];have e4:∀ p∈ps,∃ u,(f p.1).bind (aI v)=some u∧Sem N m p.2 u:=fun p hp=>by
     rcases e3 p hp with ⟨_,h2,h3⟩ | h
     ·obtain⟨u,hu⟩:=eM h3;rw[hu] at h2;have:=hc p.1 u hu;rw[show aI v u=none from h2] at this;exact bft this
     ·exact h
    refine⟨_,_,D5 n (fun p hp=>?_) hl,rfl,((jV (F:=fun k=>(f k).bind (aI v)) Bld.nil fun p hp=>⟨?_,e4 p hp⟩).ext fun k=>?_).toSem⟩
    ·obtain⟨u,_,h⟩:=e4 p hp;exact h.notNone
    ·exact B.sub p.1 (e2▸fy (f:=(·.1)) hp)
    ·rw[e2]
     by_cases hk:k∈ks l
     ·rw[if_pos hk]
     ·rw[if_neg hk];refine ocs (f k) (fun ef=>?_) fun u ef=>?_
      ·try rewrite[ef]
       rfl
      ·exact absurd (B.mem.mpr (by rw[ef];rfl)) hk
   ·rw[cW hc];simp only[Classical.not_forall] at hc;obtain⟨k,x,hk,hx⟩:=hc;have hkl:k∈ks ps:=e2▸B.mem.mpr (by rw[hk];rfl);obtain⟨p,hp,rfl⟩:=bi.mp hkl;rcases e3 p hp with ⟨h1,_,_⟩ | ⟨u,h,_⟩
    ·exact D4 n hp h1
    ·rw[hk] at h;rw[show aI v x=some u from h] at hx;exact absurd rfl hx
 |andThen a b iha ihb =>
  refine fun ho=>⟨fun _ m n d t hn hd=>?_,fun h=>by exact bft h⟩
  have hn:max a.hgt b.hgt+1+m+3≤n:=hn;refine exnE (c:=1) n hn hn fun n hn=>?_;have ha:=(iha ho.1.1).1 ho.1.2 (n:=n) (by exact Hs hn) hd;rw[W2];show cE N m ((aI a t).bind (aI b)) _;refine ocs (aI a t) (fun hs=>?_) fun mid hs=>?_
  ·try rewrite[hs]
   rw[hs] at ha;have ha:rn n "_law_seen" [.fz (enc a),.fz d]=.ok (.fz .none):=ha;rw[ha];rfl
  ·try rewrite[hs]
   rw[hs] at ha;obtain⟨v,d',g1,g2,g3⟩:=ha;rw[g1,aE,g2,Option.bind_some];refine cE.rb ?_;show cE N m _ (d8 (.ok (.fz (.bool (dX d')))) (.ok (.fz .none)) (rn n "_law_seen" [.fz (enc b),.fz d']));rw[g3.notNone];exact(ihb ho.2.1).1 ho.2.2 (n:=n) (by exact Ht hn) g3
 |beside r ih =>
  refine fun ho=>⟨fun _ m n d t hn hd=>?_,fun h=>by exact bft h⟩
  have hn:r.hgt+1+m+3≤n:=hn;refine exnE (c:=2) n hn hn fun n hn=>?_
  revert hn;refine hd.by (fun m i _ hn=>?_) fun m l f B hn=>?_
  ·have:aI (.beside r) (.num i:TT)=none:=by
    cases r with
    |bcons=>rfl
    |bnil=>have:=ho.2.1;simp[fK,fL] at this
    |_=>cases ho.1.2
   rw[this];exact W8 _ _ _
  ·obtain⟨f1,f2⟩:=Xg (l:=l) ho.1.2 ho.1.1;rw[Xb,gV ho.1.2];show cE N (m+1) (aI r (.br f)) (ifS (aC (aO (.ok (aY r)) _ _) _ _) _ _);rw[D2 f1]
   by_cases hp:∀ p∈r.parts,(f p).isSome=true
   case neg =>
    have:((aY r).filter fun d=>!(lk l (vZ d)).isSome).isEmpty=false:=by
     rw[Bool.eq_false_iff];exact fun h=>hp fun p hp=>by rw[← B.dom];exact f2.mp h p hp
    rw[this];refine ocs (aI r (.br f)) (fun hs=>?_) fun z hs=>?_
    ·try rewrite[hs]
     rfl
    ·exact absurd (Xf ho.1.2 ho.1.1.wf hs) hp
   rw[f2.mpr fun p h=>by rw[B.dom];exact hp p h];obtain⟨ps,e1,e2,e3⟩:=(ih ho.1.1).2 ho.1.2 (n:=n+1) (by exact xI hn) B hp;have hl:ps.length < 4096:=by rw[← c7,e2];exact al ho.2.2 (by decide)
   show cE N (m+1) _ (rb (aD (rn (n+1) "_law_several") [rb (aX (fun _=>.ok true) (wA (n+1) l) (aY r)) fun r=>ofP (own (.list r))]) R.ok);refine cE.rb ?_;rw[e1];show cE N (m+1) _ (rn (n+1) "_law_several" [.fz (.list (ps.map bE))]);rcases e3 with ⟨z,hz,e4⟩ | ⟨hz,p,hp,h0⟩
   ·obtain⟨zf,rfl,hd⟩:=vT ho.1.2 ho.1.1.wf hz;rw[hz];refine⟨_,_,D5 n (fun p hp=>?_) hl,rfl,((jV (F:=zf) Bld.nil e4).ext fun k=>?_).toSem⟩
    ·obtain⟨_,u,_,h⟩:=e4 p hp;exact h.notNone
    ·rw[e2]
     by_cases hk:k∈r.names
     ·rw[if_pos hk]
     ·rw[if_neg hk];refine ocs (zf k) (fun ef=>?_) fun u ef=>?_
      ·try rewrite[ef]
       rfl
      ·exact absurd ((hd k).mp (by rw[ef];rfl)) hk
   ·rw[hz];exact D4 n hp h0
 |bnil =>
  exact fun _=>⟨fun h=>(by cases h),fun _ m n l f hn B hp=>⟨[],rfl,rfl,.inl ⟨_,rfl,fun p hp=>by cases hp⟩⟩⟩
 |bcons x p v r ihv ihr =>
  refine fun ho=>⟨fun h=>(by exact btf h),fun _ m n l f hn B hp=>?_⟩
  have hn:max v.hgt r.hgt+m+3≤n:=hn;obtain⟨ps,e1,e2,e3⟩:=(ihr ho.2.2.1.1).2 ho.2.2.1.2 (n:=n) (by exact Hu hn) B fun q hq=>hp q (ae _ hq);obtain⟨u,hu⟩:=eM (hp p (by simp[fM,fN]));obtain⟨d,h1,h2⟩:=B.get hu;have hv:=(ihv ho.2.1.1).1 ho.2.1.2 (n:=n) (by exact Hv hn) h2;have hs:aX (fun _=>.ok true) (wA n l) (aY (.bcons x p v r))=rb (nx (aM [.ok (.fz (.str x)),aD (rn n "_law_seen") [.ok (.fz (enc v)),ofP (getItem (.dict (mkd l)) (.str p))]])) fun w=>rb (.ok (ps.map bE)) fun xs=>.ok (dOf w::xs):=by rw[← e1];rfl
  have hst:aI (.bcons x p v r) (.br f)=(aI v u).bind fun y=>(aI r (.br f)).bind fun z=>some (.br (upd z.get x (some y))):=by
   show(f p).bind _=_;rw[hu];rfl
  rw[hs,a9 h1,hst];refine ocs (aI v u) (fun hsu=>?_) fun s hsu=>?_
  ·try rewrite[hsu]
   rw[hsu] at hv;refine⟨(x,.none)::ps,?_,by rw[show ks ((x,PyData.none)::ps)=x::ks ps from rfl,e2];rfl,.inr ⟨rfl,(x,.none),by simp,rfl⟩⟩;rw[fR (.str x) (show aD (rn n "_law_seen") [.ok (.fz (enc v)),ofP (.ok (.fz d))]=.ok (.fz .none) from hv) rfl];rfl
  ·try rewrite[hsu]
   rw[hsu] at hv;obtain⟨w,d',g1,g2,g3⟩:=hv;refine⟨(x,d')::ps,?_,by rw[show ks ((x,d')::ps)=x::ks ps from rfl,e2];rfl,?_⟩
   ·rw[fR (.str x) (show aD (rn n "_law_seen") [.ok (.fz (enc v)),ofP (.ok (.fz d))]=.ok w from g1) g2];rfl
   ·rcases e3 with ⟨z,hz,e4⟩ | ⟨hz,q,hq,h0⟩
    ·rw[hz];refine .inl ⟨_,rfl,fun q hq=>?_⟩;rcases List.mem_cons.mp hq with rfl | hq
     ·exact⟨ho.1.1,s,by simp[bW,upd],g3⟩
     ·obtain⟨i1,u',i2,i3⟩:=e4 q hq;refine⟨i1,u',?_,i3⟩;have hne:q.1≠x:=fun e=>ho.2.2.2.1 (e▸e2▸fy (f:=(·.1)) hq);simp only[bW,upd,if_neg hne];exact i2
    ·rw[hz];exact .inr ⟨rfl,q,ae _ hq,h0⟩
theorem aT(a:Int){n:Int}(h:0 < n):0≤a.fmod n∧a.fmod n < n:=by
 rw[gh a (by exact qZ h)];exact⟨Int.emod_nonneg a (by exact Hw h),Int.emod_lt_of_pos a h⟩
theorem fS(x:Int){y:Int}(h:y≠0):aF .Mod (.int x) (.int y)=.ok (.fz (.int (x.fmod y))):=if_pos h
theorem hU(x:Int){y:Int}(h:y.natAbs < 2 ^ 63):aF .Mult (.int x) (.int y)=.ok (.fz (.int (x*y))):=if_pos (.inr h)
theorem D9(l:List PyData)(t:PyData→R Bool)(e:PyData→R V):aO (.ok l) t e=rb (aX t e l) fun r=>ofP (own (.list r)):=rfl
theorem mR{x:Int}(y:Int)(h:x.natAbs < 2 ^ 63):aF .Mult (.int x) (.int y)=.ok (.fz (.int (x*y))):=if_pos (.inl h)
theorem j5{l:List PyData}{k:Int}{d:PyData}(h0:0≤k)(h:l[k.toNat]?=some d):getItem (.list l) (.int k)=.ok (.fz d):=by
 have hk:k.toNat < l.length:=(bg.mp h).1;show(if 0≤k then (if 0≤k∧k < l.length then frz l[k.toNat]? else .no) else atN l k)=_;rw[if_pos h0,if_pos ⟨h0,by exact Hx hk⟩,h];rfl
noncomputable def Li(s:List Int):PyData:=.list (s.map .int)
noncomputable def dT(s:List Int)(k:Int):Int:=if k < s.length then (s[k.toNat]?).getD 0 else 0
noncomputable def bJ(s:List Int)(k:Int):Int:=(dT s (2+k.fmod 24)*48271+7919*k+12345).fmod 2147483647
theorem wB(n:Nat)(s:List Int){k:Int}(hk:0≤k):rn (n+1) "_law_cell_at" [.fz (Li s),.fz (.int k)]=.ok (.fz (.int (dT s k))):=by
 rw[Th];show(if decide (k < ((s.map PyData.int).length:Int))=true then rb (ofP (getItem (.list (s.map .int)) (.int k))) R.ok else R.ok (.fz (.int 0)))=_;rw[List.length_map];unfold dT
 by_cases h:k < s.length
 ·have hl:k.toNat < s.length:=by exact Hy hk h
  rw[if_pos (decide_eq_true h),if_pos h,j5 hk (by rw[List.getElem?_map,List.getElem?_eq_getElem hl];rfl),List.getElem?_eq_getElem hl];rfl
 ·rw[if_neg (by simpa using h),if_neg h]
theorem hV(n:Nat)(s:List Int)(k:Int):rn (n+2) "_law_mixed" [.fz (Li s),.fz (.int k)]=.ok (.fz (.int (bJ s k))):=by
 rw[Ti];have h:=(aT k (n:=24) (by decide)).1;refine Eq.trans (b:=rb (aB .Mod (aB .Add (aB .Add (aB .Mult (rn (n+1) "_law_cell_at" [.fz (Li s),.fz (.int (2+k.fmod 24))]) (.ok (.fz (.int 48271)))) (ofP (aF .Mult (.int 7919) (.int k)))) (.ok (.fz (.int 12345)))) (.ok (.fz (.int 2147483647)))) R.ok) (by kernel_rfl) ?_;rw[wB n s (by exact Hz h),show aB .Mult (.ok (.fz (.int (dT s (2+k.fmod 24))))) (.ok (.fz (.int 48271)))=.ok (.fz (.int (dT s (2+k.fmod 24)*48271))) from congrArg ofP (hU _ (by decide)),mR _ (by decide)];rfl
theorem Ea{n:Nat}{m:Int}(h0:0≤m)(h1:m < n):∃ k:Nat,k∈List.range n∧m=k:=by
 obtain⟨k,rfl⟩:=gm h0;exact⟨k,List.mem_range.mpr (ci.mp h1),rfl⟩
theorem Xj{m:Int}(h:0≤m∧m < 14):∃ i:Int,aK gF (aB .Mult (.ok (.fz (.str (so "37")))) (.ok (.fz (.int (1+m)))))=.ok (.fz (.int i))∧0≤i∧i < 10 ^ 28:=by
 have all:∀ k∈List.range 14,∃ i:Int,aK gF (aB .Mult (.ok (.fz (.str (so "37")))) (.ok (.fz (.int (1+(k:Int))))))=.ok (.fz (.int i))∧0≤i∧i < 10 ^ 28:=by
  rw[show List.range 14=[0,1,2,3,4,5,6,7,8,9,10,11,12,13] from rfl]
  repeat rw[fm]
  exact⟨⟨37,by kernel_rfl,by decide⟩,⟨3737,by kernel_rfl,by decide⟩,⟨373737,by kernel_rfl,by decide⟩,⟨37373737,by kernel_rfl,by decide⟩,⟨3737373737,by kernel_rfl,by decide⟩,⟨373737373737,by kernel_rfl,by decide⟩,⟨37373737373737,by kernel_rfl,by decide⟩,⟨3737373737373737,by kernel_rfl,by decide⟩,⟨373737373737373737,by kernel_rfl,by decide⟩,⟨37373737373737373737,by kernel_rfl,by decide⟩,⟨3737373737373737373737,by kernel_rfl,by decide⟩,⟨373737373737373737373737,by kernel_rfl,by decide⟩,⟨37373737373737373737373737,by kernel_rfl,by decide⟩,⟨3737373737373737373737373737,by kernel_rfl,by decide⟩,fun _ h=>nomatch h⟩
 obtain⟨k,hk,rfl⟩:=Ea h.1 h.2;exact all k hk
inductive RInt(r:R V)(b:Nat):Prop where
 |mk (i:Int) (e:r=.ok (.fz (.int i))) (h:i.natAbs < b):RInt r b
theorem RInt.of{r r':R V}{b:Nat}(h:r=r')(x:RInt r' b):RInt r b:=h▸x
theorem nb4{m q:Int}(hm:0≤m∧m < 4)(hq:0≤q∧q < 3):RInt (rb (aB .Add (aG (cU (cA [(ofP (aF .Pow (.int 10) (.int 20))),(unS .USub (ofP (aF .Pow (.int 10) (.int 20)))),(ofP (aF .Pow (.int 10) (.int 12))),(.ok (.fz (.int 0)))])) (.ok (.fz (.int m)))) (.ok (.fz (.int q)))) R.ok) big:=by
 have all:∀ k∈List.range 4,∃ i:Int,rb (aB .Add (aG (cU (cA [(ofP (aF .Pow (.int 10) (.int 20))),(unS .USub (ofP (aF .Pow (.int 10) (.int 20)))),(ofP (aF .Pow (.int 10) (.int 12))),(.ok (.fz (.int 0)))])) (.ok (.fz (.int (k:Int))))) (.ok (.fz (.int q)))) R.ok=.ok (.fz (.int (i+q)))∧i.natAbs≤10 ^ 20:=by
  rw[show List.range 4=[0,1,2,3] from rfl]
  repeat rw[fm]
  exact⟨⟨10 ^ 20,by kernel_rfl,by decide⟩,⟨-10 ^ 20,by kernel_rfl,by decide⟩,⟨10 ^ 12,by kernel_rfl,by decide⟩,⟨0,by kernel_rfl,by decide⟩,fun _ h=>nomatch h⟩
 obtain⟨k,hk,rfl⟩:=Ea hm.1 hm.2;obtain⟨i,e,hi⟩:=all k hk;exact⟨i+q,e,al (Int.natAbs_add_le i q) (cx (Nat.add_lt_add_of_le_of_lt hi (nb0 hq (ay _))) (by decide))⟩
theorem qN(n:Nat)(c:Int):RInt (rn (n+1) "_law_number" [.fz (.int c)]) big:=by
 rw[Tl];refine RInt.of (r':=(if (c.fmod 5==4)=true then rb (aB .Add (aG (cU (cA [(ofP (aF .Pow (.int 10) (.int 20))),(unS .USub (ofP (aF .Pow (.int 10) (.int 20)))),(ofP (aF .Pow (.int 10) (.int 12))),(.ok (.fz (.int 0)))])) (.ok (.fz (.int ((c.fdiv 5).fmod 4))))) (.ok (.fz (.int ((c.fdiv 20).fmod 3))))) R.ok else if (c.fmod 5==3)=true then rb (aB .Sub (aB .Mod (ofP (aF .Mult (.int (c.fdiv 5)) (.int 48271))) (.ok (.fz (.int 2000003)))) (.ok (.fz (.int 1000001)))) R.ok else if (c.fmod 15==2)=true then rb (aB .Mult (aK gF (aB .Mult (.ok (.fz (.str (so "37")))) (.ok (.fz (.int (1+(c.fdiv 15).fmod 14)))))) (aB .Sub (.ok (.fz (.int 1))) (ofP (aF .Mult (.int ((c.fdiv 210).fmod 2)) (.int 2))))) R.ok else R.ok (.fz (.int ((c.fdiv 5).fmod 9 - 4))))) (by kernel_rfl) ?_
 split
 ·exact nb4 (aT _ (by decide)) (aT _ (by decide))
 split
 ·rw[hU _ (by decide)];refine⟨(c.fdiv 5*48271).fmod 2000003 - 1000001,rfl,?_⟩;exact nbs (aT (c.fdiv 5*48271) (n:=2000003) (by decide)) (by decide)
 split
 ·obtain⟨i,hi,hb⟩:=Xj (aT (c.fdiv 15) (n:=14) (by decide));have hq:=aT (c.fdiv 210) (n:=2) (by decide);rw[hi,hU _ (by decide)];have hs:(1 - (c.fdiv 210).fmod 2*2).natAbs=1:=by rcases mY hq with h | h<;>rw[h]<;>rfl
  refine⟨i*(1 - (c.fdiv 210).fmod 2*2),?_,?_⟩
  ·show rb (ofP (aF .Mult (.int i) (.int (1 - (c.fdiv 210).fmod 2*2)))) R.ok=_;rw[hU _ (by rw[hs];decide)];rfl
  ·rw[Int.natAbs_mul,hs,Nat.mul_one];exact nb0 hb (by decide)
 ·refine⟨_,rfl,?_⟩;exact nbs (aT (c.fdiv 5) (n:=9) (by decide)) (by decide)
theorem Xk:∀ (r:List Nat) (acc:Array Nat),(r.map fun c=>(⟨#[c]⟩:Str)).foldl (fun acc p=>acc++(so "").cps++p.cps) acc=acc++r.toArray:=by
 intro v0
 induction v0 with
 |nil =>
  intro acc;simp
 |cons c r ih =>
  intro acc;simp only[List.map_cons,List.foldl_cons];rw[ih];have:(so "").cps=#[]:=rfl;rw[this];simp
theorem Xl(cs:List Nat):Txt.join (so "") (cs.map fun c=>⟨#[c]⟩)=⟨cs.toArray⟩:=by
 show Builtin.Str.glued _ _=_;unfold Builtin.Str.glued;cases cs with
 |nil=>rfl
 |cons c r =>
  simp only[List.map_cons,List.drop_succ_cons,List.drop_zero,List.headD_cons];rw[Xk];simp
theorem Eb:∀ cs:List Nat,strs? (cs.map b8)=some (cs.map fun c=>⟨#[c]⟩)
 | []=>rfl
 |c::r=>by
  show(strs? (r.map b8)).map (_::·)=_;rw[Eb r];rfl
theorem Xm:∀ (cs:List Nat) (a:Nat),(cs.map fun c=>(⟨#[c]⟩:Str)).foldl (fun x y=>x+y.length+(so "").length) a=a+cs.length:=by
 intro v0
 induction v0 with
 |nil =>
  intro a;simp
 |cons c r ih =>
  intro a;simp only[List.map_cons,List.foldl_cons];rw[ih];have:(so "").length=0:=rfl;have h1:(⟨#[c]⟩:Str).length=1:=rfl;rw[this,h1];simp;exact H0
theorem Ec{cs:List Nat}(h:cs.length≤1000):eH (.str (so "")) [.list (cs.map b8)]=.ok (.fz (.str ⟨cs.toArray⟩)):=by
 have e:eH (.str (so "")) [.list (cs.map b8)]=(ofO (strs? (cs.map b8))).bind fun l=>if JoinOk (so "") l then fz (.str (Txt.join (so "") l)) else .no:=rfl;rw[e,Eb,fP,fO];have hj:JoinOk (so "") (cs.map fun c=>⟨#[c]⟩)=true:=by
  unfold JoinOk Builtin.Str.tooLong;rw[List.foldl_toArray',Xm]<;>simp[sizeLine];exact H1 h
 rw[if_pos hj,Xl];rfl
theorem mS{n:Nat}{a:Int}(h0:0≤a)(h1:a≤n):clipAt n a=a.toNat:=by
 unfold clipAt;rw[if_neg (cv.mpr h0),Int.min_eq_left h1,Int.max_eq_right h0]
theorem Ed{n:Nat}{a:Int}(h0:0≤a)(h1:(n:Int)≤a):clipAt n a=n:=by
 unfold clipAt;rw[if_neg (cv.mpr h0),Int.min_eq_right h1,Int.max_eq_right (co n),Int.toNat_natCast]
theorem Ee{α:Type}(l:List α){k:Int}(h:0≤k):slice l none (some k)=l.take k.toNat:=by
 show(l.drop 0).take (clipAt l.length k - 0)=_;rw[List.drop_zero,Nat.sub_zero];rcases Int.le_total k l.length with hk | hk
 ·rw[mS h hk]
 ·rw[Ed h hk,List.take_of_length_le (ay _),List.take_of_length_le];have:=Int.toNat_le_toNat hk
  rwa [Int.toNat_natCast] at this
noncomputable def LET:Str:=so "abcdefghijklmnopqrstuvwxyz"
noncomputable def ltr(m:Int):Nat:=(LET.cps[m.toNat]?).getD 0
theorem Ef:∀ i:_root_.Fin 26,(LET.cps[i.val]?).isSome=true∧inL ((LET.cps[i.val]?).getD 0)=true:=by decide +kernel
theorem wC(x:Int):getItem (.str (so "abcdefghijklmnopqrstuvwxyz")) (.int (x.fmod 26))=.ok (.fz (b8 (ltr (x.fmod 26)))):=by
 have h:=aT x (n:=26) (by decide);show(if 0≤x.fmod 26∧x.fmod 26 < LET.cps.size then frz (LET.cps[(x.fmod 26).toNat]?.map b8) else .no)=_;rw[if_pos ⟨h.1,by show _ < ((26:Nat):Int);exact H3 h⟩];have hs:(LET.cps[(x.fmod 26).toNat]?).isSome=true:=(Ef ⟨(x.fmod 26).toNat,by exact mZ h⟩).1;unfold ltr;cases e:LET.cps[(x.fmod 26).toNat]? with
 |none=>rw[e] at hs;exact bft hs
 |some c=>rfl
theorem wD{a:Int}(ha:0≤a∧a < 26):inL (ltr a)=true:=(Ef ⟨a.toNat,by exact mZ ha⟩).2
theorem Eg{a b:Int}(ha:0≤a∧a < 26)(hb:0≤b∧b < 26)(h:ltr a=ltr b):a=b:=by
 have key:∀ i j:_root_.Fin 26,(LET.cps[i.val]?).getD 0=(LET.cps[j.val]?).getD 0→i=j:=by decide +kernel
 have:=key ⟨a.toNat,by exact mZ ha⟩ ⟨b.toNat,by exact mZ hb⟩ h;have:=congrArg _root_.Fin.val this;simp at this;exact H4 ha hb this
noncomputable def e7(c:Int):List Nat:=[0,1,2,3,4,5,6,7].map fun j:Int=>ltr ((c.fdiv 8+5*j).fmod 26)
noncomputable def nm(c k:Int):List Nat :=
 if (c.fdiv 1664).fmod 3=1 then ((e7 c).set 0 (ltr ((c.fdiv 8+k.fdiv 8).fmod 26))).take (1+k.fmod 8).toNat
 else ((e7 c).set ((c.fdiv 208).fmod (1+c.fmod 8)).toNat (ltr ((c.fdiv 8+7+k).fmod 26))).take (1+c.fmod 8).toNat
theorem Eh{cs:List Nat}{k:Int}(h:0≤k∧k < cs.length)(x:Nat):Internal.setItem (.list (cs.map b8)) (.int k) (b8 x)=.ok (.list ((cs.set k.toNat x).map b8)):=by
 show(if 0≤k∧k < (cs.map b8).length then P.ok (PyData.list ((cs.map b8).set k.toNat (b8 x))) else .no)=_;rw[if_pos (by simpa using h),List.map_set]
theorem Xn(c:Int):aO (rgI (.ok (.fz (.int 8)))) (fun d2=>(.ok true)) (fun d2=>(aG (.ok (.str (so "abcdefghijklmnopqrstuvwxyz"))) (aB .Mod (aB .Add (ofP (aF .FloorDiv (.int c) (.int 8))) (ofP (aF .Mult (.int 5) d2))) (.ok (.fz (.int 26))))))=.ok (.own (.list ((e7 c).map b8))):=by
 rw[show rgI (.ok (.fz (.int 8)))=.ok ([0,1,2,3,4,5,6,7].map PyData.int) from by kernel_rfl,D9,qB (g:=fun d=>match d with | .int j=>b8 (ltr ((c.fdiv 8+5*j).fmod 26)) | d=>d)]
 ·rfl
 ·intro d hd;obtain⟨j,_,rfl⟩:=bi.mp hd;refine⟨rfl,.fz (b8 (ltr ((c.fdiv 8+5*j).fmod 26))),?_,rfl⟩;refine Eq.trans (b:=ofP (getItem (.str (so "abcdefghijklmnopqrstuvwxyz")) (.int ((c.fdiv 8+5*j).fmod 26)))) (by kernel_rfl) ?_;rw[wC];rfl
theorem iS(c:Int):(e7 c).length=8:=rfl
theorem Xo(n:Nat)(c k:Int):rn (n+1) "_law_name" [.fz (.int c),.fz (.int k)]=.ok (.fz (.str ⟨(nm c k).toArray⟩)):=by
 rw[Tj];have h8:=aT c (n:=8) (by decide);have k8:=aT k (n:=8) (by decide);have hp:=aT (c.fdiv 208) (n:=1+c.fmod 8) (by exact H5 h8);rw[Xn c];refine Eq.trans (b:=if ((c.fdiv 1664).fmod 3==1)=true then rb (ofP (getItem (.str (so "abcdefghijklmnopqrstuvwxyz")) (.int ((c.fdiv 8+k.fdiv 8).fmod 26)))) (fun v=>rb (ofP (Internal.setItem (.list ((e7 c).map b8)) (.int 0) (dOf v))) fun o=>rb (rb (rb (ofP (iX o none (some (1+k.fmod 8)))) fun v=>.ok [v.cl]) fun as=>ofP (eH (.str (so "")) (bY as))) R.ok) else rb (ofP (getItem (.str (so "abcdefghijklmnopqrstuvwxyz")) (.int ((c.fdiv 8+7+k).fmod 26)))) (fun v=>rb (ofP (aF .Mod (.int (c.fdiv 208)) (.int (1+c.fmod 8)))) fun i=>rb (ofP (Internal.setItem (.list ((e7 c).map b8)) (dOf i) (dOf v))) fun o=>rb (rb (rb (ofP (iX o none (some (1+c.fmod 8)))) fun v=>.ok [v.cl]) fun as=>ofP (eH (.str (so "")) (bY as))) R.ok)) (by kernel_rfl) ?_;unfold nm
 by_cases h:(c.fdiv 1664).fmod 3=1
 ·rw[if_pos (by simpa using h),if_pos h,wC,aJ,aE,fQ,Eh (by simp[iS]),aJ,aE];show rb (ofP (eH (.str (so "")) [.list (slice (((e7 c).set 0 _).map b8) none (some (1+k.fmod 8)))])) R.ok=_;rw[Ee _ (by exact xJ k8),← List.map_take,Ec (by simp[iS];exact xK)];rfl
 ·rw[if_neg (by simpa using h),if_neg h,wC,aJ,aE,fQ,fS _ (by exact H6 h8),aJ,aE,fQ,Eh (by simp[iS];exact H7 h8 hp),aJ,aE];show rb (ofP (eH (.str (so "")) [.list (slice (((e7 c).set _ _).map b8) none (some (1+c.fmod 8)))])) R.ok=_;rw[Ee _ (by exact xJ h8),← List.map_take,Ec (by simp[iS];exact xK)];rfl
theorem Xp(c k:Int):okN ⟨(nm c k).toArray⟩:=by
 have base:∀ x∈e7 c,inL x=true:=by
  intro x hx;obtain⟨j,_,rfl⟩:=bi.mp hx;exact wD (aT _ (by decide))
 have h8:=aT c (n:=8) (by decide);have k8:=aT k (n:=8) (by decide);refine⟨?_,?_,fun x hx=>?_⟩
 ·show 1≤(nm c k).toArray.size;rw[gu];unfold nm
  split<;>rw[List.length_take,List.length_set,iS]
  ·exact Nat.le_min.mpr ⟨xW k8.1,by decide⟩
  ·exact Nat.le_min.mpr ⟨xW h8.1,by decide⟩
 ·show(nm c k).toArray.size≤8;rw[gu];unfold nm
  split<;>rw[List.length_take,List.length_set,iS]<;>exact dw _ _
 ·have hx:x∈nm c k:=by simpa using hx
  unfold nm at hx
  split at hx
  ·rcases List.mem_or_eq_of_mem_set (List.mem_of_mem_take hx) with h | h
   ·exact base x h
   ·rw[h];exact wD (aT _ (by decide))
  ·rcases List.mem_or_eq_of_mem_set (List.mem_of_mem_take hx) with h | h
   ·exact base x h
   ·rw[h];exact wD (aT _ (by decide))
theorem Ei{x a b:Int}(ha:0≤a∧a < 26)(hb:0≤b∧b < 26)(h:(x+a).fmod 26=(x+b).fmod 26):a=b:=by
 rw[gh _ (by decide),gh _ (by decide)] at h;exact H8 ha hb h
theorem fd8{k:Int}(hk:0≤k∧k < 14):0≤k.fdiv 8∧k.fdiv 8 < 26:=by
 rw[Int.fdiv_eq_ediv_of_nonneg _ (by decide)];exact H9 hk
theorem ml8{a b:Int}(ha:0≤a∧a < 8)(hb:0≤b∧b < 8)(h:min (1+a).toNat 8=min (1+b).toNat 8):a=b:=by exact Ia ha hb h
theorem po8{a:Int}(ha:0≤a∧a < 8):0 < (1+a).toNat:=by exact Ib ha
theorem lt8{a b:Int}(ha:0≤a∧a < 8)(hb:0≤b∧b < 1+a):b.toNat < 8∧b.toNat < (1+a).toNat:=by exact Ic ha hb
theorem Xq{c k k':Int}(hk:0≤k∧k < 14)(hk':0≤k'∧k' < 14)(h:nm c k=nm c k'):k=k':=by
 unfold nm at h
 by_cases hc:(c.fdiv 1664).fmod 3=1
 ·rw[if_pos hc,if_pos hc] at h;have hl:=congrArg List.length h;simp only[List.length_take,List.length_set,iS] at hl;have h8:=ml8 (aT k (by decide)) (aT k' (by decide)) hl;have he:=congrArg (fun l=>l[0]?) h;simp only[List.getElem?_take,List.getElem?_set,if_pos (po8 (aT k (n:=8) (by decide))),if_pos (po8 (aT k' (n:=8) (by decide))),if_pos (show 0 < (e7 c).length from fh 7),if_true] at he;have hl2:=Ei (fd8 hk) (fd8 hk') (Eg (aT _ (by decide)) (aT _ (by decide)) (si he));rw[← Int.mul_fdiv_add_fmod k 8,← Int.mul_fdiv_add_fmod k' 8,hl2,h8]
 ·rw[if_neg hc,if_neg hc] at h;have h8:=aT c (n:=8) (by decide);obtain⟨h1,h2⟩:=lt8 h8 (aT (c.fdiv 208) (n:=1+c.fmod 8) (Int.lt_add_one_of_le h8.1 |> fun h=>by rw[ck];exact h));have he:=congrArg (fun l=>l[((c.fdiv 208).fmod (1+c.fmod 8)).toNat]?) h;simp only[List.getElem?_take,List.getElem?_set,if_pos h2,if_pos (show _ < (e7 c).length from h1),if_true] at he;exact Ei ⟨hk.1,dz hk.2 (by decide)⟩ ⟨hk'.1,dz hk'.2 (by decide)⟩ (Eg (aT _ (by decide)) (aT _ (by decide)) (si he))
noncomputable def nsI:List Int:=[0,1,2,3,4,5,6,7,8,9,10,11,12,13]
noncomputable def nms(c:Int):List Str:=nsI.map fun k=>⟨(nm c k).toArray⟩
theorem Xr(c:Int):Wl4 (nms c):=by
 refine⟨⟨ai 14,?_,fun x hx=>?_⟩,rfl⟩
 ·refine List.Pairwise.map _ (R:=fun a b=>(0≤a∧a < 14)∧(0≤b∧b < 14)∧a≠b) (fun a b h e=>?_) (by unfold nsI;decide);have:(nm c a).toArray=(nm c b).toArray:=Str.mk.inj e;exact h.2.2 (Xq h.1 h.2.1 (by simpa using congrArg Array.toList this))
 ·obtain⟨k,_,rfl⟩:=bi.mp hx;exact Xp c k
noncomputable def NL(N:List Str):PyData:=.list (N.map .str)
theorem Xs(n:Nat)(s:List Int):rn (n+2) "_law_names" [.fz (Li s)]=.ok (.own (NL (nms (dT s 0)))):=by
 rw[Tk];rw[show rgI (.ok (.fz (.int 14)))=.ok (nsI.map PyData.int) from by kernel_rfl,D9,qB (g:=fun d=>match d with | .int k=>.str ⟨(nm (dT s 0) k).toArray⟩ | d=>d)]
 ·rfl
 ·intro d hd;obtain⟨j,_,rfl⟩:=bi.mp hd;refine⟨rfl,.fz (.str ⟨(nm (dT s 0) j).toArray⟩),?_,rfl⟩;rw[wB n s (by decide)];exact Xo n _ _
theorem wE(x y:Int):aF .Add (.int x) (.int y)=.ok (.fz (.int (x+y))):=rfl
theorem wF(x y:Int):aF .Sub (.int x) (.int y)=.ok (.fz (.int (x - y))):=rfl
theorem iT(x:Int){y:Int}(h:y≠0∧y.natAbs < 2 ^ 63):aF .FloorDiv (.int x) (.int y)=.ok (.fz (.int (x.fdiv y))):=if_pos h
theorem wG(x y:Int):cmp .Lt (.int x) (.int y)=.ok (decide (x < y)):=rfl
theorem wH(x y:Int):cmp .Gt (.int x) (.int y)=.ok (decide (y < x)):=rfl
theorem wI(x y:Int):cmp .Eq (.int x) (.int y)=.ok (x==y):=rfl
variable {N:List Str} {m:Nat}
def Tr(N:List Str)(m:Nat)(d:PyData):Prop:=∃ t,Sem N m d t
def BT(N:List Str)(m:Nat)(l:LP):Prop:=∃ f,Bld N m l f
theorem BT.nil:BT N m []:=⟨_,Bld.nil⟩
theorem BT.set{l:LP}(B:BT N m l){k:Str}{d:PyData}(hk:k∈N)(h:Tr N m d):BT N m (st l k d):=by
 obtain⟨f,B⟩:=B;obtain⟨t,h⟩:=h;exact⟨_,B.set hk h⟩
theorem BT.toTr{l:LP}(B:BT N m l):Tr N (m+1) (.dict (mkd l)):=by obtain⟨f,B⟩:=B;exact⟨_,B.toSem⟩
theorem BT.lt(H:Wld N){l:LP}(B:BT N m l){k:Nat}(hk:15 < k):l.length < k:=by obtain⟨f,B⟩:=B;exact B.lt H hk
theorem Tr.int{i:Int}(h:i.natAbs < big):Tr N m (.int i):=⟨_,.num h⟩
theorem Tr.mono{m':Nat}{d:PyData}(h:Tr N m d)(hm:m≤m'):Tr N m' d:=by obtain⟨t,h⟩:=h;exact⟨t,h.mono hm⟩
inductive NlA(N:List Str)(i:Int)(r:P V):Prop where
 |mk (x:Str) (h:x∈N) (g:N[i.toNat]?=some x) (e:r=.ok (.fz (.str x))):NlA N i r
theorem cS(H:Wl4 N){i:Int}(h:0≤i∧i < 14):NlA N i (getItem (NL N) (.int i)):=by
 have hl:i.toNat < N.length:=by rw[H.len];exact Id h
 refine⟨N[i.toNat],dg hl,List.getElem?_eq_getElem hl,j5 h.1 ?_⟩;rw[List.getElem?_map,List.getElem?_eq_getElem hl];rfl
theorem Xu:∀ {fs:List Str} {i:Int} {d:PyData},d∈c9 i (fs.map .str)→∃ j f,d=.tuple [.int j,.str f]∧f∈fs:=by
 intro v0
 induction v0 with
 |nil =>
  intro _ _ h;exact b5 h
 |cons x r ih =>
  intro i d h;rcases List.mem_cons.mp (show d∈.tuple [.int i,.str x]::c9 (i+1) (r.map .str) from h) with rfl | h
  ·exact⟨i,x,rfl,by simp⟩
  ·obtain⟨j,f,e,hf⟩:=ih h;exact⟨j,f,e,by simp[hf]⟩
theorem Ej{q r l:List PyData}{x:PyData}(h:[]++l=q++x::r):x∈l:=by
 have:x∈q++x::r:=by simp
 rw[← h] at this;simpa using this
noncomputable def tS(s:List Int)(k:Int)(N fs:List Str)(c:LP)(j:PyData)(row:Option V)(o:Option V×Option V×Option V):aA:=cP (ζ (Li s)) (ζ (.int k)) (ζ (NL N)) (ζ (.list (fs.map .str))) (some (.own (.dict (mkd c)))) (ζ j) row o.1 o.2.1 o.2.2
theorem Xv(H:Wl4 N)(n:Nat)(s:List Int)(k j:Int){fs:List Str}(hf:∀ x∈fs,x∈N)(c:LP)(o:Option V×Option V×Option V):∃ r o',BT N 1 r∧∀ kn kr,aQ (lE (n+2)) lF (c9 0 (fs.map .str)) (tS s k N fs c (.int j) (some (.own (.dict []))) o) kn kr=kn (tS s k N fs c (.int j) (some (.own (.dict (mkd r)))) o'):=by
 have L:=iP (S:=fun (r:LP) (o:Option V×Option V×Option V)=>tS s k N fs c (.int j) (some (.own (.dict (mkd r)))) o) (b:=lE (n+2)) (t:=lF) (l:=c9 0 (fs.map .str)) (p:=[]) (a:=[]) (j:=o) (I:=fun _ r=>BT N 1 r) (E:=fun _=>False) (Q:=fun _=>False) (fun q d r a o hq hi=>by
  refine hde fun _ θ=>?_;obtain⟨i,f,rfl,hff⟩:=Xu (Ej hq);obtain⟨x0,hx0,_,hg0⟩:=cS H (i:=0) (by decide);have hb:∀ kn kr,(rb (ofP (aR lF (.tuple [.int i,.str f]) (tS s k N fs c (.int j) (some (.own (.dict (mkd a)))) o))) fun σ=>lE (n+2) σ kn kr)=if decide (0 < (bJ s (k+10*j+i+1)).fmod 4)=true then rb (rn (n+2) "_law_number" [.fz (.int ((bJ s (k+10*j+i+1)).fdiv 4))]) (fun v=>rb (ofP (Internal.setItem (.dict (mkd a)) (.str f) (dOf v))) fun o2=>kn (tS s k N fs c (.int j) (some (.own o2)) (some (.fz (.int i)),some (.fz (.str f)),some (.fz (.int (bJ s (k+10*j+i+1))))))) else if ((bJ s (k+10*j+i+1)).fmod 12==0)=true then rb (ofP (Internal.setItem (.dict (mkd a)) (.str f) (.dict (mkd [(x0,.int (((bJ s (k+10*j+i+1)).fdiv 12).fmod 5))])))) fun o2=>kn (tS s k N fs c (.int j) (some (.own o2)) (some (.fz (.int i)),some (.fz (.str f)),some (.fz (.int (bJ s (k+10*j+i+1)))))) else kn (tS s k N fs c (.int j) (some (.own (.dict (mkd a)))) (some (.fz (.int i)),some (.fz (.str f)),some (.fz (.int (bJ s (k+10*j+i+1)))))):=fun kn kr=>by
   unfold tS;rw[Tq,aJ,aE,Ts,hg0];simp(decide:=true) only [aB,unS,aV,orS,ifS,d8,aC,f8,aG,cF,eW,aK,k9,aD,plI,rgI,enI,rvI,cU,bD,lA,lB,
  aE,u1,aJ,eC,fO,fP,cD,dJ,pX,u3,fQ,l5,bN,gC,cG,b6,l8,u4,u5,u6,mB,u7,u8,u9,vA,vB,vC,vD,pY,vE,vF,vG,mD,qA,vH,vI,vJ,vK,wE,wF,hU,mR,iT,fS,wG,wH,wI,hV,cO,tV]
   rfl
  have h0:0≤((bJ s (k+10*j+i+1)).fdiv 12).fmod 5∧((bJ s (k+10*j+i+1)).fdiv 12).fmod 5 < 5:=aT _ (by decide);obtain⟨v,hv1,hv2⟩:=qN (n+1) ((bJ s (k+10*j+i+1)).fdiv 4);apply θ;cases c1:decide (0 < (bJ s (k+10*j+i+1)).fmod 4) with
  |true =>
   refine Out.kn (st a f (.int v)) (some (.fz (.int i)),some (.fz (.str f)),some (.fz (.int (bJ s (k+10*j+i+1))))) (hi.set (hf f hff) (.int hv2)) fun kn kr=>(hb kn kr).trans ?_;rw[c1,cD,hv1,aE,fQ,b7 f _ (hi.lt H.w (by decide))];rfl
  |false =>
   cases c2:((bJ s (k+10*j+i+1)).fmod 12==0) with
   |true =>
    refine Out.kn (st a f (.dict (mkd [(x0,.int (((bJ s (k+10*j+i+1)).fdiv 12).fmod 5))]))) (some (.fz (.int i)),some (.fz (.str f)),some (.fz (.int (bJ s (k+10*j+i+1))))) (hi.set (hf f hff) ((BT.nil (m:=0)).set hx0 (.int (i:=((bJ s (k+10*j+i+1)).fdiv 12).fmod 5) (nb0 h0 (by decide)))).toTr) fun kn kr=>(hb kn kr).trans ?_;rw[c1,dJ,c2,cD,b7 f _ (hi.lt H.w (by decide))];rfl
   |false =>
    refine Out.kn a (some (.fz (.int i)),some (.fz (.str f)),some (.fz (.int (bJ s (k+10*j+i+1))))) hi fun kn kr=>(hb kn kr).trans ?_;rw[c1,dJ,c2,dJ]) BT.nil
 obtain⟨r,o',h1,h2⟩ | ⟨_,hx,_⟩ | ⟨_,hv,_⟩:=L
 ·exact⟨r,o',h1,h2⟩
 ·exact hx.elim
 ·exact hv.elim
inductive TabR(N:List Str)(r:R V):Prop where
 |mk (l:LP) (B:BT N 2 l) (e:r=.ok (.own (.dict (mkd l)))):TabR N r
theorem wJ(H:Wl4 N)(n:Nat)(s:List Int)(k:Int){fs:List Str}(hf:∀ x∈fs,x∈N):TabR N (rn (n+3) "_law_table" [.fz (Li s),.fz (.int k),.fz (NL N),.fz (.list (fs.map .str))]):=by
 have L:=iP (S:=fun (c:LP) (o:Option V×Option V×Option V×Option V×Option V)=>cP (ζ (Li s)) (ζ (.int k)) (ζ (NL N)) (ζ (.list (fs.map .str))) (some (.own (.dict (mkd c)))) o.1 o.2.1 o.2.2.1 o.2.2.2.1 o.2.2.2.2) (b:=pH (n+2)) (t:=pI) (l:=[.int 0,.int 1,.int 2,.int 3]) (p:=[]) (a:=[]) (j:=(none,none,none,none,none)) (I:=fun _ r=>BT N 2 r) (E:=fun _=>False) (Q:=fun _=>False) (fun q d r c o hq hi=>by
  have hd:=Ej hq;obtain⟨j,hj,rfl⟩:∃ j:Int,(0≤j∧j < 4)∧d=.int j:=by
   simp only[List.mem_cons,List.not_mem_nil,or_false] at hd;rcases hd with rfl | rfl | rfl | rfl
   ·exact⟨0,by decide,rfl⟩
   ·exact⟨1,by decide,rfl⟩
   ·exact⟨2,by decide,rfl⟩
   ·exact⟨3,by decide,rfl⟩
  obtain⟨x,hx,_,hg⟩:=cS H (i:=9+j) (by exact xL hj);obtain⟨r',o',hr,L2⟩:=Xv H n s k j hf c (o.2.2.1,o.2.2.2.1,o.2.2.2.2);have hb:∀ kn kr,(rb (ofP (aR pI (.int j) (cP (ζ (Li s)) (ζ (.int k)) (ζ (NL N)) (ζ (.list (fs.map .str))) (some (.own (.dict (mkd c)))) o.1 o.2.1 o.2.2.1 o.2.2.2.1 o.2.2.2.2))) fun σ=>pH (n+2) σ kn kr)=if decide (0 < (bJ s (k+10*j)).fmod 3)=true then rb (ofP (Internal.setItem (.dict (mkd c)) (.str x) (.dict (mkd r')))) (fun o1=>kn (cP (ζ (Li s)) (ζ (.int k)) (ζ (NL N)) (ζ (.list (fs.map .str))) (some (.own o1)) (ζ (.int j)) (ζ (.dict (mkd r'))) o'.1 o'.2.1 o'.2.2)) else kn (cP (ζ (Li s)) (ζ (.int k)) (ζ (NL N)) (ζ (.list (fs.map .str))) (some (.own (.dict (mkd c)))) (ζ (.int j)) o.2.1 o.2.2.1 o.2.2.2.1 o.2.2.2.2):=fun kn kr=>by
   rw[Tn,aJ,aE,To,show enI (.ok (.fz (.list (fs.map .str))))=.ok (c9 0 (fs.map .str)) from rfl,aE];have:=L2 (fun σ=>uJ (n+2) σ (fun σ=>stm BB (so "_law_table") (n+2) 23 (List.drop 1 (bI (List.drop 1 (aL BB (so "_law_table"))))) σ kn kr) kr) kr;unfold tS at this;rw[this,Tt];simp(decide:=true) only [aB,unS,aV,orS,ifS,d8,aC,f8,aG,cF,eW,aK,k9,aD,plI,rgI,enI,rvI,cU,bD,lA,lB,
  aE,u1,aJ,eC,fO,fP,cD,dJ,pX,u3,fQ,l5,bN,gC,cG,b6,l8,u4,u5,u6,mB,u7,u8,u9,vA,vB,vC,vD,pY,vE,vF,vG,mD,qA,vH,vI,vJ,vK,wE,wF,hU,mR,iT,fS,wG,wH,wI,hV,hg]
   rfl
  cases c1:decide (0 < (bJ s (k+10*j)).fmod 3) with
  |true =>
   refine Out.kn (st c x (.dict (mkd r'))) (some (.fz (.int j)),some (.fz (.dict (mkd r'))),o'.1,o'.2.1,o'.2.2) (hi.set hx hr.toTr) fun kn kr=>(hb kn kr).trans ?_;rw[c1,cD,b7 x _ (hi.lt H.w (by decide))];rfl
  |false =>
   refine Out.kn c (some (.fz (.int j)),o.2.1,o.2.2.1,o.2.2.2.1,o.2.2.2.2) hi fun kn kr=>(hb kn kr).trans ?_;rw[c1,dJ]) BT.nil
 obtain⟨l,o',h1,h2⟩ | ⟨_,hx,_⟩ | ⟨_,hv,_⟩:=L
 ·refine⟨l,h1,?_⟩;rw[Tm,show rgI (.ok (.fz (.int 4)))=.ok [.int 0,.int 1,.int 2,.int 3] from by kernel_rfl];exact(h2 _ _).trans (Tp ..)
 ·exact hx.elim
 ·exact hv.elim
variable {N:List Str} {m:Nat}
theorem wK(ps:LP):iZ (mkd ps)=.ok (.own (.dict (mkd (sts ps [])))):=by
 show((ofO (keys? (mkd ps))).bind fun l=>own (.dict (dA l (mkd []))))=_;rw[mk_keys?,fP,fO,u0];rfl
theorem mT(a:Str){r:R V}{v:V}{d:PyData}(hr:r=.ok v)(hv:v.cl=.fz d):cO [(.ok (.fz (.str a)),r)]=.ok (.own (.dict (mkd (sts [(a,d)] [])))):=by
 rw[hr,← eZ hv];exact congrArg ofP (wK [(a,dOf v)])
theorem wL(a b:Str){r1 r2:R V}{v1 v2:V}{d1 d2:PyData}(hr1:r1=.ok v1)(hv1:v1.cl=.fz d1)(hr2:r2=.ok v2)(hv2:v2.cl=.fz d2):cO [(.ok (.fz (.str a)),r1),(.ok (.fz (.str b)),r2)]=.ok (.own (.dict (mkd (sts [(a,d1),(b,d2)] [])))):=by
 rw[hr1,hr2,← eZ hv1,← eZ hv2];exact congrArg ofP (wK [(a,dOf v1),(b,dOf v2)])
theorem wM(lo hi:Option Int):iX (NL N) lo hi=.ok (.own (.list ((slice N lo hi).map .str))):=by
 show P.ok (V.own (.list (slice (N.map PyData.str) lo hi)))=_;unfold slice;rw[List.length_map,List.map_take,List.map_drop]
theorem qO{α:Type}{l:List α}{lo hi:Option Int}{x:α}(h:x∈slice l lo hi):x∈l:=List.mem_of_mem_drop (List.mem_of_mem_take h)
theorem Ek{a b c:PyData}{i:Int}(h:0≤i∧i < 3):∃ d,getItem (.list [a,b,c]) (.int i)=.ok (.fz d)∧(d=a∨d=b∨d=c):=by
 have:i=0∨i=1∨i=2:=by exact Ie h
 rcases this with rfl | rfl | rfl
 ·exact⟨a,rfl,.inl rfl⟩
 ·exact⟨b,rfl,.inr (.inl rfl)⟩
 ·exact⟨c,rfl,.inr (.inr rfl)⟩
theorem El(l:LP)(x:Str)(d:PyData):eH (.dict (mkd l)) [.str x,d]=.ok (.fz ((lk l x).getD d)):=by
 show fz ((bS (mkd l) x).getD d)=_;rw[gS];rfl
theorem BT.get{l:LP}(B:BT N m l){x:Str}{d:PyData}(hd:Tr N m d):Tr N m ((lk l x).getD d):=by
 obtain⟨f,B⟩:=B;refine ocs (lk l x) (fun e=>?_) fun u e=>?_
 ·try rewrite[e]
  exact hd
 ·try rewrite[e]
  obtain⟨t,_,h⟩:=B.get' e;exact⟨t,h⟩
theorem Xw(H:Wl4 N)(n:Nat)(s:List Int){l:LP}(B:BT N m l)(hl:∀ i x,i < 5→N[i]?=some x→(lk l x).isSome=true) :
  ∃ l' o,BT N m l'∧∀ kn kr,aQ (lG (n+2)) lH [.int 0,.int 1,.int 2,.int 3,.int 4] (dM (ζ (Li s)) (ζ (NL N)) (some (.own (.dict (mkd l)))) none) kn kr=kn (dM (ζ (Li s)) (ζ (NL N)) (some (.own (.dict (mkd l')))) o):=by
 have L:=iP (S:=fun (c:LP) (o:Option V)=>dM (ζ (Li s)) (ζ (NL N)) (some (.own (.dict (mkd c)))) o) (b:=lG (n+2)) (t:=lH) (l:=[.int 0,.int 1,.int 2,.int 3,.int 4]) (p:=[]) (a:=l) (j:=none) (I:=fun p c=>BT N m c∧∀ i x,p.length≤i→i < 5→N[i]?=some x→(lk c x).isSome=true) (E:=fun _=>False) (Q:=fun _=>False) (fun q d r c o hq hi=>by
  have hg:([.int 0,.int 1,.int 2,.int 3,.int 4]:List PyData)[q.length]?=some d:=by
   rw[show([.int 0,.int 1,.int 2,.int 3,.int 4]:List PyData)=q++d::r from hq];simp
  have hlt:q.length < 5:=(bg.mp hg).1;have hd:d=.int q.length:=by
   generalize q.length=k at hg hlt;have:k=0∨k=1∨k=2∨k=3∨k=4:=by exact xM hlt
   rcases this with rfl | rfl | rfl | rfl | rfl<;>simpa using hg.symm
  subst hd;obtain⟨x,hx,hN,hgx⟩:=cS H (i:=(q.length:Int)) (by exact Ig hlt);have hN:N[q.length]?=some x:=by simpa using hN
  obtain⟨dx,hdx⟩:=eM (hi.2 q.length x (ay _) hlt hN);have hb:∀ kn kr,(rb (ofP (aR lH (.int q.length) (dM (ζ (Li s)) (ζ (NL N)) (some (.own (.dict (mkd c)))) o))) fun σ=>lG (n+2) σ kn kr)=if ((bJ s (200+q.length)).fmod 9==0)=true then kn (dM (ζ (Li s)) (ζ (NL N)) (some (.own (.dict (mkd (dl c x))))) (ζ (.int q.length))) else kn (dM (ζ (Li s)) (ζ (NL N)) (some (.own (.dict (mkd c)))) (ζ (.int q.length))):=fun kn kr=>by
   rw[Tv,aJ,aE,Tw,hgx];have e:gL (.ok (.dict (mkd c))) (so "pop") [ofP (.ok (.fz (.str x)))] (fun o1=>kn (dM (ζ (Li s)) (ζ (NL N)) (some (.own o1)) (ζ (.int q.length))))=kn (dM (ζ (Li s)) (ζ (NL N)) (some (.own (.dict (mkd (dl c x))))) (ζ (.int q.length))):=by
    show rb (ofP (if (bS (mkd c) x).isSome then P.ok (PyData.dict (dK (mkd c) x)) else .no)) _=_;rw[gS,hdx,uZ];rfl
   rw[e];simp(decide:=true) only [aB,unS,aV,orS,ifS,d8,aC,f8,aG,cF,eW,aK,k9,aD,plI,rgI,enI,rvI,cU,bD,lA,lB,
  aE,u1,aJ,eC,fO,fP,cD,dJ,pX,u3,fQ,l5,bN,gC,cG,b6,l8,u4,u5,u6,mB,u7,u8,u9,vA,vB,vC,vD,pY,vE,vF,vG,mD,qA,vH,vI,vJ,vK,wE,wF,hU,mR,iT,fS,wG,wH,wI,hV]
  cases c1:((bJ s (200+q.length)).fmod 9==0) with
  |true =>
   obtain⟨⟨f,Bf⟩,h2⟩:=hi;refine Out.kn (dl c x) (ζ (.int q.length)) ⟨⟨_,Bf.del x⟩,fun i y h3 h4 h5=>?_⟩ fun kn kr=>(hb kn kr).trans (by rw[c1,cD]);rw[List.length_append,List.length_singleton] at h3;rw[(C8 x Bf.nd).2.2,if_neg]
   ·exact h2 i y (by exact xN h3) h4 h5
   ·intro e;subst e;have h6:=bg.mp h5;have h7:=bg.mp hN;have:=(List.getElem_inj (h₀:=h6.1) (h₁:=h7.1) H.w.nd).mp (h6.2.trans h7.2.symm);exact cu h3 this
  |false =>
   refine Out.kn c (ζ (.int q.length)) ⟨hi.1,fun i y h3 h4 h5=>?_⟩ fun kn kr=>(hb kn kr).trans (by rw[c1,dJ]);rw[List.length_append,List.length_singleton] at h3;exact hi.2 i y (by exact xN h3) h4 h5) ⟨B,fun i x _ h1 h2=>hl i x h1 h2⟩
 obtain⟨l',o',h1,h2⟩ | ⟨_,hx,_⟩ | ⟨_,hv,_⟩:=L
 ·exact⟨l',o',h1.1,h2⟩
 ·exact hx.elim
 ·exact hv.elim
theorem Xx(H:Wl4 N)(n:Nat)(s:List Int):Gives (rn (n+4) "_law_house" [.fz (Li s),.fz (NL N)]) fun d=>Tr N 5 d:=by
 refine hde fun _ θ=>?_;obtain⟨x0,m0,i0,g0⟩:=cS H (i:=0) (by decide);obtain⟨x1,m1,i1,g1⟩:=cS H (i:=1) (by decide);obtain⟨x2,m2,i2,g2⟩:=cS H (i:=2) (by decide);obtain⟨x3,m3,i3,g3⟩:=cS H (i:=3) (by decide);obtain⟨x4,m4,i4,g4⟩:=cS H (i:=4) (by decide);obtain⟨x5,m5,_,g5⟩:=cS H (i:=5) (by decide);obtain⟨x6,m6,_,g6⟩:=cS H (i:=6) (by decide);obtain⟨v1,a1,b1⟩:=qN (n+2) (bJ s 1);obtain⟨v2,a2,b2⟩:=qN (n+2) (bJ s 2);obtain⟨l2,t2,e2⟩:=wJ H n s 20 (fs:=slice N (some 5) (some 7)) fun x hx=>qO hx;obtain⟨l3,t3,e3⟩:=wJ H n s 70 (fs:=slice N (some 7) (some 9)) fun x hx=>qO hx;obtain⟨l4,t4,e4⟩:=wJ H n s 120 (fs:=slice N (some 5) (some 9)) fun x hx=>qO hx;have q1:aD (rn (n+3) "_law_number") [rn (n+3) "_law_mixed" [.fz (Li s),.fz (.int 1)]]=.ok (.fz (.int v1)):=by rw[hV (n+1)];exact a1
 have q2:aD (rn (n+3) "_law_number") [rn (n+3) "_law_mixed" [.fz (Li s),.fz (.int 2)]]=.ok (.fz (.int v2)):=by rw[hV (n+1)];exact a2
 have tt:∀ (k:Int) lo hi {l:LP},rn (n+3) "_law_table" [.fz (Li s),.fz (.int k),.fz (NL N),.fz (.list ((slice N (some lo) (some hi)).map .str))]=.ok (.own (.dict (mkd l)))→aD (rn (n+3) "_law_table") [.ok (.fz (Li s)),.ok (.fz (.int k)),.ok (.fz (NL N)),cF (.ok (NL N)) (some (.ok (.fz (.int lo)))) (some (.ok (.fz (.int hi))))]=.ok (.own (.dict (mkd l))):=fun k lo hi l h=>by
  rw[show cF (.ok (NL N)) (some (.ok (.fz (.int lo)))) (some (.ok (.fz (.int hi))))=.ok (.own (.list ((slice N (some lo) (some hi)).map .str))) from congrArg ofP (wM _ _)];exact h
 have sl:∀ (l:LP) (x:Str) (r:R V) (v:V) (d:PyData) (k:PyData→R V),r=.ok v→v.cl=.fz d→l.length < bA→bD r (.ok (.dict (mkd l))) (.ok (.fz (.str x))) k=k (.dict (mkd (st l x d))):=fun l x r v d k h1 h2 h3=>by
  rw[h1];show rb (ofP (Internal.setItem (.dict (mkd l)) (.str x) (dOf v))) k=_;rw[eZ h2,b7 x d h3];rfl
 have B0:BT N 4 (sts [(x0,.int v1)] []):=BT.nil.set m0 (.int b1);have T1:Tr N 4 (.dict (mkd (sts [(x5,.int v2),(x6,.dict (mkd (sts [(x0,.int 3)] [])))] []))) :=
  Tr.mono (BT.toTr (m:=1) ((BT.nil.set m5 (.int b2)).set m6 (BT.toTr (m:=0) (BT.nil.set m0 (.int (by decide)))))) (by decide)
 have B1:=B0.set m1 T1;have B2:=B1.set m2 (t2.toTr.mono (by decide));have B3:=B2.set m3 (t3.toTr.mono (by decide));have T4:Tr N 4 (.dict (mkd (sts [(x2,.dict (mkd l4)),(x0,.int 1)] []))):=BT.toTr (m:=3) ((BT.nil.set m2 t4.toTr).set m0 (.int (by decide)));have B4:=B3.set m4 T4;obtain⟨l',o,hB,hL⟩:=Xw H (n+1) s B4 fun i x hi hx=>by
  have h1:∀ {y z:Str} {d:PyData} {l:LP},(lk l y).isSome=true→(lk (st l z d) y).isSome=true:=fun {y z d l} h=>by
   rw[pW];split
   ·rfl
   ·exact h
  have h2:∀ {y:Str} {d:PyData} {l:LP},(lk (st l y d) y).isSome=true:=fun {y d l}=>by rw[pW,if_pos rfl];rfl
  have:i=0∨i=1∨i=2∨i=3∨i=4:=by exact xM hi
  rcases this with rfl | rfl | rfl | rfl | rfl
  ·rw[show N[0]?=some x0 from i0] at hx;obtain rfl:=si hx;exact h1 (h1 (h1 (h1 h2)))
  ·rw[show N[1]?=some x1 from i1] at hx;obtain rfl:=si hx;exact h1 (h1 (h1 h2))
  ·rw[show N[2]?=some x2 from i2] at hx;obtain rfl:=si hx;exact h1 (h1 h2)
  ·rw[show N[3]?=some x3 from i3] at hx;obtain rfl:=si hx;exact h1 h2
  ·rw[show N[4]?=some x4 from i4] at hx;obtain rfl:=si hx;exact h2
 obtain⟨d,hd1,hd2⟩:=Ek (a:=.dict (mkd l')) (b:=(lk l' x2).getD (.dict [])) (c:=(lk l' x4).getD (.int 5)) (aT ((dT s 1).fmod 5) (n:=3) (by decide));apply θ;refine⟨.fz d,d,?_,rfl,?_⟩
 ·rw[Tu,g0,g1,g2,g3,g4,g5,g6];simp only[aJ];rw[mT x0 q1 rfl,aE,mT x0 (r:=.ok (.fz (.int 3))) rfl rfl,wL x5 x6 q2 rfl rfl rfl,mB,aJ,sl _ _ _ _ _ _ rfl rfl (B0.lt H.w (by decide)),
   sl _ _ _ _ _ _ (tt 20 5 7 e2) rfl (B1.lt H.w (by decide)),sl _ _ _ _ _ _ (tt 70 7 9 e3) rfl (B2.lt H.w (by decide)),wL x2 x0 (tt 120 5 9 e4) rfl rfl rfl,sl _ _ _ _ _ _ rfl rfl (B3.lt H.w (by decide)),
   show rgI (.ok (.fz (.int 5)))=.ok [.int 0,.int 1,.int 2,.int 3,.int 4] from by kernel_rfl,aE]
  refine(hL _ _).trans ((Tx ..).trans ?_);rw[g2,g4,aJ,aJ,wB (n+2) s (by decide)];have h1:dL (so "get") (.ok (.fz (.dict (mkd l')))) [.ok (.fz (.str x2)),.ok (.own (.dict []))]=.ok (.fz ((lk l' x2).getD (.dict []))):=congrArg ofP (El l' x2 (.dict []));have h2:dL (so "get") (.ok (.fz (.dict (mkd l')))) [.ok (.fz (.str x4)),.ok (.fz (.int 5))]=.ok (.fz ((lk l' x4).getD (.int 5))):=congrArg ofP (El l' x4 (.int 5));rw[h1,h2];refine Eq.trans (b:=rb (ofP (getItem (.list [.dict (mkd l'),(lk l' x2).getD (.dict []),(lk l' x4).getD (.int 5)]) (.int (((dT s 1).fmod 5).fmod 3)))) R.ok) (by kernel_rfl) ?_;rw[hd1];rfl
 ·rcases hd2 with rfl | rfl | rfl
  ·exact hB.toTr
  ·exact Tr.mono (hB.get ((BT.nil (m:=3)).toTr)) (by decide)
  ·exact Tr.mono (hB.get (.int (by decide))) (by decide)
variable {N:List Str} {m:Nat}
theorem Em{t:PyData→R Bool}{e:PyData→R V}{Q:PyData→Prop}:∀ {l:List PyData},(∀ d∈l,t d=.ok false∨t d=.ok true∧∃ v,e d=.ok v∧Q (dOf v))→∃ xs,aX t e l=.ok xs∧∀ x∈xs,Q x:=by
 intro v0
 induction v0 with
 |nil =>
  intro _;exact⟨[],rfl,by simp⟩
 |cons d r ih =>
  intro h;obtain⟨xs,e1,e2⟩:=ih fun d hd=>h d (ae _ hd);have hs:aX t e (d::r)=rb (nx (t d)) (fun b=>if b then rb (nx (e d)) fun v=>rb (aX t e r) fun xs=>.ok (dOf v::xs) else aX t e r):=rfl;rcases h d (by simp) with h1 | ⟨h1,v,h2,h3⟩
  ·exact⟨xs,by rw[hs,h1,eC,aE,dJ,e1],e2⟩
  ·refine⟨dOf v::xs,by rw[hs,h1,eC,aE,cD,h2,eC,aE,e1,aE],fun x hx=>?_⟩;rcases List.mem_cons.mp hx with rfl | hx
   ·exact h3
   ·exact e2 x hx
theorem mU(H:Wl4 N){l:LP}{f:Str→Option TT}(B:Bld N m l f):aK cI (ofP (dF (.dict (mkd l))))=.ok (.own (.list ((aZ (ks l)).map .str))):=by
 rw[list_dict];show ofP (eO ((ks l).map .str))=_;rw[iR (by rw[c7];exact B.lt H.w (by decide))];rfl
theorem En{xs:List PyData}(h:xs≠[])(a:Int):∃ x,x∈xs∧rb (ofP (aF .Mod (.int a) (.int xs.length))) (fun i=>ofP (getItem (.list xs) (dOf i)))=.ok (.fz x):=by
 have hl:0 < xs.length:=List.length_pos_iff.mpr h;have hr:=aT a (n:=(xs.length:Int)) (by exact q7 hl);have hk:(a.fmod xs.length).toNat < xs.length:=by exact Ih hr
 refine⟨xs[(a.fmod xs.length).toNat],dg hk,?_⟩;rw[fS _ (by exact xO hl),aJ,aE,fQ,j5 hr.1 (List.getElem?_eq_getElem hk)];rfl
theorem wN{S:List Str}(h:S≠[])(a:Int):∃ x,x∈S∧rb (ofP (aF .Mod (.int a) (.int (S.map PyData.str).length))) (fun i=>ofP (getItem (.list (S.map .str)) (dOf i)))=.ok (.fz (.str x)):=by
 refine hde fun _ θ=>?_;obtain⟨d,hd,e⟩:=En (xs:=S.map PyData.str) (by simpa using h) a;obtain⟨x,hx,rfl⟩:=bi.mp hd;apply θ;exact⟨x,hx,e⟩
theorem Eo(H:Wl4 N)(n:Nat)(c:Int){l:LP}{f:Str→Option TT}(B:Bld N m l f)(fl:Str):RInt (rn (n+1) "_law_least" [.fz (.int c),.fz (.dict (mkd l)),.fz (.str fl)]) (10 ^ 30):=by
 refine hde fun _ θ=>?_;obtain⟨rows,e1,h1⟩:=Em (l:=(aZ (ks l)).map .str) (t:=fun d1=>tst (eW (so "dict") (ofP (getItem (.dict (mkd l)) d1)))) (e:=fun d1=>ofP (getItem (.dict (mkd l)) d1)) (Q:=fun d=>∃ m' lr g,d=.dict (mkd lr)∧Bld N m' lr g) fun d hd=>by
  obtain⟨k,hk,rfl⟩:=bi.mp hd;obtain⟨d,t,q1,q2,q3⟩:=B.key (cR.mp hk);rw[a9 q1];obtain⟨i,rfl,rfl,_⟩ | ⟨m',lr,g,_,rfl,rfl,C⟩:=q3.inv'
  ·exact .inl rfl
  ·exact .inr ⟨rfl,_,rfl,m',lr,g,rfl,C⟩
 obtain⟨xs,e2,h2⟩:=Em (l:=rows) (t:=fun d3=>tst (eW (so "int") (dL (so "get") (.ok (.fz d3)) [.ok (.fz (.str fl))]))) (e:=fun d3=>ofP (getItem d3 (.str fl))) (Q:=fun d=>∃ i:Int,d=.int i∧i.natAbs < big) fun d hd=>by
  obtain⟨m',lr,g,rfl,C⟩:=h1 d hd;rw[mQ];refine ocs (lk lr fl) (fun e=>?_) fun d e=>?_
  ·try rewrite[e]
   exact .inl rfl
  ·try rewrite[e]
   obtain⟨t,q1,q2⟩:=C.get' e;obtain⟨i,rfl,rfl,hi⟩ | ⟨_,lr,g,_,rfl,rfl,_⟩:=q2.inv'
   ·exact .inr ⟨rfl,.fz (.int i),by rw[a9 e];rfl,i,rfl,hi⟩
   ·exact .inl rfl
 apply θ;have hr1:=aT (c.fdiv 3) (n:=7) (by decide);have hr2:=aT (c.fdiv 12) (n:=3) (by decide);rw[Ud,mU H B];have E:∀ X:R V,X=(if (xs.isEmpty||c.fmod 3==0)=true then .ok (.fz (.int ((c.fdiv 3).fmod 7 - 3))) else rb (aB .Sub (aB .Add (rb (ofP (aF .Mod (.int (c.fdiv 3)) (.int xs.length))) (fun i=>ofP (getItem (.list xs) (dOf i)))) (aB .Mod (ofP (aF .FloorDiv (.int c) (.int 12))) (.ok (.fz (.int 3))))) (.ok (.fz (.int 1)))) R.ok)→RInt X (10 ^ 30):=by
  rintro _ rfl
  refine bcs ((xs.isEmpty||c.fmod 3==0)) (fun hc=>?_) fun hc=>?_
  ·try rewrite[hc]
   have hne:xs≠[]:=fun e=>by rw[e] at hc;simp at hc
   refine hde fun _ θ=>?_;obtain⟨x,hx,e⟩:=En hne (c.fdiv 3);obtain⟨i,rfl,hi⟩:=h2 x hx;apply θ;refine⟨i+(c.fdiv 12).fmod 3 - 1,by rw[dJ,e];kernel_rfl,?_⟩;exact nbt hi hr2 (by decide)
  ·try rewrite[hc]
   exact⟨_,by rw[cD],nbs hr1 (by decide)⟩
 refine E _ ?_;show rb (rb (aX _ _ ((aZ (ks l)).map .str)) fun r=>ofP (own (.list r))) (fun v2=>rb (aO (plI (ofP (rdv (V.cl v2)))) _ _) _)=_;rw[e1];show rb (rb (aX _ _ rows) fun r=>ofP (own (.list r))) (fun v4=>_)=_;rw[e2];have hb:aC (ofP (rdv (V.cl (.own (.list xs))))) .Eq (.ok (.own (.list [])))=.ok (.fz (.bool xs.isEmpty)):=by
  show aN (ofP (eqO (.list xs) (.list [])))=_;rw[D1];rfl
 show ifS (orS (aC (ofP (rdv (V.cl (.own (.list xs))))) .Eq (.ok (.own (.list [])))) _) _ _=_;rw[hb];cases xs.isEmpty with
 |true=>kernel_rfl
 |false =>
  show(if (c.fmod 3==0)=true then _ else _)=_;cases (c.fmod 3==0) with
  |true=>kernel_rfl
  |false =>
   rw[dJ];generalize hZ:rb (ofP (aF .Mod (.int (c.fdiv 3)) (.int xs.length))) (fun i=>ofP (getItem (.list xs) (dOf i)))=Z;have hz:aG (aU (V.cl (V.cl (.own (.list xs))))) (aB .Mod (ofP (aF .FloorDiv (.int c) (.int 3))) (aK bL (ofP (rdv (V.cl (V.cl (.own (.list xs))))))))=Z:=hZ▸by kernel_rfl
   rw[hz];rfl
inductive IsV(N:List Str)(h g:Nat)(r:R V):Prop where
 |mk (w:WW) (e:r=.ok (.fz (enc w))) (o:okW N w) (i:w.isRows=false) (a:w.hgt≤h) (b:w.grow≤g):IsV N h g r
theorem IsV.whole{h g:Nat}:IsV N h g (.ok (.fz (.tuple [.str (so "whole")]))):=⟨.whole,rfl,trivial,rfl,aj _,aj _⟩
theorem IsV.ite{h g:Nat}{c a b:R V}{t:Bool}(hc:c=.ok (.fz (.bool t)))(ha:t=true→IsV N h g a)(hb:t=false→IsV N h g b):IsV N h g (ifS c a b):=by
 rw[hc];cases t with
 |true=>exact ha rfl
 |false=>exact hb rfl
theorem Xy(a b c:PyData):aM [.ok (.fz a),.ok (.fz b),.ok (.fz c)]=.ok (.fz (.tuple [a,b,c])):=rfl
theorem Ep(H:Wl4 N)(n:Nat)(c:Int){l:LP}{f:Str→Option TT}(B:Bld N m l f):IsV N 0 1 (ifS (rn (n+1) "_law_is_table" [.fz (.dict (mkd l))]) (rb (aG (.ok (NL N)) (aB .Add (.ok (.fz (.int 5))) (aB .Mod (ofP (aF .FloorDiv (.int c) (.int 4))) (.ok (.fz (.int 4)))))) fun v3=>(rb (aM [(.ok (.fz (.str (so "sift")))),(ofP (rdv (V.cl v3))),(aD (rn (n+1) "_law_least") [(ofP (aF .FloorDiv (.int c) (.int 16))),(.ok (.fz (.dict (mkd l)))),(aW (V.cl v3))])]) R.ok)) (R.ok (.fz (.tuple [(.str (so "whole"))])))):=by
 refine IsV.ite (mP n B.toSem) (fun _=>?_) fun _=>IsV.whole;have hr:=aT (c.fdiv 4) (n:=4) (by decide);obtain⟨x,hx,_,hg⟩:=cS H (i:=5+(c.fdiv 4).fmod 4) (by exact xP hr);obtain⟨i,hi,hb⟩:=Eo H n (c.fdiv 16) B x;rw[show aG (.ok (NL N)) (aB .Add (.ok (.fz (.int 5))) (aB .Mod (ofP (aF .FloorDiv (.int c) (.int 4))) (.ok (.fz (.int 4)))))=.ok (.fz (.str x)) from (by kernel_rfl:_=ofP (getItem (NL N) (.int (5+(c.fdiv 4).fmod 4)))).trans (by rw[hg];rfl),aE,
  show aD (rn (n+1) "_law_least") [(ofP (aF .FloorDiv (.int c) (.int 16))),(.ok (.fz (.dict (mkd l)))),(aW (V.cl (.fz (.str x))))]=.ok (.fz (.int i)) from (by kernel_rfl:_=rn (n+1) "_law_least" [.fz (.int (c.fdiv 16)),.fz (.dict (mkd l)),.fz (.str x)]).trans hi]
 exact⟨.sift x i,rfl,⟨hx,hb⟩,rfl,ay _,aj _⟩
theorem Er(n:Nat)(c:Int){d nl:PyData}(h:bT d=false):rn (n+1) "_law_simple" [.fz (.int c),.fz d,.fz nl]=.ok (.fz (.tuple [.str (so "whole")])):=by
 rw[Ct,h];rfl
theorem Xz(H:Wl4 N)(n:Nat)(c:Int){l:LP}{f:Str→Option TT}(B:Bld N m l f):IsV N 0 1 (rn (n+2) "_law_simple" [.fz (.int c),.fz (.dict (mkd l)),.fz (NL N)]):=by
 rw[Ct];refine IsV.ite (t:=c.fmod 4==0) (by kernel_rfl) (fun _=>IsV.whole) fun _=>?_;rw[mU H B,aE];have hmem:∀ x∈aZ (ks l),x∈ks l:=fun x hx=>cR.mp hx;generalize aZ (ks l)=S at hmem;have hc:aV (aC (ofP (rdv (V.cl (.own (.list (S.map .str)))))) .NotEq (.ok (.own (.list [])))) (aC (ofP (aF .Mod (.int c) (.int 4))) .Lt (.ok (.fz (.int 3))))=.ok (.fz (.bool (!S.isEmpty&&decide (c.fmod 4 < 3)))):=by
  rw[show aC (ofP (rdv (V.cl (.own (.list (S.map .str)))))) .NotEq (.ok (.own (.list [])))=.ok (.fz (.bool (!S.isEmpty))) from (congrArg (fun p=>aN (ofP (bP p))) (jX S)).trans rfl];cases S.isEmpty<;>kernel_rfl
 refine IsV.ite hc (fun ht=>?_) fun _=>Ep H n c B;have hS:S≠[]:=fun e=>by rw[e] at ht;simp at ht
 obtain⟨x,hx,hix⟩:=wN hS (c.fdiv 4);have hix':aG (aU (V.cl (V.cl (.own (.list (S.map .str)))))) (aB .Mod (ofP (aF .FloorDiv (.int c) (.int 4))) (aK bL (ofP (rdv (V.cl (V.cl (.own (.list (S.map .str)))))))) )=.ok (.fz (.str x)):=(by kernel_rfl:_=rb (ofP (aF .Mod (.int (c.fdiv 4)) (.int (S.map PyData.str).length))) (fun i=>ofP (getItem (.list (S.map .str)) (dOf i)))).trans hix;rw[hix'];refine IsV.ite (t:=c.fmod 4==1) (by kernel_rfl) (fun _=>⟨.pick x,rfl,B.sub x (hmem x hx),rfl,ay _,ay _⟩) fun _=>?_;have hr:=aT (c.fdiv 16) (n:=14) (by decide);obtain⟨y,hy,_,hg⟩:=cS H (i:=(c.fdiv 16).fmod 14) hr;rw[show aG (.ok (NL N)) (aB .Mod (ofP (aF .FloorDiv (.int c) (.int 16))) (.ok (.fz (.int 14))))=.ok (.fz (.str y)) from (by kernel_rfl:_=ofP (getItem (NL N) (.int ((c.fdiv 16).fmod 14)))).trans (by rw[hg];rfl),aE];refine IsV.ite (t:=!(lk l y).isSome) ((congrArg (fun p=>aN (ofP (bP p))) (dD l y)).trans rfl) (fun hn=>?_) fun _=>Ep H n c B;refine⟨.call x y,rfl,⟨B.sub x (hmem x hx),hy,fun e=>?_⟩,rfl,ay _,aj _⟩;subst e;rw[lX.mpr (hmem x hx)] at hn;exact bft hn
variable {N:List Str} {m:Nat}
theorem wO(H:Wl4 N)(n:Nat)(c:Int){d:PyData}(h:(∃ m t,Sem N m d t)∨d=.none):IsV N 0 1 (rn (n+2) "_law_simple" [.fz (.int c),.fz d,.fz (NL N)]):=by
 rcases h with ⟨m,t,h⟩ | rfl
 ·obtain⟨i,_⟩ | ⟨m,l,f,B⟩:=h.inv
  ·rw[Er (n+1) c rfl];exact IsV.whole
  ·exact Xz H n c B
 ·rw[Er (n+1) c rfl];exact IsV.whole
inductive SeenA(N:List Str)(m:Nat)(o:Option TT)(r:R V):Prop where
 |mk (v:V) (d':PyData) (e:r=.ok v) (c:v.cl=.fz d') (h:(∃ s,o=some s∧Sem N m d' s)∨o=none∧d'=.none):SeenA N m o r
theorem qP(H:Wl4 N){w:WW}(ho:okW N w)(hr:w.isRows=false){n:Nat}{d:PyData}{t:TT}(hn:w.hgt+m+3≤n)(hd:Sem N m d t):SeenA N m (aI w t) (rn n "_law_seen" [.fz (enc w),.fz d]):=by
 have h:=(D8 H.w ho).1 hr hn hd;cases hs:aI w t with
 |none=>rw[hs] at h;exact⟨_,_,h,rfl,.inr ⟨rfl,rfl⟩⟩
 |some s=>rw[hs] at h;obtain⟨v,d',a,b,c⟩:=h;exact⟨v,d',a,b,.inl ⟨s,rfl,c⟩⟩
theorem X0(H:Wl4 N){h g:Nat}{w w1:WW}(ho:okW N w)(hr:w.isRows=false)(hh:w.hgt≤h)(hg:w.grow≤g)(ho1:okW N w1)(hr1:w1.isRows=false)(hh1:w1.hgt≤h)(hg1:w1.grow≤g){n:Nat}{d:PyData}{t:TT}(hn:w.hgt+m+3≤n)(hd:Sem N m d t) :
  IsV N h g (rb (d8 (aC (aD (rn n "_law_seen") [.ok (.fz (enc w)),.ok (.fz d)]) .Is (.ok (.fz .none))) (.ok (.fz (enc w1))) (.ok (.fz (enc w)))) R.ok):=by
 obtain⟨v,d',e1,e2,e3⟩:=qP H ho hr hn hd;rw[show aD (rn n "_law_seen") [.ok (.fz (enc w)),.ok (.fz d)]=.ok v from e1];show IsV N h g (rb (if dX (dOf v)=true then _ else _) R.ok);cases dX (dOf v) with
 |true=>exact⟨w1,rfl,ho1,hr1,hh1,hg1⟩
 |false=>exact⟨w,rfl,ho,hr,hh,hg⟩
theorem X3{l:List Str}{a b:Int}(h0:0≤a)(h1:a≤b)(h2:b≤l.length):(slice l (some a) (some b)).length=b.toNat - a.toNat:=by
 show((l.drop (clipAt l.length a)).take (clipAt l.length b - clipAt l.length a)).length=_;rw[mS h0 (bb h1 h2),mS (bb h0 h1) h2,List.length_take,gr,Nat.min_eq_left];have:=Int.toNat_le_toNat h2;rw[Int.toNat_natCast] at this;exact Nat.sub_le_sub_right this _
theorem X4{l:List Str}{lo hi:Option Int}(h:l.Nodup):(slice l lo hi).Nodup:=((List.take_sublist _ _).trans (List.drop_sublist _ _)).nodup h
theorem X5(lo hi:Int):aK fA (cF (.ok (NL N)) (some (.ok (.fz (.int lo)))) (some (.ok (.fz (.int hi)))))=.ok (.fz (.tuple ((slice N (some lo) (some hi)).map .str))):=by
 rw[show cF (.ok (NL N)) (some (.ok (.fz (.int lo)))) (some (.ok (.fz (.int hi))))=.ok (.own (.list ((slice N (some lo) (some hi)).map .str))) from congrArg ofP (wM _ _)];rfl
theorem wP(H:Wl4 N){i j:Nat}{a b:Str}(ha:N[i]?=some a)(hb:N[j]?=some b)(hij:i≠j){lo hi:Int}(h0:0≤lo)(h1:lo < hi)(h2:hi≤lo+6)(h3:hi≤14):okW N (.join a b (slice N (some lo) (some hi))):=by
 have hl:=X3 (l:=N) h0 (cq h1) (by rw[H.len];exact h3);obtain⟨p1,p2⟩:=bg.mp ha;obtain⟨q1,q2⟩:=bg.mp hb;refine⟨⟨p2▸dg p1,q2▸dg q1,fun e=>hij ?_⟩,⟨by exact Ii h0 h1 hl,by exact Ij h2 hl⟩,X4 H.w.nd,fun f hf=>qO hf⟩;exact(List.getElem_inj (h₀:=p1) (h₁:=q1) H.w.nd).mp (p2.trans (e.trans q2.symm))
theorem wQ(a b:WW):aM [.ok (.fz (.str (so "then"))),.ok (.fz (enc a)),.ok (.fz (enc b))]=.ok (.fz (enc (.andThen a b))):=rfl
theorem X6(a:WW):aM [.ok (.fz (.str (so "each"))),.ok (.fz (enc a))]=.ok (.fz (enc (.each a))):=rfl
theorem wR(a b:Str)(fs:List Str):aM [.ok (.fz (.str (so "join"))),.ok (.fz (.str a)),.ok (.fz (.str b)),.ok (.fz (.tuple (fs.map .str)))]=.ok (.fz (enc (.join a b fs))):=rfl
theorem X7(a:Str):aM [.ok (.fz (.str (so "pick"))),.ok (.fz (.str a))]=.ok (.fz (enc (.pick a))):=rfl
theorem X8(a b:Str):aM [.ok (.fz (.str (so "call"))),.ok (.fz (.str a)),.ok (.fz (.str b))]=.ok (.fz (enc (.call a b))):=rfl
theorem X9(a:Str)(i:Int):aM [.ok (.fz (.str (so "sift"))),.ok (.fz (.str a)),.ok (.fz (.int i))]=.ok (.fz (enc (.sift a i))):=rfl
theorem Es(H:Wl4 N)(n:Nat)(c:Int){d:PyData}{t:TT}(hd:Sem N m d t)(hn:m+4≤n):IsV N 1 2 (rn (n+1) "_law_small" [.fz (.int c),.fz d,.fz (NL N)]):=by
 refine exnE (c:=2) n hn hn fun n hn=>?_;refine hde fun _ θ=>?_;obtain⟨w1,e1,o1,r1,h1,g1⟩:=wO H n (c.fdiv 6) (.inl ⟨m,t,hd⟩);apply θ;rw[Ue,show aD (rn (n+2) "_law_simple") [(ofP (aF .FloorDiv (.int c) (.int 6))),(.ok (.fz d)),(.ok (.fz (NL N)))]=.ok (.fz (enc w1)) from (by kernel_rfl:_=rn (n+2) "_law_simple" [.fz (.int (c.fdiv 6)),.fz d,.fz (NL N)]).trans e1,aE];have hone:IsV N 1 2 (R.ok (.fz (enc w1))):=⟨w1,rfl,o1,r1,aa h1 (by decide),aa g1 (by decide)⟩
 obtain⟨i,_⟩ | ⟨m,l,f,B⟩:=hd.inv
 ·refine IsV.ite (t:=true) ?_ (fun _=>hone) fun h=>by exact btf h
  show orS (.ok (.fz (.bool (decide (c.fmod 6 < 2))))) (.ok (.fz (.bool true)))=_;cases decide (c.fmod 6 < 2)<;>rfl
 refine IsV.ite (t:=decide (c.fmod 6 < 2)) (by
  show orS (.ok (.fz (.bool (decide (c.fmod 6 < 2))))) (.ok (.fz (.bool false)))=_;cases decide (c.fmod 6 < 2)<;>rfl) (fun _=>hone) fun _=>?_
 rw[mU H B,aE];have hmem:∀ x∈aZ (ks l),x∈ks l:=fun x hx=>cR.mp hx;generalize aZ (ks l)=S at hmem;rw[bN,cG,b6,aJ];refine hde fun _ θ=>?_;obtain⟨v,d',s1,s2,s3⟩:=qP H o1 r1 (n:=n+2) (by exact Ik h1 hn) hd;obtain⟨w2,e2,o2,r2,h2,g2⟩:=wO H n (c.fdiv 7) (d:=d') (s3.elim (fun hh=>by obtain⟨s,_,h⟩:=hh;exact .inl ⟨_,s,h⟩) fun h=>.inr h.2);apply θ;rw[show aD (rn (n+2) "_law_simple") [(ofP (aF .FloorDiv (.int c) (.int 7))),(aD (rn (n+2) "_law_seen") [.ok (.fz (enc w1)),(.ok (.fz (.dict (mkd l))))]),(.ok (.fz (NL N)))]=.ok (.fz (enc w2)) from by
  rw[show aD (rn (n+2) "_law_seen") [.ok (.fz (enc w1)),(.ok (.fz (.dict (mkd l))))]=.ok v from s1];refine Eq.trans (b:=rn (n+2) "_law_simple" [.fz (.int (c.fdiv 7)),v.cl,.fz (NL N)]) (by kernel_rfl) ?_;rw[s2,e2],wQ,aE]
 have o3:okW N (.andThen w1 w2):=⟨⟨o1,r1⟩,o2,r2⟩
 have h3:(W.andThen w1 w2).hgt≤1:=by show max w1.hgt w2.hgt+1≤1;exact Il h1 h2
 have g3:(W.andThen w1 w2).grow≤2:=by show w1.grow+w2.grow≤2;exact Im g1 g2
 refine hde fun _ θ=>?_;obtain⟨n2,m2,i2,gg2⟩:=cS H (i:=2) (by decide);obtain⟨n3,m3,i3,gg3⟩:=cS H (i:=3) (by decide);apply θ;have o4:okW N (.join n2 n3 (slice N (some 5) (some 7))):=wP H i2 i3 (by decide) (by decide) (by decide) (by decide) (by decide);have hw1:w1.hgt≤1∧w1.grow≤2:=⟨by exact Io h1,by exact xQ g1⟩
 have fin:=fun {w:WW} (ho:okW N w) (hr:w.isRows=false) (hh:w.hgt≤1) (hg:w.grow≤2)=>X0 H (h:=1) (g:=2) ho hr hh hg o1 r1 hw1.1 hw1.2 (n:=n+2) (by exact Ip hn hh) hd;rw[gg2,gg3,X5];simp only[aJ,wR,aE,bN,cG,b6];have hc:aV (aC (ofP (aF .Mod (.int c) (.int 6))) .Gt (.ok (.fz (.int 2)))) (aC (ofP (rdv (V.cl (.own (.list (S.map .str)))))) .NotEq (.ok (.own (.list []))))=.ok (.fz (.bool (decide (2 < c.fmod 6)&&!S.isEmpty))):=by
  rw[show aC (ofP (rdv (V.cl (.own (.list (S.map .str)))))) .NotEq (.ok (.own (.list [])))=.ok (.fz (.bool (!S.isEmpty))) from (congrArg (fun p=>aN (ofP (bP p))) (jX S)).trans rfl,show aC (ofP (aF .Mod (.int c) (.int 6))) .Gt (.ok (.fz (.int 2)))=.ok (.fz (.bool (decide (2 < c.fmod 6)))) from by kernel_rfl];cases decide (2 < c.fmod 6)<;>rfl
 have hc2:aV (aC (ofP (aF .Mod (.int c) (.int 6))) .Eq (.ok (.fz (.int 5)))) (aC (aB .Mod (ofP (aF .FloorDiv (.int c) (.int 6))) (.ok (.fz (.int 3)))) .Eq (.ok (.fz (.int 0))))=.ok (.fz (.bool (c.fmod 6==5&&(c.fdiv 6).fmod 3==0))):=by
  rw[show aC (ofP (aF .Mod (.int c) (.int 6))) .Eq (.ok (.fz (.int 5)))=.ok (.fz (.bool (c.fmod 6==5))) from by kernel_rfl];cases (c.fmod 6==5)<;>kernel_rfl
 refine IsV.ite hc (fun ht=>?_) fun _=>IsV.ite hc2 (fun _=>fin o4 rfl (aj _) (ai _)) fun _=>fin o3 rfl h3 g3;have hS:S≠[]:=fun e=>by rw[e] at ht;simp at ht
 refine hde fun _ θ=>?_;obtain⟨x,hx,hix⟩:=wN hS (c.fdiv 6);have hix':aG (aU (V.cl (V.cl (.own (.list (S.map .str)))))) (aB .Mod (ofP (aF .FloorDiv (.int c) (.int 6))) (aK bL (ofP (rdv (V.cl (V.cl (.own (.list (S.map .str)))))))) )=.ok (.fz (.str x)):=(by kernel_rfl:_=rb (ofP (aF .Mod (.int (c.fdiv 6)) (.int (S.map PyData.str).length))) (fun i=>ofP (getItem (.list (S.map .str)) (dOf i)))).trans hix;obtain⟨dx,tx,q1,q2,q3⟩:=B.key (hmem x hx);obtain⟨w5,e5,o5,r5,h5,g5⟩:=wO H n (c.fdiv 11) (.inl ⟨m,tx,q3⟩);have hr:=aT (c.fdiv 36) (n:=14) (by decide);obtain⟨y,hy,_,hgy⟩:=cS H (i:=(c.fdiv 36).fmod 14) hr;apply θ;rw[hix',aE];simp only[aJ,bN,b6];rw[show aD (rn (n+2) "_law_simple") [(ofP (aF .FloorDiv (.int c) (.int 11))),(aG (.ok (.dict (mkd l))) (.ok (.fz (.str x)))),(.ok (.fz (NL N)))]=.ok (.fz (enc w5)) from by
  rw[show aG (.ok (.dict (mkd l))) (.ok (.fz (.str x)))=.ok (.fz dx) from congrArg ofP (a9 q1)];exact(by kernel_rfl:_=rn (n+2) "_law_simple" [.fz (.int (c.fdiv 11)),.fz dx,.fz (NL N)]).trans e5,aE,
  show aG (.ok (NL N)) (aB .Mod (ofP (aF .FloorDiv (.int c) (.int 36))) (.ok (.fz (.int 14))))=.ok (.fz (.str y)) from (by kernel_rfl:_=ofP (getItem (NL N) (.int ((c.fdiv 36).fmod 14)))).trans (by rw[hgy];rfl)]
 have o6:okW N (.each w5):=⟨o5,r5⟩
 have o7:okW N (.beside (.bcons y x w5 .bnil)):=⟨⟨⟨⟨hy,B.sub x (hmem x hx)⟩,⟨o5,r5⟩,⟨trivial,rfl⟩,by simp[fK,fL],by simp[fM,fN]⟩,rfl⟩,ay _,am (aj _)⟩
 have hv6:∃ w6:WW,aG (cU (cA [(aM [(.ok (.fz (.str (so "each")))),.ok (.fz (enc w5))]),(aM [(.ok (.fz (.str (so "beside")))),(aM [(aM [.ok (.fz (.str y)),.ok (.fz (.str x)),.ok (.fz (enc w5))])])])])) (ofP (aF .Mod (.int c) (.int 2)))=.ok (.fz (enc w6))∧okW N w6∧w6.isRows=false∧w6.hgt≤1∧w6.grow≤2:=by
  have h2:=aT c (n:=2) (by decide);have:c.fmod 2=0∨c.fmod 2=1:=by exact mY h2
  rw[show aF .Mod (.int c) (.int 2)=.ok (.fz (.int (c.fmod 2))) from fS _ (by decide)];rcases this with h | h
  ·rw[h];exact⟨.each w5,by kernel_rfl,o6,rfl,by show w5.hgt+1≤1;exact Iq h5,by show w5.grow≤2;exact xQ g5⟩
  ·rw[h];exact⟨.beside (.bcons y x w5 .bnil),by kernel_rfl,o7,rfl,by show max w5.hgt 0+1≤1;exact Ir h5,by show max w5.grow 0≤2;exact It g5⟩
 refine hde fun _ θ=>?_;obtain⟨w6,e6,ow6,rw6,hw6,gw6⟩:=hv6;apply θ;simp only[aJ,bN,b6];rw[e6];simp only[aJ,aE,bN,cG,b6];exact IsV.ite hc2 (fun _=>fin o4 rfl (aj _) (ai _)) fun _=>fin ow6 rw6 hw6 gw6
variable {N:List Str} {m:Nat}
noncomputable def e8:List (Str×Str×WW)→WW
 | []=>.bnil
 |x::r=>.bcons x.1 x.2.1 x.2.2 (e8 r)
noncomputable def gD(x:Str×Str×WW):PyData:=.tuple [.str x.1,.str x.2.1,enc x.2.2]
theorem wS:∀ L:List (Str×Str×WW),(e8 L).isRows=true
 | []=>rfl
 |_::_=>rfl
theorem Et:∀ L:List (Str×Str×WW),aY (e8 L)=L.map gD
 | []=>rfl
 |x::r=>by
  show .tuple [.str x.1,.str x.2.1,enc x.2.2]::aY (e8 r)=_;rw[Et r];rfl
theorem j6:∀ L:List (Str×Str×WW),(e8 L).names=L.map (·.1)∧(e8 L).parts=L.map (·.2.1)
 | []=>⟨rfl,rfl⟩
 |x::r=>⟨congrArg (x.1::·) (j6 r).1,congrArg (x.2.1::·) (j6 r).2⟩
theorem Yb{h g:Nat}:∀ {L:List (Str×Str×WW)},(∀ x∈L,x.1∈N∧x.2.1∈N∧okW N x.2.2∧x.2.2.isRows=false∧x.2.2.hgt≤h∧x.2.2.grow≤g)→(L.map (·.1)).Nodup→(L.map (·.2.1)).Nodup→okW N (e8 L)∧(e8 L).hgt≤h∧(e8 L).grow≤g:=by
 intro v0
 induction v0 with
 |nil =>
  intro _ _ _;exact⟨trivial,aj _,aj _⟩
 |cons x r ih =>
  intro hx h1 h2;refine hde fun _ θ=>?_;obtain⟨a1,a2⟩:=aw.mp h1;obtain⟨b1,b2⟩:=aw.mp h2;obtain⟨i1,i2,i3⟩:=ih (fun y hy=>hx y (ae _ hy)) a2 b2;obtain⟨c1,c2,c3,c4,c5,c6⟩:=hx x (by simp);apply θ;refine⟨⟨⟨c1,c2⟩,⟨c3,c4⟩,⟨i1,wS r⟩,?_,?_⟩,Nat.max_le.mpr ⟨c5,i2⟩,Nat.max_le.mpr ⟨c6,i3⟩⟩
  ·rw[(j6 r).1];exact a1
  ·rw[(j6 r).2];exact b1
theorem wT:∀ {k:Nat} {i:Int} {q r:List PyData} {d:PyData},dE i k=q++d::r→d=.int (i+q.length)∧q.length < k
 |0,i,q,r,d,h=>by cases q<;>cases h
 |k+1,i,[],r,d,h=>by
  have h:PyData.int i::dE (i+1) k=d::r:=h;cases h;exact⟨by simp,by simp⟩
 |k+1,i,x::q,r,d,h=>by
  have h:PyData.int i::dE (i+1) k=x::(q++d::r):=h;obtain⟨h1,h2⟩:=wT (List.cons.inj h).2;refine⟨?_,by simpa using h2⟩;rw[h1,List.length_cons];congr 1;exact xR
theorem Eu:∀ (k:Nat) (i:Int),(dE i k).length=k:=by
 intro v0
 induction v0 with
 |zero =>
  intro _;exact rfl
 |succ k ih =>
  intro i;exact congrArg (·+1) (ih (i+1))
theorem Ev{xs:List Str}{a:Int}{n:Int}(hn:n=xs.length)(h:0 < n):∃ x,x∈xs∧xs[(a.fmod n).toNat]?=some x∧getItem (.list (xs.map .str)) (.int (a.fmod n))=.ok (.fz (.str x)):=by
 have hr:=aT a h;have hk:(a.fmod n).toNat < xs.length:=by exact Iu hn hr
 refine⟨xs[(a.fmod n).toNat],dg hk,List.getElem?_eq_getElem hk,j5 hr.1 ?_⟩;rw[List.getElem?_map,List.getElem?_eq_getElem hk];rfl
theorem Yc{a n:Int}{i j:Nat}(hn:0 < n)(hj:(j:Int) < n)(hij:i < j):(a+i).fmod n≠(a+j).fmod n:=by
 rw[gh _ (by exact qZ hn),gh _ (by exact qZ hn)];intro e;have:=Int.emod_emod_of_dvd (a+j - (a+i)) (Int.dvd_refl n);have h1:(a+j - (a+i)) % n=0:=by rw[Int.sub_emod,e,Int.sub_self,Int.zero_emod]
 have h2:a+j - (a+i)=(j:Int) - i:=by exact Iv
 rw[h2,Int.emod_eq_of_lt (by exact Iw hij) (by exact Ix hj)] at h1;exact cu hij (Int.ofNat_inj.mp (Int.sub_eq_zero.mp h1))
theorem Ew{xs ys:List Str}{n a:Int}(hx:xs.Nodup)(hn:n=xs.length)(hn0:0 < n)(hl:(ys.length:Int)≤n)(h:∀ (i:Nat) y,ys[i]?=some y→xs[((a+i).fmod n).toNat]?=some y):ys.Nodup:=by
 refine List.pairwise_iff_getElem.mpr fun i j hi hj hij e=>?_;have h1:=h i _ (List.getElem?_eq_getElem hi);have h2:=h j _ (List.getElem?_eq_getElem hj);rw[← e] at h2;obtain⟨p1,p2⟩:=bg.mp h1;obtain⟨q1,q2⟩:=bg.mp h2;have e2:=(List.getElem_inj (h₀:=p1) (h₁:=q1) hx).mp (p2.trans q2.symm);have r1:=aT (a+i) hn0;have r2:=aT (a+j) hn0;exact Yc (a:=a) hn0 (by exact Iy hl hj) hij (by exact Iz e2 r1 r2)
theorem Ye(H:Wl4 N)(n:Nat)(c:Int){l:LP}{f:Str→Option TT}(B:Bld N m l f)(hn:m+4≤n)(hS:aZ (ks l)≠[]):IsV N 2 2 (rn (n+2) "_law_wide" [.fz (.int c),.fz (.dict (mkd l)),.fz (.list ((aZ (ks l)).map .str)),.fz (NL N)]):=by
 have hnd:=Du B.nd;have hmem:∀ x∈aZ (ks l),x∈ks l:=fun x hx=>cR.mp hx;have hlen:(aZ (ks l)).length≤14:=by rw[Wb B.nd,c7];have:=B.len;rw[H.len] at this;exact this
 generalize aZ (ks l)=S at hS hnd hmem hlen;have hpos:0 < S.length:=List.length_pos_iff.mpr hS;have hr6:=aT (c.fdiv 16) (n:=6) (by decide);rw[Uf];refine hde fun _ θ=>?_;obtain⟨K,hK1,hK2,hK3,hK⟩:∃ K:Nat,1≤K∧K≤6∧K≤S.length∧rgI (k9 [ofP (bL (.list (S.map .str))),aB .Add (.ok (.fz (.int 1))) (aB .Mod (ofP (aF .FloorDiv (.int c) (.int 16))) (.ok (.fz (.int 6))))])=.ok (dE 0 K):=by
  obtain⟨K,e,k1,k2,k3⟩:=J4 hr6 hpos;refine⟨K,k1,k2,k3,?_⟩
  ·refine Eq.trans (b:=ofP (nH (.int (if 1+(c.fdiv 16).fmod 6 < ((S.map PyData.str).length:Int) then 1+(c.fdiv 16).fmod 6 else ((S.map PyData.str).length:Int))))) (by kernel_rfl) ?_;rw[List.length_map,e];show ofP (if _ then _ else _)=_;rw[if_pos]
   ·rfl
   ·exact⟨bb (by decide) (co K),bk.mpr (aa k2 (by decide:6≤4096))⟩
 apply θ;rw[hK,aE];have L:=iP (S:=fun (a:List (Str×Str×WW)) (o:Option V×Option V)=>iO (ζ (.int c)) (ζ (.dict (mkd l))) (ζ (.list (S.map .str))) (ζ (NL N)) (some (.own (.list (a.map gD)))) o.1 o.2) (b:=uO (n+1)) (t:=uP) (l:=dE 0 K) (p:=[]) (a:=[]) (j:=(none,none))
  (I:=fun p a=>a.length=p.length∧(∀ x∈a,x.1∈N∧x.2.1∈N∧okW N x.2.2∧x.2.2.isRows=false∧x.2.2.hgt≤1∧x.2.2.grow≤2)∧(∀ (i:Nat) y,(a.map (·.1))[i]?=some y→N[((c.fdiv 64+i).fmod 14).toNat]?=some y)∧∀ (i:Nat) y,(a.map (·.2.1))[i]?=some y→S[((c+i).fmod S.length).toNat]?=some y) (E:=fun _=>False) (Q:=fun _=>False) (fun q d r a o hq hi=>by
   refine hde fun _ θ=>?_;obtain⟨hd,hqk⟩:=wT (show dE 0 K=q++d::r from hq);rw[Int.zero_add] at hd;subst hd;obtain⟨h1,h2,h3,h4⟩:=hi;obtain⟨x,hx,ix,gx⟩:=Ev (xs:=S) (a:=c+q.length) (n:=S.length) rfl (by exact q7 hpos);obtain⟨y,hy,iy,gy⟩:=Ev (xs:=N) (a:=c.fdiv 64+q.length) (n:=14) (by rw[H.len];rfl) (by decide);obtain⟨dx,tx,q1,q2,q3⟩:=B.key (hmem x hx);obtain⟨w,e,ow,rw',hw,gw⟩:=Es H n (c.fdiv 7+5*q.length) q3 hn;apply θ;refine Out.kn (a++[(y,x,w)]) (some (.fz (.int q.length)),some (.fz (.str x))) ⟨by simp[h1],fun z hz=>?_,fun i z hz=>?_,fun i z hz=>?_⟩ fun kn kr=>?_
   ·rcases List.mem_append.mp hz with hz | hz
    ·exact h2 z hz
    ·rw[List.mem_singleton.mp hz];exact⟨hy,B.sub x (hmem x hx),ow,rw',hw,gw⟩
   ·rw[dj,List.getElem?_append] at hz
    split at hz
    ·exact h3 i z hz
    ·rename_i hlt;rw[List.length_map,h1] at hlt hz;have hi:i - q.length=0:=by
      rcases Nat.eq_zero_or_pos (i - q.length) with h | h
      ·exact h
      ·rw[gn (by simp;exact xS h)] at hz;exact ns hz
     have:i=q.length:=by exact xT hlt hi
     subst this;rw[hi] at hz;obtain rfl:=si hz;exact iy
   ·rw[dj,List.getElem?_append] at hz
    split at hz
    ·exact h4 i z hz
    ·rename_i hlt;rw[List.length_map,h1] at hlt hz;have hi:i - q.length=0:=by
      rcases Nat.eq_zero_or_pos (i - q.length) with h | h
      ·exact h
      ·rw[gn (by simp;exact xS h)] at hz;exact ns hz
     have:i=q.length:=by exact xT hlt hi
     subst this;rw[hi] at hz;obtain rfl:=si hz;exact ix
   ·rw[Ug,aJ,aE,Uh];have z1:aG (.ok (.list (S.map .str))) (aB .Mod (ofP (aF .Add (.int c) (.int q.length))) (ofP (bL (.list (S.map .str)))))=.ok (.fz (.str x)):=by
     refine Eq.trans (b:=rb (ofP (aF .Mod (.int (c+q.length)) (.int (S.map PyData.str).length))) (fun i=>ofP (getItem (.list (S.map .str)) (dOf i)))) (by kernel_rfl) ?_;rw[List.length_map,fS _ (by exact xO hpos),aJ,aE,fQ,gx];rfl
    have z2:aG (.ok (NL N)) (aB .Mod (aB .Add (ofP (aF .FloorDiv (.int c) (.int 64))) (.ok (.fz (.int q.length)))) (.ok (.fz (.int 14))))=.ok (.fz (.str y)):=by
     refine Eq.trans (b:=ofP (getItem (NL N) (.int ((c.fdiv 64+q.length).fmod 14)))) (by kernel_rfl) ?_;rw[show getItem (NL N) (.int ((c.fdiv 64+q.length).fmod 14))=_ from gy];rfl
    have z3:aD (rn (n+1) "_law_small") [(aB .Add (ofP (aF .FloorDiv (.int c) (.int 7))) (ofP (aF .Mult (.int 5) (.int q.length)))),(aG (.ok (.dict (mkd l))) (.ok (.fz (.str x)))),(.ok (.fz (NL N)))]=.ok (.fz (enc w)):=by
     rw[show aG (.ok (.dict (mkd l))) (.ok (.fz (.str x)))=.ok (.fz dx) from congrArg ofP (a9 q1)];exact(by kernel_rfl:_=rn (n+1) "_law_small" [.fz (.int (c.fdiv 7+5*q.length)),.fz dx,.fz (NL N)]).trans e
    rw[z1,aE,bN,b6,aJ,z2,z3,Xy];show rb (ofP (if (a.map gD).length < bA then P.ok (PyData.list (a.map gD++[gD (y,x,w)])) else .no)) _=_;rw[if_pos (by rw[List.length_map,h1];have:bA=16777216:=rfl;exact I0 hK2 hqk this),show a.map gD++[gD (y,x,w)]=(a++[(y,x,w)]).map gD from by simp];rfl) ⟨rfl,fun x hx=>(by cases hx),fun i y h=>(by cases i<;>cases h),fun i y h=>(by cases i<;>cases h)⟩
 obtain⟨a,o,⟨h1,h2,h3,h4⟩,e⟩ | ⟨_,hx,_⟩ | ⟨_,hv,_⟩:=L
 ·rw[List.nil_append,Eu] at h1;refine hde fun _ θ=>?_;obtain⟨k1,k2,k3⟩:=Yb h2 (Ew (xs:=N) (n:=14) H.w.nd (by rw[H.len];rfl) (by decide) (by rw[List.length_map];exact I5 hK2 h1) h3) (Ew (xs:=S) (n:=S.length) hnd rfl (by exact q7 hpos) (by rw[List.length_map];exact I6 hK3 h1) h4);apply θ;refine⟨.beside (e8 a),?_,⟨⟨k1,wS a⟩,?_,?_⟩,rfl,am k2,k3⟩
  ·refine(e _ _).trans ((Ui ..).trans ?_);show R.ok (V.fz (.tuple [.str (so "beside"),.tuple (a.map gD)]))=R.ok (V.fz (.tuple [.str (so "beside"),enc (e8 a)]));rw[gV (wS a),Et]
  ·rw[(j6 a).1,List.length_map,h1];exact hK1
  ·rw[(j6 a).1,List.length_map,h1];exact hK2
 ·exact hx.elim
 ·exact hv.elim
variable {N:List Str} {m:Nat}
theorem Yg(S:List Str):aC (.ok (.fz (.list (S.map .str)))) .NotEq (.ok (.own (.list [])))=.ok (.fz (.bool (!S.isEmpty))):=(congrArg (fun p=>aN (ofP (bP p))) (jX S)).trans rfl
inductive NlR(N:List Str)(i:Int)(r:R V):Prop where
 |mk (x:Str) (h:x∈N) (g:N[i.toNat]?=some x) (e:r=.ok (.fz (.str x))):NlR N i r
theorem iU(H:Wl4 N){e:R V}{i:Int}(he:e=.ok (.fz (.int i)))(h:0≤i∧i < 14):NlR N i (aG (.ok (NL N)) e):=by
 obtain⟨x,hx,ix,gx⟩:=cS H h;exact⟨x,hx,ix,by rw[he];exact congrArg ofP gx⟩
theorem qQ{S:List Str}(h:S≠[])(M:Int):∃ x,x∈S∧aG (.ok (.list (S.map .str))) (aB .Mod (.ok (.fz (.int M))) (aK bL (.ok (.fz (.list (S.map .str))))))=.ok (.fz (.str x)):=by
 obtain⟨x,hx,e⟩:=wN h M;exact⟨x,hx,(by kernel_rfl:_=rb (ofP (aF .Mod (.int M) (.int (S.map PyData.str).length))) (fun i=>ofP (getItem (.list (S.map .str)) (dOf i)))).trans e⟩
theorem Ex{lo hi:R V}{a b:Int}(h1:lo=.ok (.fz (.int a)))(h2:hi=.ok (.fz (.int b))):cF (.ok (NL N)) (some lo) (some hi)=.ok (.own (.list ((slice N (some a) (some b)).map .str))):=by
 rw[h1,h2];exact congrArg ofP (wM _ _)
set_option maxHeartbeats 1000000 in
theorem Yh(H:Wl4 N)(n:Nat)(c:Int){d:PyData}{t:TT}(hd:Sem N m d t)(hn:m+4≤n):IsV N 2 2 (rn (n+3) "_law_piece" [.fz (.int c),.fz d,.fz (NL N)]):=by
 rw[Uj,show aF .Mod (.int c) (.int 10)=.ok (.fz (.int (c.fmod 10))) from fS _ (by decide),show aF .FloorDiv (.int c) (.int 10)=.ok (.fz (.int (c.fdiv 10))) from iT _ (by decide)];simp only[aJ,aE,bN,b6,cG];generalize c.fmod 10=K;generalize c.fdiv 10=M;obtain⟨i,_⟩ | ⟨m,l,f,B⟩:=hd.inv
 ·exact IsV.whole
 refine IsV.ite (t:=K==0) (by kernel_rfl) (fun _=>IsV.whole) fun _=>?_;rw[mU H B];simp only[aE,gC,bN,b6,aJ,cG,l8];have hwide:=Ye H n M B (by exact I7 hn);have hmem:∀ x∈aZ (ks l),x∈ks l:=fun x hx=>cR.mp hx;generalize aZ (ks l)=S at hmem hwide;have r4:=aT M (n:=4) (by decide);obtain⟨x4,m4,_,g4⟩:=iU H (e:=aB .Add (.ok (.fz (.int 5))) (aB .Mod (.ok (.fz (.int M))) (.ok (.fz (.int 4))))) (i:=5+M.fmod 4) (by kernel_rfl) (by exact xP r4);obtain⟨i5,hi5,hb5⟩:=Eo H (n+1) (M.fdiv 4) B x4;rw[g4];simp only[aE,bN,b6,aJ,cG];rw[show aD (rn (n+2) "_law_least") [(aB .FloorDiv (.ok (.fz (.int M))) (.ok (.fz (.int 4)))),(.ok (.fz (.dict (mkd l)))),.ok (.fz (.str x4))]=.ok (.fz (.int i5)) from (by kernel_rfl:_=rn (n+2) "_law_least" [.fz (.int (M.fdiv 4)),.fz (.dict (mkd l)),.fz (.str x4)]).trans hi5,X9,Yg];simp only[aE];refine IsV.ite (t:=decide (K < 3)&&!S.isEmpty) (by
  rw[show aC (R.ok (V.fz (.int K))) .Lt (.ok (.fz (.int 3)))=.ok (.fz (.bool (decide (K < 3)))) from by kernel_rfl];cases decide (K < 3)<;>rfl) (fun ht=>?_) fun _=>?_
 ·have hS:S≠[]:=fun e=>by rw[e] at ht;simp at ht
  obtain⟨x,hx,e⟩:=qQ hS M;rw[e,X7];exact⟨.pick x,rfl,B.sub x (hmem x hx),rfl,aj _,ai _⟩
 have r14:=aT (M.fdiv 16) (n:=14) (by decide);obtain⟨y,hy,_,gy⟩:=iU H (e:=aB .Mod (aB .FloorDiv (.ok (.fz (.int M))) (.ok (.fz (.int 16)))) (.ok (.fz (.int 14)))) (i:=(M.fdiv 16).fmod 14) (by kernel_rfl) r14;rw[gy,show aC (R.ok (V.fz (.str y))) .NotIn (R.ok (V.fz (.list (S.map .str))))=.ok (.fz (.bool !(S.contains y))) from by
  show aN (ofP (bP ((ofO (strs? (S.map .str))).bind fun ss=>P.ok (ss.contains y))))=_;rw[gT];rfl]
 refine IsV.ite (t:=K==3&&(!S.isEmpty&&!(S.contains y))) (by
  rw[show aC (R.ok (V.fz (.int K))) .Eq (.ok (.fz (.int 3)))=.ok (.fz (.bool (K==3))) from by kernel_rfl];cases (K==3)<;>cases S.isEmpty<;>rfl) (fun ht=>?_) fun _=>?_
 ·have hS:S≠[]:=fun e=>by rw[e] at ht;simp at ht
  have hyS:y∉S:=fun h=>by simp[h] at ht
  obtain⟨x,hx,e⟩:=qQ hS M;rw[e,X8];exact⟨.call x y,rfl,⟨B.sub x (hmem x hx),hy,fun e=>hyS (e▸hx)⟩,rfl,aj _,aj _⟩
 refine IsV.ite (t:=K==4&&!S.isEmpty) (by
  rw[show aC (R.ok (V.fz (.int K))) .Eq (.ok (.fz (.int 4)))=.ok (.fz (.bool (K==4))) from by kernel_rfl];cases (K==4)<;>rfl) (fun ht=>?_) fun _=>?_
 ·have hS:S≠[]:=fun e=>by rw[e] at ht;simp at ht
  obtain⟨w,e,a1,a2,a3,a4⟩:=hwide hS;rw[show aD (rn (n+2) "_law_wide") [.ok (.fz (.int M)),(.ok (.fz (.dict (mkd l)))),.ok (.fz (.list (S.map .str))),(.ok (.fz (NL N)))]=.ok (.fz (enc w)) from e];exact⟨w,rfl,a1,a2,a3,a4⟩
 refine IsV.ite (t:=K==7||K==8) (by
  rw[show aC (R.ok (V.fz (.int K))) .Eq (.ok (.fz (.int 7)))=.ok (.fz (.bool (K==7))) from by kernel_rfl];cases (K==7)<;>kernel_rfl) (fun _=>?_) fun _=>?_
 ·have r2:=aT M (n:=2) (by decide);have r8:=aT (M.fdiv 8) (n:=4) (by decide);have r32:=aT (M.fdiv 32) (n:=6) (by decide);obtain⟨a,ma,ia,ga⟩:=iU H (e:=aB .Add (.ok (.fz (.int 2))) (aB .Mod (.ok (.fz (.int M))) (.ok (.fz (.int 2))))) (i:=2+M.fmod 2) (by kernel_rfl) (by exact I8 r2);obtain⟨b,mb,ib,gb⟩:=iU H (e:=aB .Sub (.ok (.fz (.int 3))) (aB .Mod (.ok (.fz (.int M))) (.ok (.fz (.int 2))))) (i:=3 - M.fmod 2) (by kernel_rfl) (by exact I9 r2);have hab:(2+M.fmod 2).toNat≠(3 - M.fmod 2).toNat:=Ja (aT M (by decide));rw[ga,gb,show aB .Add (R.ok (V.fz (.int 5))) (aB .Mult (.ok (.fz (.int 2))) (aB .Mod (.ok (.fz (.int M))) (.ok (.fz (.int 2)))))=.ok (.fz (.int (5+2*M.fmod 2))) from by kernel_rfl];simp only[aE,bN,b6,aJ];rw[Ex (a:=5+2*M.fmod 2) (b:=5+2*M.fmod 2+2) rfl (by kernel_rfl)];simp only[aE,gC,b6,aJ];refine IsV.ite (t:=(M.fdiv 2).fmod 4==1) (by kernel_rfl) (fun _=>?_) fun _=>?_
  ·rw[show aB .Add (R.ok (V.fz (.int 4))) (aB .Mod (aB .FloorDiv (.ok (.fz (.int M))) (.ok (.fz (.int 8)))) (.ok (.fz (.int 4))))=.ok (.fz (.int (4+(M.fdiv 8).fmod 4))) from by kernel_rfl];simp only[aE,bN,b6,aJ];rw[Ex (a:=4+(M.fdiv 8).fmod 4) (b:=4+(M.fdiv 8).fmod 4+1+(M.fdiv 32).fmod 6) rfl (by kernel_rfl)];simp only[aE,gC,b6,aJ];rw[show aK fA (R.ok (V.fz (.list ((slice N (some (4+(M.fdiv 8).fmod 4)) (some (4+(M.fdiv 8).fmod 4+1+(M.fdiv 32).fmod 6))).map .str))))=.ok (.fz (.tuple ((slice N (some (4+(M.fdiv 8).fmod 4)) (some (4+(M.fdiv 8).fmod 4+1+(M.fdiv 32).fmod 6))).map .str))) from rfl,wR];exact⟨.join a b _,rfl,wP H ia ib hab (by exact Jb r8) (by exact Jc r32) (by exact Jd r32) (by exact Je r8 r32),rfl,aj _,ai _⟩
  ·rw[show aK fA (R.ok (V.fz (.list ((slice N (some (5+2*M.fmod 2)) (some (5+2*M.fmod 2+2))).map .str))))=.ok (.fz (.tuple ((slice N (some (5+2*M.fmod 2)) (some (5+2*M.fmod 2+2))).map .str))) from rfl,wR];exact⟨.join a b _,rfl,wP H ia ib hab (by exact Jf r2) (by exact Jg) (by exact Jh) (by exact Ji r2),rfl,aj _,ai _⟩
 refine IsV.ite (t:=K==9) (by kernel_rfl) (fun _=>?_) fun _=>⟨.sift x4 i5,rfl,⟨m4,hb5⟩,rfl,aj _,aj _⟩
 obtain⟨dx,hdx,tx,hx⟩:∃ dx,d8 (.ok (.fz (.bool (!S.isEmpty)))) (aG (.ok (.dict (mkd l))) (aG (.ok (.list (S.map .str))) (aB .Mod (.ok (.fz (.int M))) (aK bL (.ok (.fz (.list (S.map .str)))))))) (.ok (.fz (.int 0)))=.ok (.fz dx)∧∃ tx,Sem N m dx tx:=by
  cases hE:S.isEmpty with
  |true=>exact⟨.int 0,rfl,_,.num (by decide)⟩
  |false =>
   have hS:S≠[]:=fun e=>by rw[e] at hE;exact btf hE
   obtain⟨x,hx,e⟩:=qQ hS M;obtain⟨dx,tx,q1,q2,q3⟩:=B.key (hmem x hx);refine⟨dx,?_,tx,q3⟩;rw[e];exact congrArg ofP (a9 q1)
 obtain⟨w,e,ow,rw',hw,gw⟩:=Es H (n+1) (M.fdiv 5) hx (by exact Jj hn);rw[hdx,show aD (rn (n+2) "_law_small") [(aB .FloorDiv (.ok (.fz (.int M))) (.ok (.fz (.int 5)))),.ok (.fz dx),(.ok (.fz (NL N)))]=.ok (.fz (enc w)) from (by kernel_rfl:_=rn (n+2) "_law_small" [.fz (.int (M.fdiv 5)),.fz dx,.fz (NL N)]).trans e,X6];exact⟨.each w,rfl,⟨ow,rw'⟩,rfl,am hw,gw⟩
inductive FitV(N:List Str)(h g:Nat)(t:TT)(r:R V):Prop where
 |mk (w:WW) (e:r=.ok (.fz (enc w))) (o:okW N w∧w.isRows=false) (a:w.hgt≤h∧w.grow≤g) (s:TT) (i:aI w t=some s):FitV N h g t r
theorem Yi(H:Wl4 N)(n:Nat)(c:Int){d:PyData}{t:TT}(hd:Sem N m d t)(hn:m+4≤n):FitV N 2 2 t (rn (n+4) "_law_fitting" [.fz (.int c),.fz d,.fz (NL N)]):=by
 obtain⟨w,e,ow,rw',hw,gw⟩:=Yh H n c hd hn;obtain⟨v,d',s1,s2,s3⟩:=qP H ow rw' (n:=n+3) (by exact Jk hn hw) hd;rw[Uk,e];simp only[aE,bN,cG,b6,aJ];rw[show aD (rn (n+3) "_law_seen") [.ok (.fz (enc w)),.ok (.fz d)]=.ok v from s1];show FitV N 2 2 t (rb (if dX (dOf v)=true then _ else _) R.ok);rw[eZ s2];rcases s3 with ⟨s,h1,h2⟩ | ⟨h1,h2⟩
 ·rw[h2.notNone];exact⟨w,rfl,⟨ow,rw'⟩,⟨hw,gw⟩,s,h1⟩
 ·rw[h2];exact⟨.whole,rfl,⟨trivial,rfl⟩,⟨aj _,aj _⟩,t,rfl⟩
variable {N:List Str} {m:Nat}
noncomputable def bZ:List WW→TT→Option TT
 | [],t=>some t
 |w::r,t=>(aI w t).bind (bZ r)
theorem Yj:∀ (a:List WW) (w:WW) (t:TT),bZ (a++[w]) t=(bZ a t).bind (aI w):=by
 intro v0
 induction v0 with
 |nil =>
  intro w t;show(aI w t).bind some=aI w t;cases aI w t<;>rfl
 |cons x r ih =>
  intro w t;show(aI x t).bind (bZ (r++[w]))=((aI x t).bind (bZ r)).bind (aI w);cases aI x t with
  |none=>rfl
  |some u=>exact ih w u
def gw(N:List Str)(h g:Nat)(w:WW):Prop:=(okW N w∧w.isRows=false)∧w.hgt≤h∧w.grow≤g
theorem Ey{h g h' g':Nat}{a b:WW}(ha:gw N h g a)(hb:gw N h' g' b):gw N (max h h'+1) (g+g') (.andThen a b):=by
 refine⟨⟨⟨ha.1,hb.1⟩,rfl⟩,?_,au ha.2.2 hb.2.2⟩;exact am (Nat.max_le.mpr ⟨aa ha.2.1 (bu _ _),aa hb.2.1 (cb _ _)⟩)
theorem Ez:∀ {r:List WW} {a:WW} {h g:Nat},2≤h→gw N h g a→(∀ w∈r,gw N 2 2 w)→gw N (h+r.length) (g+2*r.length) (r.foldl .andThen a)∧∀ t,aI (r.foldl .andThen a) t=(aI a t).bind (bZ r)
 | [],a,h,g,_,ha,_=>⟨ha,fun t=>by show aI a t=(aI a t).bind some;cases aI a t<;>rfl⟩
 |w::r,a,h,g,h2,ha,hr=>by
  have hw:=Ey ha (hr w (by simp));rw[Nat.max_eq_left h2] at hw;obtain⟨i1,i2⟩:=Ez (r:=r) (bp h2) hw fun x hx=>hr x (ae _ hx);refine⟨⟨i1.1,aa i1.2.1 ?_,aa i1.2.2 ?_⟩,fun t=>?_⟩
  ·rw[List.length_cons];exact Jl
  ·rw[List.length_cons];exact Jm
  ·refine(i2 t).trans ?_;show((aI a t).bind (aI w)).bind (bZ r)=(aI a t).bind fun u=>(aI w u).bind (bZ r);cases aI a t<;>rfl
theorem E2:∀ {r:List WW} {a:WW},gw N 2 2 a→(∀ w∈r,gw N 2 2 w)→gw N (2+r.length) (2+2*r.length) (r.foldr .andThen a)∧∀ t,aI (r.foldr .andThen a) t=bZ (r++[a]) t
 | [],a,ha,_=>⟨ha,fun t=>by show aI a t=(aI a t).bind some;cases aI a t<;>rfl⟩
 |w::r,a,ha,hr=>by
  obtain⟨i1,i2⟩:=E2 (r:=r) ha fun x hx=>hr x (ae _ hx);have hw:=Ey (hr w (by simp)) i1;rw[Nat.max_eq_right (ak _ _)] at hw;refine⟨⟨hw.1,aa hw.2.1 ?_,aa hw.2.2 ?_⟩,fun t=>?_⟩
  ·rw[List.length_cons];exact Jn
  ·rw[List.length_cons];exact Jo
  ·show(aI w t).bind (aI (r.foldr .andThen a))=(aI w t).bind (bZ (r++[a]));cases aI w t with
   |none=>rfl
   |some u=>exact i2 u
noncomputable def vS(s:List Int)(f:Int)(tr:PyData)(N:List Str)(ws:List WW)(v:V)(k x p:Option V):aA:=cV (ζ (Li s)) (ζ (.int f)) (ζ tr) (ζ (NL N)) (some (.own (.list (ws.map enc)))) (some v) k x p
theorem Yk(n:Nat){s:List Int}{f:Int}{tr:PyData}{ws:List WW}{v:V}{k:Option V}:∀ (r:List WW) (a:WW) (p:Option V),∃ p',∀ kn kr,aQ (lL n) lM (r.map enc) (vS s f tr N ws v k (ζ (enc a)) p) kn kr=kn (vS s f tr N ws v k (ζ (enc (r.foldl .andThen a))) p'):=by
 intro v0
 induction v0 with
 |nil =>
  intro a p;exact⟨p,fun _ _=>rfl⟩
 |cons w r ih =>
  intro a p;obtain⟨p',e⟩:=ih (.andThen a w) (ζ (enc w));refine⟨p',fun kn kr=>(?_:_=_).trans (e kn kr)⟩;show rb (ofP (aR lM (enc w) (vS s f tr N ws v k (ζ (enc a)) p))) (fun σ=>lL n σ (fun σ=>aQ (lL n) lM (r.map enc) σ kn kr) kr)=_;unfold vS;rw[Up,aJ,aE,Uq,bN,b6,aJ,wQ];rfl
theorem Yl(n:Nat){s:List Int}{f:Int}{tr:PyData}{ws:List WW}{v:V}{k:Option V}:∀ (r:List WW) (a:WW) (p:Option V),∃ p',∀ kn kr,aQ (lN n) lO (r.map enc) (vS s f tr N ws v k (ζ (enc a)) p) kn kr=kn (vS s f tr N ws v k (ζ (enc (r.foldl (fun a w=>.andThen w a) a))) p'):=by
 intro v0
 induction v0 with
 |nil =>
  intro a p;exact⟨p,fun _ _=>rfl⟩
 |cons w r ih =>
  intro a p;obtain⟨p',e⟩:=ih (.andThen w a) (ζ (enc w));refine⟨p',fun kn kr=>(?_:_=_).trans (e kn kr)⟩;show rb (ofP (aR lO (enc w) (vS s f tr N ws v k (ζ (enc a)) p))) (fun σ=>lN n σ (fun σ=>aQ (lN n) lO (r.map enc) σ kn kr) kr)=_;unfold vS;rw[Us,aJ,aE,Ut,bN,b6,aJ,wQ];rfl
theorem E3(a:List PyData)(d:PyData):aG (.ok (.list (a++[d]))) (unS .USub (.ok (.fz (.int 1))))=.ok (.fz d):=by
 refine Eq.trans (b:=ofP (if (-1:Int) < 0∧-((a++[d]).length:Int)≤-1 then frz (a++[d])[(-1+((a++[d]).length:Int)).toNat]? else .no)) (by kernel_rfl) ?_;rw[if_pos ⟨by decide,by rw[List.length_append,List.length_singleton];exact Jp⟩,show(-1+((a++[d]).length:Int)).toNat=a.length from by rw[List.length_append,List.length_singleton];exact Jq];simp[frz,ofP]
theorem Ym(x:PyData)(r:List PyData):slice (x::r) (some 1) none=r:=by
 unfold slice;simp only[Option.elim];rw[mS (by decide) (by rw[List.length_cons];exact Jr)];simp
theorem Yn(a:List PyData)(d:PyData):slice (a++[d]) none (some (-1))=a:=by
 unfold slice clipAt;simp only[Option.elim,List.drop_zero,Nat.sub_zero];rw[if_pos (by decide),show(max 0 (min (-1+((a++[d]).length:Int)) ((a++[d]).length:Int))).toNat=a.length from by simp;exact Js];simp
theorem Yo(H:Wl4 N)(n:Nat)(s:List Int)(fi:Int){d:PyData}{t:TT}(hd:Sem N m d t)(hn:m+4≤n):FitV N 5 8 t (rn (n+5) "_law_view" [.fz (Li s),.fz (.int fi),.fz d,.fz (NL N)]):=by
 rw[Ul,hV (n+2) s fi];have r4:=aT (bJ s fi) (n:=4) (by decide);refine hde fun _ θ=>?_;obtain⟨K,hK1,hK2,hK⟩:∃ K:Nat,1≤K∧K≤4∧rgI (aB .Add (.ok (.fz (.int 1))) (aB .Mod (.ok (.fz (.int (bJ s fi)))) (.ok (.fz (.int 4)))))=.ok (dE 0 K):=by
  refine⟨(1+(bJ s fi).fmod 4).toNat,by exact Jt r4,by exact Ju r4,?_⟩;refine Eq.trans (b:=ofP (nH (.int (1+(bJ s fi).fmod 4)))) (by kernel_rfl) ?_;show ofP (if _ then _ else _)=_;rw[if_pos (by exact Jv r4)];rfl
 apply θ;rw[hK,aE];have L:=iP (S:=fun (a:List WW×V) (o:Option V)=>vS s fi d N a.1 a.2 o none none) (b:=uQ (n+4)) (t:=uR) (l:=dE 0 K) (p:=[]) (a:=([],.fz d)) (j:=none)
  (I:=fun p a=>a.1.length=p.length∧(∀ w∈a.1,gw N 2 2 w)∧∃ dn tn,a.2.cl=.fz dn∧Sem N m dn tn∧bZ a.1 t=some tn) (E:=fun _=>False) (Q:=fun _=>False) (fun q x r a o hq hi=>by
   refine hde fun _ θ=>?_;obtain⟨hx,hqk⟩:=wT (show dE 0 K=q++x::r from hq);rw[Int.zero_add] at hx;subst hx;obtain⟨h1,h2,dn,tn,h3,h4,h5⟩:=hi;obtain⟨w,e,ow,hw,sn,hs⟩:=Yi H n (bJ s (fi+1+q.length)) h4 hn;have hsn:=(D8 H.w ow.1).1 ow.2 (n:=n+4) (by exact Jw hn hw) h4;rw[hs] at hsn;obtain⟨v,d',g1,g2,g3⟩:=hsn;apply θ;refine Out.kn (a.1++[w],v) (ζ (.int q.length)) ⟨by simp[h1],fun z hz=>?_,d',sn,g2,g3,by rw[Yj,h5];exact hs⟩ fun kn kr=>?_
   ·rcases List.mem_append.mp hz with hz | hz
    ·exact h2 z hz
    ·rw[List.mem_singleton.mp hz];exact⟨ow,hw⟩
   ·unfold vS;rw[Um,aJ,aE,Un,h3,bN,cG,
     show aD (rn (n+4) "_law_mixed") [(.ok (.fz (Li s))),(aB .Add (ofP (aF .Add (.int fi) (.int 1))) (.ok (.fz (.int q.length))))]=.ok (.fz (.int (bJ s (fi+1+q.length)))) from hV (n+2) s (fi+1+q.length),
     show aD (rn (n+4) "_law_fitting") [.ok (.fz (.int (bJ s (fi+1+q.length)))),.ok (.fz dn),.ok (.fz (NL N))]=.ok (.fz (enc w)) from e]
    show rb (ofP (if (a.1.map enc).length < bA then P.ok (PyData.list (a.1.map enc++[enc w])) else .no)) _=_;rw[if_pos (by rw[List.length_map,h1];have:bA=16777216:=rfl;exact Jx hK2 hqk this),aJ,aE,E3,show aD (rn (n+4) "_law_seen") [.ok (.fz (enc w)),.ok (.fz dn)]=.ok v from g1,aE,show a.1.map enc++[enc w]=(a.1++[w]).map enc from by simp]) ⟨rfl,fun w hw=>(by exact b5 hw),d,t,rfl,hd,rfl⟩
 obtain⟨⟨ws,v⟩,o,⟨h1,h2,dn,tn,_,_,h5⟩,e⟩ | ⟨_,hx,_⟩ | ⟨_,hv,_⟩:=L
 ·rw[List.nil_append,Eu] at h1;have h1:ws.length=K:=h1;refine(e _ _).symm▸?_;show FitV N 5 8 t (uS (n+4) (vS s fi d N ws v o none none) _ _);cases ws with
  |nil=>simp at h1;lia
  |cons w0 r =>
   have hl:r.length≤3:=by simp at h1;exact Jy hK2 h1
   unfold vS;rw[Uo,hV (n+2) s fi,show getItem (.list ((w0::r).map enc)) (.int 0)=.ok (.fz (enc w0)) from j5 (by decide) rfl,aJ,aE];refine bcs (((bJ s fi).fdiv 4).fmod 2==0) (fun hc=>?_) fun hc=>?_
   ·rw[show aC (aB .Mod (aB .FloorDiv (.ok (.fz (.int (bJ s fi)))) (.ok (.fz (.int 4)))) (.ok (.fz (.int 2)))) .Eq (.ok (.fz (.int 0)))=.ok (.fz (.bool false)) from hc▸by kernel_rfl];refine hde fun _ θ=>?_;obtain⟨ini,la,hil⟩:∃ ini la,w0::r=ini++[la]:=⟨(w0::r).dropLast,(w0::r).getLast (by simp),(List.dropLast_concat_getLast (by simp)).symm⟩
    apply θ;rw[hil] at h2 h5 ⊢;have hli:ini.length≤3:=by
     have:=congrArg List.length hil;rw[List.length_append,List.length_cons,List.length_singleton] at this;exact Jz hl this
    rw[dj,show[la].map enc=[enc la] from rfl,E3,
     show rvI (cF (.ok (.list (ini.map enc++[enc la]))) none (some (unS .USub (.ok (.fz (.int 1))))))=.ok (slice (ini.map enc++[enc la]) none (some (-1))).reverse from rfl,Yn,← List.map_reverse]
    refine hde fun _ θ=>?_;obtain⟨p,e3⟩:=Yl (N:=N) (n+4) (s:=s) (f:=fi) (tr:=d) (ws:=ini++[la]) (v:=v) (k:=o) ini.reverse la none;rw[List.foldl_reverse] at e3;obtain⟨i1,i2⟩:=E2 (h2 la (by simp)) fun x hx=>h2 x (ge _ hx);apply θ;refine⟨ini.foldr .andThen la,?_,i1.1,⟨aa i1.2.1 (by exact xU hli),aa i1.2.2 (by exact xV hli)⟩,tn,(i2 t).trans h5⟩;have:=e3 (fun σ=>uT (n+4) σ (fun _=>R.ok (.fz .none)) R.ok) R.ok;unfold vS at this;rw[dj,show[la].map enc=[enc la] from rfl] at this;refine Eq.trans this ?_;exact Uu ..
   ·rw[show aC (aB .Mod (aB .FloorDiv (.ok (.fz (.int (bJ s fi)))) (.ok (.fz (.int 4)))) (.ok (.fz (.int 2)))) .Eq (.ok (.fz (.int 0)))=.ok (.fz (.bool true)) from hc▸by kernel_rfl,
     show plI (cF (.ok (.list ((w0::r).map enc))) (some (.ok (.fz (.int 1)))) none)=.ok (slice ((w0::r).map enc) (some 1) none) from rfl,List.map_cons,Ym]
    refine hde fun _ θ=>?_;obtain⟨p,e2⟩:=Yk (N:=N) (n+4) (s:=s) (f:=fi) (tr:=d) (ws:=w0::r) (v:=v) (k:=o) r w0 none;obtain⟨i1,i2⟩:=Ez (ay 2) (h2 w0 (by simp)) fun x hx=>h2 x (ae _ hx);apply θ;refine⟨r.foldl .andThen w0,?_,i1.1,⟨aa i1.2.1 (by exact xU hl),aa i1.2.2 (by exact xV hl)⟩,tn,(i2 t).trans h5⟩;refine(e2 _ _).trans ?_;unfold vS;exact Ur ..
 ·exact hx.elim
 ·exact hv.elim
variable {N:List Str} {m:Nat}
theorem Gives.ite{P:PyData→Prop}{c a b:R V}{t:Bool}(hc:c=.ok (.fz (.bool t)))(ha:t=true→Gives a P)(hb:t=false→Gives b P):Gives (ifS c a b) P:=by
 rw[hc];cases t with
 |true=>exact ha rfl
 |false=>exact hb rfl
theorem Yp(H:Wl4 N){n:Nat}{l:LP}{f:Str→Option TT}(B:Bld N m l f)(hn:m≤n):∃ l',rn (n+2) "_law_copy" [.fz (.dict (mkd l))]=.ok (.own (.dict (mkd l')))∧Bld N m l' f:=by
 obtain⟨l',e,C⟩:=jW (N:=N) (m:=m) (F:=f) (t:=fun _=>.ok true) (e:=fun d1=>aM [.ok (.fz d1),aD (rn (n+1) "_law_copy") [ofP (getItem (.dict (mkd l)) d1)]]) (xs:=ks l) (by rw[c7];exact B.lt H.w (by decide)) fun k hk=>by
  obtain⟨d,u,h1,h2,h3⟩:=B.key hk;obtain⟨v,d',e1,e2,e3⟩:=hJ H.w h3 hn;refine⟨B.sub k hk,.inr ⟨rfl,.fz (.tuple [.str k,d']),d',u,?_,rfl,h2,e3⟩⟩;rw[a9 h1];exact fR _ e1 e2
 refine⟨l',?_,B.all (fun _ h=>h) C⟩;rw[lI,bO,aJ,e];rfl
theorem Yq{a b:PyData}{i:Int}(h:0≤i∧i < 2):∃ d,getItem (.list [a,b]) (.int i)=.ok (.fz d)∧(d=a∨d=b):=by
 have:i=0∨i=1:=by exact mY h
 rcases this with rfl | rfl
 ·exact⟨a,rfl,.inl rfl⟩
 ·exact⟨b,rfl,.inr rfl⟩
theorem wU{a b:R V}{va vb:V}{da db:PyData}(ha:a=.ok va)(hva:va.cl=.fz da)(hb:b=.ok vb)(hvb:vb.cl=.fz db){e:R V}{i:Int}(he:e=.ok (.fz (.int i)))(h:0≤i∧i < 2):∃ d,aG (cU (cA [a,b])) e=.ok (.fz d)∧(d=da∨d=db):=by
 obtain⟨d,h1,h2⟩:=Yq (a:=da) (b:=db) h;refine⟨d,?_,h2⟩;rw[ha,hb,he];show ofP (getItem (.list [dOf va.cl,dOf vb.cl]) (.int i))=_;rw[hva,hvb];exact congrArg ofP h1
theorem Yr{a b c:R V}{va vb vc:V}{da db dc:PyData}(ha:a=.ok va)(hva:va.cl=.fz da)(hb:b=.ok vb)(hvb:vb.cl=.fz db)(hc:c=.ok vc)(hvc:vc.cl=.fz dc){e:R V}{i:Int}(he:e=.ok (.fz (.int i)))(h:0≤i∧i < 3):∃ d,aG (cU (cA [a,b,c])) e=.ok (.fz d)∧(d=da∨d=db∨d=dc):=by
 obtain⟨d,h1,h2⟩:=Ek (a:=da) (b:=db) (c:=dc) h;refine⟨d,?_,h2⟩;rw[ha,hb,hc,he];show ofP (getItem (.list [dOf va.cl,dOf vb.cl,dOf vc.cl]) (.int i))=_;rw[hva,hvb,hvc];exact congrArg ofP h1
set_option maxHeartbeats 1000000 in
theorem E4(H:Wl4 N):∀ {m n:Nat} {c:Int} {d:PyData},Tr N m d→m+3≤n→Gives (rn (n+1) "_law_other" [.fz d,.fz (.int c),.fz (NL N)]) fun d'=>Tr N (m+1) d':=by
 intro m
 induction m using Nat.strongRecOn with
 |_ m ih =>
 intro n c d hd hn;refine exnE (c:=2) n hn hn fun n hn=>?_;rw[Uv,show aF .Mod (.int c) (.int 8)=.ok (.fz (.int (c.fmod 8))) from fS _ (by decide),show aF .FloorDiv (.int c) (.int 8)=.ok (.fz (.int (c.fdiv 8))) from iT _ (by decide)];simp only[aJ,aE,bN,b6,cG];generalize c.fmod 8=K;generalize c.fdiv 8=M;obtain⟨t,hs⟩:=hd;refine Gives.ite (t:=K==0) (by kernel_rfl) (fun _=>?_) fun _=>?_
 ·obtain⟨v,d',e1,e2,e3⟩:=(hJ H.w hs (n:=n+1) (by exact J0 hn)).rb;exact⟨v,d',e1,e2,t,e3.mono (ai _)⟩
 obtain⟨vn,an,bn⟩:=qN (n+1) M;have r14:=aT M (n:=14) (by decide);obtain⟨y14,m14,_,g14⟩:=iU H (e:=aB .Mod (.ok (.fz (.int M))) (.ok (.fz (.int 14)))) (i:=M.fmod 14) (by kernel_rfl) r14;have place:Gives (rb (aG (cU (cA [aD (rn (n+2) "_law_number") [.ok (.fz (.int M))],.ok (.own (.dict [])),cO [(aG (.ok (NL N)) (aB .Mod (.ok (.fz (.int M))) (.ok (.fz (.int 14)))),.ok (.fz (.int 1)))]])) (aB .Mod (aB .FloorDiv (.ok (.fz (.int M))) (.ok (.fz (.int 14)))) (.ok (.fz (.int 3))))) R.ok) fun d'=>Tr N (m+1) d':=by
  rw[g14,mT y14 (r:=.ok (.fz (.int 1))) rfl rfl];obtain⟨d,e,hd⟩:=Yr (a:=aD (rn (n+2) "_law_number") [.ok (.fz (.int M))]) an rfl (b:=.ok (.own (.dict []))) rfl rfl (c:=.ok (.own (.dict (mkd (sts [(y14,.int 1)] []))))) rfl rfl (e:=aB .Mod (aB .FloorDiv (.ok (.fz (.int M))) (.ok (.fz (.int 14)))) (.ok (.fz (.int 3)))) (i:=(M.fdiv 14).fmod 3) (by kernel_rfl) (aT _ (by decide));rw[e];refine⟨_,d,rfl,rfl,?_⟩;rcases hd with rfl | rfl | rfl
  ·exact .int bn
  ·exact Tr.mono (BT.toTr (m:=0) (l:=[]) BT.nil) (by exact m9)
  ·exact Tr.mono (BT.toTr (m:=0) ((BT.nil (m:=0)).set m14 (.int (i:=1) (by decide)))) (by exact m9)
 obtain⟨i,_⟩ | ⟨m,l,f,B⟩:=hs.inv
 ·exact place
 refine Gives.ite (t:=K==1&&M.fmod 3==0) (by
  rw[show aC (R.ok (V.fz (.int K))) .Eq (.ok (.fz (.int 1)))=.ok (.fz (.bool (K==1))) from by kernel_rfl];cases (K==1)<;>kernel_rfl) (fun _=>place) fun _=>?_
 refine hde fun _ θ=>?_;obtain⟨l',ec,C⟩:=Yp H B (n:=n) (by exact J1 hn);apply θ;rw[ec,mU H B];simp only[aE,gC,bN,b6,aJ,cG,l8,mB];have hmem:∀ x∈aZ (ks l),x∈ks l:=fun x hx=>cR.mp hx;generalize aZ (ks l)=S at hmem;have C1:=C.mono (ai m);have putIn:∀ {x:Str} {d:PyData} {r:R V} {v:V} {k:R V},r=.ok v→v.cl=.fz d→x∈N→Tr N (m+1) d→k=.ok (.fz (.str x))→Gives (bD r (.ok (.dict (mkd l'))) k fun o=>R.ok (.own o)) fun d'=>Tr N (m+1+1) d':=fun {x d r v k} h1 h2 h3 h4 h5=>by
  obtain⟨t,h4⟩:=h4;refine⟨.own (.dict (mkd (st l' x d))),_,?_,rfl,_,(C1.set h3 h4).toSem⟩;rw[h1,h5];show rb (ofP (Internal.setItem (.dict (mkd l')) (.str x) (dOf v))) _=_;rw[eZ h2,b7 x d (C.lt H.w (by decide))];rfl
 refine Gives.ite (t:=K==2||S.isEmpty) (by
  rw[show aC (R.ok (V.fz (.int K))) .Eq (.ok (.fz (.int 2)))=.ok (.fz (.bool (K==2))) from by kernel_rfl,show aC (R.ok (V.fz (.list (S.map .str)))) .Eq (.ok (.own (.list [])))=.ok (.fz (.bool S.isEmpty)) from (congrArg (fun p=>aN (ofP p)) (jX S)).trans rfl];cases (K==2)<;>rfl) (fun _=>?_) fun ht=>?_
 ·obtain⟨x5,m5,_,g5⟩:=cS H (i:=5) (by decide);refine hde fun _ θ=>?_;obtain⟨x6,m6,_,g6⟩:=cS H (i:=6) (by decide);obtain⟨x7,m7,_,g7⟩:=cS H (i:=7) (by decide);obtain⟨x8,m8,_,g8⟩:=cS H (i:=8) (by decide);apply θ;have r9:=aT M (n:=9) (by decide);have r9':=aT (M.fdiv 9) (n:=9) (by decide);rw[g5,g6,g7,g8];simp only[aJ];rw[show cO [(.ok (.fz (.str x5)),aB .Sub (aB .Mod (.ok (.fz (.int M))) (.ok (.fz (.int 9)))) (.ok (.fz (.int 2)))),(.ok (.fz (.str x7)),aB .Sub (aB .Mod (aB .FloorDiv (.ok (.fz (.int M))) (.ok (.fz (.int 9)))) (.ok (.fz (.int 9)))) (.ok (.fz (.int 2)))),(.ok (.fz (.str x6)),.ok (.fz (.int 2))),(.ok (.fz (.str x8)),.ok (.fz (.int 3)))]=.ok (.own (.dict (mkd (sts [(x5,.int (M.fmod 9 - 2)),(x7,.int ((M.fdiv 9).fmod 9 - 2)),(x6,.int 2),(x8,.int 3)] [])))) from
   (by kernel_rfl:_=ofP (iZ (mkd [(x5,.int (M.fmod 9 - 2)),(x7,.int ((M.fdiv 9).fmod 9 - 2)),(x6,.int 2),(x8,.int 3)]))).trans (congrArg ofP (wK _))]
  have Brow:BT N 0 (sts [(x5,.int (M.fmod 9 - 2)),(x7,.int ((M.fdiv 9).fmod 9 - 2)),(x6,.int 2),(x8,.int 3)] []) :=
   (((BT.nil.set m5 (.int (i:=M.fmod 9 - 2) (nbs r9 (by decide)))).set m7 (.int (i:=(M.fdiv 9).fmod 9 - 2) (nbs r9' (by decide)))).set m6 (.int (i:=2) (by decide))).set m8 (.int (i:=3) (by decide))
  generalize sts [(x5,.int (M.fmod 9 - 2)),(x7,.int ((M.fdiv 9).fmod 9 - 2)),(x6,.int 2),(x8,.int 3)] []=rowl at Brow;simp only[aE,gC,b6,aJ];have r4:=aT (M.fdiv 81) (n:=4) (by decide);have r14':=aT (M.fdiv 81) (n:=14) (by decide);refine hde fun _ θ=>?_;obtain⟨di,ei,hi⟩:=wU (a:=aB .Add (.ok (.fz (.int 9))) (aB .Mod (aB .FloorDiv (.ok (.fz (.int M))) (.ok (.fz (.int 81)))) (.ok (.fz (.int 4))))) (va:=.fz (.int (9+(M.fdiv 81).fmod 4))) (by kernel_rfl) rfl (b:=aB .Mod (aB .FloorDiv (.ok (.fz (.int M))) (.ok (.fz (.int 81)))) (.ok (.fz (.int 14)))) (vb:=.fz (.int ((M.fdiv 81).fmod 14))) (by kernel_rfl) rfl (e:=aB .Mod (.ok (.fz (.int M))) (.ok (.fz (.int 2)))) (i:=M.fmod 2) (by kernel_rfl) (aT _ (by decide));obtain⟨ii,hii,rfl⟩:∃ ii:Int,(0≤ii∧ii < 14)∧di=.int ii:=by
   rcases hi with rfl | rfl
   ·exact⟨_,by exact xL r4,rfl⟩
   ·exact⟨_,r14',rfl⟩
  obtain⟨y,my,_,gy⟩:=iU H ei hii;apply θ;rw[gy];simp only[aE,b6,aJ];obtain⟨dv,ev,hv⟩:=wU (a:=.ok (.fz (.dict (mkd rowl)))) (va:=.fz (.dict (mkd rowl))) rfl rfl (b:=aB .Mod (.ok (.fz (.int M))) (.ok (.fz (.int 7)))) (vb:=.fz (.int (M.fmod 7))) (by kernel_rfl) rfl (e:=aK gF (aC (aB .Mod (aB .FloorDiv (.ok (.fz (.int M))) (.ok (.fz (.int 3)))) (.ok (.fz (.int 5)))) .Eq (.ok (.fz (.int 1))))) (i:=if ((M.fdiv 3).fmod 5==1)=true then 1 else 0) (by kernel_rfl) (by split<;>decide);refine putIn ev rfl my ?_ rfl;have r7:=aT M (n:=7) (by decide);rcases hv with rfl | rfl
  ·exact Brow.toTr.mono (by exact m9)
  ·exact .int (nb0 r7 (by decide))
 have hS:S≠[]:=fun e=>by rw[e] at ht;simp at ht
 refine hde fun _ θ=>?_;obtain⟨x,hx,ex⟩:=qQ hS M;obtain⟨dx,tx,q1,q2,q3⟩:=B.key (hmem x hx);obtain⟨dx',q4,q5⟩:=C.get q2;apply θ;have mx:=B.sub x (hmem x hx);rw[ex];simp only[aE,bN,b6,aJ];refine Gives.ite (t:=K==3) (by kernel_rfl) (fun _=>?_) fun _=>?_
 ·refine⟨.own (.dict (mkd (dl l' x))),_,?_,rfl,_,(C1.del x).toSem⟩;show rb (ofP (if (bS (mkd l') x).isSome then P.ok (PyData.dict (dK (mkd l') x)) else .no)) _=_;rw[gS,q4,uZ];rfl
 refine Gives.ite (t:=K==4) (by kernel_rfl) (fun _=>?_) fun _=>?_
 ·obtain⟨y,my,_,gy⟩:=iU H (e:=aB .Mod (aB .FloorDiv (.ok (.fz (.int M))) (.ok (.fz (.int 16)))) (.ok (.fz (.int 14)))) (i:=(M.fdiv 16).fmod 14) (by kernel_rfl) (aT _ (by decide));refine⟨.own (.dict (mkd (st (dl l' x) y dx'))),_,?_,rfl,_,((C1.del x).set my (q5.mono (ai _))).toSem⟩;rw[gy,show(P.ok (PyData.dict (mkd l'))).bind nU=.ok (mkd l') from rfl];show rb (ofP ((ofO (bS (mkd l') x)).bind fun d=>P.ok (d,PyData.dict (dK (mkd l') x)))) _=_;rw[gS,q4,uZ];show rb (ofP (Internal.setItem (.dict (mkd (dl l' x))) (.str y) dx')) _=_;rw[b7 y dx' ((C.del x).lt H.w (by decide))];rfl
 refine Gives.ite (t:=K==5) (by kernel_rfl) (fun _=>?_) fun _=>?_
 ·obtain⟨dv,ev,hv⟩:=wU (a:=aD (rn (n+2) "_law_number") [.ok (.fz (.int M))]) an rfl (b:=.ok (.own (.dict []))) (vb:=.own (.dict [])) rfl rfl (e:=aB .Mod (aB .FloorDiv (.ok (.fz (.int M))) (.ok (.fz (.int 8)))) (.ok (.fz (.int 2)))) (i:=(M.fdiv 8).fmod 2) (by kernel_rfl) (aT _ (by decide));refine putIn ev rfl mx ?_ rfl;rcases hv with rfl | rfl
  ·exact .int bn
  ·exact Tr.mono (BT.toTr (m:=0) (l:=[]) BT.nil) (by exact m9)
 obtain⟨v,d',e1,e2,e3⟩:=ih m (dy m) (n:=n+1) (c:=M.fdiv 8) ⟨tx,q3⟩ (by exact J2 hn);refine putIn (v:=v) ?_ e2 mx e3 rfl;rw[show aG (.ok (.dict (mkd l))) (.ok (.fz (.str x)))=.ok (.fz dx) from congrArg ofP (a9 q1)];exact(by kernel_rfl:_=rn (n+2) "_law_other" [.fz dx,.fz (.int (M.fdiv 8)),.fz (NL N)]).trans e1
variable {N:List Str}
inductive RowAt:WW→Str→WW→Prop where
 |hd (x p:Str) (v r:WW):RowAt (.bcons x p v r) x v
 |tl (y p:Str) (u:WW) {r:WW} {x:Str} {v:WW} (h:RowAt r x v):RowAt (.bcons y p u r) x v
inductive At:WW→List PyData→WW→Prop where
 |nil (w:WW):At w [] w
 |th0 {a p:WW} {l:List PyData} (b:WW) (h:At a l p):At (.andThen a b) (.int 0::l) p
 |th1 (a:WW) {b p:WW} {l:List PyData} (h:At b l p):At (.andThen a b) (.int 1::l) p
 |each {v p:WW} {l:List PyData} (x:Str) (h:At v l p):At (.each v) (.str x::l) p
 |row {r v p:WW} {x:Str} {l:List PyData} (hr:RowAt r x v) (h:At v l p):At (.beside r) (.str x::l) p
theorem RowAt.mem{r v:WW}{x:Str}(h:RowAt r x v):x∈r.names:=by
 induction h with
 |hd x p v r=>exact ah
 |tl y p u _ ih=>exact ae _ ih
structure Sub1(N:List Str)(h:Nat)(v:WW):Prop where
 ok:okW N v
 nr:v.isRows=false
 hg:v.hgt≤h
theorem RowAt.ok{r v:WW}{x:Str}(h:RowAt r x v):okW N r→Sub1 N r.hgt v:=by
 induction h with
 |hd x p v r=>exact fun o=>⟨o.2.1.1,o.2.1.2,bu _ _⟩
 |tl y p u _ ih=>exact fun o=>by obtain⟨a,b,c⟩:=ih o.2.2.1.1;exact⟨a,b,aa c (cb _ _)⟩
theorem At.ok{w p:WW}{l:List PyData}(h:At w l p):okW N w→w.isRows=false→Sub1 N w.hgt p∧l.length≤w.hgt:=by
 induction h with
 |nil w=>exact fun o r=>⟨⟨o,r,ay _⟩,aj _⟩
 |th0 b h ih=>exact fun o r=>by obtain⟨⟨a1,a2,a3⟩,a4⟩:=ih o.1.1 o.1.2;exact⟨⟨a1,a2,bp (aa a3 (bu _ _))⟩,am (aa a4 (bu _ _))⟩
 |th1 a h ih=>exact fun o r=>by obtain⟨⟨a1,a2,a3⟩,a4⟩:=ih o.2.1 o.2.2;exact⟨⟨a1,a2,bp (aa a3 (cb _ _))⟩,am (aa a4 (cb _ _))⟩
 |each x h ih=>exact fun o r=>by obtain⟨⟨a1,a2,a3⟩,a4⟩:=ih o.1 o.2;exact⟨⟨a1,a2,bp a3⟩,am a4⟩
 |row hr h ih=>exact fun o r=>by obtain⟨b1,b2,b3⟩:=hr.ok o.1.1;obtain⟨⟨a1,a2,a3⟩,a4⟩:=ih b1 b2;exact⟨⟨a1,a2,bp (aa a3 b3)⟩,am (aa a4 b3)⟩
noncomputable def pS(w:WW)(way:PyData)(o:Option V):aA:=eL (ζ (enc w)) (ζ way) o
theorem Ys(n:Nat)(a b:WW)(x:PyData)(kn:KN)(kr:KR):eA n (pS (.andThen a b) x (ζ (.int 0))) kn kr=kn (pS a x (ζ (.int 0))):=by kernel_rfl
theorem Yt(n:Nat)(a b:WW)(x:PyData)(kn:KN)(kr:KR):eA n (pS (.andThen a b) x (ζ (.int 1))) kn kr=kn (pS b x (ζ (.int 1))):=by kernel_rfl
theorem Yu(n:Nat)(v:WW)(x d:PyData)(kn:KN)(kr:KR):eA n (pS (.each v) x (ζ d)) kn kr=kn (pS v x (ζ d)):=by kernel_rfl
noncomputable def fT(x:Str)(l:List PyData):R (List PyData):=aX (fun d3=>tst (aC (ofP (getItem d3 (.int 0))) .Eq (.ok (.fz (.str x))))) (fun d3=>ofP (getItem d3 (.int 2))) l
theorem Yv(n:Nat)(l:List PyData)(x:Str)(y:PyData)(kn:KN)(kr:KR):eA n (eL (ζ (.tuple [.str (so "beside"),.tuple l])) (ζ y) (ζ (.str x))) kn kr=rb (rb (fT x l) fun r=>ofP (getItem (.list r) (.int 0))) fun v=>kn (eL (some v) (ζ y) (ζ (.str x))):=by
 simp only[Rv];rw[show aC (aG (aU (.fz (.tuple [.str (so "beside"),.tuple l]))) (.ok (.fz (.int 0)))) .Eq (.ok (.fz (.str (so "then"))))=.ok (.fz (.bool false)) from by kernel_rfl,
  show aC (aG (aU (.fz (.tuple [.str (so "beside"),.tuple l]))) (.ok (.fz (.int 0)))) .Eq (.ok (.fz (.str (so "each"))))=.ok (.fz (.bool false)) from by kernel_rfl]
 show rb (rb (rb (rb (fT x l) fun r=>ofP (own (.list r))) fun v=>.ok (dOf v)) fun a=>ofP (getItem a (.int 0))) _=_;cases fT x l<;>rfl
theorem wV(a b:Str)(v:PyData)(x:Str)(l:List PyData):fT x (.tuple [.str a,.str b,v]::l)=if (a==x)=true then rb (fT x l) fun xs=>.ok (v::xs) else fT x l:=by
 show rb (nx (R.ok (a==x))) (fun t=>if t then rb (nx (R.ok (V.fz v))) fun u=>rb (fT x l) fun xs=>.ok (dOf u::xs) else fT x l)=_;cases (a==x)<;>rfl
theorem Yw{r:WW}(x:Str):r.isRows=true→okW N r→∃ xs,fT x (aY r)=.ok xs:=by
 induction r with
 |bnil=>exact fun _ _=>⟨[],rfl⟩
 |bcons a b v r _ ih =>
  intro _ o;obtain⟨xs,e⟩:=ih o.2.2.1.2 o.2.2.1.1;simp only[show aY (.bcons a b v r)=.tuple [.str a,.str b,enc v]::aY r from rfl,wV,e];cases (a==x)
  ·exact⟨xs,rfl⟩
  ·exact⟨enc v::xs,rfl⟩
 |_=>exact fun h=>bft h
theorem Yx{r v:WW}{x:Str}(h:RowAt r x v):okW N r→∃ xs,fT x (aY r)=.ok (enc v::xs):=by
 induction h with
 |hd x p v r =>
  intro o;obtain⟨xs,e⟩:=Yw x o.2.2.1.2 o.2.2.1.1;simp only[show aY (.bcons x p v r)=.tuple [.str x,.str p,enc v]::aY r from rfl,wV,e,if_pos (beq_self_eq_true x)];exact⟨xs,rfl⟩
 | @tl y p u r x v h ih =>
  intro o;obtain⟨xs,e⟩:=ih o.2.2.1.1;simp only[show aY (.bcons y p u r)=.tuple [.str y,.str p,enc u]::aY r from rfl,wV,e,if_neg (fun (e:(y==x)=true)=>o.2.2.2.1 ((eq_of_beq e:y=x)▸h.mem))];exact⟨xs,rfl⟩
theorem Yy(n:Nat)(way:PyData){w p:WW}{l:List PyData}(h:At w l p):okW N w→∀ o,∃ o',∀ kn kr,aQ (eA n) gM l (pS w way o) kn kr=kn (pS p way o'):=by
 have st:∀ (d:PyData) (r:List PyData) (w:WW) (o:Option V) (kn:KN) (kr:KR),aQ (eA n) gM (d::r) (pS w way o) kn kr=eA n (pS w way (ζ d)) (fun σ=>aQ (eA n) gM r σ kn kr) kr:=fun d r w o kn kr=>by
  show rb (ofP (aR gM d (eL (ζ (enc w)) (ζ way) o))) (fun σ=>eA n σ (fun σ=>aQ (eA n) gM r σ kn kr) kr)=_;simp only[Ru];rfl
 induction h with
 |nil w=>exact fun _ o=>⟨o,fun _ _=>rfl⟩
 |th0 b h ih=>exact fun ok o=>by obtain⟨o',e⟩:=ih ok.1.1 (ζ (.int 0));exact⟨o',fun kn kr=>by simp only[st,Ys];exact e kn kr⟩
 |th1 a h ih=>exact fun ok o=>by obtain⟨o',e⟩:=ih ok.2.1 (ζ (.int 1));exact⟨o',fun kn kr=>by simp only[st,Yt];exact e kn kr⟩
 |each x h ih=>exact fun ok o=>by obtain⟨o',e⟩:=ih ok.1 (ζ (.str x));exact⟨o',fun kn kr=>by simp only[st,Yu];exact e kn kr⟩
 | @row r v p x l hr h ih =>
  intro ok o;obtain⟨o',e⟩:=ih (hr.ok ok.1.1).ok (ζ (.str x));obtain⟨xs,e2⟩:=Yx hr ok.1.1;refine⟨o',fun kn kr=>?_⟩;simp only[st];unfold pS;simp only[show enc (.beside r)=.tuple [.str (so "beside"),.tuple (aY r)] from (congrArg (fun d=>PyData.tuple [.str (so "beside"),d]) (gV ok.1.2)),Yv,e2,aE,show getItem (.list (enc v::xs)) (.int 0)=.ok (.fz (enc v)) from j5 (Int.le_refl 0) rfl];exact e kn kr
theorem wW(n:Nat){w p:WW}{l:List PyData}(h:At w l p)(o:okW N w):rn (n+1) "piece_at" [.fz (enc w),.fz (.list l)]=.ok (.fz (enc p)):=by
 obtain⟨o',e⟩:=Yy n (.list l) h o none;rw[Rt];show aQ (eA n) gM l (pS w (.list l) none) _ _=_;rw[e];unfold pS;rw[Rw];rfl
variable {N:List Str}
def okP:WW→TT→Prop
 | .call a b,t=>(t.get b).isSome=true∧t.get a=none
 | .sift a l,t=>jS a l t
 | .join _ _ _,t=>jT t
 | .each _,t=>∃ h,t=.br h
 | .beside r,t=>∃ h,t=.br h∧∀ k,(h k).isSome=true↔k∈r.names
 |_,_=>True
inductive RefAt(p:WW)(k:Str)(t:TT):Prop where
 |form (e:k=dI) (h:¬ okP p t):RefAt p k t
 |sift (a:Str) (l:Int) (e:k=dC) (q:p=.sift a l) (h:okP p t):RefAt p k t
 |join (a b:Str) (fs:List Str) (e:k=dC) (q:p=.join a b fs) (h:okP p t):RefAt p k t
 |each (v:WW) (e:k=lU) (q:p=.each v) (h:okP p t):RefAt p k t
inductive RA(w:WW)(t b:TT):Prop where
 |mk (wl:List PyData) (p:WW) (k:Str) (u:TT) (e:∀ way,a8 w t b way=⟨way++wl,k,u⟩) (a:At w wl p) (h:RefAt p k u):RA w t b
inductive RB(w:WW)(t b:TT):Prop where
 |mk (x:Str) (v:WW) (wl:List PyData) (p:WW) (k:Str) (u:TT) (e:∀ way,a8 w t b way=⟨way++.str x::wl,k,u⟩) (r:RowAt w x v) (a:At v wl p) (h:RefAt p k u):RB w t b
theorem Yz(way:List PyData)(k:Str)(u:TT):(⟨way,k,u⟩:Rf)=⟨way++[],k,u⟩:=by rw[List.append_nil]
theorem qR{way wl:List PyData}{x:PyData}{k:Str}{u:TT}{r:Rf}(h:r=⟨way++[x]++wl,k,u⟩):r=⟨way++x::wl,k,u⟩:=by rw[h,List.append_assoc];rfl
theorem RA.top{w:WW}{t b u:TT}{k:Str}(e:∀ way,a8 w t b way=⟨way,k,u⟩)(h:RefAt w k u):RA w t b:=⟨[],w,k,u,fun way=>(e way).trans (Yz way k u),.nil w,h⟩
theorem RA.frm{w:WW}{t b:TT}(e:∀ way,a8 w t b way=⟨way,frm (okP w b) dC,b⟩)(h:okP w b→RefAt w dC b):RA w t b:=by
 by_cases hp:okP w b
 ·exact RA.top (fun way=>by rw[e,uY hp]) (h hp)
 ·exact RA.top (fun way=>by rw[e,lV hp]) (.form rfl hp)
theorem Y0{P:Str→Prop}:∀ {xs:List Str},xs.Pairwise ltS→(∀ k,P k→k∈xs)→∀ {k:Str},P k→∃ j,Lst P j:=by
 intro xs
 induction xs with
 |nil=>exact fun _ h k hk=>b5 (h k hk)
 |cons x xs ih =>
  intro hs h k hk;obtain⟨h1,h2⟩:=ce.mp hs
  by_cases hx:P x
  ·refine⟨x,hx,fun j hj hp=>?_⟩;rcases List.mem_cons.mp (h j hp) with rfl | hm
   ·exact gZ _ hj
   ·exact gZ _ (qI hj (h1 j hm))
  ·refine ih h2 (fun j hj=>?_) hk;rcases List.mem_cons.mp (h j hj) with rfl | hm
   ·exact absurd hj hx
   ·exact hm
inductive Dom(N:List Str)(t:TT):Prop where
 |mk (m:Nat) (d:PyData) (h:Sem N m d t):Dom N t
theorem Dom.lst{f:Str→Option TT}(h:Dom N (.br f)){P:Str→Prop}(hP:∀ k,P k→(f k).isSome=true){k:Str}(hk:P k):Lst P (lst P):=by
 obtain⟨m,d,h⟩:=h;obtain⟨m,l,_,_,B⟩:=h.br_inv';obtain⟨j,hj⟩:=Y0 (mM B.nd) (fun k hk=>cR.mpr (B.mem.mpr (hP k hk))) hk;simp only[C6 vV hj];exact hj
theorem Dom.sub{f:Str→Option TT}(h:Dom N (.br f)){k:Str}{t:TT}(hk:f k=some t):Dom N t:=by
 obtain⟨m,d,h⟩:=h;obtain⟨m,l,_,_,B⟩:=h.br_inv';obtain⟨d,_,g⟩:=B.get hk;exact⟨m,d,g⟩
theorem Dom.get{t u:TT}(h:Dom N t){k:Str}(hk:t.get k=some u):Dom N u:=by
 cases t with
 |num i=>exact ns hk
 |br f=>exact h.sub hk
theorem Dom.shown(H:Wld N){w:WW}(ho:okW N w)(hr:w.isRows=false){t s:TT}(h:Dom N t)(hs:aI w t=some s):Dom N s:=by
 obtain⟨m,d,h⟩:=h;obtain⟨_,d',_,_,g⟩:=(qH H ho).1 hr (ay _) h hs;exact⟨m,d',g⟩
def Y6(N:List Str)(w:WW):Prop:=∀ t b s,Dom N t→aI w t=some s→aP w t b=none→RA w t b
def Y7(N:List Str)(w:WW):Prop:=∀ t b s,Dom N t→aI w t=some s→(∀ k∈w.names,(b.get k).isSome=true)→aP w t b=none→RB w t b
structure RefS(N:List Str)(w:WW):Prop where
 a:w.isRows=false→Y6 N w
 b:w.isRows=true→Y7 N w
theorem mV{α β:Type}{o:Option α}{k:α→Option β}{x:α}(e:o=some x)(h:o.bind k=none):k x=none:=by rw[e] at h;exact h
theorem E5{α:Type}{p:Prop}{x:α}(h:grd p (some x)=none):¬ p:=fun hp=>sn (by rw[cB hp] at h;exact h)
theorem Y8(H:Wld N):∀ {w:WW},okW N w→RefS N w:=by
 intro w
 induction w with
 |whole=>exact fun _=>⟨fun _ t b s _ _ h=>sn h,fun h=>bft h⟩
 |pick n=>exact fun _=>⟨fun _ t b s _ _ h=>sn h,fun h=>bft h⟩
 |call x y=>exact fun _=>⟨fun _ t b s _ _ h=>RA.top (fun _=>rfl) (.form rfl (E5 h)),fun h=>bft h⟩
 |sift x l=>exact fun _=>⟨fun _ t b s _ _ h=>RA.frm (fun _=>rfl) fun h=>.sift x l rfl rfl h,fun h=>bft h⟩
 |join x y fs=>exact fun _=>⟨fun _ t b s _ _ h=>RA.frm (fun _=>rfl) fun h=>.join x y fs rfl rfl h,fun h=>bft h⟩
 |each v ih =>
  refine fun ho=>⟨fun _ t b s hd hs h=>?_,fun h=>bft h⟩
  cases b with
  |num i=>exact RA.top (fun _=>rfl) (.form rfl fun ⟨_,e⟩=>by cases e)
  |br q =>
   by_cases hc:∀ k,(q k).isSome=(t.get k).isSome
   case neg=>exact RA.top (fun way=>pT hc _ _) (.each v rfl rfl ⟨q,rfl⟩)
   cases t with
   |num i=>exact ns hs
   |br f =>
    refine hde fun _ θ=>?_;obtain⟨hs,_⟩:=dN hs;have hx:∃ k x y,f k=some x∧q k=some y∧aP v x y=none:=Classical.byContradiction fun hn=>E5 h ⟨hc,fun k x y h1 h2=>by
     cases e:aP v x y with
     |none=>exact absurd ⟨k,x,y,h1,h2,e⟩ hn
     |some z=>rfl⟩
    obtain⟨k,hk⟩:=hx;obtain⟨⟨x,y,h1,h2,h3⟩,_⟩:=hd.lst (P:=fun k=>∃ x y,f k=some x∧q k=some y∧aP v x y=none) (fun k ⟨x,y,h1,_⟩=>by rw[h1];rfl) hk;obtain⟨s',hs'⟩:=eM (hs _ x h1);obtain⟨wl,p,kd,u,e,a,g⟩:=(ih ho.1).a ho.2 x y s' (hd.sub h1) hs' h3;apply θ;refine⟨.str (eB v f q)::wl,p,kd,u,fun way=>qR (((lW hc _ _).trans ?_).trans (e _)),.each _ a,g⟩;show(((f (eB v f q)).bind fun x=>(q (eB v f q)).map fun y=>a8 v x y (way++[.str (eB v f q)])).getD _)=_;rw[show f (eB v f q)=some x from h1,show q (eB v f q)=some y from h2];rfl
 |andThen a b iha ihb =>
  refine fun ho=>⟨fun _ t c s hd hs h=>?_,fun h=>bft h⟩
  obtain⟨m,h1,h2⟩:=dH hs;have hp:=mV h1 h;have e0:∀ way,a8 (.andThen a b) t c way=(aP b m c).elim (a8 b m c (way++[.int 1])) fun mid=>a8 a t mid (way++[.int 0]):=fun way=>by
   show(aI a t).elim _ _=_;rw[h1];rfl
  cases hb:aP b m c with
  |none =>
   obtain⟨wl,p,kd,u,e,x,g⟩:=(ihb ho.2.1).a ho.2.2 m c s (hd.shown H ho.1.1 ho.1.2 h1) h2 hb;exact⟨.int 1::wl,p,kd,u,fun way=>qR (((e0 way).trans (by rw[hb];rfl)).trans (e _)),.th1 a x,g⟩
  |some mid =>
   obtain⟨wl,p,kd,u,e,x,g⟩:=(iha ho.1.1).a ho.1.2 t mid m hd h1 (mV hb hp);exact⟨.int 0::wl,p,kd,u,fun way=>qR (((e0 way).trans (by rw[hb];rfl)).trans (e _)),.th0 b x,g⟩
 |beside r ih =>
  refine fun ho=>⟨fun _ t b s hd hs h=>?_,fun h=>bft h⟩
  cases b with
  |num i=>exact RA.top (fun _=>rfl) (.form rfl fun ⟨_,e,_⟩=>by cases e)
  |br q =>
   by_cases hc:∀ k,(q k).isSome=true↔k∈r.names
   case neg=>exact RA.top (fun way=>pT hc _ _) (.form rfl fun ⟨_,e,g⟩=>by cases e;exact hc g)
   obtain⟨x,v,wl,p,kd,u,e,ra,a,g⟩:=(ih ho.1.1).b ho.1.2 t (.br q) s hd hs (fun k hk=>(hc k).mpr hk) ((cB hc _).symm.trans h);exact⟨.str x::wl,p,kd,u,fun way=>(lW hc _ _).trans (e way),.row ra a,g⟩
 |bnil=>exact fun _=>⟨fun h=>btf h,fun _ t b s _ _ _ h=>sn h⟩
 |bcons x y v r ihv ihr =>
  refine fun ho=>⟨fun h=>btf h,fun _ t b s hd hs hb h=>?_⟩
  refine hde fun _ θ=>?_;obtain⟨o,h1,hs⟩:=dH hs;obtain⟨so,h2,hs⟩:=dH hs;obtain⟨z,h3,_⟩:=dH hs;obtain⟨xn,h4⟩:=eM (hb x ah);apply θ;have hp:=mV h1 h;have hp:=mV h4 hp;have e0:∀ way,a8 (.bcons x y v r) t b way=(aP v o xn).elim (a8 v o xn (way++[.str x])) fun _=>a8 r t b way:=fun way=>by
   show(t.get y).elim _ _=_;rw[h1];show(b.get x).elim _ _=_;rw[h4];rfl
  cases hv:aP v o xn with
  |none =>
   refine hde fun _ θ=>?_;obtain⟨wl,p,kd,u,e,a,g⟩:=(ihv ho.2.1.1).a ho.2.1.2 o xn so (hd.get h1) h2 hv;apply θ;exact⟨x,v,wl,p,kd,u,fun way=>qR (((e0 way).trans (by rw[hv];rfl)).trans (e _)),.hd x y v r,a,g⟩
  |some yt =>
   have hr:aP r t b=none:=by
    have:=mV hv hp;cases e:aP r t b with
    |none=>rfl
    |some z=>rw[e] at this;exact sn this
   obtain⟨x',v',wl,p,kd,u,e,ra,a,g⟩:=(ihr ho.2.2.1.1).b ho.2.2.1.2 t b z hd h3 (fun k hk=>hb k (ae _ hk)) hr;exact⟨x',v',wl,p,kd,u,fun way=>((e0 way).trans (by rw[hv];rfl)).trans (e way),.tl x y v ra,a,g⟩
variable {N:List Str} {m:Nat}
theorem e9{p:Prop}{b:Bool}(h:b=false↔p):R.ok (V.fz (.bool b))=.ok (.fz (.bool (!dec p))):=by
 refine congrArg (fun b=>R.ok (V.fz (.bool b))) ?_;cases b with
 |false=>rw[bR.mpr (h.mp rfl)];rfl
 |true=>rw[cX.mpr fun hp=>btf (h.mpr hp)];rfl
section
theorem Y9(n:Nat)(x y:Str)(d:PyData):rn (n+1) "_law_never" [.fz (enc (.call x y)),.fz d]=rb (orS (unS .Not (.ok (.fz (.bool (bT d))))) (orS (aN (ofP (bP (Internal.contains (.str y) d)))) (aN (ofP (Internal.contains (.str x) d))))) R.ok:=by kernel_rfl
theorem Za(n:Nat)(x:Str)(l:Int)(d:PyData):rn (n+1) "_law_never" [.fz (enc (.sift x l)),.fz d]=ifS (unS .Not (rn n "_law_is_table" [.fz d])) (.ok (.fz (.bool true))) (rb (unS .Not (aK cJ (aO (ofP (items d)) (fun _=>.ok true) fun d3=>aD (rn n "_law_high") [ofP (getItem d d3),.ok (.fz (.str x)),.ok (.fz (.int l))]))) R.ok):=by kernel_rfl
theorem Zb(n:Nat)(x y:Str)(fs:List Str)(d:PyData):rn (n+1) "_law_never" [.fz (enc (.join x y fs)),.fz d]=rb (unS .Not (rn n "_law_is_table" [.fz d])) R.ok:=by kernel_rfl
theorem Zc(n:Nat)(r:WW)(d:PyData):rn (n+1) "_law_never" [.fz (enc (.beside r)),.fz d]=rb (aK cI (aO (ofP (items (enc r))) (fun _=>.ok true) fun d1=>ofP (getItem d1 (.int 0)))) fun v2=>rb (orS (unS .Not (.ok (.fz (.bool (bT d))))) (aC (aK cI (ofP (dF d))) .NotEq (ofP (rdv (V.cl v2))))) R.ok:=by kernel_rfl
end
theorem Zd(t:TT):abB t=dec (jT t):=eD (by
 cases t with
 |num i=>exact⟨fun h=>bft h,fun h=>h.elim⟩
 |br f=>exact bR)
theorem Ze(H:Wld N)(n:Nat){p:WW}(ho:okW N p)(hr:p.isRows=false){d:PyData}{t:TT}(hd:Sem N m d t):rn (n+2) "_law_never" [.fz (enc p),.fz d]=.ok (.fz (.bool (!dec (okP p t)))):=by
 cases p with
 |whole=>exact(show rn (n+2) "_law_never" [.fz (enc .whole),.fz d]=.ok (.fz (.bool false)) from by kernel_rfl).trans (e9 ⟨fun _=>trivial,fun _=>rfl⟩)
 |pick x=>exact(show rn (n+2) "_law_never" [.fz (enc (.pick x)),.fz d]=.ok (.fz (.bool false)) from by kernel_rfl).trans (e9 ⟨fun _=>trivial,fun _=>rfl⟩)
 |andThen a b=>exact(show rn (n+2) "_law_never" [.fz (enc (.andThen a b)),.fz d]=.ok (.fz (.bool false)) from by kernel_rfl).trans (e9 ⟨fun _=>trivial,fun _=>rfl⟩)
 |each v =>
  refine(show rn (n+2) "_law_never" [.fz (enc (.each v)),.fz d]=.ok (.fz (.bool (!bT d))) from by kernel_rfl).trans (e9 ?_);obtain⟨i,rfl,rfl,_⟩ | ⟨_,l,f,_,rfl,rfl,B⟩:=hd.inv'
  ·exact⟨fun h=>btf h,fun ⟨_,h⟩=>by cases h⟩
  ·exact⟨fun _=>⟨f,rfl⟩,fun _=>rfl⟩
 |call x y =>
  rw[Y9];obtain⟨i,rfl,rfl,_⟩ | ⟨_,l,f,_,rfl,rfl,B⟩:=hd.inv'
  ·exact e9 (b:=true) ⟨fun h=>btf h,fun h=>bft h.1⟩
  ·rw[dD,dD];refine(show _=R.ok (V.fz (.bool (!(lk l y).isSome||(lk l x).isSome))) from by cases (lk l y).isSome<;>rfl).trans (e9 ?_);rw[B.dom,B.dom,Bool.or_eq_false_iff];show(!(f y).isSome)=false∧(f x).isSome=false↔(f y).isSome=true∧f x=none;cases f y<;>cases f x<;>simp
 |sift x i =>
  rw[Za,mP n hd];obtain⟨j,rfl,rfl,_⟩ | ⟨_,l,f,_,rfl,rfl,B⟩:=hd.inv'
  ·exact e9 (b:=true) ⟨fun h=>btf h,fun h=>h.elim⟩
  ·refine bcs (abB (.br f)) (fun ha=>?_) fun ha=>?_
   ·rw[ha];exact e9 (b:=true) ⟨fun h=>btf h,fun h=>absurd h.1 (cX.mp ha)⟩
   ·have hf:bQ f:=bR.mp ha;rw[ha,bO,aJ,jU (g:=fun k=>dec (∀ u,f k=some u→cK x i u)) fun k hk=>by
     refine hde fun _ θ=>?_;obtain⟨d,u,h1,h2,h3⟩:=B.key hk;obtain⟨g,rfl⟩:=hf k u h2;obtain⟨_,l',_,rfl,B'⟩:=h3.br_inv';apply θ;rw[a9 h1];refine(D0 n B' x i).trans ?_;rw[show sb x i (.br g)=dec (∀ u,f k=some u→cK x i u) from eD (mH.trans ⟨fun h u e=>by rw[h2] at e;cases e;exact h,fun h=>h _ h2⟩)]]
    refine e9 (b:=!(ks l).all _) ?_;show(!(ks l).all _)=false↔bQ f∧∀ k u,f k=some u→cK x i u;rw[Bool.not_eq_false',be];exact⟨fun h=>⟨hf,fun k u e=>bR.mp (h k (B.mem.mpr (by rw[e];rfl))) u e⟩,fun h k _=>bR.mpr (h.2 k)⟩
 |join x y fs =>
  rw[Zb,mP n hd,Zd];rfl
 |beside r =>
  obtain⟨⟨i1,_⟩,⟨i3,_⟩,i5,_⟩:=vO ho.1.2 ho.1.1;rw[Zc,gV ho.1.2];rw[show aO (ofP (items (.tuple (aY r)))) (fun _=>.ok true) (fun d1=>ofP (getItem d1 (.int 0)))=.ok (.own (.list (r.names.map .str))) from by
   show rb (aX (fun _=>.ok true) (fun d=>ofP (getItem d (.int 0))) (aY r)) (fun r=>ofP (own (.list r)))=_;rw[i1];rfl]
  rw[show aK cI (.ok (.own (.list (r.names.map .str))))=.ok (.own (.list ((aZ r.names).map .str))) from congrArg ofP (iR (al ho.2.2 (by decide)))];obtain⟨j,rfl,rfl,_⟩ | ⟨_,l,f,_,rfl,rfl,B⟩:=hd.inv'
  ·exact e9 (b:=true) ⟨fun h=>btf h,fun ⟨_,h,_⟩=>by cases h⟩
  ·rw[list_dict];show rb (rb (ofP (eO ((ks l).map .str))) fun a=>aN (ofP (cmp .NotEq (dOf a) (.list ((aZ r.names).map .str))))) R.ok=_;rw[iR (by rw[c7];exact B.lt H (by decide))];show rb (aN (ofP (bP (eqO (.list ((aZ (ks l)).map .str)) (.list ((aZ r.names).map .str)))))) R.ok=_;rw[qJ,qK B.nd i3];refine e9 (b:=!dec _) ?_;rw[Bool.not_eq_false',bR];exact⟨fun h=>⟨f,rfl,fun k=>by rw[← B.mem];exact h k⟩,fun ⟨g,e,h⟩ k=>by cases e;rw[B.mem];exact h k⟩
 |_=>exact btf hr
theorem Zf(H:Wld N):∀ {m n:Nat} {d:PyData} {t:TT},Sem N m d t→m≤n→Gives (run BB (n+1) true (so "_law_copy") [.fz d]) fun d'=>Sem N m d' t:=by
 intro m
 induction m with
 |zero =>
  intro n d t h hn;obtain⟨i,rfl,rfl,hi⟩ | ⟨_,_,_,e,_⟩:=h.inv'
  ·exact⟨_,_,(uX n _).trans rfl,rfl,.num hi⟩
  ·cases e
 |succ m ih =>
  intro n d t h hn;obtain⟨i,rfl,rfl,hi⟩ | ⟨_,l,f,e,rfl,rfl,B⟩:=h.inv'
  ·exact⟨_,_,(uX _ _).trans rfl,rfl,.num hi⟩
  ·cases e;cases n with
   |zero=>exact absurd hn (Nat.not_succ_le_zero _)
   |succ n =>
    obtain⟨l',e,C⟩:=jW (N:=N) (m:=m) (F:=f) (t:=fun _=>.ok true) (e:=fun d1=>aM [.ok (.fz d1),aD (run BB (n+1) true (so "_law_copy")) [ofP (getItem (.dict (mkd l)) d1)]]) (xs:=ks l) (by rw[c7];exact B.lt H (by decide)) fun k hk=>by
     obtain⟨d,u,h1,h2,h3⟩:=B.key hk;obtain⟨v,d',e1,e2,e3⟩:=ih h3 (bc hn);refine⟨B.sub k hk,.inr ⟨rfl,.fz (.tuple [.str k,d']),d',u,?_,rfl,h2,e3⟩⟩;rw[a9 h1];exact fR _ e1 e2
    refine⟨.own (.dict (mkd l')),_,?_,rfl,(B.all (fun _ h=>h) C).toSem⟩;rw[uX];show rb (aK bG (aO (.ok ((mkd l).map (·.1))) _ _)) R.ok=_;rw[pU,e];rfl
theorem E6:∀ {m k:Nat} {a b:PyData} {t:TT},Sem N m a t→Sem N m b t→m < k→eG k a b=true:=by
 intro m
 induction m with
 |zero =>
  intro k a b t h1 h2 hk;cases k with
  |zero=>exact absurd hk (Nat.not_lt_zero _)
  |succ k =>
   cases t with
   |num i =>
    obtain⟨rfl,_⟩:=h1.num_inv;obtain⟨rfl,_⟩:=h2.num_inv;exact beq_self_eq_true i
   |br f=>obtain⟨_,_,e,_⟩:=h1.br_inv';cases e
 |succ m ih =>
  intro k a b t h1 h2 hk;cases k with
  |zero=>exact absurd hk (Nat.not_lt_zero _)
  |succ k =>
   cases t with
   |num i =>
    obtain⟨rfl,_⟩:=h1.num_inv;obtain⟨rfl,_⟩:=h2.num_inv;exact beq_self_eq_true i
   |br f =>
    obtain⟨_,l1,e,rfl,B1⟩:=h1.br_inv';cases e;obtain⟨_,l2,e,rfl,B2⟩:=h2.br_inv';cases e;show((mkd l1).length==(mkd l2).length&&(mkd l1).all (nB (eG k) (mkd l2)))=true;rw[Bool.and_eq_true,pV,pV,beq_iff_eq,be];refine⟨?_,fun p hp=>?_⟩
    ·rw[← c7,← c7];exact Nat.le_antisymm (lZ B1.nd fun x hx=>B2.mem.mpr (B1.mem.mp hx)) (lZ B2.nd fun x hx=>B1.mem.mpr (B2.mem.mp hx))
    ·obtain⟨q,hq,rfl⟩:=bi.mp hp;have hl:=vP B1.nd hq;obtain⟨u,h1,h2⟩:=B1.get' hl;obtain⟨d,h3,h4⟩:=B2.get h1;show(bS (mkd l2) q.1).any (eG k q.2)=true;rw[gS,h3];exact ih h2 h4 (Nat.lt_of_succ_lt_succ hk)
theorem Zg{w p:WW}{l:List PyData}(h:At w l p):dW eN l l=true:=by
 induction h with
 |nil w=>rfl
 |th0 b h ih=>exact ih
 |th1 a h ih=>exact ih
 |each x h ih=>show(x==x&&_)=true;rw[beq_self_eq_true,ih];rfl
 | @row r v p x l hr h ih=>show(x==x&&dW eN l l)=true;rw[beq_self_eq_true,ih];rfl
variable {N:List Str} {m:Nat}
noncomputable def oS(p d:PyData)(q:List PyData)(o:Option V×Option V×Option V):aA:=dS (ζ p) (ζ d) (some (.pil q)) o.1 o.2.1 o.2.2
theorem E7(H:Wld N)(n:Nat)(p:PyData){l lr:LP}{r:Str→Option TT}{key:Str}(h1:lk l key=some (.dict (mkd lr)))(B:Bld N m lr r){i:Int}{c:Str→Bool}(ht:∀ y,tst (aC (aC (.ok (.fz (.str y))) .In (ofP (getItem p (.int 3)))) .Eq (aN (ofP (cmp .Eq (.int i) (.int 0)))))=.ok (c y)){F:Str→Option TT}(hF:∀ k,F k=if c k=true then r k else none) :
  ∃ l' v,Bld N m l' F∧∀ q o z kn kr,kL q (.int i)=.ok z→∀ D,Internal.setItem z.2 (.str key) (.dict (mkd l'))=.ok D→lP n (dS (ζ p) (ζ (.dict (mkd l))) (some (.pil q)) (ζ (.str key)) (ζ (.int i)) o) kn kr=kn (oS p (.dict (mkd l)) (q.set z.1 D) (some (.fz (.str key)),some (.fz (.int i)),some v)):=by
 obtain⟨l',e,C⟩:=jW (N:=N) (m:=m) (F:=F) (t:=fun _=>.ok true) (e:=fun d=>aM [.ok (.fz d),aG (.ok (.dict (mkd lr))) (.ok (.fz d))]) (xs:=(ks lr).filter c) (al (List.length_filter_le _ _) (by rw[c7];exact B.lt H (by decide))) fun k hk=>by
  obtain⟨hk,hc⟩:=List.mem_filter.mp hk;obtain⟨d,u,h1,h2,h3⟩:=B.key hk;exact⟨B.sub k hk,.inr ⟨rfl,_,d,u,Dw h1,rfl,by rw[hF,if_pos hc];exact h2,h3⟩⟩
 refine⟨l',.fz (.list (((ks lr).filter c).map .str)),C.ext fun k=>?_,fun q o z kn kr hz D hD=>?_⟩
 ·by_cases hm:k∈(ks lr).filter c
  ·rw[if_pos hm]
  ·rw[if_neg hm,hF]
   by_cases hc:c k=true
   ·rw[if_pos hc];exact(ocs (r k) (fun e=>e) fun x e=>absurd (List.mem_filter.mpr ⟨B.mem.mpr (by rw[e];rfl),hc⟩) hm).symm
   ·rw[if_neg hc]
 ·rw[U0,a9 h1];rw[show aO (plI (ofP (.ok (.fz (.dict (mkd lr)))))) (fun d1=>tst (aC (aC (.ok (.fz d1)) .In (ofP (getItem p (.int 3)))) .Eq (aN (ofP (cmp .Eq (.int i) (.int 0)))))) (fun d1=>.ok (.fz d1))=.ok (.own (.list (((ks lr).filter c).map .str))) from by
   show rb (rb (ofP (items (.dict (mkd lr)))) fun l=>aX _ _ l) (fun r=>ofP (own (.list r)))=_;rw[bO,aJ,aE,qC fun x _=>ht x];rfl]
  show rb (aK bG (aO (.ok (((ks lr).filter c).map .str)) (fun _=>.ok true) (fun d=>aM [.ok (.fz d),aG (.ok (.dict (mkd lr))) (.ok (.fz d))]))) (fun v=>rb (ofP (kL q (.int i))) fun q'=>rb (ofP (Internal.setItem q'.2 (.str key) (dOf v))) fun o=>_)=_;rw[e,aE,hz,aJ,aE];show rb (ofP (Internal.setItem z.2 (.str key) (.dict (mkd l')))) _=_;rw[hD];rfl
noncomputable def emp:Str→Option TT:=fun _=>none
theorem E8(P:Str→Prop)(h:Str→Option TT){k:Str}{r:Str→Option TT}(e:h k=some (.br r)):bC P emp emp h k=some (.br fun f=>grd (P f) (r f)):=by
 unfold bC;rw[e];rfl
theorem Zh(P:Str→Prop)(h:Str→Option TT){k:Str}(e:h k=none):bC P emp emp h k=none:=by
 unfold bC;rw[e];rfl
theorem Zi(x y:Str)(fs:List Str)(s:Str):tst (aC (aC (.ok (.fz (.str s))) .In (ofP (getItem (enc (.join x y fs)) (.int 3)))) .Eq (aN (ofP (cmp .Eq (.int 0) (.int 0)))))=.ok (fs.contains s):=by
 show tst (rb (aN (ofP (Internal.contains (.str s) (.tuple (fs.map .str))))) fun a=>aN (ofP (cmp .Eq (dOf a) (.bool true))))=_;rw[j0];show R.ok (fs.contains s==true)=_;rw[beq_true]
theorem Zj(x y:Str)(fs:List Str)(s:Str):tst (aC (aC (.ok (.fz (.str s))) .In (ofP (getItem (enc (.join x y fs)) (.int 3)))) .Eq (aN (ofP (cmp .Eq (.int 1) (.int 0)))))=.ok (!fs.contains s):=by
 show tst (rb (aN (ofP (Internal.contains (.str s) (.tuple (fs.map .str))))) fun a=>aN (ofP (cmp .Eq (dOf a) (.bool false))))=_;rw[j0];show R.ok (fs.contains s==false)=_;cases fs.contains s<;>rfl
theorem E9{c:Bool}{p:Prop}(h:c=true↔p)(x:Option TT):grd p x=if c=true then x else none:=by
 by_cases hp:p
 ·rw[cB hp,if_pos (h.mpr hp)]
 ·rw[cW hp,if_neg fun hc=>hp (h.mp hc)]
theorem Fa{f:Str→Option TT}{p:List Str}{k:Str}{G:Str→Option TT}{t:TT}(hk:G k=some t)(j:Str)(h:∀ j,f j=if j∈p then G j else none):upd f k (some t) j=if j∈p++[k] then G j else none:=by
 unfold upd
 by_cases e:j=k
 ·subst e;rw[if_pos rfl,if_pos (gg _ (List.mem_singleton.mpr rfl)),hk]
 ·rw[if_neg e,h]
  by_cases hp:j∈p
  ·rw[if_pos hp,if_pos (ge _ hp)]
  ·rw[if_neg hp,if_neg fun hm=>by
    rcases List.mem_append.mp hm with hm | hm
    ·exact hp hm
    ·exact e (List.mem_singleton.mp hm)]
noncomputable abbrev lT(fs:List Str)(h:Str→Option TT):Str→Option TT:=bC (fun f=>f∈fs) emp emp h
noncomputable abbrev rT(fs:List Str)(h:Str→Option TT):Str→Option TT:=bC (fun f=>f∉fs) emp emp h
inductive Pls(N:List Str)(m:Nat)(fs:List Str)(h:Str→Option TT)(p:List Str)(c:LP×LP):Prop where
 |mk (a:Bld N m c.1 fun k=>if k∈p then lT fs h k else none) (b:Bld N m c.2 fun k=>if k∈p then rT fs h k else none):Pls N m fs h p c
theorem Zk(H:Wld N)(n:Nat){x y:Str}{fs:List Str}(hx:x∈N)(hy:y∈N){l:LP}{h:Str→Option TT}(B:Bld N m l h)(hh:bQ h):Gives (rn (n+1) "_law_other_tree" [.fz (enc (.join x y fs)),.fz (.dict (mkd l))]) fun d=>Sem N (m+2) d (.br (upd (upd emp x (some (.br (lT fs h)))) y (some (.br (rT fs h))))):=by
 simp only[Cx,show aC (ofP (getItem (enc (.join x y fs)) (.int 0))) .Eq (.ok (.fz (.str (so "sift"))))=.ok (.fz (.bool false)) from by kernel_rfl];show Gives (rb (ofP (items (.dict (mkd l)))) fun l1=>_) _;simp only[bO,aJ,aE];have L:=mF (S:=fun (c:LP×LP) (j:Option V×Option V×Option V)=>oS (enc (.join x y fs)) (.dict (mkd l)) [.dict (mkd c.1),.dict (mkd c.2)] j) (b:=uU n) (t:=uV) (l:=ks l) (p:=[]) (a:=([],[])) (j:=(none,none,none)) (I:=Pls N m fs h) (E:=fun _=>False) (Q:=fun _=>False) (fun q k r c j hq hi=>by
  refine hde fun _ θ=>?_;obtain⟨d,t,h1,h2,h3⟩:=B.key (iQ hq);obtain⟨g,rfl⟩:=hh k t h2;obtain⟨m',lr,e,rfl,Br⟩:=h3.br_inv';subst e;obtain⟨l0,v0,C0,E0⟩:=E7 H n (enc (.join x y fs)) h1 Br (i:=0) (Zi x y fs) (F:=fun f=>grd (f∈fs) (g f)) fun f=>E9 List.contains_iff_mem _;obtain⟨l1,v1,C1,E1⟩:=E7 H n (enc (.join x y fs)) h1 Br (i:=1) (Zj x y fs) (F:=fun f=>grd (f∉fs) (g f)) fun f=>E9 (by simp) _;apply θ;refine Out.kn (st c.1 k (.dict (mkd l0)),st c.2 k (.dict (mkd l1))) (some (.fz (.str k)),some (.fz (.int 1)),some v1) ⟨(hi.1.set (B.sub k (iQ hq)) C0.toSem).ext fun i=>Fa (E8 _ h h2) i fun _=>rfl,(hi.2.set (B.sub k (iQ hq)) C1.toSem).ext fun i=>Fa (E8 _ h h2) i fun _=>rfl⟩ fun kn kr=>?_;unfold oS;simp only[Ux,aJ,aE,Uy,show rgI (.ok (.fz (.int 2)))=.ok [.int 0,.int 1] from by kernel_rfl,aE];show rb (ofP (aR pN (.int 0) _)) (fun σ=>lP n σ (fun σ=>rb (ofP (aR pN (.int 1) σ)) fun σ=>lP n σ (fun σ=>uW n σ kn kr) kr) kr)=_;rw[Cy,aJ,aE,E0 _ _ (0,.dict (mkd c.1)) _ _ rfl _ (b7 k _ (hi.1.lt H (by decide)))];unfold oS;rw[Cy,aJ,aE,E1 _ _ (1,.dict (mkd c.2)) _ _ rfl _ (b7 k _ (hi.2.lt H (by decide)))];unfold oS;exact U1 ..) ⟨Bld.nil.ext fun k=>by simp only[if_neg fun h=>b5 h],Bld.nil.ext fun k=>by simp only[if_neg fun h=>b5 h]⟩
 obtain⟨c,j,⟨A,C⟩,e⟩ | ⟨_,hx,_⟩ | ⟨_,hv,_⟩:=L
 ·have nl:∀ (P:Str→Prop) (k:Str),(if k∈[]++ks l then bC P emp emp h k else none)=bC P emp emp h k:=fun P k=>by
   by_cases hk:k∈[]++ks l
   ·simp only[if_pos hk]
   ·simp only[if_neg hk];exact(Zh P h (ocs (h k) (fun e=>e) fun x e=>absurd (show k∈[]++ks l from B.mem.mpr (by simp only[e];rfl)) hk)).symm
  refine⟨.own (.dict (mkd (sts [(x,.dict (mkd c.1)),(y,.dict (mkd c.2))] []))),_,((e _ _).trans (Uz ..)).trans ?_,rfl,(((Bld.nil.set hx (A.ext (nl _)).toSem).set hy (C.ext (nl _)).toSem)).toSem⟩;show rb (cO [(.ok (.fz (.str x)),.ok (.fz (.dict (mkd c.1)))),(.ok (.fz (.str y)),.ok (.fz (.dict (mkd c.2))))]) R.ok=_;rw[wL x y rfl rfl rfl rfl];rfl
 ·exact hx.elim
 ·exact hv.elim
theorem Zl{x y:Str}{fs:List Str}(hxy:x≠y){h:Str→Option TT}(hh:bQ h):aI (.join x y fs) (.br (upd (upd emp x (some (.br (lT fs h)))) y (some (.br (rT fs h)))))=some (.br h):=by
 have ex:∀ (f:Str→Option TT) (u v:TT),upd (upd f x (some u)) y (some v) x=some u:=fun f u v=>by unfold upd;rw[if_neg hxy,if_pos rfl]
 have ey:∀ (f:Str→Option TT) (u v:TT),upd (upd f x (some u)) y (some v) y=some v:=fun f u v=>by unfold upd;rw[if_pos rfl]
 have F:FitJ fs emp emp:=⟨fun k t e=>ns e,fun k t e=>ns e,fun k t e=>ns e,fun k t e=>ns e⟩
 have E:=(pQ (t:=.br (upd (upd emp x (some (.br emp))) y (some (.br emp)))) (ex _ _ _) (ey _ _ _)).trans (cB F _);refine C5 (w:=.join x y fs) hxy rfl E ?_;show((upd (upd emp x (some (.br emp))) y (some (.br emp)) x).bind fun one=>(upd (upd emp x (some (.br emp))) y (some (.br emp)) y).bind fun other=>grd (bQ h∧∀ k,(h k).isSome=true→((one.get k).isSome=(other.get k).isSome)) (some (T.br (upd (upd (upd (upd emp x (some (.br emp))) y (some (.br emp))) x (some (.br (bC (fun f=>f∈fs) one.get other.get h)))) y (some (.br (bC (fun f=>f∉fs) other.get one.get h)))))))=_;simp only[ex,ey];refine(cB ⟨hh,fun k _=>rfl⟩ _).trans (congrArg (fun f=>some (T.br f)) (funext fun k=>?_));show upd (upd (upd (upd emp x (some (.br emp))) y (some (.br emp))) x (some (.br (lT fs h)))) y (some (.br (rT fs h))) k=_;unfold upd
 by_cases e1:k=y
 ·simp only[if_pos e1]
 ·by_cases e2:k=x
  ·simp only[if_neg e1,if_pos e2]
  ·simp only[if_neg e1,if_neg e2]
theorem Zm{a:Str}{l:Int}{h:Str→Option TT}(hh:jS a l (.br h)):aI (.sift a l) (.br h)=some (.br h):=by
 refine(cB hh.1 _).trans (congrArg (fun f=>some (T.br f)) (funext fun k=>?_));show(h k).bind (fun x=>grd (cK a l x) (some x))=h k;exact ocs (h k) (fun e=>by rw[e];rfl) fun x e=>by rw[e];exact cB (hh.2 k x e) _
inductive Hid(N:List Str)(m n:Nat)(p:WW)(d:PyData)(t:TT):Prop where
 |mk (v:V) (d':PyData) (u:TT) (e:rn (n+1) "_law_other_tree" [.fz (enc p),.fz d]=.ok v) (c:v.cl=.fz d') (g:Sem N (m+1) d' u) (s:aI p u=some t) (w:∃ x,getItem (enc p) (.int 0)=.ok (.fz (.str x))∧(x=so "sift" ∨ x=so "join")):Hid N m n p d t
theorem Zn(H:Wld N)(n:Nat){p:WW}(ho:okW N p){d:PyData}{t:TT}(hd:Sem N m d t)(h:RefAt p dC t):Hid N m n p d t:=by
 have nf:∀ {p:Prop},dC=dI→p:=fun e=>absurd e (by decide +kernel);have nn:∀ {p:Prop},dC=lU→p:=fun e=>absurd e (by decide +kernel);cases h with
 |form e h=>exact nf e
 |each v e q h=>exact nn e
 |sift a l _ q h =>
  subst q;obtain⟨i,rfl,rfl,_⟩ | ⟨_,l',f,e,rfl,rfl,B⟩:=hd.inv'
  ·exact h.elim
  ·exact⟨_,_,_,(by rw[Cx];exact rfl),rfl,hd.mono (ai _),Zm h,_,rfl,.inl rfl⟩
 |join x y fs _ q h =>
  subst q;obtain⟨i,rfl,rfl,_⟩ | ⟨_,l',f,e,rfl,rfl,B⟩:=hd.inv'
  ·exact h.elim
  ·obtain⟨v,d',e1,e2,e3⟩:=Zk H n (fs:=fs) ho.1.1 ho.1.2.1 B h;exact⟨v,d',_,e1,e2,e▸e3,Zl ho.1.2.2 h,_,rfl,.inr rfl⟩
variable {N:List Str} {m:Nat}
theorem wX(n:Nat){v p:WW}{wl:List PyData}(k:Str)(dp:PyData)(e:rn n "piece_at" [.fz (enc v),.fz (.list wl)]=.ok (.fz (enc p))):rn (n+1) "_law_is_so" [.fz (enc v),.fz (.tuple [.list wl,.str k,dp])] =
  ifS (.ok (.fz (.bool (k==so "form")))) (rb (rn n "_law_never" [.fz (enc p),.fz dp]) R.ok) (ifS (rn n "_law_never" [.fz (enc p),.fz dp]) (.ok (.fz (.bool false))) (ifS (.ok (.fz (.bool (k==so "hidden")))) (ifS (aC (ofP (getItem (enc p) (.int 0))) .NotIn (.ok (.fz (.tuple [.str (so "sift"),.str (so "join")])))) (.ok (.fz (.bool false))) (rb (aD (rn n "_law_same") [aD (rn n "show") [.ok (.fz (enc p)),rn n "_law_other_tree" [.fz (enc p),.fz dp]],.ok (.fz dp)]) R.ok)) (rb (aV (.ok (.fz (.bool (k==so "names")))) (aC (ofP (getItem (enc p) (.int 0))) .Eq (.ok (.fz (.str (so "each")))))) R.ok))):=by
 simp only[U2,aE,fQ,U3,aJ,aE,U4,show aD (rn n "piece_at") [.ok (.fz (enc v)),ofP (dF (.list wl))]=.ok (.fz (enc p)) from e];rfl
theorem mW(a b:R V):ifS (.ok (.fz (.bool false))) a b=b:=rfl
theorem Zo(a b:R V):ifS (.ok (.fz (.bool true))) a b=a:=rfl
theorem Fb{f:List V→R V}{a:PyData}{r:R V}{v:V}{d:PyData}(h:r=.ok v)(hv:v.cl=.fz d):aD f [.ok (.fz a),r]=f [.fz a,.fz d]:=by
 rw[h];show f [.fz a,v.cl]=_;rw[hv]
theorem Fc{f:List V→R V}{a:PyData}{r:R V}{v:V}{d:PyData}(h:r=.ok v)(hv:v.cl=.fz d):aD f [r,.ok (.fz a)]=f [.fz d,.fz a]:=by
 rw[h];show f [v.cl,.fz a]=_;rw[hv]
theorem Zp{x:Str}(h:x=so "sift" ∨ x=so "join"):aC (.ok (.fz (.str x))) .NotIn (.ok (.fz (.tuple [.str (so "sift"),.str (so "join")])))=.ok (.fz (.bool false)):=by
 rcases h with rfl | rfl<;>kernel_rfl
theorem RefAt.by{p:WW}{k:Str}{t:TT}{C:Str→Prop}(h:RefAt p k t)(hf:¬ okP p t→C dI)(hh:okP p t→RefAt p dC t→C dC)(he:okP p t→getItem (enc p) (.int 0)=.ok (.fz (.str (so "each")))→C lU):C k:=by
 cases h with
 |form e h=>exact e▸hf h
 |sift a l e q h=>exact e▸hh h (.sift a l rfl q h)
 |join x y fs e q h=>exact e▸hh h (.join x y fs rfl q h)
 |each v e q h=>exact e▸he h (q▸rfl)
theorem Zq(H:Wld N)(n:Nat){v p:WW}{wl:List PyData}{k:Str}{u:TT}(ho:okW N v)(hr:v.isRows=false)(a:At v wl p)(h:RefAt p k u){dp:PyData}(hd:Sem N m dp u)(hn:3*v.hgt+m+7≤n+2):rn (n+3) "_law_is_so" [.fz (enc v),.fz (.tuple [.list wl,.str k,dp])]=.ok (.fz (.bool true)):=by
 obtain⟨⟨po,pr,ph⟩,_⟩:=a.ok ho hr;have nv:=Ze H n po pr hd;refine h.by (C:=fun k=>rn (n+3) "_law_is_so" [.fz (enc v),.fz (.tuple [.list wl,.str k,dp])]=.ok (.fz (.bool true))) (fun h=>?_) (fun hp h=>?_) fun hp h=>?_
 ·rw[wX (n+2) _ dp (wW (n+1) a ho),nv,cX.mpr h];kernel_rfl
 ·obtain⟨v',d',u',e1,e2,e3,e4,x,e5,e6⟩:=Zn H (n+1) po hd h;obtain⟨v2,d2,s1,s2,s3⟩:=Ds H po pr (n:=n+2) (m:=m+1) (aa (ag (ag (cf 3 ph) (m+1)) 6) hn) e3 e4;rw[wX (n+2) _ dp (wW (n+1) a ho),nv,bR.mpr hp,e5,aJ,Zp e6,Fb e1 e2,Fc s1 s2,Dz H (n:=n+1) s3 (hd.mono (ai m)) (bc (aa (au (bq (m+1) (3*v.hgt)) (by decide:1≤6)) hn))]
  kernel_rfl
 ·rw[wX (n+2) _ dp (wW (n+1) a ho),nv,bR.mpr hp,h];kernel_rfl
inductive TriedR(N:List Str)(m:Nat)(o:Option TT)(x:Rf)(r:R V):Prop where
 |none (t:TT) (h:o=some t) (e:r=.ok (.fz .none)):TriedR N m o x r
 |ref (h:o=none) (d:PyData) (e:r=.ok (.fz (.tuple [.list x.way,.str x.kind,d]))) (g:Sem N m d x.part):TriedR N m o x r
theorem Zr(f:List V→R V)(w:List PyData)(k:Str)(dp:PyData){d:PyData}{v:V}(e:f [.fz dp]=.ok v)(c:v.cl=.fz d):Cb BB (so "BadPut") (.exc (BP (.list w) (.str k) dp)) (fun y1=>(aM [(aK jA (jR BB y1 (so "way"))),(jR BB y1 (so "kind")),(aD f [(jR BB y1 (so "part"))])])) (R.ok (.fz .none)) R.ok=.ok (.fz (.tuple [.list w,.str k,d])):=by
 refine(show _=rb (nx (aM [.ok (.own (.list w)),.ok (.fz (.str k)),f [.fz dp]])) R.ok from by kernel_rfl).trans ?_;rw[e];show R.ok (V.fz (.tuple [.list w,.str k,dOf v.cl]))=_;rw[c];rfl
theorem qS(H:Wld N){w:WW}(ho:okW N w)(hr:w.isRows=false){n:Nat}{o d:PyData}{to tn:TT}(hn:3*w.hgt+m+w.grow+10≤n)(hh:w.hgt≤900)(hO:Sem N m o to)(hD:Sem N m d tn){s:TT}(hs:aI w to=some s):TriedR N (m+w.grow) (aP w to tn) (a8 w to tn []) (rn (n+1) "_law_tried" [.fz (enc w),.fz o,.fz d]):=by
 have hp:=Dy H ho hr hn hh hO hD hs;simp only[Uw];refine ocs (aP w to tn) (fun hpt=>?_) fun r hpt=>?_
 ·simp only[hpt] at hp;obtain⟨dp,hp,hs⟩:=hp
  revert hp
  refine exnE (c:=1) n hn hn fun n hn hp=>?_;obtain⟨v,d',e1,e2,e3⟩:=Zf H (n:=n) hs (bc (aa (au (ag (bq m (3*w.hgt)) w.grow) (by decide:1≤10)) hn));simp only[hp];exact .ref hpt d' (Zr _ _ _ _ e1 e2) e3
 ·simp only[hpt] at hp;obtain⟨v,d',e1,e2,e3⟩:=hp;simp only[e1];exact .none r hpt rfl
theorem Sem.sub{N':List Str}(h:∀ x∈N,x∈N'):∀ {m:Nat} {d:PyData} {t:TT},Sem N m d t→Sem N' m d t:=by
 intro m
 induction m with
 |zero =>
  intro d t g;obtain⟨i,rfl,rfl,hi⟩ | ⟨_,_,_,e,_⟩:=g.inv'
  ·exact .num hi
  ·cases e
 |succ m ih =>
  intro d t g;obtain⟨i,rfl,rfl,hi⟩ | ⟨_,l,f,e,rfl,rfl,B⟩:=g.inv'
  ·exact .num hi
  ·cases e;exact Bld.toSem ⟨B.nd,fun k hk=>h k (B.sub k hk),B.dom,fun k d t h1 h2=>ih (B.sem k d t h1 h2)⟩
theorem okW.sub{N':List Str}(h:∀ x∈N,x∈N'):∀ {w:WW},okW N w→okW N' w:=by
 intro w
 induction w with
 |whole=>exact fun _=>trivial
 |pick n=>exact fun o=>h n o
 |call a b=>exact fun o=>⟨h a o.1,h b o.2.1,o.2.2⟩
 |sift f l=>exact fun o=>⟨h f o.1,o.2⟩
 |join a b fs=>exact fun o=>⟨⟨h a o.1.1,h b o.1.2.1,o.1.2.2⟩,o.2.1,o.2.2.1,fun f hf=>h f (o.2.2.2 f hf)⟩
 |each v ih=>exact fun o=>⟨ih o.1,o.2⟩
 |andThen a b iha ihb=>exact fun o=>⟨⟨iha o.1.1,o.1.2⟩,ihb o.2.1,o.2.2⟩
 |beside r ih=>exact fun o=>⟨⟨ih o.1.1,o.1.2⟩,o.2⟩
 |bnil=>exact fun _=>trivial
 |bcons n p v r ihv ihr=>exact fun o=>⟨⟨h n o.1.1,h p o.1.2⟩,⟨ihv o.2.1.1,o.2.1.2⟩,⟨ihr o.2.2.1.1,o.2.2.1.2⟩,o.2.2.2⟩
noncomputable def nA:Str:=so "a"
theorem Zs:okN nA:=⟨by decide +kernel,by decide +kernel,by decide +kernel⟩
inductive More(N:List Str):Prop where
 |mk (N':List Str) (H:Wld N') (s:∀ x∈N,x∈N') (a:nA∈N'):More N
theorem Zt(H:Wl4 N):More N:=by
 by_cases ha:nA∈N
 ·exact⟨N,H.w,fun _ h=>h,ha⟩
 ·refine⟨nA::N,⟨am (ca H.len),aw.mpr ⟨ha,H.w.nd⟩,fun x hx=>?_⟩,fun x hx=>ae _ hx,ah⟩;rcases List.mem_cons.mp hx with rfl | hx
  ·exact Zs
  ·exact H.w.ok x hx
variable {N:List Str} {m:Nat}
theorem Fd:∀ {cs:List Int} {i:Int} {q r:List PyData} {d:PyData},c9 i (cs.map .int)=q++d::r→∃ c,d=.tuple [.int (i+q.length),.int c]∧q.length < cs.length
 | [],i,q,r,d,h=>by cases q<;>cases h
 |c::cs,i,[],r,d,h=>by
  have h:PyData.tuple [.int i,.int c]::c9 (i+1) (cs.map .int)=d::r:=h;cases h;exact⟨c,by simp,by simp⟩
 |c::cs,i,x::q,r,d,h=>by
  have h:PyData.tuple [.int i,.int c]::c9 (i+1) (cs.map .int)=x::(q++d::r):=h;obtain⟨c',h1,h2⟩:=Fd (List.cons.inj h).2;refine⟨c',?_,by simpa using h2⟩;simp only[h1,List.length_cons];have:i+1+(q.length:Int)=i+((q.length+1:Nat):Int):=by exact xR
  simp only[this]
theorem Fe(n k:Nat):clipAt n (k:Int)=min k n:=by
 rcases Nat.le_total k n with h | h
 ·simp only[mS (co k) (bk.mpr h),Int.toNat_natCast,Nat.min_eq_left h]
 ·simp only[Ed (co k) (bk.mpr h),Nat.min_eq_right h]
theorem Zu(s:List Int):(slice s (some 2) (some 14)).length≤12:=by
 refine aa (List.length_take_le _ _) ?_;show clipAt s.length ((14:Nat):Int) - clipAt s.length ((2:Nat):Int)≤12;simp only[Fe,Fe];refine Nat.sub_le_of_le_add ?_;rcases Nat.le_total 2 s.length with h | h
 ·simp only[Nat.min_eq_left h];exact Nat.min_le_left _ _
 ·simp only[Nat.min_eq_right h];exact aa (dw _ _) (bq _ _)
theorem Zv(s:List Int)(lo hi:Option Int):slice (s.map PyData.int) lo hi=(slice s lo hi).map .int:=by
 unfold slice;rw[List.length_map,List.map_take,List.map_drop]
theorem not_true{r:R V}(h:r=.ok (.fz (.bool true))):unS .Not r=.ok (.fz (.bool false)):=by rw[h];rfl
abbrev J7:=Option V×Option V×Option V×Option V×Option V×Option V×Option V
noncomputable def lS(s:List Int)(N:List Str)(now:V)(j:J7):aA:=gQ (ζ (Li s)) (ζ (NL N)) (some now) j.1 j.2.1 j.2.2.1 j.2.2.2.1 j.2.2.2.2.1 j.2.2.2.2.2.1 j.2.2.2.2.2.2
theorem Ff{x:PyData}(hx:eN x x=true){wl:List PyData}{k:Str}{d d2:PyData}(hw:dW eN wl wl=true)(hl:wl.length < 1000)(hd:eG 24 d2 d=true){r:R V}(hr:r=.ok (.fz (.tuple [.list ([x]++wl),.str k,d2]))) :
  aC r .NotEq (aM [aB .Add (cA [.ok (.fz x)]) (aG (aU (.fz (.tuple [.list wl,.str k,d]))) (.ok (.fz (.int 0)))),aG (aU (.fz (.tuple [.list wl,.str k,d]))) (.ok (.fz (.int 1))),aG (aU (.fz (.tuple [.list wl,.str k,d]))) (.ok (.fz (.int 2)))])=.ok (.fz (.bool false)):=by
 simp only[hr];show aC _ .NotEq (aM [ofP (eE .Add [x] (.list wl)),.ok (.fz (.str k)),.ok (.fz d)])=_;simp only[show eE .Add [x] (.list wl)=.ok (.own (.list ([x]++wl))) from if_pos ⟨rfl,by have:bA=16777216:=rfl;simp only[this,List.length_singleton];exact aa (az (bz hl) 1) (by decide)⟩];show aN (ofP (bP (if dW (eG 24) [.list ([x]++wl),.str k,d2] [.list ([x]++wl),.str k,d]=true then .ok true else .no)))=_;rw[if_pos]
 ·rfl
 ·show(dW eN (x::wl) (x::wl)&&((k==k)&&(eG 24 d2 d&&true)))=true;simp only[show dW eN (x::wl) (x::wl)=(eN x x&&dW eN wl wl) from rfl,hx,hw,hd,beq_self_eq_true];rfl
theorem Zw(H:Wl4 N){w:WW}(ho:okW N w)(hr:w.isRows=false)(hw:w.hgt≤5)(gw:w.grow≤8){now d:PyData}{t s0 tn:TT}(hs:Sem N 7 now t)(hd:Sem N 7 d tn)(hs0:aI w t=some s0){t1:TT}(h1:aP w t tn=some t1) :
  aD (rn 399 "_law_same") [aD (rn 399 "show") [.ok (.fz (enc w)),rn 399 "put" [.fz (enc w),.fz now,.fz d]],.ok (.fz d)]=.ok (.fz (.bool true)):=by
 have hp:=Dy H.w ho hr (n:=399) (hgb hw gw (by decide)) (aa hw (by decide)) hs hd hs0;rw[h1] at hp;obtain⟨v1,d1,a1,a2,a3⟩:=hp;obtain⟨v2,d2,b1,b2,b3⟩:=Ds H.w ho hr (n:=399) (m:=15) (hgb (g:=0) (a:=15) (c:=6) hw (ay 0) (by decide)) (a3.mono (az gw 7)) (C5 ho.wf hr hs0 h1);rw[Fb a1 a2,Fc b1 b2];exact Dz H.w (n:=398) b3 (hd.mono (by decide)) (by decide)
inductive Told(N:List Str)(w:WW)(now d:PyData):Prop where
 |mk (wl:List PyData) (k:Str) (dp:PyData)
  (e1:rn 399 "_law_tried" [.fz (enc w),.fz now,.fz d]=.ok (.fz (.tuple [.list wl,.str k,dp])))
  (e2:rn 399 "_law_is_so" [.fz (enc w),.fz (.tuple [.list wl,.str k,dp])]=.ok (.fz (.bool true)))
  (e3:aC (rn 399 "_law_tried" [.fz (enc (.andThen w .whole)),.fz now,.fz d]) .NotEq (aM [aB .Add (cA [.ok (.fz (.int 0))]) (aG (aU (.fz (.tuple [.list wl,.str k,dp]))) (.ok (.fz (.int 0)))),aG (aU (.fz (.tuple [.list wl,.str k,dp]))) (.ok (.fz (.int 1))),aG (aU (.fz (.tuple [.list wl,.str k,dp]))) (.ok (.fz (.int 2)))])=.ok (.fz (.bool false)))
  (e4:aC (aD (rn 399 "_law_tried") [.ok (.fz (enc (.beside (.bcons nA nA w .bnil)))),cO [(.ok (.fz (.str nA)),.ok (.fz now))],cO [(.ok (.fz (.str nA)),.ok (.fz d))]]) .NotEq (aM [aB .Add (cA [.ok (.fz (.str nA))]) (aG (aU (.fz (.tuple [.list wl,.str k,dp]))) (.ok (.fz (.int 0)))),aG (aU (.fz (.tuple [.list wl,.str k,dp]))) (.ok (.fz (.int 1))),aG (aU (.fz (.tuple [.list wl,.str k,dp]))) (.ok (.fz (.int 2)))])=.ok (.fz (.bool false))):Told N w now d
theorem j7(t:TT):upd (fun _=>none) nA (some t) nA=some t:=if_pos rfl
theorem Zx(H:Wl4 N){w:WW}(ho:okW N w)(hr:w.isRows=false)(hw:w.hgt≤5)(gw:w.grow≤8){now d:PyData}{t s0 tn:TT}(hs:Sem N 7 now t)(hd:Sem N 7 d tn)(hs0:aI w t=some s0)(h1:aP w t tn=none):Told N w now d:=by
 obtain⟨wl,p,k,u,e,a,g⟩:=(Y8 H.w ho).a hr t tn s0 ⟨_,_,hs⟩ hs0 h1;have hl:=(a.ok ho hr).2;have wl':=Zg a;obtain⟨_,h,_⟩ | ⟨_,dp,f1,f2⟩:=qS H.w ho hr (n:=398) (hgb hw gw (by decide)) (aa hw (by decide)) hs hd hs0
 ·exact ns (h1.symm.trans h)
 rw[e] at f1 f2;have hp2:aP (.andThen w .whole) t tn=none:=by
  show(aI w t).bind (fun m=>(some tn).bind fun mid=>aP w t mid)=none;rw[hs0];exact h1
 have hr2:a8 (.andThen w .whole) t tn []=⟨[.int 0]++wl,k,u⟩:=by
  show(aI w t).elim _ (fun m=>a8 w t tn ([]++[.int 0]))=_;rw[hs0];exact e _
 obtain⟨_,h,_⟩ | ⟨_,dq,q1,q2⟩:=qS H.w (w:=.andThen w .whole) ⟨⟨ho,hr⟩,trivial,rfl⟩ rfl (n:=398) (hgb (h:=max w.hgt 0+1) (g:=w.grow) (am (mx0 hw)) gw (by decide)) (aa (am (mx0 hw)) (by decide:6≤900)) hs hd (s:=s0) (by show(aI w t).bind _=_;rw[hs0];rfl)
 ·exact ns (hp2.symm.trans h)
 rw[hr2] at q1 q2;obtain⟨N',H',hsub,hA⟩:=Zt H;have B:∀ {d:PyData} {t:TT},Sem N 7 d t→Sem N' 8 (.dict (mkd (sts [(nA,d)] []))) (.br (upd (fun _=>none) nA (some t))):=fun h=>(Bld.nil.set hA (h.sub hsub)).toSem;have hp3:aP (.beside (.bcons nA nA w .bnil)) (.br (upd (fun _=>none) nA (some t))) (.br (upd (fun _=>none) nA (some tn)))=none:=by
  refine(congrArg (grd _) ?_).trans (ite_self _);show((upd (fun _=>none) nA (some t) nA).bind fun o=>(upd (fun _=>none) nA (some tn) nA).bind fun x=>(aP w o x).bind _)=none;rw[j7,j7];show(aP w t tn).bind _=none;rw[h1];rfl
 have hr3:a8 (.beside (.bcons nA nA w .bnil)) (.br (upd (fun _=>none) nA (some t))) (.br (upd (fun _=>none) nA (some tn))) []=⟨[.str nA]++wl,k,u⟩:=by
  refine(lW (fun j=>?_) _ _).trans ?_
  ·show(upd (fun _=>none) nA (some tn) j).isSome=true↔j∈[nA];rw[List.mem_singleton]
   by_cases ej:j=nA
   ·subst ej;rw[j7];exact⟨fun _=>rfl,fun _=>rfl⟩
   ·exact⟨fun h=>absurd (by rw[show upd (fun _=>none) nA (some tn) j=none from if_neg ej] at h;exact h) eq,fun h=>absurd h ej⟩
  ·show(upd (fun _=>none) nA (some t) nA).elim _ (fun o=>(upd (fun _=>none) nA (some tn) nA).elim _ fun x=>(aP w o x).elim (a8 w o x ([]++[.str nA])) _)=_;rw[j7,j7];show(aP w t tn).elim _ _=_;rw[h1];exact e _
 obtain⟨_,h,_⟩ | ⟨_,dr,r1,r2⟩:=qS H' (w:=.beside (.bcons nA nA w .bnil)) ⟨⟨⟨⟨hA,hA⟩,⟨ho.sub hsub,hr⟩,⟨trivial,rfl⟩,fun h=>b5 h,fun h=>b5 h⟩,rfl⟩,ay 1,by show 1≤6;decide⟩ rfl (n:=398) (hgb (h:=max w.hgt 0+1) (g:=max w.grow 0) (am (mx0 hw)) (mx0 gw) (by decide)) (aa (am (mx0 hw)) (by decide:6≤900)) (B hs) (B hd) (s:=.br (upd (fun _=>none) nA (some s0))) (by
  show((upd (fun _=>none) nA (some t) nA).bind fun x=>(aI w x).bind fun y=>some (T.br (upd (fun _=>none) nA (some y))))=_;rw[j7];show(aI w t).bind _=_;rw[hs0];rfl)
 ·exact ns (hp3.symm.trans h)
 rw[hr3] at r1 r2;have g2:7+w.grow≤15:=az gw 7;have l2:wl.length < 1000:=al (aa hl hw) (by decide);refine⟨wl,k,dp,f1,Zq H.w 396 ho hr a g f2 (hgc hw gw (by decide)),Ff rfl wl' l2 (E6 (m:=15) (q2.mono g2) (f2.mono g2) (by decide)) q1,Ff (x:=.str nA) (beq_self_eq_true nA) wl' l2 (E6 (N:=N') (m:=16) (r2.mono (az (mx0 gw) 8)) ((f2.sub hsub).mono (bp g2)) (by decide)) ?_⟩
 ·rw[mT nA rfl rfl,mT nA rfl rfl];exact r1
theorem Zy(f:List V→R V)(a b c:PyData):aD f [.ok (.fz a),.ok (.fz b),.ok (.fz c)]=f [.fz a,.fz b,.fz c]:=rfl
theorem Zz(w:WW):aM [.ok (.fz (.str (so "then"))),.ok (.fz (enc w)),.ok (.fz (.tuple [.str (so "whole")]))]=.ok (.fz (enc (.andThen w .whole))):=rfl
theorem Z0(w:WW):aM [.ok (.fz (.str (so "beside"))),aM [aM [.ok (.fz (.str (so "a"))),.ok (.fz (.str (so "a"))),.ok (.fz (enc w))]]]=.ok (.fz (enc (.beside (.bcons nA nA w .bnil)))):=rfl
theorem Z1(H:Wl4 N)(s:List Int){nv:V}{now:PyData}(hv:nv.cl=.fz now){k:Nat}(hk:k < 12)(hnow:Tr N 5 now)(c:Int)(j:J7) :
  ∃ j',∀ kn kr,(rb (ofP (aR lR (.tuple [.int k,.int c]) (lS s N nv j))) fun σ=>lQ 399 σ kn kr)=kn (lS s N (.fz now) j'):=by
 refine hde fun _ θ=>?_;obtain⟨t,hs⟩:=hnow;obtain⟨w,e1,⟨ow,rw'⟩,⟨hw,gw⟩,s0,hs0⟩:=Yo H 394 s (400+9*k) hs (by decide);have hseen:=qP H ow rw' (n:=399) (aa (ag hw 8) (by decide:5+8≤399)) hs;simp only[hs0] at hseen;obtain⟨v1,d1,a1,a2,a3⟩:=hseen;have a3:Tr N 5 d1:=by
  obtain⟨s,_,a3⟩ | ⟨a0,_⟩:=a3
  ·exact⟨s,a3⟩
  ·exact sn a0
 obtain⟨v2,d2,b1,b2,b3⟩:=E4 H (n:=398) (c:=c.fdiv 3+k) a3 (by decide);obtain⟨v3,d3,c1,c2,tn,c3⟩:=E4 H (n:=398) (c:=c.fdiv 11*c.fmod 2) b3 (by decide);apply θ;have r2:=aT c (n:=2) (by decide);have hb:∀ kn kr,(rb (ofP (aR lR (.tuple [.int k,.int c]) (lS s N nv j))) fun σ=>lQ 399 σ kn kr)=rb (rn 399 "_law_tried" [.fz (enc w),.fz now,.fz d3]) fun v4=>ifS (aC (ofP (rdv (V.cl v4))) .IsNot (.ok (.fz .none))) (ifS (unS .Not (aD (rn 399 "_law_is_so") [.ok (.fz (enc w)),aW (V.cl (V.cl v4))])) (kr (.fz (.bool false))) (ifS (aC (rn 399 "_law_tried" [.fz (enc (.andThen w .whole)),.fz now,.fz d3]) .NotEq (aM [aB .Add (cA [.ok (.fz (.int 0))]) (aG (aU (V.cl (V.cl v4))) (.ok (.fz (.int 0)))),aG (aU (V.cl (V.cl v4))) (.ok (.fz (.int 1))),aG (aU (V.cl (V.cl v4))) (.ok (.fz (.int 2)))])) (kr (.fz (.bool false))) (ifS (aC (aD (rn 399 "_law_tried") [.ok (.fz (enc (.beside (.bcons nA nA w .bnil)))),cO [(.ok (.fz (.str nA)),.ok (.fz now))],cO [(.ok (.fz (.str nA)),.ok (.fz d3))]]) .NotEq (aM [aB .Add (cA [.ok (.fz (.str nA))]) (aG (aU (V.cl (V.cl v4))) (.ok (.fz (.int 0)))),aG (aU (V.cl (V.cl v4))) (.ok (.fz (.int 1))),aG (aU (V.cl (V.cl v4))) (.ok (.fz (.int 2)))])) (kr (.fz (.bool false))) (kn (lS s N (.fz now) (some (.fz (.int k)),some (.fz (.int c)),some (.fz (enc w)),some (.fz d3),some (V.cl (V.cl v4)),some (.fz (enc (.andThen w .whole))),some (.fz (enc (.beside (.bcons nA nA w .bnil)))))))))) (ifS (unS .Not (aD (rn 399 "_law_same") [aD (rn 399 "show") [.ok (.fz (enc w)),rn 399 "put" [.fz (enc w),.fz now,.fz d3]],.ok (.fz d3)])) (kr (.fz (.bool false))) (kn (lS s N (.fz now) (some (.fz (.int k)),some (.fz (.int c)),some (.fz (enc w)),some (.fz d3),some (V.cl v4),j.2.2.2.2.2.1,j.2.2.2.2.2.2)))):=fun kn kr=>by
  unfold lS;simp only[U6,aJ,aE,U7];simp only[hv,bN,cG];rw[show aD (rn 399 "_law_view") [.ok (.fz (Li s)),aB .Add (.ok (.fz (.int 400))) (ofP (aF .Mult (.int 9) (.int k))),.ok (.fz now),.ok (.fz (NL N))]=.ok (.fz (enc w)) from by
   simp only[show aF .Mult (.int 9) (.int k)=.ok (.fz (.int (9*k))) from mR _ (by decide)];exact e1]
  simp only[aE,bN,cG];rw[show aD (rn 399 "_law_other") [aD (rn 399 "_law_seen") [.ok (.fz (enc w)),.ok (.fz now)],aB .Add (ofP (aF .FloorDiv (.int c) (.int 3))) (.ok (.fz (.int k))),.ok (.fz (NL N))]=.ok v2 from by
   simp only[show aF .FloorDiv (.int c) (.int 3)=.ok (.fz (.int (c.fdiv 3))) from iT _ (by decide),show aD (rn 399 "_law_seen") [.ok (.fz (enc w)),.ok (.fz now)]=.ok v1 from a1];show rn 399 "_law_other" [v1.cl,.fz (.int (c.fdiv 3+k)),.fz (NL N)]=_;simp only[a2];exact b1,aE]
  simp only[b2,bN,cG];rw[show aD (rn 399 "_law_other") [.ok (.fz d2),aB .Mult (ofP (aF .FloorDiv (.int c) (.int 11))) (ofP (aF .Mod (.int c) (.int 2))),.ok (.fz (NL N))]=.ok v3 from by
   simp only[show aF .FloorDiv (.int c) (.int 11)=.ok (.fz (.int (c.fdiv 11))) from iT _ (by decide),show aF .Mod (.int c) (.int 2)=.ok (.fz (.int (c.fmod 2))) from fS _ (by decide),show aB .Mult (ofP (.ok (.fz (.int (c.fdiv 11))))) (ofP (.ok (.fz (.int (c.fmod 2)))))=.ok (.fz (.int (c.fdiv 11*c.fmod 2))) from congrArg ofP (hU _ (nb0 r2 (by decide)))];exact c1,aE]
  simp only[c2,bN,cG,b6,aJ];simp only[Zz,Z0];simp only[aE,bN,cG,b6,aJ,Zy];rfl
 refine ocs (aP w t tn) (fun h1=>?_) fun t1 h1=>?_
 ·obtain⟨wl,kd,dp,f1,f2,f3,f4⟩:=Zx H ow rw' hw gw (hs.mono (by decide)) c3 hs0 h1;refine⟨(some (.fz (.int k)),some (.fz (.int c)),some (.fz (enc w)),some (.fz d3),some (.fz (.tuple [.list wl,.str kd,dp])),some (.fz (enc (.andThen w .whole))),some (.fz (enc (.beside (.bcons nA nA w .bnil))))),fun kn kr=>(hb kn kr).trans ?_⟩;simp only[f1,aE];simp only[bN,cG,f3,f4];simp only[show aC (ofP (rdv (.fz (.tuple [.list wl,.str kd,dp])))) .IsNot (.ok (.fz .none))=.ok (.fz (.bool true)) from rfl,Zo,not_true (show aD (rn 399 "_law_is_so") [.ok (.fz (enc w)),.ok (.fz (.tuple [.list wl,.str kd,dp]))]=.ok (.fz (.bool true)) from f2),mW,mW,mW]
 ·have f1:rn 399 "_law_tried" [.fz (enc w),.fz now,.fz d3]=.ok (.fz .none):=by
   obtain⟨_,_,f1⟩ | ⟨h,_⟩:=qS H.w ow rw' (n:=398) (hgb hw gw (by decide)) (aa hw (by decide)) (hs.mono (by decide:5≤7)) c3 hs0
   ·exact f1
   ·exact sn (h1.symm.trans h)
  refine⟨(some (.fz (.int k)),some (.fz (.int c)),some (.fz (enc w)),some (.fz d3),some (.fz .none),j.2.2.2.2.2.1,j.2.2.2.2.2.2),fun kn kr=>(hb kn kr).trans ?_⟩;simp only[f1,aE];simp only[show aC (ofP (rdv (V.cl (.fz .none)))) .IsNot (.ok (.fz .none))=.ok (.fz (.bool false)) from rfl,mW,not_true (Zw H ow rw' hw gw (hs.mono (by decide)) c3 hs0 h1),mW];rfl
theorem Z2(s:List Int):rn 400 "law" [.fz (Li s)]=.ok (.fz (.bool true)):=by
 have H:=Xr (dT s 0);obtain⟨v2,d0,e1,e2,e3⟩:=Xx H 395 s;rw[U5,Xs 397 s,aE,gC,cG,show aD (rn 399 "_law_house") [.ok (.fz (Li s)),.ok (.fz (NL (nms (dT s 0))))]=.ok v2 from e1,aE,
  show enI (cF (.ok (Li s)) (some (.ok (.fz (.int 2)))) (some (.ok (.fz (.int 14)))))=.ok (c9 0 (slice (s.map PyData.int) (some 2) (some 14))) from rfl,Zv,aE]
 have L:=iP (S:=fun (a:V) (j:J7)=>lS s (nms (dT s 0)) a j) (b:=lQ 399) (t:=lR) (l:=c9 0 ((slice s (some 2) (some 14)).map .int)) (p:=[]) (a:=v2) (j:=(none,none,none,none,none,none,none)) (I:=fun p a=>∃ d,a.cl=.fz d∧Tr (nms (dT s 0)) 5 d) (E:=fun _=>False) (Q:=fun _=>False) (fun q d r a j hq hi=>by
  refine hde fun _ θ=>?_;obtain⟨c,hd,hlt⟩:=Fd (show c9 0 ((slice s (some 2) (some 14)).map .int)=q++d::r from hq);rw[Int.zero_add] at hd;subst hd;have:=Zu s;obtain⟨dn,hv,hi⟩:=hi;obtain⟨j',h2⟩:=Z1 H s hv (k:=q.length) (by exact J3 hlt this) hi c j;apply θ;exact Out.kn (.fz dn) j' ⟨dn,rfl,hi⟩ h2) ⟨d0,e2,e3⟩
 obtain⟨a,j,_,e⟩ | ⟨_,hx,_⟩ | ⟨_,hv,_⟩:=L
 ·exact(e _ _).trans (U8 ..)
 ·exact hx.elim
 ·exact hv.elim
end Mine.Internal
set_option Elab.async false
namespace Mine.Internal
open PySem PySem.W PyProof.Rows
set_option maxRecDepth 100000 in
set_option maxHeartbeats 8000000 in
theorem Z3:PySem.Challenge.rw_uf010037_14.wellSaid=true:=by
 unfold OpenLaw.wellSaid OpenRow.wellSaid OpenRow.partSaid looksOpen
 with_reducible repeat' (refine look_both ?_ ?_)
 all_goals decide +kernel
set_option maxRecDepth 100000 in
theorem Z4:B8 PySem.Challenge.rw_uf010037_14.row.prog.main.body:=fun c b ps h p hp=>by
 have hc:=tR h;rw[show kO PySem.Challenge.rw_uf010037_14.row.prog.main.body=[Str.ofString "ViewError", Str.ofString "BadTree", Str.ofString "BadView", Str.ofString "BadPut"] from by kernel_rfl] at hc;simp only[List.mem_cons,List.not_mem_nil,or_false] at hc;rcases hc with rfl | rfl | rfl | rfl
 ·rw[show bK (Str.ofString "ViewError") PySem.Challenge.rw_uf010037_14.row.prog.main.body=some (Str.ofString "ValueError", none) from by kernel_rfl] at h;cases h
 ·rw[show bK (Str.ofString "BadTree") PySem.Challenge.rw_uf010037_14.row.prog.main.body=some (Str.ofString "ViewError", none) from by kernel_rfl] at h;cases h
 ·rw[show bK (Str.ofString "BadView") PySem.Challenge.rw_uf010037_14.row.prog.main.body=some (Str.ofString "ViewError", none) from by kernel_rfl] at h;cases h
 ·rw[show bK (Str.ofString "BadPut") PySem.Challenge.rw_uf010037_14.row.prog.main.body=some (Str.ofString "ViewError", some [Str.ofString "way", Str.ofString "kind", Str.ofString "part"]) from by kernel_rfl] at h;cases h;simp only[List.mem_cons,List.not_mem_nil,or_false] at hp;rcases hp with rfl | rfl | rfl<;>(rw[typeLookup_type,builtinLookup_eq_fast];kernel_rfl)
end Mine.Internal
open PySem PySem.W PyProof.Rows Mine.Internal
set_option maxRecDepth 100000 in
set_option maxHeartbeats 8000000 in
theorem PySem.Challenge.cw_uf010037_14_holds : PySem.Challenge.rw_uf010037_14.Holds := by
 refine holds_law Mine.Internal.Z3 fun said=>?_;refine holds_open (q:=Mine.Internal.V14) (loose:=[]) (Xt:=fun s=>(xlAt Mine.Internal.V14 [] s&&recOk (RowW.records PySem.Challenge.rw_uf010037_14.row.toRowW) s)&&Mine.Internal.oE s.heap PySem.Challenge.rw_uf010037_14.row.prog.main.body) (XP:=fun mg h=>XL Mine.Internal.V14 [] mg h∧Mine.Internal.jP PySem.Challenge.rw_uf010037_14.row.prog.main.body mg h) (Yf:=Hook.obs Hook.none) (Ya:=Hook.val Hook.none) (YP:=Hook.says Hook.none) (N:=5620)
  Mine.Internal.K0 (Hook.of Hook.none) (Hook.keeps Hook.none) (fun s e=>⟨xl_of s (bl.mp (bl.mp e).1).1,Mine.Internal.Q6 (bl.mp e).2⟩) (fun mg h h' x k=>⟨XL.keeps mg h h' x.1 k,x.2.keeps k⟩) (by rfl) (by rfl) (by rfl) (fun s e=>recFacts_of (bl.mp (bl.mp e).1).2) (by rfl) said (by decide +kernel) ⟨rfl,rfl,rfl,rfl,rfl,by decide +kernel⟩ ?hw ?hc
 case hw=>w_witness2
 intro w s₀ s₁ mg mb G Y fa o pm cd doc dV kV ho hd hcd hD hmg hg args vals as hpre hlay hrd hwl hlo;have GL:Mine.Internal.Glo PySem.Challenge.rw_uf010037_14.row.prog w mg mb s₁.heap:=Mine.Internal.Rd G.T G.X.2 Mine.Internal.Z4 (fun f=>by kernel_rfl) (by kernel_rfl) (by kernel_rfl) (by kernel_rfl);replace hmg:mg (Str.ofString "law")=some (.ref fa):=hmg;clear ho hd hcd hD G Y
 wrow_args hpre hlay hrd hwl hlo
 rename_i ns _ _ _ _ _ _ _ l _ _ _ _ hw _ _ _ hn _;refine Mine.Internal.Rg GL hmg hw (by omega) (by kernel_rfl) (N:=400) (by decide) (Mine.Internal.Z2 ns) fun s' k=>?_;obtain⟨h',tk,rfl,hk⟩:=k;exact GoodW.toG ⟨.inl ⟨_,.bool true,[],rfl,fun _=>by kernel_rfl,.bool true,by kernel_rfl,fun _=>⟨cm,by simp⟩⟩,hk,rfl,hg⟩
