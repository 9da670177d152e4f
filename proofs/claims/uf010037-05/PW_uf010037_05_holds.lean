import PyProof.Rows.All
import Wide.All
import OpenK.AllK
import Wide.FinOn
import PySem.Challenge.RW_uf010037_05
set_option Elab.async false
set_option genSizeOf false
set_option tactic.hygienic false
set_option linter.all false
set_option maxRecDepth 100000
open Array renaming getElem?_eq_getElem->q_,mk->uh,getElem?_toList->xf,getElem?_mapIdx->xg
open Bool renaming and_eq_true_iff->cm,eq_iff_iff->fq,or_eq_false_iff->gk,or_true->gz,false_ne_true->ja,and_eq_true->ml,not_eq_true'->nu,not_eq_true->pq,or_eq_true->p_,eq_false_iff->qg,not_eq_false->rj,noConfusion->ze
open Int renaming ofNat_lt->ca,le_trans->cj,lt_of_lt_of_le->cr,ofNat_le->cz,add_comm->dz,add_nonneg->eu,toNat_lt->ew,not_lt->fy,lt_trans->gg,toNat_le->ig,le_of_lt->ij,eq_ofNat_of_zero_le->ik,fmod_eq_emod_of_nonneg->jc,lt_of_le_of_lt->je,self_le_toNat->jf,le_add_of_nonneg_right->jg,natCast_nonneg->jh,add_le_add_left->ji,natAbs_add_le->jj,toNat_natCast->jm,natAbs_of_nonneg->th,add_lt_add_left->t_,add_assoc->ue,emod_eq_of_lt->uw,add_zero->ux,zero_lt_one->wd,natCast_add->we,sub_self->xo,mul_fdiv_add_fmod->xw,le_of_lt_add_one->yb,add_le_add_right->yc,toNat_of_nonneg->yj,toNat_le_toNat->yv
open List renaming mem_cons_of_mem->af,mem_cons_self->ag,getElem?_eq_getElem->ai,all_eq_true->ak,mem_map->ba,nodup_cons->bh,mem_of_getElem?->bq,getElem?_eq_some_iff->bw,length_singleton->cn,pairwise_cons->cu,getElem?_eq_none->dg,mem_append_right->dq,contains_cons->ec,map_append->ej,mem_filter->eq,nodup_nil->fg,not_lt->ft,filterMap_cons->fw,length_filter_le->fx,getElem?_append_left->gh,getElem?_append_right->gj,getElem_mem->go,mem_map_of_mem->gq,lookup_cons->ic,forall_mem_cons->io,size_toArray->ir,length_dropLast->jb,length_drop->jl,take_length->jn,filter_eq_nil_iff->jq,getElem_inj->jr,mem_filterMap->jt,length_map->j_,length_append->k_,getElem?_map->lz,mem_cons->mo,length->nq,length_take->oh,range->oy,zipWith->pf,length_cons->pg,isEmpty_iff->ph,mem_append->pw,lookup->qc,not_mem_nil->ql,map_cons->qp,map_map->qu,mem_singleton->qx,getElem?_take->qy,nil_append->su,getElem_toArray->te,map_congr_left->tq,getElem_of_mem->tu,map_take->tz,zip_cons_cons->uc,getElem?_set->ul,ext_getElem?->um,drop_length->vh,of_mem_zip->vp,foldl_cons->vq,replicate->wh,mem_or_eq_of_mem_set->wj,drop_eq_getElem_cons->wm,any_cons->wu,pairwise_singleton->wz,filter_cons_of_pos->w_,filter_cons_of_neg->xb,take_of_length_le->xe,contains_iff_mem->xm,mem_of_mem_take->xt,getElem?_append->xu,length_take_le->ya,getElem?_drop->yh,take_add_one->yr,getElem_map->zc,filter_cons->zd
open List.cons renaming inj->yi
open Nat renaming le_trans->aa,add_le_add_right->aj,le_add_right->am,le_succ->ao,lt_of_le_of_lt->au,add_le_add->ax,zero_le->ay,succ_le_succ->be,add_right_comm->bg,le_of_eq->bl,add_le_add_left->bo,le_of_succ_le_succ->bp,le_of_lt->bu,le_refl->bv,le_add_left->bx,ne_of_lt->cb,mul_le_mul_left->cg,le_max_left->co,le_max_right->cw,lt_trans->cy,le_of_add_le_add_right->de,exists_eq_add_of_le'->dw,ne_of_gt->fe,lt_succ_self->fk,add_assoc->fm,le_succ_of_le->gc,lt_succ_iff_lt_or_eq->ge,lt_irrefl->il,zero_add->im,le_of_ble_eq_true->iq,lt_succ_of_lt->iz,min_le_right->jd,lt_succ_of_le->jk,succ->qh,mul_succ->qw,add_comm->sr,min_eq_left->sy,sub_self->uv,le_antisymm->wc,succ_pos->xk,sub_zero->xl,mul_le_mul_right->x_,sub_add_cancel->yn,lt_of_le_of_ne->yo,eq_zero_or_pos->yq,succ_le_of_lt->y_,lt_trichotomy->za,le_of_succ_le->zb
open Nat.succ renaming inj->qb
open Option renaming map_eq_some_iff->az,isSome_iff_exists->gu,isSome->qk,map_some->r_,isSome_map->ub,bind_some->uk,isNone_iff_eq_none->wb
open Option.some renaming inj->m_
open PyProof.Rows renaming StrsAre->qd,sortedS->rm,arrOf->sg,slot_tuple_getitem->tc,SetOf_congr->uj,sortedHeap->uq,risingS->vo,seqObj->wa
open PyProof.Rows.F renaming plain_set_update_loop->ol,entry_set_update_loop->rp
open PySem renaming wpAny_bind->ac,wpAny_pure->ae,wpAny_mono->aq,wpAny_execs_cons->bb,wpAny_loadPart_at->bc,wpAny_items_cons->bf,wpAny_holding->bk,wpAny_items_nil->cc,wpAny_execs_nil->ce,wpAny_standAt->ck,wpAny_truthy_bool->cx,wpAny_isSubtype_exc->dj,wpAny_Call_NameR->fh,wpAny_assign_Name->fi,wpAny_Return_some->fj,wpAny_newObj_type->gn,wpAny_Call_method_lateS->gt,wpAny_Expr_any->gv,wpAny_typeOf->iu,wpAny_pyIter_list->iw,wpAny_storeName_local->jo,wpAny_list_append_plain->jp,PyData->a_,Value->b_,Shared->c_,Str->d_,Addr->f_,sizeLine->g_,Expr->h_,wpAny->i',model->i_,strKind->mc,Stmt->me,Scope->mh,excClassObj->mi,Heap->mj,mainGlobals->mu,sysModules->mw,Around->mz,Arguments->nb,sizeLine_eq->nh,typeLookup->ni,Program->nj,Env->nt,codeAny_call_builtin->oa,Call_name1->og,Pos->oi,NameKind->oj,World->om,Operator->ox,getItem->pv,Builtin->px,codeAny_builtin->qf,swapsWith->qj,OsState->qo,builtinLookup_eq_fast->qr,ExceptHandler->qv,list_getitem_lookup->rc,codeAny->rg,interactive->sd,Keyword->sk,wpAny_assignInOrder_more->sm,merged_length_le->s_,Fin->td,call_meetsIn->tf,Obj->tg,typeLookup_type->tj,setItem->tm,wpAny_loadName_local->uf,GenState->ug,ClassData->un,Flow->uy,plainId_quiet->vf,Tok->vg,Comprehension->vj,wpAny_call->vk,wpAny_Constant_str->vm,Result->wi,CmpOp->wv,recursionLimit->xi,backTo->xj,FuncData->xq,wpAny_comprehension_free->xx,wpAny_assignInOrder_none->xy,wpAny_callSpecial?_slot->ye,PassesOwn->yg,wpAny_allTrue_And_cons->yk,wpAny_Assign_Subscript->yl,codeAny_compStart_list->ym,JoinOk->yu,wpAny_allTrue_Or_cons->yz
open PySem.Around renaming under_plainId->qm,frames_deeper->xh
open PySem.Builtin renaming divisionGoesByPylong->u_
open PySem.Builtin.Dict renaming updateFrom->pe,selfAndRest->uo
open PySem.Builtin.Range renaming rangeFitsLong->tw,small->vx
open PySem.Builtin.Slice renaming sliceAdjust->qq,sliceApplied->ua
open PySem.Builtin.Str renaming glued->ww
open PySem.Builtin.Tuple renaming tupleExact->ot
open PySem.Calls renaming docDef->o_,Name_function_global->wg
open PySem.Code renaming quiet_builtin->qz
open PySem.F renaming plainAttrs_dict->oz,plainAttrs_list->rz,typeOf_object_class->ti,slot_dict_pop->wn,slot_dict_get->wo,kt_typeCall_dict_1->yw,excBase_ValueError->yx
open PySem.Heap renaming get?_push_of_some->ah,lt_size->ci,get?_none_of_le->dh,size_push->gr,get?_push_size->ip,SameBut->mq,get?_update_self->sz,clsAt_spec->vr,get?_update_ne->yd
open PySem.Heap.DictOf renaming new->re
open PySem.Heap.IsSliceOf renaming new->vt
open PySem.Heap.PlainList renaming «at»->nc
open PySem.NameKind renaming cell->ng,«local»->oq,free->qi
open PySem.Obj renaming mapFields->wx
open PySem.PassesOwn renaming leaving->xd
open PySem.PyData renaming str->l_,int->rq,leavesShortAll->sj,dict->sw,list->ur,bool->ut,shown->wt,showableAll->xr,weightAll->yf
open PySem.SeqAt renaming EqAt->v_
open PySem.SeqAt.EqAt renaming str_str->wq
open PySem.Str renaming ofString->e_,empty->xc
open PySem.Value renaming ref->mr,builtin->n_,bool->ou,str->qa,isStrOf_shape->qt,type->xz
open PySem.Value.ref renaming inj->nr
open PySem.Walks renaming list->vy
open PyProof.Rows
open PySem.Challenge renaming rw_uf010037_05->zg
noncomputable section
namespace Mine.Internal
open PySem
variable {a b c d e f g h i j k l m n o p:Type}
def qdS:Shared:=by repeat' first|exact default|intro _|constructor
def qdA:Around:=by repeat' first|exact default|exact qdS|intro _|constructor
def qep(z:Nonempty a)(p:a->Prop):a:=@Classical.epsilon _ z fun x=>¬p x
theorem qe1{z:Nonempty a}{p:a->Prop}(y:p (qep z p))(x):p x:=Classical.byContradiction fun w=>Classical.epsilon_spec (p:=fun x=>¬p x) ⟨x,w⟩ y
theorem qpd{P:Prop}(y:Unit->P):P:=y ()
def qQ4(P:a->b->c->d->Prop)(t:a×b×c×d):=P t.1 t.2.1 t.2.2.1 t.2.2.2
theorem qe4{P:a->b->c->d->Prop}(z:Nonempty (a×b×c×d))(y:let À:=(qep z (qQ4 P)).1;let Á:=(qep z (qQ4 P)).2.1;let Â:=(qep z (qQ4 P)).2.2.1;let Ã:=(qep z (qQ4 P)).2.2.2;P À Á Â Ã)(À Á Â Ã):P À Á Â Ã:=qe1 (p:=qQ4 P) y (À,Á,Â,Ã)
def qQ8(P:a->b->c->d->e->f->g->h->Prop)(t:a×b×c×d×e×f×g×h):=P t.1 t.2.1 t.2.2.1 t.2.2.2.1 t.2.2.2.2.1 t.2.2.2.2.2.1 t.2.2.2.2.2.2.1 t.2.2.2.2.2.2.2
theorem qe8{P:a->b->c->d->e->f->g->h->Prop}(z:Nonempty (a×b×c×d×e×f×g×h))(y:let À:=(qep z (qQ8 P)).1;let Á:=(qep z (qQ8 P)).2.1;let Â:=(qep z (qQ8 P)).2.2.1;let Ã:=(qep z (qQ8 P)).2.2.2.1;let Ä:=(qep z (qQ8 P)).2.2.2.2.1;let Å:=(qep z (qQ8 P)).2.2.2.2.2.1;let Æ:=(qep z (qQ8 P)).2.2.2.2.2.2.1;let Ç:=(qep z (qQ8 P)).2.2.2.2.2.2.2;P À Á Â Ã Ä Å Æ Ç)(À Á Â Ã Ä Å Æ Ç):P À Á Â Ã Ä Å Æ Ç:=qe1 (p:=qQ8 P) y (À,Á,Â,Ã,Ä,Å,Æ,Ç)
def qQ16(P:a->b->c->d->e->f->g->h->i->j->k->l->m->n->o->p->Prop)(t:a×b×c×d×e×f×g×h×i×j×k×l×m×n×o×p):=P t.1 t.2.1 t.2.2.1 t.2.2.2.1 t.2.2.2.2.1 t.2.2.2.2.2.1 t.2.2.2.2.2.2.1 t.2.2.2.2.2.2.2.1 t.2.2.2.2.2.2.2.2.1 t.2.2.2.2.2.2.2.2.2.1 t.2.2.2.2.2.2.2.2.2.2.1 t.2.2.2.2.2.2.2.2.2.2.2.1 t.2.2.2.2.2.2.2.2.2.2.2.2.1 t.2.2.2.2.2.2.2.2.2.2.2.2.2.1 t.2.2.2.2.2.2.2.2.2.2.2.2.2.2.1 t.2.2.2.2.2.2.2.2.2.2.2.2.2.2.2
theorem qe16{P:a->b->c->d->e->f->g->h->i->j->k->l->m->n->o->p->Prop}(z:Nonempty (a×b×c×d×e×f×g×h×i×j×k×l×m×n×o×p))(y:let À:=(qep z (qQ16 P)).1;let Á:=(qep z (qQ16 P)).2.1;let Â:=(qep z (qQ16 P)).2.2.1;let Ã:=(qep z (qQ16 P)).2.2.2.1;let Ä:=(qep z (qQ16 P)).2.2.2.2.1;let Å:=(qep z (qQ16 P)).2.2.2.2.2.1;let Æ:=(qep z (qQ16 P)).2.2.2.2.2.2.1;let Ç:=(qep z (qQ16 P)).2.2.2.2.2.2.2.1;let È:=(qep z (qQ16 P)).2.2.2.2.2.2.2.2.1;let É:=(qep z (qQ16 P)).2.2.2.2.2.2.2.2.2.1;let Ê:=(qep z (qQ16 P)).2.2.2.2.2.2.2.2.2.2.1;let Ë:=(qep z (qQ16 P)).2.2.2.2.2.2.2.2.2.2.2.1;let Ì:=(qep z (qQ16 P)).2.2.2.2.2.2.2.2.2.2.2.2.1;let Í:=(qep z (qQ16 P)).2.2.2.2.2.2.2.2.2.2.2.2.2.1;let Î:=(qep z (qQ16 P)).2.2.2.2.2.2.2.2.2.2.2.2.2.2.1;let Ï:=(qep z (qQ16 P)).2.2.2.2.2.2.2.2.2.2.2.2.2.2.2;P À Á Â Ã Ä Å Æ Ç È É Ê Ë Ì Í Î Ï)(À Á Â Ã Ä Å Æ Ç È É Ê Ë Ì Í Î Ï):P À Á Â Ã Ä Å Æ Ç È É Ê Ë Ì Í Î Ï:=qe1 (p:=qQ16 P) y (À,Á,Â,Ã,Ä,Å,Æ,Ç,È,É,Ê,Ë,Ì,Í,Î,Ï)
end Mine.Internal
set_option bootstrap.genMatcherCode false
set_option compiler.extract_closed false
local macro_rules (kind := Lean.Parser.Tactic.show)
  |s=>`(tactic|refine (?_ : $(⟨s[1]⟩)))
local macro_rules (kind := Lean.Parser.Tactic.subst)
  |s=>
    let l:=s[1].getArgs
    if l.size<2 then Lean.Macro.throwUnsupported else
    let a:Array Lean.Term:=l.pop.map (⟨·⟩)
    `(tactic|(clear $a*; subst $(⟨l.back!⟩)))
local macro_rules (kind := Lean.Elab.Tactic.Ext.ext)
  |s=>
    let l:=s[1].getArgs.map (·[0][0])
    let k:=if 8<l.size then 16-l.size else 3-(l.size+3)%4
    let a:Array Lean.Term:=l.map (⟨·⟩)
    `(tactic|(revert $a*; (iterate $(Lean.quote k) apply Mine.Internal.qpd); refine no_implicit_lambda% ($(Lean.mkIdent (.mkSimple s!"qe{l.size+k}")) ⟨by repeat' first | exact default | exact Mine.Internal.qdS | exact Mine.Internal.qdA | exact True | intro _ | constructor⟩ ?_); (iterate $(Lean.quote k) intro); intro $a*; clear_value *; intros))
local macro_rules (kind := Lean.Parser.Tactic.rewriteSeq)
  |s=>
    let w (l:Array Lean.Syntax):Lean.TSyntax `tactic:=⟨s.setArg 2 (s[2].setArg 1 (.node .none `null l))⟩
    let l:=s[2][1].getArgs
    if l.size>1 then `(tactic|($(w #[l[0]!]); $(w (l.extract 2 l.size))))
    else if 0<s[3].getNumArgs||(s.find? fun s=>s.getKind==`Lean.Parser.Term.byTactic||s.getKind==`Lean.Parser.Term.syntheticHole).isSome then Lean.Macro.throwUnsupported
    else `(tactic|first | with_reducible refine $(Lean.mkIdent (if l[0]![0].getNumArgs==0 then `rwE else `rwF)) ?_ ($(⟨l[0]![1]⟩) ..) | fail)
local macro_rules (kind := Lean.Parser.Command.declaration)
  |s=>if s.getPos?.isNone then Lean.Macro.throwUnsupported else
    let s:=if s[1].getKind==`Lean.Parser.Command.definition then s.setArg 0 (s[0].setArg 4 (.node .none `null #[.node .none `Lean.Parser.Command.noncomputable #[.atom .none "noncomputable"]])) else s
    return s.rewriteBottomUp (·.setInfo .none)
open Option renaming some->à,none->á
open Bool renaming true->â,false->ã
namespace Mine.Internal
open PySem
theorem Zw{p:Prop}[Decidable p](h:decide p=â:=by decide):p:=of_decide_eq_true h
theorem Zv{α:Type}{a b:α}(h:a=b:=by kernel_rfl):a=b:=h
variable {k i r:Int}{a n b c d e f:Nat}{q A B C D E:Prop}
@[elab_as_elim] theorem rwE{α:Sort _}{a b:α}{m:α->Prop}(x:m b)(h:a=b):m a:=h.symm.rec (motive:=λy _=>m y) x
@[elab_as_elim] theorem rwF{α:Sort _}{a b:α}{m:α->Prop}(x:m b)(h:b=a):m a:=h.rec (motive:=λy _=>m y) x
theorem Zs{α:Sort _}{A:α->Prop}(h:∃x,A x)(g:∀x,A x->q):q:=h.elim λx h0=>g x h0
theorem zj(h:A/\B)(g:A->B->q):q:=g h.1 h.2
theorem aD{α:Sort _}{A B:α->Prop}(h:∃x,A x/\B x)(g:∀x,A x->B x->q):q:=h.elim λx h0=>g x h0.1 h0.2
theorem bM{α:Sort _}{β:Sort _}{A:α->β->Prop}(h:∃x,∃y,A x y)(g:∀x,∀y,A x y->q):q:=h.elim λx h0=>h0.elim λy h1=>g x y h1
theorem bN{α:Sort _}{A B C:α->Prop}(h:∃x,A x/\B x/\C x)(g:∀x,A x->B x->C x->q):q:=h.elim λx h0=>g x h0.1 h0.2.1 h0.2.2
theorem bP(h:A/\B/\C)(g:A->B->C->q):q:=g h.1 h.2.1 h.2.2
theorem cL{α:Sort _}{β:Sort _}{A B:α->β->Prop}(h:∃x,∃y,A x y/\B x y)(g:∀x,∀y,A x y->B x y->q):q:=h.elim λx h0=>h0.elim λy h1=>g x y h1.1 h1.2
theorem eG{α:Sort _}{β:Sort _}{A B C:α->β->Prop}(h:∃x,∃y,A x y/\B x y/\C x y)(g:∀x,∀y,A x y->B x y->C x y->q):q:=h.elim λx h0=>h0.elim λy h1=>g x y h1.1 h1.2.1 h1.2.2
theorem dN{α:Sort _}{β:Sort _}{γ:Sort _}{A B:α->β->γ->Prop}(h:∃x,∃y,∃z,A x y z/\B x y z)(g:∀x,∀y,∀z,A x y z->B x y z->q):q:=h.elim λx h0=>h0.elim λy h1=>h1.elim λz h2=>g x y z h2.1 h2.2
theorem dU(h:A/\B/\C/\D/\E)(g:A->B->C->D->E->q):q:=g h.1 h.2.1 h.2.2.1 h.2.2.2.1 h.2.2.2.2
theorem eH{α:Sort _}{β:Sort _}{γ:Sort _}{δ:Sort _}{A B:α->β->γ->δ->Prop}(h:∃x,∃y,∃z,∃u,A x y z u/\B x y z u)(g:∀x,∀y,∀z,∀u,A x y z u->B x y z u->q):q:=h.elim λx h0=>h0.elim λy h1=>h1.elim λz h2=>h2.elim λu h3=>g x y z u h3.1 h3.2
theorem fO(h:A/\B/\C/\D)(g:A->B->C->D->q):q:=g h.1 h.2.1 h.2.2.1 h.2.2.2
theorem gM{α:Sort _}{A B C D:α->Prop}(h:∃x,A x/\B x/\C x/\D x)(g:∀x,A x->B x->C x->D x->q):q:=h.elim λx h0=>g x h0.1 h0.2.1 h0.2.2.1 h0.2.2.2
theorem iK{α:Sort _}{B C:α->Prop}(h:A/\∃x,B x/\C x)(g:A->∀x,B x->C x->q):q:=h.2.elim λx h0=>g h.1 x h0.1 h0.2
theorem jF{α:Sort _}{β:Sort _}{γ:Sort _}{A B C:α->β->γ->Prop}(h:∃x,∃y,∃z,A x y z/\B x y z/\C x y z)(g:∀x,∀y,∀z,A x y z->B x y z->C x y z->q):q:=h.elim λx h0=>h0.elim λy h1=>h1.elim λz h2=>g x y z h2.1 h2.2.1 h2.2.2
theorem kG{α:Sort _}{β:Sort _}{γ:Sort _}{δ:Sort _}{ε:Sort _}{A B C D:α->β->γ->δ->ε->Prop}(h:∃x,∃y,∃z,∃u,∃v,A x y z u v/\B x y z u v/\C x y z u v/\D x y z u v)(g:∀x,∀y,∀z,∀u,∀v,A x y z u v->B x y z u v->C x y z u v->D x y z u v->q):q:=h.elim λx h0=>h0.elim λy h1=>h1.elim λz h2=>h2.elim λu h3=>h3.elim λv h4=>g x y z u v h4.1 h4.2.1 h4.2.2.1 h4.2.2.2
theorem lO{α:Sort _}{β:Sort _}{γ:Sort _}{A:α->β->γ->Prop}(h:∃x,∃y,∃z,A x y z)(g:∀x,∀y,∀z,A x y z->q):q:=h.elim λx h0=>h0.elim λy h1=>h1.elim λz h2=>g x y z h2
theorem lQ{α:Sort _}{β:Sort _}{A:α->Prop}{B C D:α->β->Prop}(h:∃x,A x/\∃y,B x y/\C x y/\D x y)(g:∀x,A x->∀y,B x y->C x y->D x y->q):q:=h.elim λx h0=>h0.2.elim λy h1=>g x h0.1 y h1.1 h1.2.1 h1.2.2
theorem lR{α:Sort _}{β:Sort _}{γ:Sort _}{A B C D:α->β->γ->Prop}(h:∃x,∃y,∃z,A x y z/\B x y z/\C x y z/\D x y z)(g:∀x,∀y,∀z,A x y z->B x y z->C x y z->D x y z->q):q:=h.elim λx h0=>h0.elim λy h1=>h1.elim λz h2=>g x y z h2.1 h2.2.1 h2.2.2.1 h2.2.2.2
theorem lT{α:Sort _}{β:Sort _}{B C:α->β->Prop}(h:A/\∃x,∃y,B x y/\C x y)(g:A->∀x,∀y,B x y->C x y->q):q:=h.2.elim λx h0=>h0.elim λy h1=>g h.1 x y h1.1 h1.2
theorem lU{α:Sort _}{B:α->Prop}(h:A/\∃x,B x)(g:A->∀x,B x->q):q:=h.2.elim λx h0=>g h.1 x h0
theorem qL{α:Sort _}{β:Sort _}{A B C D:α->β->Prop}(h:∃x,∃y,A x y/\B x y/\C x y/\D x y)(g:∀x,∀y,A x y->B x y->C x y->D x y->q):q:=h.elim λx h0=>h0.elim λy h1=>g x y h1.1 h1.2.1 h1.2.2.1 h1.2.2.2
theorem uN{α:Sort _}{β:Sort _}{γ:Sort _}{δ:Sort _}{A:α->β->γ->δ->Prop}(h:∃x,∃y,∃z,∃u,A x y z u)(g:∀x,∀y,∀z,∀u,A x y z u->q):q:=h.elim λx h0=>h0.elim λy h1=>h1.elim λz h2=>h2.elim λu h3=>g x y z u h3
theorem uO{F:Prop}(h:A/\B/\C/\D/\E/\F)(g:A->B->C->D->E->F->q):q:=g h.1 h.2.1 h.2.2.1 h.2.2.2.1 h.2.2.2.2.1 h.2.2.2.2.2
theorem AN{p:Prop}(h:∀q:Prop,(p->q)->q):p:=h p λx=>x
theorem uP{x y:Int}(hx:0<=x)(hy:0<=y)(h:x.toNat=y.toNat):x=y:=by rw[<- yj hx,h,yj hy]
theorem A0{a:Int}(h:a<n):(1+a).toNat<=n:=ig.mpr (by rw[dz];exact h)
theorem p1{a:Int}(h:0<=a):0<=1+a:=eu Zw h
theorem YJ(h:a+16*b+300<c):a+70<c:=au (ax (am a<|16*b) (by decide:70<=300)) h
theorem ax2(h:a+70<b):a<b:=au (am _ _) h
theorem ax4(h:¬a<b):b<=a:=Nat.le_of_not_lt h
theorem ax5(h:a=b)(h1:¬c<a):b<=c:=h▸Nat.le_of_not_lt h1
theorem ax6:0<=300:=by decide
theorem ax7(h:a<63):a / 30+1<=300:=be<|aa (Nat.div_le_self _ _)<|aa (bu h) Zw
theorem ax8(h:a<=300):¬a > 300:=Nat.not_lt.mpr h
theorem ax9(h:a<=1024):a<=16777216:=aa h Zw
theorem Kr:a+b+c*b=a+(c*b+b):=by first | lia | omega
theorem Ks{a:Int}(h:a<=1024):a.toNat<=1024:=ig.mpr h
theorem Kt{a:Int}(h:a.toNat*b<=1024*1024):a.toNat*b<=16777216:=aa h Zw
theorem Ku{a b:Int}(h:0<=a/\a<=1000/\b.natAbs<c):a<=1000000:=cj h.2.1 Zw
theorem Kv{a:Int}(h:1<=a):0<a:=h
theorem Kw{a:Int}(h:1<=a):0<=a:=cj Zw h
theorem Kx{a:Int}(h:¬a<1):1<=a:=fy.mp h
theorem Ky{b c:Int}(h:(↑a:Int)<=(b - 1) / c):¬(↑a:Int) > (b - 1) / c:=fy.mpr h
theorem Kz{a:Int}(h:-100<=a/\a<=1024/\b<=1024):a.toNat<=1024:=ig.mpr h.2.1
theorem K0:min (a - b) (c - b)<=c:=aa (jd _ _)<|Nat.sub_le _ _
theorem A1(h:a - b=0)(h1:b<=a):b=a:=wc h1<|Nat.le_of_sub_eq_zero h
theorem A2(h:a - b=c+1):b<a:=Nat.lt_of_sub_pos (by rw[h];exact xk c)
theorem K2(h:a<=b):min c a<=b:=aa (jd _ _) h
theorem A3(h:a - b=c+1):a - (b+1)=c:=congrArg Nat.pred h
theorem K3:min a b<=b:=jd _ _
theorem K4:0<4096:=by decide
theorem A4(h:a<64):a+1<4096:=au h Zw
theorem K5(h:a<=3):a<30:=au h Zw
theorem A5{a:Int}:a+1+(↑b:Int)=a+((↑b:Int)+1):=by rw[ue,dz 1]
theorem K6{a:Int}(h:-10000<=a):-10000<=a+(1 - 1):=by rw[xo,ux];exact h
theorem K7{a:Int}(h:a<=4096):a+(1 - 1)<=10000:=by rw[xo,ux];exact cj h Zw
theorem K8{a:Int}(h:a<=4096):a.toNat<=16777216:=ig.mpr<|cj h Zw
theorem K9{a:Int}(h:-4096<=a/\a<=4096):-10000<=a:=cj Zw h.1
theorem qM(h:a+b=c)(h1:¬a=c):a<c:=yo (h▸am a b) h1
theorem nV(h:a+b=c)(h1:¬a=c):b - 1<b:=by
 cases b with
 |zero=>exact absurd h h1
 |succ b=>exact fk b
theorem nW(h:a+b=c)(h1:¬a=c):a+1+(b - 1)=c:=by
 cases b with
 |zero=>exact absurd h h1
 |succ b=>exact(bg a 1 b).trans h
theorem La(h:a<=b):a<=b+1:=gc h
theorem Lb(h:a<=b)(h1:c+d=a)(h2:e<=c)(h3:f=e):f<=b:=by rw[h3];exact aa h2<|aa (aa (am c d)<|bl h1) h
theorem Lc(h:a<=b):a<=b:=h
theorem Ld(h:a+b<4096)(h1:c=a)(h2:d=b)(h3:e=16777216):c+d<=e:=by rw[h1,h2,h3];exact aa (bu h) Zw
theorem Le(h:(↑a:Int)<(↑b:Int)):a<b:=ca.mp h
theorem Lf(h:a<b)(h1:c=a)(h2:d<=c+1)(h3:b=e):d<=e:=by rw[<- h3];exact aa h2 (by rw[h1];exact h)
theorem Lg{a:Int}(h:0<=a/\a<(↑b:Int))(h1:c=b):a<(↑c:Int):=by rw[h1];exact h.2
theorem Lh(h:a<100):a+1<=16777216+1:=be<|aa (bu h) Zw
theorem Lj(h:a=b)(h1:c<a):c<b:=h▸h1
theorem Lk(h:a+(b+1)<100):a<100:=au (am _ _) h
theorem Ll(h:a+(b+1)<100):a+1+b<100:=(bg a 1 b).symm▸h
theorem Lm(h:a<50):a<100:=cy h Zw
theorem Ln(h:a=b)(h1:a<50)(h2:c=16777216):b<=c:=by rw[<- h,h2];exact aa (bu h1) Zw
theorem Lo(h:a=1)(h1:b=16777216):a<=b:=by rw[h,h1];decide
theorem Lp(h:1<a):0<a:=cy Nat.zero_lt_one h
theorem Lq(h:a+b+1<c):a+1<c:=au (be<|am _ _) h
theorem Lr(h:a+(b+1)+1<c):a+1+b+1<c:=by rw[bg a 1 b];exact h
theorem Lu(h:a+16*(b+1)+300<c):a+3+16*b+300<c:=by rw[bg a 3];exact au (by rw[qw,<- fm];exact aj (bo Zw _) 300) h
theorem A6(h:a+(b+1)+1<c):a<c:=au (aa (am _ _)<|am _ _) h
theorem Lw(h:a<=63)(h1:b=a)(h2:c=16777216):b<=c:=by rw[h1,h2];exact aa h Zw
theorem Lx(h:a<=400)(h1:b+400+1<c):b+a+1<c:=au (be<|bo h b) h1
theorem Ly(h:a<=400)(h1:b+16*400+300<c):b+16*a+300<c:=au (aj (bo (cg 16 h) b) 300) h1
theorem Lz(h:a<=b - 1)(h1:0<b):a+1<=b:=aa (be h)<|bl<|Nat.sub_add_cancel h1
theorem A7(h:1<=a):1<=(↑a:Int):=cz.mpr h
theorem L0(h:a<=8):(↑a:Int)<=8:=cz.mpr h
theorem L3(h:14<a)(h1:b<=14):b<a:=au h1 h
theorem L4(h:a+1+1<=b+1):a+1<=b:=bp h
theorem L5(h:a<=6):(↑a:Int)<=6:=cz.mpr h
theorem uQ(h:a<=6):a<64:=au h Zw
theorem L7(h:1<=a)(h1:b=a):1<=b:=h1▸h
theorem L9(h:a<=6)(h1:b=a):b<=6:=h1▸h
theorem Ma(h:a<=6)(h1:b=a):b<64:=h1▸au h Zw
theorem Mb(h:a=b)(h1:c=b):a=c:=h.trans h1.symm
theorem Mc(h:a<=b)(h1:c<=b)(h2:b=14):a+c<4096:=by rw[h2] at h h1;exact au (ax h h1) Zw
theorem Md(h:a<1000)(h1:b=16777216):a+1<=b:=by rw[h1];exact aa h Zw
theorem A8(h:2*(a+1)+(b+1)+c+8<=d+4):2*a+b+c+8<=d+2:=by
 have e:2*(a+1)+(b+1)+c+8=2*a+b+c+11:=by rw[qw,Nat.add_add_add_comm,bg (2*a+b)<|2+1]
 rw[e] at h;exact de (b:=2)<|aa (bo (by decide:10<=11) _) h
theorem A9(h:a+(b+1)<=900):a+1+b<=900:=(bg a 1 b).symm▸h
theorem Me(h:2*(max a b+1)+c+(d+e)+8<=f+1):2*a+4<=f:=bp<|aa (ax (aa (aa (cg 2<|gc<|co a b)<|am _ _)<|am _ _) (by decide:5<=8)) h
theorem Ba(h:2*(max a b+1)+c+(d+e)+8<=f+1):2*b+c+e+8<=f:=by
 have e:2*(max a b+1)+c+(d+e)+8=2*max a b+c+(d+e)+10:=by rw[qw,bg (2*max a b) 2 c,bg _ 2<|d+e]
 rw[e] at h;exact bp<|aa (ax (ax (aj (cg 2<|cw a b) c)<|bx _ d) (by decide:9<=10)) h
theorem Bb(h:a+(max b c+1)<=900):a+1+c<=900:=aa (by rw[bg];exact be<|bo (cw b c) a) h
theorem Bd:a+b<=a+(c+b):=bo (bx _ _) _
theorem Be(h:2*(max a b+1)+c+(d+e)+8<=f+1):2*a+(c+e)+d+8<=f:=by
 have e:2*(max a b+1)+c+(d+e)+8=2*max a b+(c+e)+d+10:=by rw[qw,bg (2*max a b) 2 c,bg _ 2<|d+e,sr d e,<- fm,fm (2*max a b) c e]
 rw[e] at h;exact bp<|aa (ax (aj (aj (cg 2<|co a b) _) d) (by decide:9<=10)) h
theorem Bg(h:a+(max b c+1)<=900):a+1+b<=900:=aa (by rw[bg];exact be<|bo (co b c) a) h
theorem Bh(h:a+(b+1)<=900):a+b+1<=900:=h
theorem Mf:a<=a+b:=am _ _
theorem Bi(h:2*max a b+c+max d e+8<=f):2*a+c+d+8<=f:=aa (aj (ax (aj (cg 2<|co a b) c)<|co d e) 8) h
theorem Bj(h:a+max b c+1<=900):a+1+b<=900:=aa (by rw[bg];exact aj (bo (co b c) a) 1) h
theorem qN(h:a+max b c<=d):a+b<=d:=aa (bo (co b c) a) h
theorem Bk(h:2*max a b+c+max d e+8<=f):2*b+c+e+8<=f:=aa (aj (ax (aj (cg 2<|cw a b) c)<|cw d e) 8) h
theorem Bm(h:a+max b c+1<=900):a+c+1<=900:=aa (aj (bo (cw b c) a) 1) h
theorem Bn(h:a+max b c<=d):a+c<=d:=aa (bo (cw b c) a) h
theorem Mg(h:3*a+b+c+10<=d+3):2*a+4<=d+2:=bp<|show 2*a+5<=d+3 from aa (ax (aa (x_ a (by decide:2<=3))<|aa (am _ b)<|am _ c) (by decide:5<=10)) h
theorem Mh(h:3*a+b+c+10<=d+3):2*a+b+c+8<=d+2:=bp<|show 2*a+b+c+9<=d+3 from aa (ax (aj (aj (x_ a (by decide:2<=3)) b) c) (by decide:9<=10)) h
theorem Mi(h:3*a+b+c+10<=d+3):3*a+3<=d+1:=de (b:=2)<|show 3*a+5<=d+3 from aa (ax (aa (am (3*a) b)<|am _ c) (by decide:5<=10)) h
theorem Bp(h:3*a+b+c+10<=d+3):b+1<=d:=de (b:=3)<|show b+4<=d+3 from aa (ax (aa (bx b<|3*a)<|am _ c) (by decide:4<=10)) h
theorem Mj(h:3*a+b+c+10<=d+3):b+c<=d+1:=de<|aa (ax (aj (bx b _) c) (by decide:2<=10)) h
theorem Ml(h:a<=b)(h1:c<=b)(h2:b=14)(h3:d=16777216):a+c<=d:=by rw[h3];rw[h2] at h h1;exact aa (ax h h1) Zw
theorem Mm(h:a+b+3<=c+2):b<=c:=de<|aa (ax (bx b a) (by decide:2<=3)) h
theorem qO(h:a+(b+1)+3<=c+2):b<=c:=de<|aa (ax (aa (ao b)<|bx _ a) (by decide:2<=3)) h
theorem Mo(h:a<=b)(h1:b<1000)(h2:c=16777216):a+1<=c:=by rw[h2];exact aa (y_<|au h h1) Zw
theorem Mp(h:a<=b)(h1:b<1000):a+1<4096:=au (y_<|au h h1) Zw
theorem Mq(h:a+(b+1)+3<=c+3):b<=c:=de<|aa (aj (aa (ao b)<|bx _ a) 3) h
theorem Bq(h:a+1+(b+1)+3<=c+2):a+b+3<=c+1:=bp<|show a+b+4<=c+2 from aa (by rw[bg a 1<|b+1];exact bo (by decide:4<=5)<|a+b) h
theorem Mr(h:max a b+1+c+3<=d+1):a+c+3<=d:=bp<|aa (aj (aj (co a b) c) 4) ((bg (max a b) 1 c)▸h:max a b+c+1+3<=d+1)
theorem Ms(h:max a b+1+c+3<=d+1):b+c+3<=d:=bp<|aa (aj (aj (cw a b) c) 4) ((bg (max a b) 1 c)▸h:max a b+c+1+3<=d+1)
theorem Mt(h:max a b+c+3<=d):b+c+3<=d:=aa (aj (aj (cw a b) c) 3) h
theorem Mu(h:max a b+c+3<=d):a+c+3<=d:=aa (aj (aj (co a b) c) 3) h
theorem uR{a:Int}(h:0<a):0<=a:=ij h
theorem Mv{a:Int}(h:0<a):a≠0:=λe=>Int.lt_irrefl 0<|e▸h
theorem Mw{a:Int}(h:a.toNat<b):a<(↑b:Int):=je (jf a)<|ca.mpr h
theorem Mx{a:Int}(h:0<=a)(h1:a<(↑b:Int)):a.toNat<b:=(ew h).mpr h1
theorem My{a:Int}(h:0<=a):0<=2+a:=eu Zw h
theorem nX{a:Int}(h:0<=a/\a<2):a=0\/a=1:=by obtain⟨n,rfl⟩:=ik h.1;exact(ge.mp<|ca.mp h.2).elim (λh=>.inl<|congrArg Int.ofNat<|Nat.lt_one_iff.mp h) λh=>.inr<|congrArg Int.ofNat h
theorem Mz:a+1+b=a+(b+1):=bg a 1 b
theorem M0(h:a<=1000):a<=16777216:=aa h Zw
theorem M1{a:Int}(h:0<=a/\a<26):a<(↑26:Int):=h.2
theorem qP{a:Int}(h:0<=a/\a<26):a.toNat<26:=(ew h.1).mpr h.2
theorem M2{a b:Int}(h:0<=a/\a<26)(h1:0<=b/\b<26)(h2:a.toNat=b.toNat):a=b:=uP h.1 h1.1 h2
theorem M3{a:Int}(h:0<=a/\a<8):0<1+a:=cr wd<|jg h.1
theorem Bs{a:Int}(h:0<=a/\a<8):0<=1+a:=eu Zw h.1
theorem Bt{a:Int}:min (1+a).toNat 8<=1000:=aa (jd _ _) Zw
theorem M4{a:Int}(h:0<=a/\a<8):1+a≠0:=λe=>absurd (jg h.1:(1:Int)<=1+a) (by rw[e];decide)
theorem M5{a b:Int}(h:0<=a/\a<8)(h1:0<=b/\b<1+a):0<=b/\b<8:=⟨h1.1,cr h1.2<|by rw[dz];exact h.2⟩
theorem M6{a b c:Int}(h:0<=a/\a<26)(h1:0<=b/\b<26)(h2:(c+a) % 26=(c+b) % 26):a=b:=by
 have:=Int.emod_add_cancel_left.mp h2
 rwa [uw h.1 h.2,uw h1.1 h1.2] at this
theorem M7{a:Int}(h:0<=a/\a<14):0<=a / 8/\a / 8<26:=⟨Int.ediv_nonneg h.1 Zw,je (Int.ediv_le_self 8 h.1)<|gg h.2 Zw⟩
theorem M8{a b:Int}(h:0<=a/\a<8)(h1:0<=b/\b<8)(h2:min (1+a).toNat 8=min (1+b).toNat 8):a=b:=by rw[sy<|A0 h.2,sy<|A0 h1.2] at h2;exact Int.add_left_cancel<|uP (p1 h.1) (p1 h1.1) h2
theorem Bu{a:Int}(h:0<=a/\a<8):0<(1+a).toNat:=(Int.lt_toNat).mpr (cr wd<|jg h.1)
theorem M9{a b:Int}(h:0<=a/\a<8)(h1:0<=b/\b<1+a):b.toNat<8/\b.toNat<(1+a).toNat:=⟨(ew h1.1).mpr (cr h1.2<|by rw[dz];exact h.2),(ew h1.1).mpr (cr h1.2<|jf _)⟩
theorem Na{a:Int}(h:0<=a/\a<14):a.toNat<14:=(ew h.1).mpr h.2
theorem Bv{a:Int}(h:0<=a/\a<4):0<=9+a/\9+a<14:=⟨eu Zw h.1,cr (t_ h.2 9) Zw⟩
theorem Nb{a:Int}(h:0<=a/\a<3):a=0\/a=1\/a=2:=by obtain⟨n,rfl⟩:=ik h.1;exact(ge.mp<|ca.mp h.2).elim (λk=>(nX ⟨h.1,ca.mpr k⟩).imp id .inl) λh=>.inr<|.inr<|congrArg Int.ofNat h
theorem Bx(h:a<5):a=0\/a=1\/a=2\/a=3\/a=4:=
 (ge.mp h).elim (λh=>(ge.mp h).elim (λh=>(ge.mp h).elim (λh=>(ge.mp h).elim (λh=>.inl<|Nat.lt_one_iff.mp h) λh=>.inr<|.inl h) λh=>.inr<|.inr<|.inl h) λh=>.inr<|.inr<|.inr<|.inl h) λh=>.inr<|.inr<|.inr<|.inr h
theorem Nc(h:a<5):0<=(↑a:Int)/\(↑a:Int)<14:=⟨jh a,gg (ca.mpr h) Zw⟩
theorem By(h:a+1<=b):a<=b:=zb h
theorem uS(h:0<a):0<(↑a:Int):=ca.mpr h
theorem Nd{a:Int}(h:0<=a/\a<(↑b:Int)):a.toNat<b:=(ew h.1).mpr h.2
theorem Bz(h:0<a):(↑a:Int)≠0:=λe=>fe h<|Int.ofNat.inj e
theorem B5{a:Int}(h:0<=a/\a<4):0<=5+a/\5+a<14:=⟨eu Zw h.1,cr (t_ h.2 5) Zw⟩
theorem Nf{a b:Int}(h:0<=a)(h1:a<b)(h2:c=b.toNat - a.toNat):1<=c:=by rw[h2];exact Nat.sub_pos_of_lt<|(ew h).mpr (cr h1<|jf b)
theorem Ng{a b:Int}(h:a<=b+6)(h1:c=a.toNat - b.toNat):c<=6:=by rw[h1];exact Nat.sub_le_of_le_add (ig.mpr<|cj h<|by rw[we,dz];exact ji (jf b) 6)
theorem Nh{a:Int}:a+1+(↑b:Int)=a+(↑(b+1):Int):=by rw[we,ue,Int.natCast_one,dz 1]
theorem Ni{a c:Int}(h:a=(↑b:Int))(h1:0<=c/\c<a):c.toNat<b:=(ew h1.1).mpr (h▸h1.2)
theorem Nj{a:Int}:a+(↑b:Int) - (a+(↑c:Int))=(↑b:Int) - (↑c:Int):=by first | lia | omega
theorem Nk(h:a<b):0<=(↑b:Int) - (↑a:Int):=Int.sub_nonneg.mpr<|cz.mpr<|bu h
theorem Nl{b:Int}(h:(↑a:Int)<b):(↑a:Int) - (↑c:Int)<b:=je (Int.sub_le_self _<|jh c) h
theorem Nm{b:Int}(h:(↑a:Int)<=b)(h1:c<a):(↑c:Int)<b:=cr (ca.mpr h1) h
theorem Nn{a b c:Int}(h:a.toNat=b.toNat)(h1:0<=a/\a<c)(h2:0<=b/\b<c):a=b:=uP h1.1 h2.1 h
theorem B6(h:a - b > 0):1<=a - b:=h
theorem B7(h:¬a<b)(h1:a - b=0):a=b:=wc (Nat.le_of_sub_eq_zero h1)<|Nat.le_of_not_lt h
theorem No(h:a<=6)(h1:b<a)(h2:c=16777216):b<c:=by rw[h2];exact Nat.lt_of_lt_of_le h1<|aa h Zw
theorem Np(h:a<=6)(h1:b=a):(↑b:Int)<=14:=h1▸cj (cz.mpr h) Zw
theorem Nq(h:a<=b)(h1:c=a):(↑c:Int)<=(↑b:Int):=h1▸cz.mpr h
theorem Nr(h:a+1+4<=b):a+4<=b:=aa (ao _)<|aa (bl<|bg a 4 1) h
theorem Nt{a:Int}(h:0<=a/\a<2):0<=2+a/\2+a<14:=⟨eu Zw h.1,gg (t_ h.2 2) Zw⟩
theorem Nu{a:Int}(h:0<=a/\a<2):0<=3 - a/\3 - a<14:=⟨Int.sub_nonneg.mpr<|cj (ij h.2) Zw,je (Int.sub_le_self 3 h.1) Zw⟩
theorem Nv{a:Int}(h:0<=a/\a<2):(2+a).toNat≠(3 - a).toNat:=by rcases nX h with h|h<;>rw[h]<;>decide
theorem Nw{a:Int}(h:0<=a/\a<4):0<=4+a:=eu Zw h.1
theorem Nx{a b:Int}(h:0<=a/\a<6):4+b<4+b+1+a:=Int.lt_add_of_pos_right _ (cr wd<|jg h.1) |> λz=>by rw[ue<|4+b];exact z
theorem Ny{a b:Int}(h:0<=a/\a<6):4+b+1+a<=4+b+6:=by rw[ue<|4+b,dz 1 a];exact ji h.2 _
theorem Nz{a b:Int}(h:0<=a/\a<4)(h1:0<=b/\b<6):4+a+1+b<=14:=by have e1:a<=3:=yb h.2;have e2:b<=5:=yb h1.2;exact cj (Int.add_le_add (yc (ji e1 4) 1) e2) Zw
theorem N0{a:Int}(h:0<=a/\a<2):0<=5+2*a:=eu Zw<|Int.mul_nonneg Zw h.1
theorem N2{a:Int}:5+2*a<5+2*a+2:=by first | lia | omega
theorem N3{a:Int}:5+2*a+2<=5+2*a+6:=by first | lia | omega
theorem N4{a:Int}(h:0<=a/\a<2):5+2*a+2<=14:=cj (yc (ji (Int.mul_le_mul_of_nonneg_left (ij h.2) Zw) 5) 2) Zw
theorem N5(h:a+1+4<=b):a+4<=b+1:=aa (ao _)<|gc<|aa (bl<|bg a 4 1) h
theorem N6(h:a+4<=b)(h1:c<=2):c+a+3<=b+3:=aa (aj (aj h1 a) 3) (by rw[sr 2 a];exact aj (aa (bo (by decide:2<=4) a) h) 3)
theorem N7(h:a+3<=b+2):a<=b+1:=aa (ao a)<|aa (bp<|bp h)<|ao b
theorem qQ:0+1<=a+1:=be<|ay a
theorem N8(h:a+1+3<=b+2):a<=b:=de (b:=2)<|aa (bo (by decide:2<=4) a) h
theorem N9(h:a+1+3<=b+2):a+3<=b+1:=bp<|aa (bv _) h
theorem Oa(h:a+b<4096)(h1:c=16777216):a+b<=c:=by rw[h1];exact aa (bu h) Zw
theorem Ob{g:Nat}(h:a<=b)(h1:c<=d)(h2:e<=f)(h3:g<=f)(h4:f=14)(h5:b<=e)(h6:d=g):a+c<4096:=by rw[h4] at h2 h3;exact au (ax (aa h<|aa h5 h2)<|aa h1<|h6▸h3) Zw
theorem Oc(h:a+(b+1)=c):a+1<=c:=aa (bo (be<|ay b) a)<|bl h
theorem Od(h:a<4096)(h1:b<=c)(h2:d<=a+b)(h3:c<4096)(h4:e=16777216):d<e:=by rw[h4];exact au (aa h2<|ax (bu h)<|aa h1<|bu h3) Zw
theorem Oe(h:a<=b+c)(h1:d<=e)(h2:f<=e)(h3:e=14)(h4:b<=d)(h5:c=f):a<4096:=by rw[h3] at h1 h2;exact au (aa h<|ax (aa h4 h1)<|h5▸h2) Zw
theorem Of(h:a<=b)(h1:c<=b)(h2:b=14)(h3:d<=a)(h4:e<=c)(h5:f=16777216):d+e<=f:=by rw[h5];rw[h2] at h h1;exact aa (ax (aa h3 h)<|aa h4 h1) Zw
theorem B8(h:2*(a+1)+(b+1)+c+8<=d+3):2*a+b+c+8<=d+1:=by
 have e:2*a+b+c+8+2=2*(a+1)+b+c+8:=by rw[qw,bg (2*a) 2 b,bg _ 2 c]
 exact de<|aa (bl e)<|aa (aj (aj (bo (ao b) _) c) 8) h
theorem Og(h:2*(max a b+1)+c+(d+e)+8<=f+1):a+c+3<=f:=bp<|aa (ax (aa (aj (aa (co a b)<|aa (ao _)<|Nat.le_mul_of_pos_left _ (by decide:0<2)) c)<|am _<|d+e) (by decide:4<=8)) h
theorem Oh(h:a<=9*b)(h1:b<=900)(h2:c<=8)(h3:d=1048576):a+1+(c+1+0)<=d:=by rw[h3];exact aa (ax (be<|aa h<|cg 9 h1)<|be h2) Zw
theorem az0{l:Int}(hl:l.natAbs<10 ^ 30):(if l<0 then -l else l)<(10 ^ 30:Int):=by
 have e:(if l<0 then -l else l)=(l.natAbs:Int):=by
  split
  case isTrue h=>exact(Int.ofNat_natAbs_of_nonpos<|ij h).symm
  case isFalse h=>exact(th<|fy.mp h).symm
 rw[e];exact ca.mpr hl
theorem YL(h:a<=n)(h1:b<=n)(h2:n=14):a+b<4096:=au (ax (h2▸h)<|h2▸h1) Zw
theorem LW{a:Int}(h:0<=a/\a<k)(h1:k<=b):a.natAbs<b:=ca.mp (by rw[th h.1];exact cr h.2 h1)
theorem NJ{a:Int}(h:0<=a/\a<k)(h1:k+c<=b):(a - c).natAbs<b:=by
 refine au (m:=a.natAbs+c) ?_<|ca.mp ?_
 ·exact aa (jj a (-c)) (bl<|by rw[Int.natAbs_neg];rfl)
 ·show(a.natAbs:Int)+c<b;rw[th h.1];exact cr (Int.add_lt_add_right h.2 c) h1
theorem az4{q:Int}(hi:i.natAbs<=10 ^ 20)(hq:0<=q/\q<3):(i+q).natAbs<10 ^ 29:=au (aa (jj i q)<|ax hi<|bu<|LW (b:=3) hq Zw) Zw
theorem az6{q:Int}(h:0<=i/\i<10 ^ 28)(hq:0<=q/\q<2):(i*(1 - q*2)).natAbs<10 ^ 29:=by
 rw[Int.natAbs_mul];have:(1 - q*2).natAbs<=1:=by rcases nX hq with h|h<;>rw[h]<;>decide
 exact au (cg _ this) (by rw[Nat.mul_one];exact LW h Zw)
theorem az7{q:Int}(hq:0<=q/\q<2):(1 - q*2).natAbs<2 ^ 63:=by rcases nX hq with h|h<;>rw[h]<;>decide
theorem az8(hi:i.natAbs<10 ^ 29)(h:0<=r/\r<3):(i+r - 1).natAbs<10 ^ 30:=
 au (aa (jj (i+r) (-1))<|aj (aa (jj i r)<|ax (bu hi)<|bu<|LW (b:=3) h Zw) _) Zw
theorem az9{i j:Nat}(h:i<j)(e:(j:Int) - i=0):False:=cb h (Int.ofNat.inj<|Int.sub_eq_zero.mp e).symm
inductive ϶(r:Int)(L:Nat):Prop where
 |mk (K:Nat) (h1:1<=K) (h2:K<=6) (h3:K<=L) (e:(if 1+r<(L:Int) then 1+r else (L:Int))=K)
theorem Oi{L:Nat}(hr:0<=r/\r<6)(hL:0<L):϶ r L:=by
 obtain⟨n,rfl⟩:=ik hr.1;have hn:n<6:=ca.mp hr.2;rcases Nat.lt_or_ge (1+n) L with h|h
 ·exact⟨1+n,am _ _,sr n 1▸hn,bu h,if_pos<|ca.mpr h⟩
 ·exact⟨L,hL,aa h<|Nat.add_comm n 1▸hn,bv _,if_neg λk=>il _<|Nat.lt_of_lt_of_le (ca.mp k) h⟩
theorem Oj{K:Nat}(h:K<=6):-4096<=(K:Int)/\(K:Int)<=4096:=⟨cj Zw<|jh K,cz.mpr<|aa h Zw⟩
theorem B9(h:3*a+3<=0+1):False:=absurd (aa (bx 3 _) h) Zw
theorem Ok(h:3*a+4<=0+1):False:=absurd (aa (bx 4 _) h) Zw
theorem Ol(h:a<=n)(h2:n=14):a+1<4096:=au (aj (h2▸h) 1) Zw
end Mine.Internal
namespace Mine.Internal
variable {a b c d:Nat}
theorem ay0(h:3*a+3<=b+1)(h1:a=c+1):3*c+3<=b:=by subst h1;exact bp<|aa (bo (by decide:1<=3)<|3*c+3) h
theorem ay1(h:3*a+3<=b+1)(h1:a=max c d+1):3*c+3<=b:=by subst h1;exact bp<|aa (ax (aj (cg 3<|co c d) 3) (by decide:1<=3)) h
theorem ay2(h:3*a+3<=b+1)(h1:a=max c d+1):3*d+3<=b:=by subst h1;exact bp<|aa (ax (aj (cg 3<|cw c d) 3) (by decide:1<=3)) h
theorem ay3(h:3*a+3<=b):2<=b:=aa (aa (by decide:2<=3)<|bx 3 _) h
theorem ay4(h:a=b+1)(h1:3*a+3<=c+2):3*b+4<=c:=by subst h;exact bp<|bp h1
theorem ay5(h:3*a+4<=b):1<=b:=aa (aa (by decide:1<=4)<|bx 4 _) h
theorem ay6(h:a=max b c)(h1:3*a+4<=d+1):3*b+3<=d:=by subst h;exact aa (aj (cg 3<|co b c) 3)<|bp h1
theorem ay7(h:a=max b c)(h1:3*a+4<=d+1):3*c+4<=d+1:=by subst h;exact aa (aj (cg 3<|cw b c) 4) h1
theorem ay8(h:3*a+b+c+10<=d):3*a+3<=d:=aa (ax (aa (am _ b)<|am _ c) Zw) h
theorem YK(h:3*a+b+c+10<=d):b<d:=aa (ax (aa (bx b<|3*a)<|am _ c) (by decide:1<=10)) h
theorem Om(h:3*a+b+c+10<=d):1<=d:=aa (aa (by decide:1<=10)<|bx 10 _) h
theorem Cb(h:a+b<=c):a<c+2:=jk<|gc<|aa (am a b) h
theorem On(h:a<=2)(h1:b<=2):2*a+8+b+8<=399:=aa (aj (ax (aj (cg 2 h) 8) h1) 8) Zw
theorem Cc(h:a<=2):a<=900:=aa h Zw
theorem Oo(h:a<=2)(h1:b<=2):3*a+8+b+10<=398:=aa (aj (ax (aj (cg 3 h) 8) h1) 10) Zw
theorem Op(h:a<=2):8+a+(8+a)<=397:=aa (ax (bo h 8)<|bo h 8) Zw
theorem Oq(h:0<(↑a:Int)):(↑a:Int)≠0:=(Int.ne_of_lt h).symm
theorem Os(h:a<=2):a+5+3<=399:=aa (aj (aj h 5) 3) Zw
theorem Ot(h:a+(b+1)<c):a<c:=au (am _ _) h
theorem Ou(h:a+(b+1)<c):a+1+b<c:=by rw[fm,sr 1];exact h
theorem Ov(h:a<64):0+a<16777216:=by rw[im];exact cy h Zw
theorem Ow(h:a=b)(h1:0<b):b - 1<a:=by rw[h];exact Nat.sub_lt h1 Zw
theorem Ox:-1<0:=by decide
theorem Oy(h:a=b)(h1:0<b):-(↑a:Int)<=-1:=by rw[h];exact Int.neg_le_neg<|cz.mpr h1
theorem Oz(h:a=b):b - 1=(-1+(↑a:Int)).toNat:=by
 subst h;cases a with
 |zero=>rfl
 |succ n=>show n=(-1+((n:Int)+1)).toNat;rw[dz,Int.add_neg_cancel_right];rfl
theorem O0(h:a=b)(h1:0<b):a=b - 1+1:=by rw[h];exact(yn h1).symm
theorem O1(h:2<a):1<a:=cy Zw h
theorem O2(h:a=b)(h1:2<b):1<a:=h▸cy Zw h1
theorem O3(h:2<a):1≠a - 1:=cb<|Nat.lt_sub_of_add_lt h
theorem O4(h:a=b)(h1:2<b):1<(↑a:Int):=ca.mpr<|h▸cy Zw h1
theorem O5(h:¬a=b - 1)(h1:a<b - 1+1):a<b - 1:=yo (Nat.le_of_lt_succ h1) h
theorem O6(h:a<b)(h1:b<c):a<c:=cy h h1
theorem O7(h:a<=b)(h1:c<a):c<=b:=aa (bu h1) h
theorem O8{e:Nat}(h:a<=b)(h1:c+d=a)(h2:e=c):e<=b:=by rw[h2];exact aa (h1▸am c d) h
end Mine.Internal
namespace Mine.Internal
open PySem
variable {p:Prop}{α:Type}
inductive P(α:Type) where
 |no
 |ok (a:α)
theorem zk(h:ã=â):p:=ze h
theorem FZ(h:â=ã):p:=ze h
theorem ns{a:α}(h:á=à a):p:=nomatch h
theorem sn{a:α}(h:à a=á):p:=nomatch h
theorem si{a b:α}(h:à a=à b):a=b:=m_ h
theorem zz{a:α}(h:P.no=.ok a):p:=nomatch h
theorem pi{a b:α}(h:P.ok a=.ok b):a=b:=P.ok.inj h
theorem cB{a:α}(h:a∈([]:List α)):p:=nomatch h
theorem zn(o:Option α)(h:o=á->p)(g:∀x,o=à x->p):p:=by cases o with | none=>exact h rfl | some x=>exact g x rfl
theorem DO(b:Bool)(h:b=ã->p)(g:b=â->p):p:=by cases b with | false=>exact h rfl | true=>exact g rfl
theorem RZ(o:P α)(h:o=.no->p)(g:∀x,o=.ok x->p):p:=by cases o with | no=>exact h rfl | ok x=>exact g x rfl
def P.bind{α β:Type}(x:P α)(f:α->P β):P β:=
 match x with
 | .no=>.no
 | .ok a=>f a
structure X where
 cls:d_
 fields:List (d_×a_)
inductive V where
 |fz (d:a_)
 |own (d:a_)
 |ex (x:X)
 |dp (d:a_)
noncomputable abbrev aA:=List<|Str×Option V
def aA.get:aA->d_->Option (Option V)
 | [],_=>á
 | (y,v)::r,x=>if x=y then à v else aA.get r x
open aA renaming get->zm
def aA.set:aA->d_->V->aA
 | [],_,_=>[]
 | (y,v)::r,x,u=>if x=y then (y,à u)::r else (y,v)::aA.set r x u
open aA renaming set->BQ
def V.cl:V->V
 | .own d=>.fz d
 | .dp d=>.fz d
 |v=>v
open V renaming cl->Zr
def aA.cl:aA->List d_->aA
 | [],_=>[]
 | (y,v)::r,xs=>(y,if xs.contains y then v.map Zr else v)::aA.cl r xs
open aA renaming cl->AB
def Zp:V->a_
 | .fz d=>d
 | .own d=>d
 | .ex _=>.none
 | .dp d=>d
inductive R(α:Type) where
 |no
 |ok (a:α)
 |exc (x:X)
open R renaming ok->Zt
def rb{α β:Type}(r:R α)(k:α->R β):R β:=
 match r with
 | .no=>.no
 | .ok a=>k a
 | .exc x=>.exc x
def Zy{α:Type}:P α->R α
 | .no=>.no
 | .ok a=>.ok a
def nx{α:Type}:R α->R α
 | .ok a=>.ok a
 |_=>.no
def AT{α:Type}:Option α->P α
 |some a=>.ok a
 |none=>.no
def O9:a_->P Bool
 | .bool b=>.ok b
 |_=>.no
def dY:V->P Bool
 | .fz d=>O9 d
 |_=>.no
def a8:Nat:=16777216
def mkS(s:d_):P V:=if s.length<=a8 then .ok (.fz<|.str s) else .no
def nY(x:d_)(n:Int):d_:=
 if n<1 then xc else if (n==1||x.length==0)=â then x else ⟨(wh n.toNat x.cps).foldl (·++·) #[]⟩
def Cd(op:ox)(x y:Int):P V:=
 match op with
 | .Add=>.ok<|.fz<|.int<|x+y
 | .Sub=>.ok<|.fz<|.int<|x - y
 | .Mult=>if x.natAbs<2 ^ 63\/y.natAbs<2 ^ 63 then .ok (.fz<|.int<|x*y) else .no
 | .FloorDiv=>if y≠0/\y.natAbs<2 ^ 63 then .ok (.fz<|.int<|x.fdiv y) else .no
 | .Mod=>if y≠0 then .ok (.fz<|.int<|x.fmod y) else .no
 | .Pow=>if 0<=y/\y<=1000/\x.natAbs<2 ^ 63 then .ok (.fz<|.int<|x ^ y.toNat) else .no
 |_=>.no
def jG:ox->Bool
 | .Add=>â
 |_=>ã
def Ce:ox->Bool
 | .Mult=>â
 |_=>ã
def Pa(op:ox)(x:Int):a_->P V
 | .int y=>Cd op x y
 |_=>.no
def Pb(op:ox)(x:d_):a_->P V
 | .str y=>if jG op=â/\x.length+y.length<=a8 then .ok (.fz<|.str<|x++y) else .no
 | .int y=>if Ce op=â/\-100<=y/\y<=1024/\x.length<=1024 then .ok (.fz<|.str<|nY x y) else .no
 |_=>.no
def dZ(op:ox)(x:List a_):a_->P V
 | .list y=>if jG op=â/\x.length+y.length<=a8 then .ok (.own<|.list<|x++y) else .no
 |_=>.no
def aG(op:ox)(a b:a_):P V:=
 match a with
 | .int x=>Pa op x b
 | .str x=>Pb op x b
 | .list x=>dZ op x b
 |_=>.no
def eqI(x:Int):a_->P Bool
 | .int y=>.ok<|x==y
 |_=>.no
def eqS(x:d_):a_->P Bool
 | .str y=>.ok<|x==y
 |_=>.no
def eqB(x:Bool):a_->P Bool
 | .bool y=>.ok<|x==y
 |_=>.no
def CI:List a_->Option (List d_)
 | []=>à []
 |d::r=>match d with
  | .str s=>(CI r).map (s::·)
  |_=>á
def iL(x y:List a_):P Bool:=
 match CI x with
 |none=>.no
 |some a=>match CI y with
  |none=>.no
  |some b=>.ok<|a==b
def eqL(x:List a_):a_->P Bool
 | .list y=>if x.length=y.length then iL x y else .ok ã
 |_=>.no
def eqT(x:List a_):a_->P Bool
 | .tuple y=>if x.length=y.length then iL x y else .no
 |_=>.no
def eqZ:a_->P Bool
 | .list _=>.ok ã
 |_=>.no
def CU(a b:a_):P Bool:=
 match a with
 | .none=>eqZ b
 | .int x=>eqI x b
 | .str x=>eqS x b
 | .bool x=>eqB x b
 | .list x=>eqL x b
 | .tuple x=>eqT x b
 |_=>.no
def fG(a:d_):List d_->List d_
 | []=>[a]
 |b::r=>if b.cps.toList<a.cps.toList then b::fG a r else a::b::r
def aU:List d_->List d_
 | []=>[]
 |a::r=>fG a<|aU r
def bV:List (a_×a_)->d_->Option a_
 | [],_=>á
 | (.str y,v)::r,x=>if x=y then à v else bV r x
 |_::r,x=>bV r x
def fP:List (a_×a_)->d_->a_->List (a_×a_)
 | [],x,u=>[(.str x,u)]
 | (.str y,v)::r,x,u=>if x=y then (.str y,u)::r else (.str y,v)::fP r x u
 |p::r,x,u=>p::fP r x u
def eR:List (a_×a_)->d_->List (a_×a_)
 | [],_=>[]
 | (.str y,v)::r,x=>if x=y then r else (.str y,v)::eR r x
 |p::r,x=>p::eR r x
def slice{α:Type}(l:List α)(lo hi:Option Int):List α:=(l.drop<|lo.elim 0<|clipAt l.length).take (hi.elim l.length (clipAt l.length) - lo.elim 0 (clipAt l.length))
def cQ(c:Nat):a_:=.str ⟨#[c]⟩
def frz:Option a_->P V
 |some d=>.ok<|.fz d
 |none=>.no
def YI(l:List a_)(k:Int):P V:=if 0<=k/\k<l.length then frz l[k.toNat]? else .no
def YH(l:List a_)(k:Int):P V:=if k<0/\-(l.length:Int)<=k then frz l[(k+l.length).toNat]? else .no
def atS(s:d_)(k:Int):P V:=if 0<=k/\k<s.cps.size then frz (s.cps[k.toNat]?.map cQ) else .no
def Pc(k:Int):a_->P V
 | .list l=>if 0<=k then YI l k else YH l k
 | .tuple l=>YI l k
 | .str s=>atS s k
 |_=>.no
def Pd(x:d_):a_->P V
 | .dict l=>frz<|bV l x
 |_=>.no
def Zx(a i:a_):P V:=
 match i with
 | .int k=>Pc k a
 | .str x=>Pd x a
 |_=>.no
def Pe(l:List a_)(lo hi:Option Int):P V:=if lo=à 1/\hi=à 3/\3<=l.length then .ok (.fz<|.tuple<|(l.drop 1).take 2) else .no
def lV(a:a_)(lo hi:Option Int):P V:=
 match a with
 | .list l=>.ok<|.own<|.list<|slice l lo hi
 | .tuple l=>Pe l lo hi
 |_=>.no
def qR(x:d_)(l:List a_):P Bool:=(AT<|CI l).bind λss=>.ok<|ss.contains x
def inS(x:d_):a_->P Bool
 | .str y=>.ok<|Txt.contains y x
 | .dict l=>.ok (bV l x).isSome
 | .list l=>qR x l
 | .tuple l=>qR x l
 |_=>.no
def contains(a b:a_):P Bool:=
 match a with
 | .str x=>inS x b
 |_=>.no
def b6(p:P Bool):P Bool:=p.bind λb=>.ok (!b)
def fV:a_->Bool
 | .none=>â
 |_=>ã
def qS(a b:a_):P Bool:=
 match b with
 | .none=>.ok<|fV a
 |_=>.no
def n6(f:Int->Int->Bool)(a b:a_):P Bool:=
 match a with
 | .int x=>(match b with | .int y=>.ok (f x y) | _=>.no)
 |_=>.no
def BX(op:wv)(a b:a_):P Bool:=
 match op with
 | .Eq=>CU a b
 | .NotEq=>b6<|CU a b
 | .Lt=>n6 (λx y=>decide (x<y)) a b
 | .LtE=>n6 (λx y=>decide (x<=y)) a b
 | .Gt=>n6 (λx y=>decide (y<x)) a b
 | .GtE=>n6 (λx y=>decide (y<=x)) a b
 | .In=>contains a b
 | .NotIn=>b6<|contains a b
 | .Is=>qS a b
 | .IsNot=>b6<|qS a b
def items:a_->P (List a_)
 | .list l=>.ok l
 | .tuple l=>.ok l
 | .dict l=>.ok<|l.map (·.1)
 | .str s=>.ok<|s.cps.toList.map cQ
 |_=>.no
def Cf:a_->P (List a_)
 | .list l=>.ok l
 | .tuple l=>.ok l
 |_=>.no
def eA(i:Int):List a_->List a_
 | []=>[]
 |x::r=>.tuple [.int i,x]::eA (i+1) r
def fW(i:Int):Nat->List a_
 |0=>[]
 |n+1=>.int i::fW (i+1) n
def FY:List a_->Option (List Bool)
 | []=>à []
 | .bool b::r=>(FY r).map (b::·)
 |_::_=>á
def Pf(l:List a_):P Bool:=(AT<|FY l).bind λbs=>.ok<|bs.all id
def cZ:List d_->List d_
 | []=>[]
 |a::r=>if r.contains a then cZ r else a::cZ r
def Pg:List a_->Option (a_×a_)
 | []=>á
 |a::r=>match r with
  | []=>á
  |b::r=>match r with
   | []=>à (a,b)
   |_::_=>á
def two:a_->Option (a_×a_)
 | .tuple l=>Pg l
 |_=>á
def DX:List (a_×a_)->Option (List<|Str×a_)
 | []=>à []
 |p::r=>match p.1 with
  | .str k=>(DX r).map ((k,p.2)::·)
  |_=>á
def KH:List a_->Option (List<|PyData×a_)
 | []=>à []
 |x::r=>(two x).bind λp=>(KH r).map (p::·)
def eB:List (d_×a_)->List (a_×a_)->List (a_×a_)
 | [],acc=>acc
 |p::r,acc=>eB r<|fP acc p.1 p.2
def b7:a_->Bool
 | .dict _=>â
 |_=>ã
def iM:a_->Bool
 | .int _=>â
 | .bool _=>â
 |_=>ã
def jH:a_->Bool
 | .bool _=>â
 |_=>ã
def fX:a_->Bool
 | .str _=>â
 |_=>ã
def uT:a_->Bool
 | .list _=>â
 |_=>ã
def qT:a_->Bool
 | .tuple _=>â
 |_=>ã
def fz(d:a_):P V:=.ok<|.fz d
def own(d:a_):P V:=.ok<|.own d
def TZ(b:P Bool):P V:=b.bind λb=>.ok<|.fz<|.bool b
def bQ:a_->P V
 | .list l=>fz<|.int l.length
 | .tuple l=>fz<|.int l.length
 | .str s=>fz<|.int s.cps.size
 | .dict l=>fz<|.int l.length
 |_=>.no
def dD:a_->P V
 | .list l=>TZ<|Pf l
 |_=>.no
def eX(l:List a_):P V:=(AT<|CI l).bind λl=>if l.length<64 then own (.list<|(aU l).map .str) else .no
def bX:a_->P V
 | .list l=>eX l
 | .dict l=>eX<|l.map (·.1)
 |_=>.no
def dO:a_->P V
 | .dict l=>own<|.list<|l.map (·.1)
 | .list l=>own<|.list l
 |_=>.no
def kH:a_->P V
 | .list l=>fz<|.tuple l
 |_=>.no
def bA:a_->P V
 | .list l=>(AT<|KH l).bind λl=>(AT<|DX l).bind λl=>if l.length<4096 then own (.dict<|eB l []) else .no
 | .dict l=>own<|.dict l
 |_=>.no
def fH:a_->P V
 | .bool b=>fz<|.int<|if b then 1 else 0
 | .str s=>if s.length<=640 then (AT<|PySem.intText? s).bind λi=>fz (.int i) else .no
 |_=>.no
def uU:a_->P V
 | .int i=>fz<|.int<|if i<0 then -i else i
 |_=>.no
def gN:Nat->a_->Bool
 |0,_=>ã
 |n+1,d=>match d with
  | .str _=>â
  | .int i=>decide (i.natAbs.log2<1920)
  | .list l=>l.all<|gN n
  | .tuple l=>l.all<|gN n
  |_=>ã
def kI:a_->P V
 | .tuple l=>if l.all (gN 24)=â/\(wt<|.tuple l).length<=g_ then .ok (.fz<|.str<|PyData.shown<|.tuple l) else .no
 |_=>.no
def Cg(f:d_)(d:a_):P V:=
 if f ="len" then bQ d
 else if f ="all" then dD d
 else if f ="sorted" then bX d
 else if f ="list" then dO d
 else if f ="tuple" then kH d
 else if f ="dict" then bA d
 else if f ="int" then fH d
 else if f ="abs" then uU d
 else if f ="repr" then kI d
 else .no
def fY(f:d_):Bool:=f =="len" || f =="all" || f =="sorted" || f =="list" || f =="tuple" || f =="dict" || f =="int" || f =="abs" || f =="repr"
def Ph:List a_->Option a_
 | []=>à .none
 |d::r=>match r with
  | []=>à d
  |_::_=>á
def Ch(l:List<|PyData×a_)(r:List a_):a_->P V
 | .str k=>(AT<|Ph r).bind λd=>fz<|(bV l k).getD d
 |_=>.no
def Ci:a_->P (List a_)
 | .list l=>.ok l
 |_=>.no
def Cj(sep:d_)(r:List a_)(d:a_):P V:=
 match r with
 | []=>(Cf d).bind λl=>(AT<|CI l).bind λl=>if yu sep l then fz (.str<|Txt.join sep l) else .no
 |_::_=>.no
def Ck(m:d_)(l:List a_)(as:List a_):P V:=match as with
 | []=>.no
 |d::r=>match r with
  | []=>(match d with
   | .bool k=>(AT<|FY l).bind λbs=>if m ="count" then fz (.int<|bs.countP (·==k)) else (AT<|bs.findIdx? (·==k)).bind λj=>if j<a8 then fz (.int j) else .no
   |_=>.no)
  |_::_=>.no
def VX(m:d_)(o:a_):Bool:=
 match o with
 | .list _=>decide (m ="count")||decide (m ="index")
 | .dict _=>decide (m ="get")
 | .str _=>decide (m ="join")
 |_=>ã
def gO(o:a_)(as:List a_):P V:=
 match as with
 | []=>.no
 |k::r=>match o with
  | .dict l=>Ch l r k
  | .str sep=>Cj sep r k
  |_=>.no
def uV(m:d_)(o:a_)(as:List a_):P V:=match o with
 | .list l=>Ck m l as
 |_=>gO o as
set_option genInjectivity false
inductive EW where
 |name (x:d_)
 |tup (es:List h_)
 |star
 |call (f:h_) (as:List h_) (AD:List sk) (q:oi)
 |attr (o:h_) (m:d_) (p:oi)
 |sub (o i:h_)
 |slice (a b c:Option h_)
 |comp
 |setd
 |other
def vw:h_->EW
 | .Name x _=>.name x
 | .Tuple es _ _=>.tup es
 | .Starred _ _=>.star
 | .Call f as AD q=>.call f as AD q
 | .Attribute o m p=>.attr o m p
 | .Subscript o i _=>.sub o i
 | .Slice a b c _=>.slice a b c
 | .ListComp _ _ _ _=>.comp
 | .SetComp _ _ _ _=>.comp
 | .DictComp _ _ _ _ _=>.comp
 | .Set _ _ _=>.setd
 |_=>.other
def bT(e:h_):Option d_:=match vw e with | .name x=>à x | _=>á
def uW(e:h_):Bool:=match vw e with | .call _ _ _ _=>â | _=>ã
def iN(e:h_):Bool:=match vw e with | .comp=>â | _=>ã
def Cl(e:h_):Bool:=match vw e with | .slice _ _ _=>â | _=>ã
def n7(e:h_):Bool:=match vw e with | .tup _=>â | _=>ã
def jI(e:h_):Option<|Expr×List h_×List sk×oi:=match vw e with | .call f as AD q=>à (f,as,AD,q) | _=>á
def kJ(e:h_):Option<|Expr×d_×oi:=match vw e with | .attr o m p=>à (o,m,p) | _=>á
def uX{α:Type}(AD:List sk)(a:α):Option α:=match AD with | []=>à a | _::_=>á
def zr(e:h_):Bool:=match vw e with | .star=>â | .setd=>â | .slice _ _ _=>â | _=>ã
def bJ:Nat->a_->Bool
 |0,_=>ã
 |n+1,d=>match d with
  | .dict m=>m.all λp=>bJ n p.2
  | .int _=>â
  |_=>ã
structure Ctx where
 call:d_->List V->R V
 has:d_->Bool
 const:d_->Option a_
 hd:Bool
 sub:d_->d_->Option Bool
 init:d_->Option (Option<|List d_)
 emp:d_->Bool
 fu:Nat
def FC(rec:h_->R V):List h_->R (List V)
 | []=>.ok []
 |e::r=>rb (rec e) λv=>rb (FC rec r) λvs=>.ok<|v.cl::vs
def cW(l:List V):List a_:=l.map Zp
def AL(sc:mh)(x:d_):Bool:=sc.names.lookup x==à .globalImplicit
def AV(sc:mh)(x:d_):Bool:=
 match sc.names.lookup x with
 |some .local=>â
 |some .cell=>â
 |some .free=>â
 |_=>ã
def zu(r:R V):R Bool:=rb r λv=>Zy<|dY v
def n8(rec:h_->R V):List h_->R V
 | []=>.no
 |e::r=>match r with
  | []=>rec e
  |r=>rb (rec e) λv=>rb (Zy<|dY v) λb=>if b then n8 rec r else .ok v
def n9(rec:h_->R V):List h_->R V
 | []=>.no
 |e::r=>match r with
  | []=>rec e
  |r=>rb (rec e) λv=>rb (Zy<|dY v) λb=>if b then .ok v else n9 rec r
def aS(b:R Bool):R V:=rb b λb=>.ok<|.fz<|.bool b
def uY(rec:h_->R V)(a:a_)(op:wv)(e:h_):R Bool:=rb (rec e) λv=>Zy<|BX op a<|Zp v
def Pi(rec:h_->R V)(a:a_)(op MY:wv)(e e':h_):R Bool:=rb (rec e) λv=>rb (Zy<|BX op a<|Zp v) λt=>if t then uY rec (Zp v) MY e' else .ok ã
def qU(rec:h_->R V)(a:a_)(ops:List wv)(es:List h_):R Bool:=
 match ops with
 | []=>.no
 |op::ops=>match es with
  | []=>.no
  |e::es=>match ops with
   | []=>(match es with | []=>uY rec a op e | _::_=>.no)
   |MY::ops=>match es with
    | []=>.no
    |e'::es=>match ops with
     | []=>(match es with | []=>Pi rec a op MY e e' | _::_=>.no)
     |_::_=>.no
def qV(rec:h_->R V):List (Option h_)->List h_->R (List<|PyData×a_)
 | [],[]=>.ok []
 |some k::ks,e::es=>rb (rec k) λk=>rb (rec e) λv=>rb (qV rec ks es) λr=>.ok<|(Zp k,Zp v)::r
 |_,_=>.no
def lW(l:List<|PyData×a_):P V:=(AT<|DX l).bind λl=>own<|.dict<|eB l []
def eY:List h_->Option (List d_)
 | []=>à []
 |e::r=>(bT e).bind λx=>(eY r).map (x::·)
def lY(rec:h_->R V)(e:h_):R<|List a_:=rb (rec e) λv=>Zy<|items<|Zp v
def uZ(n:a_):P (List a_):=
 match n with
 | .int n=>if -4096<=n/\n<=4096 then .ok (fW 0 n.toNat) else .no
 |_=>.no
def kK:V->P a_
 | .fz d=>.ok d
 |_=>.no
def u0(rec:h_->R V)(a:h_):R<|List a_:=rb (rec a) λv=>Zy<|(kK v).bind uZ
def u5(rec:h_->R V)(a:h_):R<|List a_:=rb (rec a) λv=>Zy<|(Ci<|Zp v).bind λl=>.ok<|eA 0 l
def Cm:a_->P (List a_)
 | .tuple l=>.ok l
 |_=>.no
def iO(e:h_):Option<|Str×List h_:=(jI e).bind λc=>(bT c.1).bind λx=>uX c.2.2.1 (x,c.2.1)
def fZ(rec:h_->R V)(hd:Bool)(sc:mh)(target:h_)(e:h_):R (List a_):=
 if hd then .no else
 match iO e with
 |none=>lY rec e
 |some c=>
  if c.1 ="range" \/ c.1 ="enumerate" then
   if AL sc c.1 then match c.2 with
    | []=>.no
    |a::r=>match r with
     | []=>if c.1 ="range" then u0 rec a else if c.1 ="enumerate" /\ n7 target=â then u5 rec a else .no
     |_::_=>.no
   else .no
  else lY rec e
def QF(x:d_)(d:a_)(σ:aA):aA:=(".0",á)::(x,à<|.fz d)::σ
def aZ(test:a_->R Bool)(elt:a_->R V):List a_->R (List a_)
 | []=>.ok []
 |d::r=>rb (nx<|test d) λb=>
  if b then rb (nx<|elt d) λv=>rb (aZ test elt r) λxs=>.ok (Zp v::xs)
  else aZ test elt r
inductive Tg where
 |one (x:d_)
 |pair (x y:d_)
def ϡ:List d_->Option Tg
 | []=>á
 |x::r=>match r with
  | []=>á
  |y::r=>(match r with | []=>à (.pair x y) | _::_=>á)
def kL(e:h_):Option Tg:=match vw e with
 | .name x=>à<|.one x
 | .tup es=>(eY es).bind ϡ
 |_=>á
def Tg.ns:Tg->List d_
 | .one x=>[x]
 | .pair x y=>[x,y]
def Tg.apart:Tg->Bool
 | .one _=>â
 | .pair x y=>x != y
def jJ(t:Tg)(d:a_)(σ:aA):Option aA:=match t with
 | .one x=>à<|QF x d σ
 | .pair x y=>(two d).map λq=>(".0",á)::(y,à<|.fz q.2)::(x,à<|.fz q.1)::σ
def oA{α:Type}(t:Tg)(d:a_)(σ:aA)(k:aA->R α):R α:=match t with
 | .one x=>k<|QF x d σ
 | .pair x y=>match two d with
  |some q=>k<|(".0",á)::(y,à<|.fz q.2)::(x,à<|.fz q.1)::σ
  |none=>.no
def jK(test:aA->R Bool)(elt:aA->R V)(t:Tg)(σ:aA)(l:List a_):R<|List a_:=aZ (λd=>oA t d σ test) (λd=>oA t d σ elt) l
def kM(sc:mh)(σ:aA)(x:d_):Option a_:=
 match zm σ x with
 |some o=>(match o with
  |some v=>(match v with | .own d=>if AV sc x then à d else á | _=>á)
  |none=>á)
 |none=>á
def oB(sc:mh)(σ:aA)(e:h_):Option a_:=match bT e with | some x=>kM sc σ x | none=>á
def qW(sc:mh)(σ:aA)(x:d_):Option X:=
 match zm σ x with
 |some o=>(match o with
  |some v=>(match v with | .ex d=>if AV sc x then à d else á | _=>á)
  |none=>á)
 |none=>á
def gQ(sc:mh)(σ:aA)(e:h_):Option X:=match bT e with | some x=>qW sc σ x | none=>á
def lZ(rec:h_->R V)(sc:mh)(σ:aA)(o:h_):R a_:=
 match oB sc σ o with
 |some d=>.ok d
 |none=>rb (rec o) λv=>.ok<|Zp v
def qX:Option oj->Bool
 |some .cell=>â
 |some .free=>â
 |_=>ã
def kN(sc zo:mh)(t:Tg):Bool:=
 zo.kind==.function&&(zo.names.all λp=>match p.2 with
  | .local=>(p.1 ==".0" || t.ns.contains p.1)&&zo.names.lookup p.1==à .local
  | .cell=>ã
  | .free=>qX<|sc.names.lookup p.1
  |_=>â)&&(t.ns.all λx=>x !=".0" && zo.names.lookup x==à .local)&&t.apart&&(zo.names.lookup<|Str.ofString "__debug__").isNone&&(zo.names.lookup<|Str.ofString "__classdict__").isNone
def Pj(a b:a_):P V:=
 match a with
 | .int x=>(match b with | .int y=>fz (.int<|if y<x then y else x) | _=>.no)
 |_=>.no
def qY:List V->P V
 | []=>.no
 |a::r=>match r with
  | []=>.no
  |b::r=>(match r with | []=>(kK a).bind λa=>(kK b).bind λb=>Pj a b | _::_=>.no)
def l0(t:d_)(d:a_):P V:=
 if t ="dict" then fz (.bool<|b7 d)
 else if t ="int" then fz (.bool<|iM d)
 else if t ="bool" then fz (.bool<|jH d)
 else if t ="str" then fz (.bool<|fX d)
 else if t ="list" then fz (.bool<|uT d)
 else if t ="tuple" then fz (.bool<|qT d)
 else .no
def qZ(e:h_):Bool:=match vw e with | .call f _ _ _=>(bT f).isNone | _=>â
def fQ(d:a_):P V:=(Cf d).bind λl=>(AT<|CI l).bind λss=>if ss.length<64 then fz (.int (cZ ss.reverse).length) else .no
def f0:a_->P V
 | .dict l=>own<|.list<|l.map λp=>.tuple [p.1,p.2]
 |_=>.no
def Cn(rec:h_->R V)(sc:mh)(as:List h_):R V:=
 match as with
 | []=>.no
 |x::r=>match r with
  | []=>if AL sc "set" = â then rb (rec x) λv=>Zy (fQ<|Zp v) else .no
  |_::_=>.no
def Co(rec:h_->R V)(o:h_)(ap cp:oi)(as:List h_):R V:=
 match as with
 | []=>if qZ o=â/\(ap.endLine==cp.line)=â then rb (rec o) λv=>Zy (f0<|Zp v) else .no
 |_::_=>.no
def u6(f:d_):Bool:=f =="all" || f =="list" || f =="dict" || f =="set" || f =="sorted"
def jL(rec:h_->R V)(hd:Bool)(f:d_)(a:h_):R V:=if hd&&u6 f then .no else rb (rec a) λv=>Zy<|Cg f<|Zp v
def Cp(rec:h_->R V)(hd:Bool)(sc:mh)(f:d_)(as:List h_)(AD:List sk):R V:=
 if f ="len" /\ hd=ã then (match AD with | []=>Cn rec sc as | _::_=>.no) else .no
def Cq(rec:h_->R V)(hd:Bool)(f:d_)(o:h_)(ap cp:oi)(as:List h_)(AD:List sk):R V:=
 if f ="list" /\ hd=ã then (match AD with | []=>Co rec o ap cp as | _::_=>.no) else .no
def Cr(rec:h_->R V)(hd:Bool)(sc:mh)(f:d_)(a:h_)(as:List h_)(AD:List sk)(cp:oi):EW->R V
 | .name g=>if g ="set" then Cp rec hd sc f as AD else jL rec hd f a
 | .attr o m ap=>if m ="items" then Cq rec hd f o ap cp as AD else jL rec hd f a
 |_=>jL rec hd f a
def u7(rec:h_->R V)(hd:Bool)(sc:mh)(f:d_)(a:h_):R V:=
 match jI a with
 |some c=>Cr rec hd sc f a c.2.1 c.2.2.1 c.2.2.2<|vw c.1
 |none=>jL rec hd f a
def RO(K:Ctx)(c t:d_):P V:=(AT<|K.sub c t).bind λb=>if t ="ValueError" then (if b=â then fz (.bool â) else .no) else fz (.bool b)
def Cs(rec:h_->R V)(K:Ctx)(sc:mh)(σ:aA)(a:h_)(r:List h_):Option d_->R V
 |some t=>(match r with
  | []=>if AL sc t then (match gQ sc σ a with
   |some x=>Zy<|RO K x.cls t
   |none=>rb (rec a) λv=>Zy<|l0 t<|Zp v) else .no
  |_::_=>.no)
 |none=>.no
def Ct(rec:h_->R V)(K:Ctx)(sc:mh)(σ:aA)(as:List h_):R V:=
 match as with
 | []=>.no
 |a::r=>match r with
  | []=>.no
  |b::r=>Cs rec K sc σ a r<|bT b
def Pk(rec:h_->R V)(hd:Bool)(sc:mh)(f:d_)(as:List h_):R V:=
 match as with
 | []=>.no
 |a::r=>(match r with | []=>u7 rec hd sc f a | _::_=>.no)
def l5(rec:h_->R V)(sc:mh)(σ:aA)(e:h_):R V:=
 match gQ sc σ e with
 |some x=>.ok<|.ex x
 |none=>rec e
def jM(rec:h_->R V)(K:Ctx)(sc:mh)(σ:aA)(f:d_)(as:List h_):R V:=
 if AL sc f then
  if f ="isinstance" then Ct rec K sc σ as
  else if f ="min" then (if as.any zr=â\/K.hd=â then .no else rb (FC rec as) λvs=>Zy<|qY vs)
  else if fY f then Pk rec K.hd sc f as
  else if as.any zr=â\/K.has f=ã then .no else rb (FC (l5 rec sc σ) as) λvs=>K.call f vs
 else .no
def u8(rec:mh->aA->h_->R V)(zo:mh):List h_->Option (aA->R Bool)
 | []=>à λ_=>.ok â
 | [c]=>à λσ'=>zu<|rec zo σ' c
 |_=>á
def l8(rec:mh->aA->h_->R V)(hd:Bool)(sc:mh)(σ:aA)(elt:h_)(g:vj)(zo:mh):R V:=
 match kL g.target with
 |none=>.no
 |some x=>if kN sc zo x&&g.is_async==0 then match u8 rec zo g.ifs with
  |none=>.no
  |some t=>rb (rb (fZ (rec sc σ) hd sc g.target g.iter) λl=>jK t (λσ'=>rec zo σ' elt) x σ l) λr=>Zy (own<|.list r)
 else .no
def zi:V->P V
 | .fz d=>.ok<|.fz d
 | .dp d=>.ok<|.fz d
 |_=>.no
def u9(K:Ctx)(sc:mh)(σ:aA)(x:d_):P V:=
 if AV sc x then match zm σ x with
  |some o=>(match o with | some v=>zi v | none=>.no)
  |none=>.no
 else if AL sc x then (AT<|K.const x).bind fz
 else .no
def vA:Const->P V
 | .none=>fz .none
 | .bool b=>fz<|.bool b
 | .int i=>fz<|.int i
 | .str s=>mkS s
 |_=>.no
def Cu:a_->P V
 | .int i=>fz<|.int (-i)
 |_=>.no
def gA(op:UnaryOp)(v:V):P V:=
 match op with
 | .Not=>(dY v).bind λb=>fz<|.bool !b
 | .USub=>Cu<|Zp v
 |_=>.no
def vB(rec:h_->R V)(a:a_)(i:h_):R V:=rb (rec i) λi=>Zy<|Zx a<|Zp i
def WG:V->P (Option Int)
 | .fz d=>(match d with | .int i=>.ok (à i) | _=>.no)
 |_=>.no
def vC(rec:h_->R V):Option h_->R (Option Int)
 |none=>.ok á
 |some e=>rb (rec e) λv=>Zy<|WG v
def oC(e:h_):Option<|Option h_×Option h_×Option h_:=match vw e with | .slice a b c=>à (a,b,c) | _=>á
def vD(rec:h_->R V)(sc:mh)(σ:aA)(o i:h_):R V:=
 match oC i with
 |some c=>(match c.2.2 with
  |none=>rb (lZ rec sc σ o) λa=>rb (vC rec c.1) λlo=>rb (vC rec c.2.1) λhi=>Zy<|lV a lo hi
  |some _=>.no)
 |none=>if zr i then .no else rb (lZ rec sc σ o) λa=>vB rec a i
def oE(rec:h_->R V)(o:h_)(m:d_)(ap:oi)(as:List h_)(cp:oi):R V:=
 if m ="items" \/ qZ o=ã\/(ap.endLine==cp.line)=ã\/as.any zr=â\/3<as.length then .no else
  rb (rec o) λo=>if VX m (Zp o) then rb (FC rec as) λas=>Zy (uV m (Zp o)<|cW as) else .no
def kO(rec:mh->aA->h_->R V)(K:Ctx)(sc:mh)(σ:aA)(e:h_):R V:=
 match e with
 | .Constant c _ _=>Zy<|vA c
 | .Name x _=>Zy<|u9 K sc σ x
 | .BoolOp op vs _=>match op with | .And=>n8 (rec sc σ) vs | .Or=>n9 (rec sc σ) vs
 | .BinOp l op r _=>rb (rec sc σ l) λa=>rb (rec sc σ r) λb=>Zy<|aG op (Zp a)<|Zp b
 | .UnaryOp op x _=>rb (rec sc σ x) λv=>Zy<|gA op v
 | .IfExp t b o _=>rb (zu<|rec sc σ t) λc=>if c then rec sc σ b else rec sc σ o
 | .Dict ks vs _=>if ks.all qk=â/\ks.length=vs.length/\vs.length<=15 then rb (qV (rec sc σ) ks vs) λl=>Zy (lW l) else .no
 | .List es _=>rb (FC (rec sc σ) es) λl=>if l.length<=a8 then .ok (.own<|.list<|cW l) else .no
 | .Tuple es _ _=>rb (FC (rec sc σ) es) λl=>if l.length<=a8 then .ok (.fz<|.tuple<|cW l) else .no
 | .ListComp elt gens zo _=>match gens with
  | []=>.no
  |g::gs=>(match gs with | []=>l8 rec K.hd sc σ elt g zo | _::_=>.no)
 | .Compare l ops es _=>rb (rec sc σ l) λa=>aS<|qU (rec sc σ) (Zp a) ops es
 | .Subscript o i _=>vD (rec sc σ) sc σ o i
 | .Call f as AD cp=>match AD with
  | []=>(match vw f with
   | .attr o m ap=>oE (rec sc σ) o m ap as cp
   | .name f=>jM (rec sc σ) K sc σ f as
   |_=>.no)
  |_::_=>.no
 |_=>.no
def BC(K:Ctx):Nat->mh->aA->h_->R V
 |0=>λ_ _ _=>.no
 |k+1=>kO (BC K k) K
inductive SV where
 |fn (n:d_) (a:nb) (b:List me) (sc:mh)
 |cls (n:d_) (bs:List h_) (b:List me)
 |asg (ts:List h_) (e:h_)
 |other
def sv:me->SV
 | .FunctionDef n a b _ _ _ sc _ _ _=>.fn n a b sc
 | .ClassDef n bs _ b _ _ _ _ _ _ _=>.cls n bs b
 | .Assign ts e _=>.asg ts e
 |_=>.other
def vE:h_->Option Const
 | .Constant c _ _=>à c
 |_=>á
def cX(f:d_):List me->Option (nb×List me×mh)
 | []=>á
 |s::r=>match sv s with
  | .fn n a b sc=>if f=n then à (a,b,sc) else cX f r
  |_=>cX f r
def Cv(s:me):Option<|Str×Const:=match sv s with
 | .asg ts e=>(match ts with
  | []=>á
  |t::r=>(match r with
   | []=>(bT t).bind λx=>(vE e).bind λc=>à (x,c)
   |_::_=>á))
 |_=>á
def Pl:Const->Option a_
 | .int i=>à<|.int i
 | .str s=>if s.length<=a8 then à (.str s) else á
 |_=>á
def jN(body:List me)(x:d_):Option a_:=
 if x ="__name__" then á else body.findSome? λs=>(Cv s).bind λp=>if x=p.1 then Pl p.2 else á
def Cw(b:List me):Option<|List d_:=match b with
 | []=>á
 |s::r=>(match r with
  | []=>(match sv s with | .fn _ a _ _=>à (a.args.drop 1 |>.map (·.arg)) | _=>á)
  |_::_=>á)
def bO(c:d_):List me->Option (d_×Option (List d_))
 | []=>á
 |s::r=>match sv s with
  | .cls n bs b=>if c=n then (match eY bs with | some [y]=>à (y,Cw b) | _=>á) else bO c r
  |_=>bO c r
def jO(body:List me):Nat->d_->d_->Bool
 |0,_,_=>ã
 |n+1,c,d=>c==d||(match bO c body with | some p=>jO body n p.1 d | none=>ã)
def fJ(body:List me)(c d:d_):Option Bool:=
 if ((bO d body).isSome||d =="ValueError")&&(bO c body).isSome then à (jO body 4 c d) else á
def AJ:Nat->h_->List d_
 |0,_=>[]
 |k+1,e=>
  match e with
  | .Name x _=>[x]
  | .BoolOp _ vs _=>vs.flatMap<|AJ k
  | .BinOp l _ r _=>AJ k l++AJ k r
  | .UnaryOp _ x _=>AJ k x
  | .IfExp a b c _=>AJ k a++AJ k b++AJ k c
  | .Dict ks vs _=>ks.flatMap (λo=>o.elim []<|AJ k)++vs.flatMap (AJ k)
  | .List es _=>es.flatMap<|AJ k
  | .Tuple es _ _=>es.flatMap<|AJ k
  | .ListComp elt gens _ _=>AJ k elt++gens.flatMap λg=>AJ k g.iter++g.ifs.flatMap (AJ k)
  | .Compare l _ es _=>AJ k l++es.flatMap (AJ k)
  | .Subscript o i _=>if (bT o).isSome then AJ k i else AJ k o++AJ k i
  | .Slice a b _ _=>a.elim [] (AJ k)++b.elim [] (AJ k)
  | .Attribute o _ _=>AJ k o
  | .Call f as _ _=>(kJ f).elim [] (λc=>AJ k c.1)++as.flatMap (AJ k)
  |_=>[]
def eI(x:d_)(v:V)(σ:aA):P aA:=
 match zm σ x with
 |some _=>.ok<|BQ σ x v
 |none=>.no
def rA:List d_->List a_->aA->P aA
 | [],[],σ=>.ok σ
 |x::xs,d::ds,σ=>(eI x (.fz d) σ).bind λσ=>rA xs ds σ
 |_,_,_=>.no
def a9(target:h_)(d:a_)(σ:aA):P aA:=
 match vw target with
 | .name x=>eI x (.fz d) σ
 | .tup es=>(Cm d).bind λds=>(AT<|eY es).bind λxs=>rA xs ds σ
 |_=>.no
noncomputable abbrev KN:=aA->R V
noncomputable abbrev KR:=V->R V
def aX(body:aA->KN->KR->R V)(target:h_):List a_->aA->KN->KR->R V
 | [],σ,kn,_=>kn σ
 |d::r,σ,kn,kr=>rb (Zy<|a9 target d σ) λσ=>body σ (λσ=>aX body target r σ kn kr) kr
def Pm(l:List<|PyData×a_)(d:a_):a_->P a_
 | .str k=>if l.length<a8 then .ok (.dict<|fP l k d) else .no
 |_=>.no
def Pn(l:List a_)(d:a_):a_->P a_
 | .int k=>if 0<=k/\k<l.length then .ok (.list<|l.set k.toNat d) else .no
 |_=>.no
def setItem(o:a_)(i d:a_):P a_:=
 match o with
 | .dict l=>Pm l d i
 | .list l=>Pn l d i
 |_=>.no
def dH:V->P a_
 | .own d=>.ok d
 |_=>.no
def kP(σ:aA)(x:d_):P a_:=
 match zm σ x with
 |some o=>(match o with | some v=>dH v | none=>.no)
 |none=>.no
def IU(rec:me->aA->KN->KR->R V):List me->aA->KN->KR->R V
 | [],σ,kn,_=>kn σ
 |s::r,σ,kn,kr=>rec s σ (λσ=>IU rec r σ kn kr) kr
def mB(m:d_):a_->Bool
 | .list _=>decide (m ="append")
 | .dict _=>decide (m ="pop")||decide (m ="update")
 |_=>ã
def Po(l:List<|PyData×a_):a_->P a_
 | .str k=>if (bV l k).isSome then .ok (.dict<|eR l k) else .no
 |_=>.no
def Pp(l:List<|PyData×a_):a_->P a_
 | .dict m=>(AT<|DX m).bind λm=>if l.length+m.length<4096 then .ok (.dict<|eB m l) else .no
 |_=>.no
def eZ(m:d_)(o:a_)(as:List a_):P a_:=
 match as with
 | []=>.no
 |d::r=>match r with
  | []=>(match o with
   | .list l=>if l.length<a8 then .ok (.list<|l++[d]) else .no
   | .dict l=>if m ="pop" then Po l d else Pp l d
   |_=>.no)
  |_::_=>.no
def oF(e:h_):Option (d_×d_×oi×List h_×oi):=
 (jI e).bind λc=>(kJ c.1).bind λa=>(bT a.1).bind λx=>uX c.2.2.1 (x,a.2.1,a.2.2,c.2.1,c.2.2.2)
noncomputable abbrev EV:=aA->h_->R V
def vF(ev:EV)(F:Nat)(sc:mh)(σ:aA)(e:h_)(kr:KR):R V:=
 match bT e with
 |some x=>(match kM sc σ x with
  |some d=>kr<|.own d
  |none=>rb (ev σ e) kr)
 |none=>rb (ev (AB σ<|AJ F e) e) kr
def vG(ev:EV)(σ:aA)(x:d_)(i e:h_)(kn:KN):R V:=
 if Cl i then .no else
 rb (ev σ e) λv=>rb (Zy<|kP σ x) λo=>rb (ev σ i) λiv=>rb (Zy<|setItem o (Zp iv)<|Zp v) λo=>rb (Zy<|eI x (.own o) σ) kn
def Cx(ev:EV)(hd:Bool)(σ:aA)(t e:h_)(kn:KN):R V:=
 if uW e=â/\hd=ã then rb (ev σ e) λv=>rb (Zy<|a9 t (Zp v) σ) kn else .no
def rB:a_->P (List<|PyData×a_)
 | .dict l=>.ok l
 |_=>.no
def vH(l:List<|PyData×a_):a_->P (a_×a_)
 | .str k=>(AT<|bV l k).bind λd=>.ok (d,.dict<|eR l k)
 |_=>.no
def Cy(ev:EV)(σ:aA)(x:d_)(i:h_)(y:d_)(ap:oi)(as:List h_)(cp:oi)(kn:KN):R V:=
 if (ap.endLine==cp.line)=ã\/as.any zr=â\/Cl i=â then .no else
 match as with
 | []=>.no
 |k::r=>match r with
  |_::_=>.no
  | []=>rb (Zy<|(kP σ y).bind rB) λl=>rb (ev σ k) λkv=>rb (Zy<|vH l<|Zp kv) λq=>rb (Zy<|eI y (.own q.2) σ) λσ=>rb (Zy<|kP σ x) λo=>rb (ev σ i) λiv=>rb (Zy<|setItem o (Zp iv) q.1) λo=>rb (Zy<|eI x (.own o) σ) kn
def vI(ev:EV)(F:Nat)(σ:aA)(x:d_)(i e:h_)(kn:KN):R V:=
 match oF e with
 |some (y,m,ap,as,cp)=>if m ="pop" then Cy ev (AB σ<|as.flatMap<|AJ F) x i y ap as cp kn else vG ev (AB σ<|AJ F e) x i e kn
 |none=>vG ev (AB σ<|AJ F e) x i e kn
def tpD:a_->V
 | .dict l=>.own<|.dict l
 |d=>.fz d
def JQ:V->V
 | .dp d=>tpD d
 |v=>v
def kQ(f:d_):Bool:=f =="_law_copy" || f =="copied"
def tpE(e:h_)(v:V):V:=match iO e with
 |some c=>if kQ c.1=â then JQ v else v
 |none=>v
def vJ(ev:EV)(F:Nat)(hd:Bool)(σ:aA)(t e:h_)(kn:KN):R V:=
 match vw t with
 | .name x=>rb (ev (AB σ<|AJ F e) e) λv=>rb (Zy<|eI x (tpE e v)<|AB σ<|AJ F e) kn
 | .sub o i=>(match bT o with | some x=>vI ev F σ x i e kn | none=>.no)
 | .tup _=>Cx ev hd (AB σ<|AJ F e) t e kn
 |_=>.no
def rC(ev:EV)(σ:aA)(x m:d_)(ap:oi)(as:List h_)(cp:oi)(kn:KN):R V:=
 if (ap.endLine==cp.line)=ã\/as.any zr=â\/3<as.length then .no else
 rb (Zy<|kP σ x) λo=>if mB m o then rb (FC (ev σ) as) λTE=>rb (Zy<|eZ m o<|cW TE) λo=>rb (Zy<|eI x (.own o) σ) kn else .no
def vK(ev:EV)(F:Nat)(σ:aA)(e:h_)(kn:KN):R V:=
 match oF e with
 |some (x,m,ap,as,cp)=>rC ev (AB σ<|as.flatMap<|AJ F) x m ap as cp kn
 |none=>if iN e then .no else rb (ev (AB σ<|AJ F e) e) λ_=>kn<|AB σ<|AJ F e
def gB{α:Type}(l:List α):Option<|α×α×α×List α:=match l with
 | []=>á
 |a::r=>match r with
  | []=>á
  |b::r=>match r with
   | []=>á
   |c::r=>à (a,b,c,r)
def EA:V->P a_
 | .dp d=>.ok d
 |_=>.no
def Pq(ev:EV)(fu:Nat)(σ:aA)(c:d_)(ps:List d_)(t:h_×h_×h_×List h_):R V:=
 if t.2.2.2.isEmpty=â/\ps.length=3 then
  rb (ev σ t.1) λv1=>rb (ev σ t.2.1) λv2=>rb (ev σ t.2.2.1) λv3=>rb (Zy<|EA v3) λd=>if bJ fu d=â then .exc ⟨c,ps.zip [Zp v1,Zp v2,d]⟩ else .no
 else .no
def vM(ev:EV)(F:Nat)(K:Ctx)(sc:mh)(σ:aA)(e:h_):R V:=
 match iO e with
 |some (c,as)=>if AL sc c=â/\as.any zr=ã/\K.hd=ã then
   (match K.init c with
   |some (à ps)=>(match gB as with | some t=>Pq ev K.fu (AB σ<|as.flatMap<|AJ F) c ps t | none=>.no)
   |some á=>rb (FC (ev<|AB σ<|as.flatMap<|AJ F) as) λvs=>if vs.length=1 then .exc ⟨c,[]⟩ else .no
   |none=>.no) else .no
 |none=>.no
def Cz:List me->Option h_
 | []=>á
 |s::r=>match r with
  | []=>(match s with | .Return o _=>o | _=>á)
  |_::_=>á
def hide(σ:aA)(x:d_):aA:=σ.map λp=>if x=p.1 then (p.1,á) else p
def mD(s:me):Option<|Str×h_:=match s with
 | .Assign ts e _=>(match ts with
  | []=>á
  |t::r=>(match r with | []=>(bT t).map λx=>(x,e) | _::_=>á))
 |_=>á
def vN(s:me):Option<|Expr×me:=match s with
 | .If c b o _=>(match b with
  | []=>á
  |s::r=>(match r with
   | []=>(match o with | []=>à (c,s) | _::_=>á)
   |_::_=>á))
 |_=>á
def kR{α:Type}(l:List α):Option α:=match l with
 | []=>á
 |a::r=>match r with | []=>à a | _::_=>á
def vO(s:me):Option h_:=match s with
 | .Return o _=>o
 |_=>á
def rD{α:Type}(l:List α):Option<|α×α:=match l with
 | []=>á
 |a::r=>(kR r).map λb=>(a,b)
def rE(e:h_):Option<|List h_:=match vw e with | .tup es=>à es | _=>á
def vQ(s:me):Option h_:=match s with
 | .Expr e _=>à e
 |_=>á
def oG(s:me):Option<|Expr×h_:=(vN s).bind λi=>(vO i.2).bind λe=>à (i.1,e)
structure HR where
 s:d_
 cl:h_
 c:d_
 z:d_
 q:h_
 e1:h_
 t:d_
 m1:d_
 m2:d_
 m3:d_
def Ps:Const->Option d_
 | .str s=>à s
 |_=>á
def vR(e:h_):Option d_:=(vE e).bind Ps
def rF(z:d_)(e:h_):Option d_:=(kJ e).bind λa=>(bT a.1).bind λx=>if x=z then à a.2.1 else á
def C0(z:d_)(e:h_):Option<|Str×d_×d_×d_:=(rE e).bind λes=>(gB es).bind λt=>(kR t.2.2.2).bind λd=>(vR t.1).bind λs=>(rF z t.2.1).bind λa=>(rF z t.2.2.1).bind λb=>(rF z d).bind λc=>à (s,a,b,c)
def C2(e:h_):Option<|Str×h_:=(rE e).bind λes=>(rD es).bind λp=>(vR p.1).bind λs=>à (s,p.2)
def C3(h:qv):Option<|Str×d_×List me:=match h with
 | .ExceptHandler t x b _=>t.bind λt=>x.bind λx=>(bT t).bind λc=>à (c,x,b)
def rG(b:List me)(hs:List qv):Option HR:=(Cz b).bind λe=>(C2 e).bind λp=>(kR hs).bind λh=>(C3 h).bind λh=>(rD h.2.2).bind λb2=>(oG b2.1).bind λi=>(vO b2.2).bind λe2=>(C0 h.2.1 e2).bind λt=>à ⟨p.1,p.2,h.1,h.2.1,i.1,i.2,t.1,t.2.1,t.2.2.1,t.2.2.2⟩
def noL:Nat->a_->Bool
 |0,_=>ã
 |n+1,d=>match d with
  | .dict m=>m.all λp=>noL n p.2
  | .tuple l=>l.all<|noL n
  | .int _=>â
  | .str _=>â
  |_=>ã
def LY(n:Nat)(o:Option V):Bool:=match o with
 |none=>â
 |some v=>match v with
  | .fz d=>noL n d
  |_=>ã
def oH:a_->Bool
 | .int _=>â
 | .str _=>â
 |_=>ã
def GZ:a_->Bool
 | .list l=>l.all oH
 |_=>ã
def rH(K:Ctx)(q:HR)(y:X):P V:=(AT<|gB y.fields).bind λp=>if p.1.1=q.m1/\p.2.1.1=q.m2/\p.2.2.1.1=q.m3/\p.2.2.2.isEmpty=â/\K.init y.cls=à (à [q.m1,q.m2,q.m3])/\GZ p.1.2=â/\fX p.2.1.2=â then .ok (.dp<|.tuple [.str q.t,p.1.2,p.2.1.2,p.2.2.1.2]) else .no
def vS(EL:EV)(K:Ctx)(σ:aA)(q:HR)(y:X)(kr:KR):R V:=match K.sub y.cls q.c with
 |some b=>if b=â then rb (Zy<|eI q.z (.ex y) σ) λσ=>rb (nx<|zu<|EL σ q.q) λb=>if b then .no else rb (Zy<|rH K q y) kr else .no
 |none=>.no
def vT(ev EL:EV)(K:Ctx)(sc:mh)(σ:aA)(q:HR)(kr:KR):R V:=
 if AL sc q.c=â/\(K.init q.c).isSome=â/\q.s.length<=a8/\q.t.length<=a8/\zr q.cl=ã/\sc.names.lookup q.z=à .local then if (σ.all λp=>LY K.fu p.2)=â then match ev σ q.cl with
  | .no=>.no
  | .ok v=>rb (Zy<|EA v) λd=>kr<|.dp<|.tuple [.str q.s,d]
  | .exc y=>vS EL K σ q y kr
 else .no else .no
structure HS where
 hn:d_
 a1:h_
 a2:h_
 dn:d_
 e2:h_
 fn:d_
 e3:h_
 an:d_
 e4:h_
 c5:h_
 m:d_
 i6:h_
 i7:h_
 c8:h_
 i9:h_
 c10:h_
 i:h_
 z:h_
 ap:oi
 cp:oi
 rest:List me
def C4(e:h_):Option<|List h_:=match e with
 | .List es _=>à es
 |_=>á
def C5(e:h_):Option<|Expr×h_:=match vw e with | .sub o i=>à (o,i) | _=>á
def vU(e:h_):Option<|Str×h_:=(C5 e).bind λa=>(bT a.1).bind λx=>à (x,a.2)
def rI(s:me):Option<|Str×d_×h_:=(vQ s).bind λe=>(iO e).bind λc=>(kR c.2).bind λa=>(vU a).bind λp=>à (c.1,p)
def C6(s:me):Option<|Expr×d_×h_×h_×oi×oi:=(vN s).bind λj=>(vQ j.2).bind λe=>(jI e).bind λc=>(kJ c.1).bind λa=>(vU a.1).bind λp=>(kR c.2.1).bind λz=>if c.2.2.1.isEmpty=â/\a.2.1 ="append" then à (j.1,p.1,p.2,z,a.2.2,c.2.2.2) else á
def Ϣ(b:List me):Option<|(d_×h_×h_)×(d_×h_)×(d_×h_)×(d_×h_)×List me:=(gB b).bind λs=>(gB s.2.2.2).bind λr=>(mD s.1).bind λa1=>(C4 a1.2).bind λl=>(rD l).bind λl=>(mD s.2.1).bind λa2=>(mD s.2.2.1).bind λa3=>(mD r.1).bind λa4=>if a1.1≠a2.1/\a1.1≠a3.1/\a1.1≠a4.1/\a3.1≠a2.1/\a3.1≠a4.1 then à ((a1.1,l),a2,a3,a4,r.2.1::r.2.2.1::r.2.2.2) else á
def u5B(b:List me):Option<|Expr×(d_×d_×h_)×(d_×d_×h_)×h_×(d_×d_×h_)×(h_×d_×h_×h_×oi×oi)×List me:=(gB b).bind λs=>(gB s.2.2.2).bind λr=>(oG s.1).bind λi5=>(rI s.2.1).bind λm6=>(rI s.2.2.1).bind λm7=>(oG r.1).bind λi8=>(rI r.2.1).bind λm9=>(C6 r.2.2.1).bind λp=>à (i5.1,m6,m7,i8.1,m9,p,r.2.2.2)
def SA(b:List me):Option HS:=(Ϣ b).bind λa=>(u5B a.2.2.2.2).bind λc=>
 if c.2.1.1=c.2.2.1.1/\c.2.1.1=c.2.2.2.2.1.1/\c.2.1.2.1=a.1.1/\c.2.2.1.2.1=a.1.1/\c.2.2.2.2.1.2.1=a.2.2.1.1/\c.2.2.2.2.2.1.2.1=a.2.2.1.1 then
  à ⟨a.1.1,a.1.2.1,a.1.2.2,a.2.1.1,a.2.1.2,a.2.2.1.1,a.2.2.1.2,a.2.2.2.1.1,a.2.2.2.1.2,c.1,c.2.1.1,c.2.1.2.2,c.2.2.1.2.2,c.2.2.2.1,c.2.2.2.2.1.2.2,c.2.2.2.2.2.1.1,c.2.2.2.2.2.1.2.2.1,c.2.2.2.2.2.1.2.2.2.1,c.2.2.2.2.2.1.2.2.2.2.1,c.2.2.2.2.2.1.2.2.2.2.2,c.2.2.2.2.2.2⟩ else á
def emp:a_->a_
 | .dict _=>.dict []
 |d=>d
def rJ:V->P (List a_)
 | .dp d=>(match d with | .tuple l=>.ok l | _=>.no)
 |_=>.no
def fK(k:Int)(v:V):P Unit:=(WG v).bind λo=>if o=à k then .ok () else .no
def VW:Option a_->Bool
 |some d=>uT d
 |none=>ã
def jP(F:Nat)(q:HS):List d_:=AJ F q.a1++AJ F q.a2++AJ F q.e2++AJ F q.e3++AJ F q.e4++AJ F q.c5++AJ F q.c8++AJ F q.c10
def C7(ev:EV)(σ:aA)(q:HS)(l3:List a_)(r:R V):R V:=
 if VW l3[1]?=â/\2<l3.length then rb (ev σ q.i) λPW=>rb (Zy<|fK 1 PW) λ_=>rb (ev σ q.z) λ_=>r else .no
def C8(ev:EV)(fu:Nat)(σ:aA)(q:HS)(l3:List a_)(d3:a_)(kn:KN):R V:=
 if bJ fu d3=â then rb (ev σ q.i9) λv9=>rb (Zy<|fK (-1) v9) λ_=>
 rb (zu<|ev (BQ σ q.fn<|.fz<|.tuple<|l3.dropLast++[emp d3]) q.c10) λNK=>if NK then C7 ev σ q l3 (kn σ) else kn σ else .no
def C9(ev:EV)(fu:Nat)(σ:aA)(q:HS)(d1 d2:a_)(l3:List a_)(kn:KN):R V:=
 rb (zu<|ev (BQ σ q.hn<|.fz<|.list [d1,d2]) q.c5) λb5=>if b5 then .no else
 if bJ fu d1=â/\bJ fu d2=â then
 rb (ev σ q.i6) λv6=>rb (Zy<|fK 0 v6) λ_=>rb (ev σ q.i7) λv7=>rb (Zy<|fK 1 v7) λ_=>
 rb (zu<|ev (BQ σ q.fn<|.fz<|.tuple l3) q.c8) λb8=>if b8 then .no else
 rb (Zy<|AT l3.getLast?) λd3=>C8 ev fu σ q l3 d3 kn else .no
def TN(ev:EV)(F:Nat)(K:Ctx)(sc:mh)(σ0:aA)(q:HS)(kn:KN):R V:=
 if (K.hd=ã/\K.emp q.m=â/\AL sc q.m=â)/\(zr q.a1=ã/\zr q.a2=ã/\iN q.e2=ã/\iN q.e3=ã/\iN q.e4=ã)/\(zr q.i6=ã/\zr q.i7=ã/\zr q.i9=ã/\zr q.i=ã/\zr q.z=ã/\(q.ap.endLine==q.cp.line)=â)/\(zm σ0 q.hn).isSome=â/\(zm σ0 q.fn).isSome=â then
  rb (ev (hide (hide (AB σ0<|jP F q) q.hn) q.fn) q.a1) λu1=>rb (Zy<|EA u1) λd1=>
  rb (ev (hide (hide (AB σ0<|jP F q) q.hn) q.fn) q.a2) λu2=>rb (Zy<|EA u2) λd2=>
  rb (ev (hide (hide (AB σ0<|jP F q) q.hn) q.fn) q.e2) λu=>rb (Zy<|eI q.dn (.fz<|Zp u)<|hide (hide (AB σ0<|jP F q) q.hn) q.fn) λσ=>
  rb (ev (BQ σ q.hn<|.fz<|.list [d1,d2]) q.e3) λu3=>rb (Zy<|rJ u3) λl3=>
  rb (ev (BQ σ q.hn<|.fz<|.list [d1,d2]) q.e4) λu4=>rb (Zy<|EA u4) λd4=>
  rb (Zy<|eI q.an (.fz d4) σ) λσ=>C9 ev K.fu σ q d1 d2 l3 kn
 else .no
def oJ(ev:EV)(F:Nat)(K:Ctx)(sc:mh)(rec:me->aA->KN->KR->R V):List me->aA->KN->KR->R V
 | [],σ,kn,_=>kn σ
 |s::r,σ,kn,kr=>match SA (s::r) with
  |some q=>TN ev F K sc σ q λσ=>IU rec q.rest σ kn kr
  |none=>rec s σ (λσ=>oJ ev F K sc rec r σ kn kr) kr
def Da(ev EL:EV)(F:Nat)(K:Ctx)(sc:mh)(rec:me->aA->KN->KR->R V)(s:me)(σ:aA)(kn:KN)(kr:KR):R V:=
 match s with
 | .Return o _=>(match o with | none=>kr (.fz .none) | some e=>vF ev F sc σ e kr)
 | .Assign ts e _=>match ts with
  | []=>.no
  |t::r=>(match r with | []=>vJ ev F K.hd σ t e kn | _::_=>.no)
 | .Expr e _=>vK ev F σ e kn
 | .If t b o _=>rb (zu<|ev (AB σ<|AJ F t) t) λc=>if c then IU rec b (AB σ<|AJ F t) kn kr else IU rec o (AB σ<|AJ F t) kn kr
 | .For t it b o _=>match o with
  | []=>rb (fZ (ev<|AB σ<|AJ F it) K.hd sc t it) λl=>aX (oJ ev F K sc rec b) t l (AB σ<|AJ F it) kn kr
  |_::_=>.no
 | .Raise o c _=>match o with
  |some e=>(match c with | none=>vM ev F K sc σ e | some _=>.no)
  |none=>.no
 | .Try b hs o f _=>match o with
  | []=>(match f with
   | []=>(match rG b hs with
    |some q=>if K.hd then .no else vT ev EL K sc σ q kr
    |none=>.no)
   |_::_=>.no)
  |_::_=>.no
 | .Pass _=>kn σ
 |_=>.no
def L'(ev EL:EV)(F:Nat)(K:Ctx)(sc:mh):Nat->me->aA->KN->KR->R V
 |0=>λ_ _ _ _=>.no
 |k+1=>Da ev EL F K sc<|L' ev EL F K sc k
def e8(ps:List d_)(vs:List V):List (d_×oj)->aA
 | []=>[]
 | (x,k)::r=>match k with
  | .local=>(x,(ps.zip vs).lookup x)::e8 ps vs r
  | .cell=>(x,(ps.zip vs).lookup x)::e8 ps vs r
  |_=>e8 ps vs r
def dW:Nat:=24
def mE:List d_->Bool
 | []=>â
 |x::r=>!r.contains x&&mE r
def jQ(a:nb)(sc:mh):Bool:=
 a.posonlyargs.isEmpty&&a.vararg.isNone&&a.kwonlyargs.isEmpty&&a.kwarg.isNone&&a.defaults.isEmpty&&a.kw_defaults.isEmpty &&
 sc.kind==.function&&!sc.isGenerator&&!sc.isCoroutine&&mE (sc.names.map (·.1))&&mE (a.args.map (·.arg)) &&
 (sc.names.all λp=>p.2 != .free)&&(a.args.all λx=>match sc.names.lookup x.arg with | some .local=>â | some .cell=>â | _=>ã) &&
 (sc.names.lookup<|Str.ofString "__debug__").isNone&&(sc.names.lookup<|Str.ofString "__classdict__").isNone
def PJ(sc:mh)(x:d_):Bool:=sc.names.lookup x==à .local||sc.names.lookup x==à .cell
def mF:List V->Option a_
 | []=>á
 |u::r=>match r with
  | []=>(match u with | .fz d=>à d | _=>á)
  |_::_=>á
def oK(n:Nat)(hd:Bool)(f:d_)(vs:List V):Option a_:=if hd=ã/\kQ f=â then (mF vs).bind λd=>if bJ n d=â then à d else á else á
def eC(body:List me)(n:Nat)(call:d_->List V->R V)(hd:Bool):Ctx:=
 ⟨call,λf=>(cX f body).isSome,jN body,hd,fJ body,λc=>(bO c body).map (·.2),λm=>m =="_law_emptied",n⟩
def run(body:List me):Nat->Bool->d_->List V->R V
 |0,_,_,_=>.no
 |n+1,hd,f,vs=>match oK (n+1) hd f vs with
  |some d=>.ok<|.dp d
  |none=>match cX f body with
   |none=>.no
   |some (a,b,sc)=>
    if a.args.length=vs.length/\jQ a sc=â then
     IU (L' (BC (eC body n (run body n hd) hd) dW sc) (BC (eC body n (run body n â) â) dW sc) dW (eC body n (run body n hd) hd) sc dW) b (e8 (a.args.map (·.arg)) vs sc.names) (λ_=>.ok<|.fz .none) .ok
    else .no
def rK(st:me):Option (d_×d_×d_):=
 match sv st with
 | .asg ts e=>(match ts with
  | []=>á
  |t::r=>(match r with
   | []=>(kJ t).bind λc=>(bT c.1).bind λx=>(bT e).bind λy=>à (x,c.2.1,y)
   |_::_=>á))
 |_=>á
def EY:List b_:=[.type "ValueError",.type "Exception",.type "BaseException",.type "object"]
def rM(body:List me):Nat->d_->List d_
 |0,_=>[]
 |n+1,c=>match bO c body with
  |some p=>(match bO p.1 body with | some _=>p.1::rM body n p.1 | none=>[])
  |none=>[]
def vV(h:mj)(n:d_):b_:=(h.nsMap mu n).getD .none
def oM(h:mj)(chain:List d_):List b_:=chain.map (vV h)++EY
def rN(h:mj)(ns:f_)(l:List d_):Bool:=l.all λn=>(h.nsMap ns n).isNone
def rO(h:mj)(l:List d_)(chain:List d_):Bool:=chain.all λn=>match h.clsAt mu n with
 |some x=>h.isNs x.2.2.ns&&rN h x.2.2.ns l
 |none=>ã
def Pt(sf:d_)(ps:List d_):FuncBody->Bool
 | .stmts b=>decide (b.map rK=ps.map λp=>à (sf,p,p))
 |_=>ã
def vW(fd:xq)(ps:List d_):Bool:=
 match fd.params.args with
 | []=>ã
 |a::r=>fd.params.posonlyargs.isEmpty&&fd.params.vararg.isNone&&fd.params.kwonlyargs.isEmpty&&fd.params.kwarg.isNone&&decide (r.map (·.arg)=ps)&&Pt a.arg ps fd.body&&fd.closure.isEmpty&&decide (fd.defaults=.none) &&
  decide (fd.scope.kind=.function)&&!fd.scope.isGenerator&&!fd.scope.isCoroutine&&mE (a.arg::ps)&&((a.arg::ps).all λx=>decide (fd.scope.names.lookup x=à .local)&&!(x==("__debug__" : d_)))&&decide (ps.length<50)
def vX(h:mj)(ps:List d_)(oI:tg):Bool:=decide (oI.cls=.type "function")&&(match oI.data with | .func fd=>h.codeRecOk fd.code fd.qualname&&vW fd ps | _=>ã)
def JD:List d_:=[e_ "__getattribute__",e_ "__getattr__",e_ "__class__"]
def Db(h:mj)(cd:un)(chain:List d_):Option (List d_)->Bool
 |none=>(h.nsMap cd.ns "__init__").isNone&&rN h cd.ns JD&&rO h (e_ "__init__" :: JD) chain
 |some ps=>cd.hasDict&&(match h.nsMap cd.ns "__init__" with | some (.ref fI)=>(h.get? fI).any (vX h ps) | _=>ã)&&rN h cd.ns (e_ "__setattr__" :: (ps++JD))&&rO h (e_ "__init__" :: e_ "__setattr__" :: (ps++JD)) chain
def rQ(h:mj)(chain:List d_)(CF:Option<|List d_)(x:f_×tg×un):Bool:=
 decide (x.2.1.cls=.type "type")&&decide (x.2.2.mro=.ref x.1::oM h chain)&&!x.2.2.hasDel&&decide (x.2.1.slots.size=6)&&decide (x.2.1.slots[4]?=à (à<|.builtin "ValueError.__new__"))&&h.isNs x.2.2.ns&&Db h x.2.2 chain CF
def Pu(s:me):Option d_:=match sv s with
 | .cls n _ _=>à n
 |_=>á
def oN(body:List me):List d_:=body.filterMap Pu
def Dc(h:mj)(body:List me)(c:d_)(C:f_):Bool:=(oN body).all λd=>match h.nsMap mu d with
 |some (.ref D)=>decide ((mr C::oM h (rM body 4 c)).contains (.ref D)=jO body 4 c d)
 |_=>â
def Pv(h:mj)(body:List me)(c:d_)(p:d_×Option (List d_)):Bool:=(h.clsAt mu c).any λx=>rQ h (rM body 4 c) p.2 x&&Dc h body c x.1
def rR(h:mj)(body:List me):Bool:=(oN body).all λc=>match bO c body with
 |none=>â
 |some p=>Pv h body c p
end Mine.Internal
open Mine.Internal.aA renaming get->zm
open Mine.Internal.aA renaming set->BQ
open Mine.Internal.V renaming cl->Zr
open Mine.Internal.aA renaming cl->AB
open Mine.Internal.R renaming ok->Zt
namespace Mine.Internal
open PySem PySem.W PyProof.Rows
def Pw(s:me):Bool:=match sv s with
 | .asg ts _=>(match ts with
  | []=>â
  |t::r=>(match r with
   | []=>(bT t).elim â λx=>!(x =="__name__")
   |_::_=>â))
 |_=>â
def Px(p:nj):nj:={p with main:={p.main with body:=p.main.body.filter Pw}}
end Mine.Internal
namespace Mine.Internal
open PySem PySem.W
def oO(tb:String->Option px)(p:nj)(w:om)(kz:Nat)(ann:Option b_):Nat->SharedT->Thread->Option SharedT
 |0,_,_=>á
 |n+1,s,t=>match through t with
  |true=>à s
  |false=>match stepOk kz ann t with
   |false=>á
   |true=>match stepT (denote tb) p w s t with
    |some r=>oO tb p w kz ann n r.1 r.2
    |none=>á
theorem Py{tb:String->Option px}{p:nj}{w:om}{kz:Nat}{ann:Option b_}:∀{n:Nat} {s s':SharedT} {t:Thread},oO tb p w kz ann n s t=à s'->topRun tb p w kz ann n s.abs t=à s'.abs:=by
 intro v0;induction v0 with
 |zero=>intro _ _ _ h;cases h
 |succ n ih=>
  intro s s' t h;unfold oO at h;unfold topRun;cases he:through t with
  |true=>rw[he] at h;cases h;rfl
  |false=>
   rw[he] at h;cases hk:stepOk kz ann t with
   |false=>rw[hk] at h;cases h
   |true=>
    rw[hk] at h;cases hs:stepT (denote tb) p w s t with
    |none=>rw[hs] at h;cases h
    |some r=>obtain⟨jy,lq⟩:=r;rw[hs] at h;rw[stepT_spec hs];exact ih h
def Dd(l:List tg):BT×Nat:=l.foldl (λx o=>(x.1.ins x.2 o,x.2+1)) (.nil,0)
def oP(w:om)(os:qo):SharedT:=⟨(Dd (boot_heap w.params).objs.toList).1,(Dd (boot_heap w.params).objs.toList).2,(boot_heap w.params).life,uh [],boot_drawn,boot_toks,os⟩
def vY{α:Type}(p q:nj)(loose:List d_)(Xt:c_->Bool)(Yf:c_->α)(g0:Bool)(w:om)(S:SharedT):=
 (staticsOk (importedModules p.main.body) (boot_heap w.params) S.abs.heap&&namesBound p S.abs.heap&&gensDone S.abs&&laidKept (boot_heap w.params) S.abs.heap,openSeen q loose (importedModules p.main.body) Xt g0 S.abs,Yf S.abs)
theorem Pz{p q:nj}{loose:List d_}{Xt:c_->Bool}{α:Type}{Yf:c_->α}{Ya:om->α}{N:Nat}{g0:Bool}
  (ho:∀w:om,(fencedOpening treeTable p w N).map (λs=>(s.heap,s.gens,s.drawn,s.toks))=à (boot_heap w.params,uh [],boot_drawn,boot_toks))
  (hb:∀w os,(oP w os).abs=⟨boot_heap w.params,uh [],boot_drawn,boot_toks,os⟩) (AR:∀w:om,(boot_heap w.params).isNs mu=â)
  (hr:∀(w:om) (os:qo),(oO treeTable p w (boot_heap w.params).objs.size ((boot_heap w.params).nsMap mu "__annotations__") N (oP w os) (topStub p)).map (vY p q loose Xt Yf g0 w)=à (â,openGood q loose,Ya w)):LeftO p q loose Xt Yf Ya N g0:=λw=>by
 obtain⟨s,hs,hv⟩:=az.mp<|ho w;obtain⟨S,h1,h2⟩:=az.mp<|hr w s.os;have e:s=(oP w s.os).abs:=by rw[hb];obtain⟨h,g,d,t,os⟩:=s;cases hv;rfl
 have h3:=Py h1;rw[<- e] at h3;have eh:s.heap=boot_heap w.params:=congrArg (·.1) hv;have eg:s.gens=uh []:=congrArg (·.2.1) hv;unfold openEnds;rw[hs];show(topFrom treeTable p w N s).map _=_;unfold topFrom;rw[eh,eg,AR w];unfold vY at h2;obtain⟨k1,k2⟩:=Prod.mk.inj h2;show((topRun treeTable p w (boot_heap w.params).objs.size ((boot_heap w.params).nsMap mu "__annotations__") N s (topStub p)).bind _).map _=_;rw[h3];show(match (staticsOk (importedModules p.main.body) (boot_heap w.params) S.abs.heap&&namesBound p S.abs.heap&&gensDone S.abs&&laidKept (boot_heap w.params) S.abs.heap) with|true=>à S.abs|false=>á).map _=_;rw[k1];exact congrArg à k2
end Mine.Internal
namespace Mine.Internal
open PySem PySem.W PyProof.Rows
def EI:nj:=Px zg.prog
set_option maxHeartbeats 8000000 in
theorem P0:∀w os,(oP w os).abs=⟨boot_heap w.params,uh [],boot_drawn,boot_toks,os⟩:=λw os=>by kernel_rfl
theorem P4:∀w:om,(boot_heap w.params).isNs mu=â:=λw=>by kernel_rfl
theorem P5:∀w:om,(fencedOpening treeTable zg.row.prog w 6064).map (λs=>(s.heap,s.gens,s.drawn,s.toks))=à (boot_heap w.params,uh [],boot_drawn,boot_toks):=
 boot_open (by kernel_rfl) (by kernel_rfl) λs=>by kernel_rfl
end Mine.Internal
namespace Mine.Internal
open PySem PySem.W PyProof.Rows
def Df(q:nj)(S:SharedT):=(seen ((recsOf q).map (·.name)) (ownsOf q) [] {S.abs with gens:=#[]},S.abs.heap.bltView)
def Dg{α:Type}(p q:nj)(loose:List d_)(Xt:c_->Bool)(Yf:c_->α)(g0:Bool)(w:om)(S:SharedT):=
 (staticsOk (importedModules p.main.body) (boot_heap w.params) S.abs.heap&&namesBound p S.abs.heap&&gensDone S.abs&&laidKept (boot_heap w.params) S.abs.heap,
  S.abs.heap.keysOk (looseW q loose) ((recsOf q).map (·.name)) ((litsOf q).map (·.1)) ((clssOf q<|looseW q loose).map (·.name))&&S.abs.heap.accountedOkI (importedModules p.main.body)&&S.abs.heap.isNs mu&&S.abs.heap.isNs builtinsNs&&tablesOk q S.abs.heap&&Xt S.abs&&(if g0 then S.abs.gens.size==0 else !leftWithCleanup S.abs.gens),Yf S.abs)
def vZ(q:nj)(loose:List d_)(S:SharedT):=(tabsOk q S.abs,pinSeenD q (drecsOf q) S.abs,plainSeenE q (looseW q loose) S.abs,plainSeenD q loose S.abs,wideSeen q S.abs,clsSeenW q loose S.abs)
theorem P6{p q:nj}{loose:List d_}{Xt:c_->Bool}{α:Type}{Yf:c_->α}{Ya:α}{g0:Bool}{w:om}{o:Option SharedT}
  (h1:o.map (Df q)=à (expectedOf q,bltViewBooted)) (h2:o.map (Dg p q loose Xt Yf g0 w)=à (â,â,Ya)) (h3:o.map (vZ q loose)=à (â,pinGoodD<|drecsOf q,plainGoodE q<|looseW q loose,plainGoodD q loose,wideGood q,clsGoodW q loose)) :
  o.map (vY p q loose Xt Yf g0 w)=à (â,openGood q loose,Ya):=by
 cases o with
 |none=>cases h1
 |some S=>obtain⟨a1,a2⟩:=Prod.mk.inj<|Option.some.inj h1;obtain⟨b1,b2⟩:=Prod.mk.inj<|Option.some.inj h2;obtain⟨b2,b3⟩:=Prod.mk.inj b2;have c:=m_ h3;show à (_,(_,_,_,vZ q loose S),Yf S.abs)=_;rw[b1,a1,a2,b2,c,b3];rfl
def wA(w:om)(os:qo):Option SharedT:=oO treeTable zg.row.prog w (boot_heap w.params).objs.size ((boot_heap w.params).nsMap mu "__annotations__") 6064 (oP w os) (topStub zg.row.prog)
set_option maxHeartbeats 8000000 in
theorem P7:∀(w:om) (os:qo),(wA w os).map (Df EI)=à (expectedOf EI,bltViewBooted):=λw os=>by kernel_rfl
set_option maxHeartbeats 8000000 in
theorem P8:∀(w:om) (os:qo),(wA w os).map (Dg zg.row.prog EI [] (λs=>(xlAt EI [] s&&recOk (RowW.records zg.row.toRowW) s)&&rR s.heap zg.row.prog.main.body) (Hook.obs Hook.none) â w)=à (â,â,Hook.val Hook.none w):=λw os=>by kernel_rfl
set_option maxHeartbeats 8000000 in
theorem P9:∀(w:om) (os:qo),(wA w os).map (vZ EI [])=à (â,pinGoodD<|drecsOf EI,plainGoodE EI<|looseW EI [],plainGoodD EI [],wideGood EI,clsGoodW EI []):=λw os=>by kernel_rfl
theorem Qa:LeftO zg.row.prog EI [] (λs=>(xlAt EI [] s&&recOk (RowW.records zg.row.toRowW) s)&&rR s.heap zg.row.prog.main.body) (Hook.obs Hook.none) (Hook.val Hook.none) 6064:=
 Pz P5 P0 P4 λw os=>P6 (P7 w os) (P8 w os)<|P9 w os
end Mine.Internal
namespace Mine.Internal
open PySem
variable {a sl I D ad Ca:f_}{av av' pn pn' N' GQ CJ S kg jx P1 P2:f_->Prop}{A:mz}{hd:Bool}{op:wv}{C C':Ctx}{ev EL:EV}{env:nt}{e t target elt iter ie:h_}{rec:h_->R V}{h h' B:mj}{NP ki:Int}{fs:List<|Str×a_}{kvs:List<|Str×b_}{fp:List f_}{ops:List wv}{l:List nt}{es as ifs:List h_}{ds:List a_}{body:List me}{xs ss:List d_}{us:List V}{ys bm B_ vals:List b_}{M:Model}{i n tk kk nn j F line ff:Nat}{KO:Nat->mj->Prop}{o:tg}{CF:Option<|List d_}{od:Option f_}{v0:Option V}{pos p' ap cp GU PO q' xp r1 r2 r3 r4 r5 r6 r7 r8 p2 p3:oi}{c:Prop}{d w' d1 d2:a_}{r pt pb po rest:R V}{sc scope zo:mh}{s s' s'' jw:c_}{x f z m y self pa pc hn:d_}{kindOf:d_->Option oj}{α β γ β':Type}{u:V}{v va vb vi fv it vd PL fl v1 v2 v3 pm cd doc:b_}{E Q:b_->c_->Prop}{σ σ':aA}
def Vw(e:h_):EW->Prop
 | .name x=>∃p,e=.Name x p
 | .tup es=>∃k p,e=.Tuple es k p
 | .call f as AD q=>e=.Call f as AD q
 | .attr o m p=>e=.Attribute o m p
 | .sub o i=>∃p,e=.Subscript o i p
 | .slice a b c=>∃p,e=.Slice a b c p
 |_=>True
theorem Qb(e:h_):Vw e<|vw e:=by cases e<;>first | exact trivial | exact⟨_,rfl⟩ | exact⟨_,_,rfl⟩ | exact rfl
theorem dP{v:EW}(h:vw e=v):Vw e v:=h▸Qb e
inductive OB{α β:Type}(o:Option α)(f:α->Option β)(b:β):Prop where
 |mk (a:α) (h:o=à a) (g:f a=à b):OB o f b
theorem ob{o:Option α}{f:α->Option β}{b:β}(h:o.bind f=à b):OB o f b:=by
 cases o with
 |none=>exact nomatch h
 |some a=>exact⟨a,rfl,h⟩
theorem Qc{AD:List sk}{a b:α}(h:uX AD a=à b):AD=[]/\a=b:=by
 cases AD with
 |nil=>cases h;exact⟨rfl,rfl⟩
 |cons=>cases h
theorem eJ(h:bT e=à x):∃p,e=.Name x p:=by
 unfold bT at h;generalize hv:vw e=v at h;cases v with
 |name y=>cases h;exact dP hv
 |_=>cases h
theorem rS{c:h_×List h_×List sk×oi}(h:jI e=à c):e=.Call c.1 c.2.1 c.2.2.1 c.2.2.2:=by
 unfold jI at h;generalize hv:vw e=v at h;cases v with
 |call f as AD q=>cases h;exact dP hv
 |_=>cases h
theorem rT{c:h_×d_×oi}(h:kJ e=à c):e=.Attribute c.1 c.2.1 c.2.2:=by
 unfold kJ at h;generalize hv:vw e=v at h;cases v with
 |attr o m p=>cases h;exact dP hv
 |_=>cases h
theorem Qd{c:Option h_×Option h_×Option h_}(h:oC e=à c):∃p,e=.Slice c.1 c.2.1 c.2.2 p:=by
 unfold oC at h;generalize hv:vw e=v at h;cases v with
 |slice=>cases h;exact dP hv
 |_=>cases h
theorem wB(h:zr e=ã)(x:b_):foldedSetIterable e env x=pure x:=by unfold foldedSetIterable;cases e<;>first | rfl | cases h
theorem eD(h:zr e=ã):starEach (e::es) env=(ã,eval e env)::starEach es env:=by cases e<;>first | rfl | cases h
theorem Qe{t:Sem b_}(h:zr e=ã):markedBehindIn op e t=t:=by refine markedBehindIn_of_false ?_;cases e<;>first | rfl | cases h
theorem wC{o i:b_}(h:zr e=ã):subscripted e ã o i=operate [o,i] (pv o i):=by cases e<;>first | rfl | cases h
theorem gR{r:R α}(hb:zr e=â->r=.no)(h:r≠.no):zr e=ã:=by
 cases e':zr e with
 |false=>rfl
 |true=>exact absurd (hb e') h
theorem wD{c:d_×List h_}(h:iO e=à c):∃p q,e=.Call (.Name c.1 p) c.2 [] q:=by obtain⟨⟨f,as,AD,q⟩,h1,h⟩:=ob h;obtain⟨x,h2,h⟩:=ob h;refine zj (Qc h) λzq HO=>?_;subst h zq;subst h HO;refine Zs (eJ h2) λp zq=>?_;subst h2 h zq;exact⟨p,q,rS h1⟩
inductive SN(f:d_)(a:nb)(b:List me)(sc:mh):Prop where
 |mk (P X:d_) (zo:mh) (p1 p2 p3 p4 p5 p6 p7 p8 p9 CT q1 q2 q3 q4 q5 q6:oi) (q7:Nat) (q8 q9 EF IM:oi) (ha:a.args.map (·.arg)=[P]) (fn:jQ a sc=â) (g1:AL sc "isinstance" = â) (g2:AL sc "dict" = â) (lP:AV sc P=â) (YO:kN sc zo (.one X)=â) (gf:AL zo f=â) (Τ:AV zo P=â) (lX:AV zo X=â) (ne:P≠X/\P ≠ ".0" /\ X ≠ ".0") (nf:f ≠ "isinstance" /\ f ≠ "min" /\ fY f=ã)
  (e:b=[.If (.Call (.Name "isinstance" p1) [.Name P p2,.Name "dict" p3] [] p4) [.Return (à<|.Call (.Name "dict" p5) [.ListComp (.Tuple [.Name X q1,.Call (.Name f q2) [.Subscript (.Name P q3) (.Name X q4) q5] [] q6] q7 q8) [⟨.Name X q9,.Name P EF,[],0⟩] zo IM] [] p6) p7] [] p8,.Return (à<|.Name P p9) CT]):SN f a b sc
theorem Dh{s:me}{f:h_×me}(h:vN s=à f):∃pos,s=.If f.1 [f.2] [] pos:=by
 cases s with
 |If c b o pos=>
  cases b with
  |nil=>exact ns h
  |cons s r=>
   cases r with
   |cons=>exact ns h
   |nil=>
    cases o with
    |cons=>exact ns h
    |nil=>replace h:=si h;subst h;exact⟨pos,rfl⟩
 |_=>exact ns h
theorem Di{h:List h_}(q:rE e=à h):∃k p,e=.Tuple h k p:=by
 unfold rE at q;cases hv:vw e with
 |tup es=>rw[hv] at q;replace q:=si q;subst q;exact dP hv
 |_=>rw[hv] at q;exact ns q
theorem Dj{s:me}(h:vO s=à e):∃pos,s=.Return (à e) pos:=by
 cases s with
 |Return o pos=>exact⟨pos,by rw[show o=à e from h]⟩
 |_=>exact ns h
theorem oQ{l:List α}{a:α}(h:kR l=à a):l=[a]:=by
 cases l with
 |nil=>exact ns h
 |cons b r=>
  cases r with
  |nil=>rw[m_ h]
  |cons=>exact ns h
theorem wE{l:List α}{p:α×α}(h:rD l=à p):l=[p.1,p.2]:=by
 cases l with
 |nil=>exact ns h
 |cons b r=>refine aD (az.mp<|show(kR r).map (λc=>(b,c))=à p from h) λc h1 zq=>?_;subst h zq;rw[oQ h1]
theorem Qf{s:me}{a:d_×h_}(h:mD s=à a):∃p pos,s=.Assign [.Name a.1 p] a.2 pos:=by
 cases s with
 |Assign ts e pos=>
  cases ts with
  |nil=>exact ns h
  |cons t r=>
   cases r with
   |cons=>exact ns h
   |nil=>refine aD (az.mp<|show(bT t).map (λx=>(x,e))=à a from h) λx h1 zq=>?_;subst h zq;refine Zs (eJ h1) λp zq=>?_;subst h1 zq;exact⟨p,pos,rfl⟩
 |_=>exact ns h
theorem Dk{c:d_×d_×oi×List h_×oi}(h:oF e=à c):∃p,e=.Call (.Attribute (.Name c.1 p) c.2.1 c.2.2.1) c.2.2.2.1 [] c.2.2.2.2:=by
 obtain⟨c1,h1,h⟩:=ob h;obtain⟨a,h2,h⟩:=ob h;obtain⟨x,h3,h⟩:=ob h;have e1:=rS h1;have e2:=rT h2;refine Zs (eJ h3) λp e3=>?_;obtain⟨f,as,AD,q⟩:=c1;obtain⟨o,m,ap⟩:=a;cases AD with
 |cons=>exact ns h
 |nil=>replace h:=si h;subst h;exact⟨p,by rw[e1,show f=_ from e2,show o=_ from e3]⟩
theorem Dl{s:me}(h:vQ s=à e):∃pos,s=.Expr e pos:=by
 cases s with
 |Expr e' pos=>obtain rfl:=si h;exact⟨pos,rfl⟩
 |_=>exact ns h
theorem kS{l:List α}{t:α×α×α×List α}(h:gB l=à t):l=t.1::t.2.1::t.2.2.1::t.2.2.2:=by
 cases l with
 |nil=>exact ns h
 |cons a r=>
  cases r with
  |nil=>exact ns h
  |cons b r=>
   cases r with
   |nil=>exact ns h
   |cons c r=>replace h:=si h;subst h;rfl
theorem Dm{s:me}{a:h_×h_}(h:oG s=à a):∃p1 p2,s=.If a.1 [.Return (à a.2) p1] [] p2:=by obtain⟨i,h1,h⟩:=ob h;obtain⟨e,h2,h⟩:=ob h;exact Zs (Dh h1) λp2 e1=>Zs (Dj h2) λp1 e2=>⟨p1,p2,by rw[e1,e2,<- m_ h]⟩
theorem oR(h:EA u=.ok d):u=.dp d:=by
 cases u with
 |dp e=>exact congrArg V.dp<|pi h
 |_=>exact zz h
theorem Qg{c:Const}(h:vE e=à c):∃k p,e=.Constant c k p:=by
 cases e with
 |Constant c' k p=>obtain rfl:=si h;exact⟨k,p,rfl⟩
 |_=>exact ns h
theorem Dn{s:d_}(h:vR e=à s):∃k p,e=.Constant (.str s) k p:=by
 obtain⟨c,h1,h⟩:=ob h;refine bM (Qg h1) λk p zq=>?_;subst h1 zq;cases c with
 |str x=>obtain rfl:=si h;exact⟨k,p,rfl⟩
 |_=>exact ns h
theorem wF(h:rF z e=à m):∃p q,e=.Attribute (.Name z p) m q:=by
 obtain⟨a,h1,h⟩:=ob h;obtain⟨x,h2,h⟩:=ob h
 by_cases hc:x=z
 ·have hm:=si<|(if_pos hc).symm.trans h;exact Zs (eJ h2) λp e2=>⟨p,a.2.2,by rw[rT h1,e2,hc,hm]⟩
 ·exact ns<|(if_neg hc).symm.trans h
theorem Qh{t:d_×d_×d_×d_}(h:C0 z e=à t):∃k p1 p2 p3 p4 p5 p6 p7 k' p8,e=.Tuple [.Constant (.str t.1) k p1,.Attribute (.Name z p2) t.2.1 p3,.Attribute (.Name z p4) t.2.2.1 p5,.Attribute (.Name z p6) t.2.2.2 p7] k' p8:=by obtain⟨es,h1,h⟩:=ob h;obtain⟨u,h2,h⟩:=ob h;obtain⟨d,h3,h⟩:=ob h;obtain⟨s,h4,h⟩:=ob h;obtain⟨a,h5,h⟩:=ob h;obtain⟨b,h6,h⟩:=ob h;obtain⟨c,h7,h⟩:=ob h;replace h:=si h;subst h;exact bM (Di h1) λk' p8 e1=>bM (Dn h4) λk p1 e4=>bM (wF h5) λp2 p3 e5=>bM (wF h6) λp4 p5 e6=>bM (wF h7) λp6 p7 e7=>⟨k,p1,p2,p3,p4,p5,p6,p7,k',p8,by rw[e1,kS h2,oQ h3,e4,e5,e6,e7]⟩
theorem Qi{t:d_×h_}(h:C2 e=à t):∃k p1 k' p2,e=.Tuple [.Constant (.str t.1) k p1,t.2] k' p2:=by obtain⟨es,h1,h⟩:=ob h;obtain⟨u,h2,h⟩:=ob h;obtain⟨s,h3,h⟩:=ob h;replace h:=si h;subst h;exact bM (Di h1) λk' p2 e1=>bM (Dn h3) λk p1 e3=>⟨k,p1,k',p2,by rw[e1,wE h2,e3]⟩
theorem Qj{h:qv}{t:d_×d_×List me}(g:C3 h=à t):∃p q,h=.ExceptHandler (à<|.Name t.1 p) (à t.2.1) t.2.2 q:=by obtain⟨o,x,b,q⟩:=h;obtain⟨e,rfl,g⟩:=ob<|show o.bind (λt=>x.bind λx=>(bT t).bind λc=>à (c,x,b))=à t from g;obtain⟨x',rfl,g⟩:=ob g;obtain⟨c,h3,g⟩:=ob g;replace g:=si g;subst g;refine Zs (eJ h3) λp zq=>?_;subst h3 g zq;exact⟨p,q,rfl⟩
theorem Qk{b:List me}(h:Cz b=à e):∃pos,b=[.Return (à e) pos]:=by
 cases b with
 |nil=>exact ns h
 |cons s r=>
  cases r with
  |cons=>exact ns h
  |nil=>
   cases s with
   |Return o pos=>cases o with
    |none=>exact ns h
    |some e'=>replace h:=si h;subst h;exact⟨pos,rfl⟩
   |_=>exact ns h
inductive TB(b:List me)(hs:List qv)(q:HR):Prop where
 |mk (k k' k2 k3:Nat) (p1 p2 p3 p4 p5 p6 p7 p8 r1 r2 r3 r4 r5 r6 r7 r8 p9:oi) (e:b=[.Return (à<|.Tuple [.Constant (.str q.s) k p1,q.cl] k' p2) p3])
  (f:hs=[.ExceptHandler (à<|.Name q.c p4) (à q.z) [.If q.q [.Return (à q.e1) p6] [] p7,.Return (à<|.Tuple [.Constant (.str q.t) k2 r1,.Attribute (.Name q.z r2) q.m1 r3,.Attribute (.Name q.z r4) q.m2 r5,.Attribute (.Name q.z r6) q.m3 r7] k3 r8) p8] p9]):TB b hs q
theorem Ql{b:List me}{hs:List qv}{q:HR}(h:rG b hs=à q):TB b hs q:=by obtain⟨e,h1,h⟩:=ob h;obtain⟨p,h2,h⟩:=ob h;obtain⟨hh,h3,h⟩:=ob h;obtain⟨t,h4,h⟩:=ob h;obtain⟨b2,h5,h⟩:=ob h;obtain⟨i,h6,h⟩:=ob h;obtain⟨e2,h7,h⟩:=ob h;obtain⟨u,h8,h⟩:=ob h;replace h:=si h;subst h;refine Zs (Qk h1) λp3 f1=>uN (Qi h2) λk p1 k' p2 f2=>bM (Qj h4) λp4 p9 f4=>bM (Dm h6) λp6 p7 f6=>Zs (Dj h7) λp8 f7=>?_;obtain⟨k2,r1,r2,r3,r4,r5,r6,r7,k3,r8,f8⟩:=Qh h8;exact⟨k,k',k2,k3,p1,p2,p3,p4,p4,p6,p7,p8,r1,r2,r3,r4,r5,r6,r7,r8,p9,by rw[f1,f2],by rw[oQ h3,f4,wE h5,f6,f7,f8]⟩
theorem Qm{h:List h_}(q:C4 e=à h):∃p,e=.List h p:=by
 cases e with
 |List es p=>obtain rfl:=si q;exact⟨p,rfl⟩
 |_=>exact ns q
theorem Do{a:d_×h_}(h:vU e=à a):∃p q,e=.Subscript (.Name a.1 p) a.2 q:=by
 obtain⟨s,h1,h⟩:=ob h;obtain⟨x,h2,h⟩:=ob h;replace h:=si h;subst h;refine Zs (eJ h2) λp e2=>?_;unfold C5 at h1;cases hv:vw e with
 |sub o i=>rw[hv] at h1;replace h1:=si h1;subst h2 h h1;exact Zs (dP hv) λq e1=>⟨p,q,by rw[e1,show o=_ from e2]⟩
 |_=>rw[hv] at h1;exact ns h1
inductive KL(s:me)(m x:d_)(i:h_):Prop where
 |mk (p1 p2 p3 p4 p5:oi) (e:s=.Expr (.Call (.Name m p1) [.Subscript (.Name x p2) i p3] [] p4) p5):KL s m x i
theorem wG{s:me}{r:d_×d_×h_}(h:rI s=à r):KL s r.1 r.2.1 r.2.2:=by obtain⟨e,h1,h⟩:=ob h;obtain⟨c,h2,h⟩:=ob h;obtain⟨a,h3,h⟩:=ob h;obtain⟨p,h4,h⟩:=ob h;replace h:=si h;subst h;exact Zs (Dl h1) λp5 e1=>bM (wD h2) λp1 p4 e2=>bM (Do h4) λp2 p3 e4=>⟨p1,p2,p3,p4,p5,by rw[e1,e2,oQ h3,e4]⟩
inductive PY(s:me)(c:h_)(x:d_)(i z:h_)(ap cp:oi):Prop where
 |mk (p1 p2 p3 p4:oi) (e:s=.If c [.Expr (.Call (.Attribute (.Subscript (.Name x p1) i p2) "append" ap) [z] [] cp) p3] [] p4):PY s c x i z ap cp
theorem Qn{s:me}{r:h_×d_×h_×h_×oi×oi}(h:C6 s=à r):PY s r.1 r.2.1 r.2.2.1 r.2.2.2.1 r.2.2.2.2.1 r.2.2.2.2.2:=by
 obtain⟨j,h1,h⟩:=ob h;obtain⟨e,h2,h⟩:=ob h;obtain⟨c,h3,h⟩:=ob h;obtain⟨a,h4,h⟩:=ob h;obtain⟨p,h5,h⟩:=ob h;obtain⟨z,h6,h⟩:=ob h
 by_cases hc:c.2.2.1.isEmpty=â/\a.2.1 ="append"
 ·rw[<- si ((if_pos hc).symm.trans h)];exact Zs (Dh h1) λp4 e1=>Zs (Dl h2) λp3 e2=>bM (Do h5) λp1 p2 e5=>⟨p1,p2,p3,p4,by rw[e1,e2,rS h3,rT h4,e5,oQ h6,hc.2,List.isEmpty_iff.mp hc.1]⟩
 ·exact ns<|(if_neg hc).symm.trans h
inductive FV(s:me)(x:d_)(e:h_):Prop where
 |mk (p q:oi) (h:s=.Assign [.Name x p] e q):FV s x e
inductive LS(s:me)(c:h_):Prop where
 |mk (r:h_) (p q:oi) (h:s=.If c [.Return (à r) p] [] q):LS s c
theorem rU{s:me}{a:d_×h_}(h:mD s=à a):FV s a.1 a.2:=by exact bM (Qf h) λp q e=>⟨p,q,e⟩
theorem Dq{s:me}{a:h_×h_}(h:oG s=à a):LS s a.1:=by exact bM (Dm h) λp q e=>⟨a.2,p,q,e⟩
inductive YC(b:List me)(a:(d_×h_×h_)×(d_×h_)×(d_×h_)×(d_×h_)×List me):Prop where
 |mk (s1 s2 s3 s4:me) (p:oi) (ne:a.1.1≠a.2.1.1/\a.1.1≠a.2.2.1.1/\a.1.1≠a.2.2.2.1.1/\a.2.2.1.1≠a.2.1.1/\a.2.2.1.1≠a.2.2.2.1.1) (h1:FV s1 a.1.1<|.List [a.1.2.1,a.1.2.2] p) (h2:FV s2 a.2.1.1 a.2.1.2) (h3:FV s3 a.2.2.1.1 a.2.2.1.2) (h4:FV s4 a.2.2.2.1.1 a.2.2.2.1.2) (e:b=s1::s2::s3::s4::a.2.2.2.2):YC b a
theorem Qo{b:List me}{a:(d_×h_×h_)×(d_×h_)×(d_×h_)×(d_×h_)×List me}(h:Ϣ b=à a):YC b a:=by
 obtain⟨s,h1,h⟩:=ob h;obtain⟨r,h2,h⟩:=ob h;obtain⟨a1,h3,h⟩:=ob h;obtain⟨l,h4,h⟩:=ob h;obtain⟨l2,h5,h⟩:=ob h;obtain⟨a2,h6,h⟩:=ob h;obtain⟨a3,h7,h⟩:=ob h;obtain⟨a4,h8,h⟩:=ob h
 by_cases hc:a1.1≠a2.1/\a1.1≠a3.1/\a1.1≠a4.1/\a3.1≠a2.1/\a3.1≠a4.1
 ·rw[<- si ((if_pos hc).symm.trans h)];refine Zs (Qm h4) λp e4=>?_;have q1:=rU h3;rw[e4,wE h5] at q1;exact⟨_,_,_,_,p,hc,q1,rU h6,rU h7,rU h8,by rw[kS h1,kS h2]⟩
 ·exact ns<|(if_neg hc).symm.trans h
inductive U5(b:List me)(q:HS):Prop where
 |mk (s1 s2 s3 s4 s5 s6 s7 s8 s9 MZ:me) (p:oi) (ne:q.hn≠q.dn/\q.hn≠q.fn/\q.hn≠q.an/\q.fn≠q.dn/\q.fn≠q.an) (h1:FV s1 q.hn<|.List [q.a1,q.a2] p) (h2:FV s2 q.dn q.e2) (h3:FV s3 q.fn q.e3) (h4:FV s4 q.an q.e4) (h5:LS s5 q.c5) (h6:KL s6 q.m q.hn q.i6) (h7:KL s7 q.m q.hn q.i7) (h8:LS s8 q.c8) (h9:KL s9 q.m q.fn q.i9) (JX:PY MZ q.c10 q.fn q.i q.z q.ap q.cp)
  (e:b=s1::s2::s3::s4::s5::s6::s7::s8::s9::MZ::q.rest):U5 b q
theorem Qp{b:List me}{q:HS}(h:SA b=à q):U5 b q:=by
 obtain⟨a,h1,h⟩:=ob h;obtain⟨c,h2,h⟩:=ob h
 by_cases hc:c.2.1.1=c.2.2.1.1/\c.2.1.1=c.2.2.2.2.1.1/\c.2.1.2.1=a.1.1/\c.2.2.1.2.1=a.1.1/\c.2.2.2.2.1.2.1=a.2.2.1.1/\c.2.2.2.2.2.1.2.1=a.2.2.1.1
 ·rw[<- si ((if_pos hc).symm.trans h)];refine uO hc λc1 c2 c3 c4 c5 c6=>?_;obtain⟨s1,s2,s3,s4,p,ne,q1,q2,q3,q4,e⟩:=Qo h1;obtain⟨s,g1,h2⟩:=ob h2;obtain⟨r,g2,h2⟩:=ob h2;obtain⟨i5,g3,h2⟩:=ob h2;obtain⟨m6,g4,h2⟩:=ob h2;obtain⟨m7,g5,h2⟩:=ob h2;obtain⟨i8,g6,h2⟩:=ob h2;obtain⟨m9,g7,h2⟩:=ob h2;obtain⟨pp,g8,h2⟩:=ob h2;replace h2:=si h2;subst h hc h2;exact⟨s1,s2,s3,s4,s.1,s.2.1,s.2.2.1,r.1,r.2.1,r.2.2.1,p,ne,q1,q2,q3,q4,Dq g3,c3▸wG g4,c1▸c4▸wG g5,Dq g6,c2▸c5▸wG g7,c6▸Qn g8,by rw[e,kS g1,kS g2]⟩
 ·exact ns<|(if_neg hc).symm.trans h
inductive SL(f:d_)(a:nb)(b:List me)(sc:mh):Prop where
 |mk (P X F:d_) (p1 p2 p3 p4 p5 p6 p7 p8 p9 CT GO q1 q2 q3 q4 q5 q6 q7 q8 q9 EF IM IN LL PT:oi) (ha:a.args.map (·.arg)=[P]) (fn:jQ a sc=â) (g1:AL sc "isinstance" = â) (g2:AL sc "dict" = â) (gf:AL sc f=â) (lX:PJ sc X=â) (lF:PJ sc F=â) (ne:P≠X/\P≠F/\X≠F) (nf:f ≠ "isinstance" /\ f ≠ "min" /\ fY f=ã)
  (e:b=[.If (.UnaryOp .Not (.Call (.Name "isinstance" p1) [.Name P p2,.Name "dict" p3] [] p4) p5) [.Return (à<|.Name P p6) p7] [] p8,.Assign [.Name F p9] (.Dict [] [] CT) GO,.For (.Name X q1) (.Name P q2) [.Assign [.Subscript (.Name F q3) (.Name X q4) q5] (.Call (.Name f q6) [.Subscript (.Name P q7) (.Name X q8) q9] [] EF) IM] [] IN,.Return (à<|.Name F LL) PT]):SL f a b sc
inductive IP(m:d_)(a:nb)(b:List me)(sc:mh):Prop where
 |mk (P X:d_) (p1 p2 p3 p4 p5 p6 p7 p8 p9 q1 q2 q3 q4 q5 q6 q7 q9 EF ap cp:oi) (hl:(ap.endLine==cp.line)=â) (ha:a.args.map (·.arg)=[P]) (fn:jQ a sc=â) (g1:AL sc "isinstance" = â) (g2:AL sc "dict" = â) (g3:AL sc "list" = â) (gm:AL sc m=â) (lX:PJ sc X=â) (ne:P≠X) (nm:m ≠ "isinstance" /\ m ≠ "min" /\ fY m=ã)
  (e:b=[.If (.Call (.Name "isinstance" p1) [.Name P p2,.Name "dict" p3] [] p4) [.For (.Name X p5) (.Call (.Name "list" p6) [.Name P p7] [] p8) [.Expr (.Call (.Name m q1) [.Subscript (.Name P q2) (.Name X q3) q4] [] q5) q6] [] q7,.Expr (.Call (.Attribute (.Name P q9) "clear" ap) [] [] cp) EF] [] p9]):IP m a b sc
inductive HQ(R:nb->List me->mh->Prop)(body:List me)(f:d_):Prop where
 |mk (a:nb) (b:List me) (sc:mh) (h:cX f body=à (a,b,sc)) (c:R a b sc):HQ R body f
structure NI(body:List me):Prop where
 cp:HQ (SN "_law_copy") body "_law_copy"
 cd:HQ (SL "copied") body "copied"
 em:HQ (IP "_law_emptied") body "_law_emptied"
def Kp(s s':c_):Prop:=Keeps s s'
def wH(v:b_)(d:a_):Prop:=(∃i t,v=.int i t/\d=.int i)\/∃x t,v=.str x t/\d=.str x/\x.length<=g_
section
variable (O:nj)(w:om)(mg mb:d_->Option b_)(base:mj)
def wI:List<|Str×b_:=[("isinstance",.builtin "isinstance"),("len",.builtin "len"),("all",.builtin "all"),("sorted",.builtin "sorted"),("abs",.builtin "abs"),("min",.builtin "min"),("repr",.builtin "repr"),("list",.type "list"),("tuple",.type "tuple"),("dict",.type "dict"),("set",.type "set"),("int",.type "int"),("str",.type "str"),("bool",.type "bool"),("range",.type "range"),("enumerate",.type "enumerate"),("reversed",.type "reversed"),("ValueError",.type "ValueError")]
def mG(x:d_):Option b_:=wI.lookup x
inductive QA(s s':c_)(dx:Option f_)(ps:List d_)(vals:List b_):Prop where
 |mk (d:f_) (m:d_->Option b_) (e:dx=à d) (n:s.heap.get? d=á) (hn:s'.heap.Ns d m) (r:∀(i:Nat) p v,ps[i]?=à p->vals[i]?=à v->m p=à v):QA s s' dx ps vals
inductive XH(s:c_)(C:f_)(CF:Option<|List d_)(vals:List b_)(v:b_)(s':c_):Prop where
 |mk (k:Kp s s') (e:f_) (dx:Option f_) (t:f_) (ve:v=.ref e) (n:s.heap.get? e=á) (he:s'.heap.get? e=à {cls:=.ref C,dict:=dx,data:=.fields #[.ref t,.none,.none,.none,.bool ã,.none]})
  (f:∀ps,CF=à ps->ps=[]\/QA s s' dx ps vals):XH s C CF vals v s'
def Dr(CF:Option<|List d_)(n:Nat):Prop:=
 match CF with
 |some ps=>ps.length=n
 |none=>n=1
inductive NB(base:mj)(C:f_)(bm:List b_):Prop where
 |mk (nm q N bs hdct sn sub ab col dd k0 k1 k2 k3 k5 newId) (h:base.get? C=à (mi nm q C N bs bm hdct sn sub ab col dd k0 k1 k2 k3 k5 newId)):NB base C bm
structure KJ(C:f_)(bm:List b_)(CF:Option<|List d_):Prop where
 obj:NB base C bm
 exc:bm.contains (.type "BaseException")=â
 val:bm.contains (.type "ValueError")=â
 make:∀(A:mz) (vals:List b_) (s:c_) (E Q:b_->c_->Prop),A.depth+1<xi->(∀b o,base.get? b=à o->s.heap.get? b=à o)->Dr CF vals.length->(∀v s',XH s C CF vals v s'->Q v s')->i' (i_ O w) A (call (.ref C) vals) Q E s
 fld:∀ps,CF=à ps->∀p∈ps,∀(A:mz) (s:c_) (e dx:f_) (o:tg) (vs:Array b_) (m:d_->Option b_) (v:b_) (E Q:b_->c_->Prop),(∀b o,base.get? b=à o->s.heap.get? b=à o)->s.heap.get? e=à o->o.cls=.ref C->o.data=.fields vs->o.dict=à dx->s.heap.Ns dx m->m p=à v->handedOut v=pure v->(∀tk,Q v {s with toks:=tk})->i' (i_ O w) A (getAttr (.ref e) p â) Q E s
 isi:∀(A:mz) (s:c_) (e:f_) (o:tg) (D:f_) (GR:List b_) (b:Bool) (E Q:b_->c_->Prop),(∀b o,base.get? b=à o->s.heap.get? b=à o)->s.heap.get? e=à o->o.cls=.ref C->NB base D GR->(mr C::bm).contains (.ref D)=b->(∀tk,Q (.bool b) {s with toks:=tk})->i' (i_ O w) A (call (.builtin "isinstance") [.ref e,.ref D]) Q E s
 isv:∀(A:mz) (s:c_) (e:f_) (o:tg) (E Q:b_->c_->Prop),(∀b o,base.get? b=à o->s.heap.get? b=à o)->s.heap.get? e=à o->o.cls=.ref C->(∀tk,Q (.bool â) {s with toks:=tk})->i' (i_ O w) A (call (.builtin "isinstance") [.ref e,.type "ValueError"]) Q E s
structure NF:Prop where
 g:base.Ns mu mg
 b:base.Ns builtinsNs mb
 nolimit:base.NoLimit
 mods:∃mm,base.Ns mw mm
 fn:∀f a b sc,cX f O.main.body=à (a,b,sc)->∃ad o pm cd doc,mg f=à (.ref ad)/\base.get? ad=à o/\o.data=.func (o_ f a b sc pm cd doc)/\base.CodeRec cd f
 const:∀x d,jN O.main.body x=à d->∃v,mg x=à v/\wH v d
 blt:∀x v,mG x=à v->mg x=á/\mb x=à v
 cls:∀c p,bO c O.main.body=à p->∃C bm,mg c=à (.ref C)/\KJ O w base C bm p.2/\∀d q D,bO d O.main.body=à q->mg d=à (.ref D)->(mr C::bm).contains (.ref D)=jO O.main.body 4 c d
end
set_option genInjectivity false
structure GG where
 a:nj
 b:om
 c:d_->Option b_
 d:d_->Option b_
 e:c_
open PySem.W PyProof.Rows in
def NH(g:GG):Prop:=∀(fa l:f_) (ns:List Int) (N:Nat) (Q E:b_->c_->Prop),NI g.a.main.body->NF g.a g.b g.c g.d g.e.heap->g.c (e_ "law")=à (.ref fa) ->
 Well g.b.params g.e.heap (.ref l) (ofPy<|.list<|ns.map .int)->ns.length<=63->(cX (e_ "law") g.a.main.body).isSome=â->N<=400 ->
 run g.a.main.body N ã (e_ "law") [.fz<|.list<|ns.map .int]=.ok (.fz<|.bool â)->(∀s',Kp g.e s'->Q (.bool â) s')->i' (i_ g.a g.b) callerA (call (.ref fa) [.ref l]) Q E g.e
def gC:GG:=@Classical.epsilon GG ⟨⟨default,⟨λ_ _=>0,{strHash:=λ_=>0,shareClass:=λ_=>0,mergeTok:=id,idOf:=λ_=>0,idOfShared:=λ_ _=>0,followText:=λ_=>ã,idOfImm:=λ_=>0}⟩,λ_=>á,λ_=>á,{}⟩⟩ λg=>¬NH g
theorem Qq(h:NH gC)(g:GG):NH g:=Classical.byContradiction λn=>@Classical.epsilon_spec _ (λg=>¬NH g) ⟨g,n⟩ h
def O:nj:=gC.a
def w:om:=gC.b
def mg:d_->Option b_:=gC.c
def mb:d_->Option b_:=gC.d
def base:mj:=gC.e.heap
def DH(h:mj)(a:f_)(vs:Array b_):Prop:=∃n,h.get? a=à {cls:=.type "tuple",data:=.seq vs n}
theorem DH.GK{vs:Array b_}(x:DH h a vs):h.IsTuple a vs:=by refine Zs x λn e=>?_;exact⟨_,e,rfl,n,rfl⟩
theorem DH.at{vs:Array b_}(x:DH h a vs)(hk:∀o,h.get? a=à o->h'.get? a=à o):DH h' a vs:=by refine Zs x λn e=>?_;exact⟨n,hk _ e⟩
section
inductive Zu(h:mj)(av:f_->Prop):b_->a_->Prop where
 |none:Zu h av .none .none
 |bool (b:Bool):Zu h av (.bool b) (.bool b)
 |int (i:Int) (t:vg):Zu h av (.int i t) (.int i)
 |str (x:d_) (t:vg):x.length<=g_->Zu h av (.str x t) (.str x)
 |list {a:f_} {vs:List b_} {ds:List a_}:¬av a->h.PlainList a vs.toArray->vs.length=ds.length->vs.length<=g_ ->
   (∀(i:Nat) (v:b_) (d:a_),vs[i]?=à v->ds[i]?=à d->Zu h av v d)->Zu h av (.ref a) (.list ds)
 |tuple {a:f_} {vs:List b_} {ds:List a_}:¬av a->DH h a vs.toArray->vs.length=ds.length->vs.length<=g_ ->
   (∀(i:Nat) (v:b_) (d:a_),vs[i]?=à v->ds[i]?=à d->Zu h av v d)->Zu h av (.ref a) (.tuple ds)
 |dict {a:f_} {kvs:List<|Str×b_} {ds:List<|PyData×a_}:¬av a->h.DictOf (mc O w) a kvs->(kvs.length<=g_/\∀kv∈kvs,kv.1.length<=g_)->(a==mw)=ã ->
   ds.map (·.1)=kvs.map (λkv=>l_ kv.1)->(∀(i:Nat) (kv:d_×b_) (d:a_×a_),kvs[i]?=à kv->ds[i]?=à d->Zu h av kv.2 d.2) ->
   Zu h av (.ref a) (.dict ds)
theorem Zu.mono(hk:∀b o,¬av b->h.get? b=à o->h'.get? b=à o)(ha:∀b o,h.get? b=à o->av' b->av b)(r:Zu h av v d):
  Zu h' av' v d:=by
 induction r with
 |none=>exact .none
 |bool b=>exact .bool b
 |int i t=>exact .int i t
 |str x t hx=>exact .str x t hx
 |list h1 h2 h3 h4 _ ih=>exact .list (λx=>h1<|by refine Zs h2 λ_ e=>?_;exact ha _ _ e x) (h2.at λo e=>hk _ o h1 e) h3 h4 ih
 |tuple h1 h2 h3 h4 _ ih=>exact .tuple (λx=>h1<|by refine Zs h2 λ_ e=>?_;exact ha _ _ e x) (h2.at λo e=>hk _ o h1 e) h3 h4 ih
 |dict h1 h2 h3 h4 h5 _ ih=>exact dN h2 λo es ep e r=>.dict (λx=>h1<|ha _ _ e x) ⟨o,es,ep,hk _ o h1 e,r⟩ h3 h4 h5 ih
theorem Zu.keeps(hk:∀b o,h.get? b=à o->h'.get? b=à o)(r:Zu h av v d):Zu h' av v d:=
 r.mono (λb o _ e=>hk b o e) λ_ _ _ x=>x
inductive SJ(h:mj)(av:f_->Prop)(a:f_)(ds:List a_):Prop where
 |mk (vs:List b_) (p:h.PlainList a vs.toArray) (l:vs.length=ds.length) (z:vs.length<=g_) (r:∀(i:Nat) (v:b_) (d:a_),vs[i]?=à v->ds[i]?=à d->Zu h av v d):SJ h av a ds
inductive SI(h:mj)(av:f_->Prop)(a:f_)(ds:List<|PyData×a_):Prop where
 |mk (kvs:List<|Str×b_) (p:h.DictOf (mc O w) a kvs) (z:kvs.length<=g_/\∀kv∈kvs,kv.1.length<=g_) (m:(a==mw)=ã) (l:ds.map (·.1)=kvs.map (λkv=>l_ kv.1))
  (r:∀(i:Nat) (kv:d_×b_) (d:a_×a_),kvs[i]?=à kv->ds[i]?=à d->Zu h av kv.2 d.2):SI h av a ds
def cC(h:mj)(av:f_->Prop)(a:f_):a_->Prop
 | .list ds=>SJ h av a ds
 | .dict ds=>SI h av a ds
 |_=>False
theorem cC.mono(hk:∀b o,¬av b->h.get? b=à o->h'.get? b=à o)(ha:∀b o,h.get? b=à o->av' b->av b)(hs:∀o,h.get? a=à o->h'.get? a=à o)
  {d:a_} (r:cC h av a d):cC h' av' a d:=by
 cases d with
 |list ds=>obtain⟨vs,h1,h2,h3,h4⟩:=r;exact⟨vs,h1.at hs,h2,h3,λi v d e1 e2=>(h4 i v d e1 e2).mono hk ha⟩
 |dict ds=>obtain⟨kvs,⟨o,es,ep,e,r⟩,h2,h3,h4,h5⟩:=r;exact⟨kvs,⟨o,es,ep,hs _ e,r⟩,h2,h3,h4,λi v d e1 e2=>(h5 i v d e1 e2).mono hk ha⟩
 |_=>exact r.elim
theorem cC.rep(ha:¬av a)(r:cC h av a d):Zu h av (.ref a) d:=by
 cases d with
 |list ds=>obtain⟨vs,h1,h2,h3,h4⟩:=r;exact .list ha h1 h2 h3 h4
 |dict ds=>obtain⟨kvs,h1,h2,h3,h4,h5⟩:=r;exact .dict ha h1 h2 h3 h4 h5
 |_=>exact r.elim
inductive Dp(h:mj):(f_->Prop)->b_->a_->Prop where
 |int {pn:f_->Prop} (i:Int) (t:vg):Dp h pn (.int i t) (.int i)
 |str {pn:f_->Prop} (x:d_) (t:vg):x.length<=g_->Dp h pn (.str x t) (.str x)
 |list {pn:f_->Prop} {a:f_} {vs:List b_} {ds:List a_} (f:Nat->f_->Prop):pn a->h.PlainList a vs.toArray->vs.length=ds.length->vs.length<=g_->(∀i b,f i b->pn b/\b≠a)->(∀i j b,f i b->f j b->i=j) ->
   (∀(i:Nat) (v:b_) (d:a_),vs[i]?=à v->ds[i]?=à d->Dp h (f i) v d)->Dp h pn (.ref a) (.list ds)
 |tuple {pn:f_->Prop} {a:f_} {vs:List b_} {ds:List a_} (f:Nat->f_->Prop):pn a->DH h a vs.toArray->vs.length=ds.length->vs.length<=g_->(∀i b,f i b->pn b/\b≠a)->(∀i j b,f i b->f j b->i=j) ->
   (∀(i:Nat) (v:b_) (d:a_),vs[i]?=à v->ds[i]?=à d->Dp h (f i) v d)->Dp h pn (.ref a) (.tuple ds)
 |dict {pn:f_->Prop} {a:f_} {kvs:List<|Str×b_} {ds:List<|PyData×a_} (f:Nat->f_->Prop):pn a->h.DictOf (mc O w) a kvs->(kvs.length<=g_/\∀kv∈kvs,kv.1.length<=g_)->(a==mw)=ã ->
   ds.map (·.1)=kvs.map (λkv=>l_ kv.1)->(∀i b,f i b->pn b/\b≠a)->(∀i j b,f i b->f j b->i=j)->(∀(i:Nat) (kv:d_×b_) (d:a_×a_),kvs[i]?=à kv->ds[i]?=à d->Dp h (f i) kv.2 d.2)->Dp h pn (.ref a) (.dict ds)
theorem Dp.mono(r:Dp h pn v d):(∀b o,pn b->h.get? b=à o->h'.get? b=à o)->Dp h' pn v d:=by
 induction r with
 |int i t=>exact λ_=>.int i t
 |str x t hx=>exact λ_=>.str x t hx
 |list f h1 h2 h3 h4 h6 h7 _ ih=>exact λhk=>.list f h1 (h2.at λo e=>hk _ o h1 e) h3 h4 h6 h7 λi v d e1 e2=>ih i v d e1 e2 λb o hb=>hk b o (h6 i b hb).1
 |tuple f h1 h2 h3 h4 h6 h7 _ ih=>exact λhk=>.tuple f h1 (h2.at λo e=>hk _ o h1 e) h3 h4 h6 h7 λi v d e1 e2=>ih i v d e1 e2 λb o hb=>hk b o (h6 i b hb).1
 |dict f h1 h2 h3 h4 h5 h6 h7 _ ih=>intro hk;exact dN h2 λo es ep e r=>.dict f h1 ⟨o,es,ep,hk _ o h1 e,r⟩ h3 h4 h5 h6 h7 λi kv d e1 e2=>ih i kv d e1 e2 λb o hb=>hk b o (h6 i b hb).1
theorem Dp.rep(r:Dp h pn v d):(∀b,pn b->¬av b)->Zu h av v d:=by
 induction r with
 |int i t=>exact λ_=>.int i t
 |str x t hx=>exact λ_=>.str x t hx
 |list f h1 h2 h3 h4 h6 h7 _ ih=>exact λhp=>.list (hp _ h1) h2 h3 h4 λi v d e1 e2=>ih i v d e1 e2 λb hb=>hp b (h6 i b hb).1
 |tuple f h1 h2 h3 h4 h6 h7 _ ih=>exact λhp=>.tuple (hp _ h1) h2 h3 h4 λi v d e1 e2=>ih i v d e1 e2 λb hb=>hp b (h6 i b hb).1
 |dict f h1 h2 h3 h4 h5 h6 h7 _ ih=>exact λhp=>.dict (hp _ h1) h2 h3 h4 h5 λi kv d e1 e2=>ih i kv d e1 e2 λb hb=>hp b (h6 i b hb).1
theorem Dp.up(hp:∀b,pn b->pn' b)(r:Dp h pn v d):Dp h pn' v d:=by
 cases r with
 |int i t=>exact .int i t
 |str x t hx=>exact .str x t hx
 |list f h1 h2 h3 h4 h6 h7 h8=>exact .list f (hp _ h1) h2 h3 h4 (λi b hb=>⟨hp b (h6 i b hb).1,(h6 i b hb).2⟩) h7 h8
 |tuple f h1 h2 h3 h4 h6 h7 h8=>exact .tuple f (hp _ h1) h2 h3 h4 (λi b hb=>⟨hp b (h6 i b hb).1,(h6 i b hb).2⟩) h7 h8
 |dict f h1 h2 h3 h4 h5 h6 h7 h8=>exact .dict f (hp _ h1) h2 h3 h4 h5 (λi b hb=>⟨hp b (h6 i b hb).1,(h6 i b hb).2⟩) h7 h8
theorem Dp.q2D(r:Dp h pn v d):∀{n:Nat},bJ n d=â->Dp h (λb=>pn b/\∃kvs,h.DictOf (mc O w) b kvs) v d:=by
 induction r with
 |int i t=>exact λ_=>.int i t
 |dict f h1 h2 h3 h4 h5 h6 h7 _ ih=>
  intro n hc;cases n with
  |zero=>exact zk hc
  |succ n=>exact .dict (λi b=>f i b/\∃kvs,h.DictOf (mc O w) b kvs) ⟨h1,_,h2⟩ h2 h3 h4 h5 (λi b hb=>⟨⟨(h6 i b hb.1).1,hb.2⟩,(h6 i b hb.1).2⟩) (λi j b x y=>h7 i j b x.1 y.1) λi kv d e1 e2=>ih i kv d e1 e2<|ak.mp (hc:(_:List<|PyData×a_).all (λp=>bJ n p.2)=â) _<|bq e2
 |_=>intro n hc;cases n<;>exact zk hc
inductive CO(s:c_)(h:mj)(v:b_)(d:a_):Prop where
 |mk (pn:f_->Prop) (n:∀b,pn b->s.heap.get? b=á) (l:∀b,pn b->∃o,h.get? b=à o) (r:Dp h pn v d):CO s h v d
def FW(s:c_)(h:mj)(av:f_->Prop)(v:b_)(d:a_):Prop:=
 ∃a,v=.ref a/\s.heap.get? a=á/\cC h (λb=>av b\/b=a) a d
def bC(s:c_)(h:mj)(av:f_->Prop)(v:b_):V->Prop
 | .fz d=>Zu h av v d
 | .own d=>FW s h av v d
 | .ex _=>False
 | .dp d=>CO s h v d
theorem CO.rep(zw:∀b,av b->∃o,s.heap.get? b=à o)(r:CO s h v d):Zu h av v d:=by obtain⟨pn,n,_,r⟩:=r;exact r.rep λb hb x=>by obtain⟨o,e⟩:=zw b x;rw[n b hb] at e;exact ns e
theorem FW.rep(zw:∀b,av b->∃o,s.heap.get? b=à o)(r:FW s h av v d):Zu h av v d:=by obtain⟨a,rfl,ha,r⟩:=r;exact cC.rep (λx=>by obtain⟨o,e⟩:=zw _ x;rw[ha] at e;exact ns e)<|r.mono (λ_ _ x e=>e) (λ_ _ _ x=>.inl x) λ_ e=>e
theorem bC.rep(zw:∀b,av b->∃o,s.heap.get? b=à o)(r:bC s h av v u):Zu h av v<|Zp u:=by
 cases u with
 |fz d'=>exact r
 |own d'=>exact FW.rep zw r
 |dp d'=>exact CO.rep zw r
 |ex x=>exact r.elim
theorem CO.own{l:List<|PyData×a_}(zw:∀b,av b->∃o,s.heap.get? b=à o)(r:CO s h v<|.dict l):FW s h av v<|.dict l:=by
 obtain⟨pn,n,_,r⟩:=r;cases r with
 | @dict _ a kvs _ f h1 h2 h3 h4 h5 h6 h7 h8=>
  refine⟨a,rfl,n a h1,kvs,h2,h3,h4,h5,λi kv d e1 e2=>(h8 i kv d e1 e2).rep λb hb x=>?_⟩;rcases x with x|x
  ·refine Zs (zw b x) λo e=>?_;rw[n b (h6 i b hb).1] at e;exact ns e
  ·exact(h6 i b hb).2 x
theorem bC.tp(zw:∀b,av b->∃o,s.heap.get? b=à o)(r:bC s h av v u):bC s h av v<|JQ u:=by
 cases u with
 |dp d=>
  cases d with
  |dict l=>exact CO.own zw r
  |_=>exact CO.rep zw r
 |_=>exact r
theorem Kp.q2H(s:c_):Kp s s:=⟨s.heap,s.toks,rfl,λ_ _ e=>e⟩
open Kp renaming q2H->BE
theorem Kp.tr(x:Kp s s')(y:Kp s' s''):Kp s s'':=by refine cL x λh t zq k=>?_;subst x zq;refine cL y λh' t' zq k'=>?_;subst y zq;exact⟨h',t',rfl,λb o e=>k' b o<|k b o e⟩
theorem Kp.heap(x:Kp s s'):∀b o,s.heap.get? b=à o->s'.heap.get? b=à o:=by refine cL x λh t zq k=>?_;subst x zq;exact k
theorem Kp.q2I(s:c_)(t:Nat):Kp s {s with toks:=t}:=⟨s.heap,t,rfl,λ_ _ e=>e⟩
open Kp renaming q2I->BK
theorem Kp.IL(s:c_)(o:tg):Kp s {s with heap:=s.heap.push o}:=⟨s.heap.push o,s.toks,rfl,λ_ _ e=>ah o e⟩
end
open Kp renaming q2H->BE
open Kp renaming q2I->BK
noncomputable abbrev WP(γ:Type):=(γ->c_->Prop)->(b_->c_->Prop)->Prop
def Yd{γ β:Type}(W:WP γ)(R:γ->c_->β->Prop):P β->Prop
 | .no=>True
 | .ok b=>∀Q E,(∀v s',R v s' b->Q v s')->W Q E
theorem Yd.Ϙ{W:WP γ}{R:γ->c_->β'->Prop}{p:P β}{f:β->P β'}(k:∀b,p=.ok b->Yd W R (f b)):Yd W R<|p.bind f:=by
 cases p with
 |no=>exact trivial
 |ok b=>exact k b rfl
theorem Yd.KG{W:WP γ}{R:γ->c_->β'->Prop}{p:Option β}{f:β->P β'}(k:∀b,p=à b->Yd W R (f b)):Yd W R<|(AT p).bind f:=by
 cases p with
 |none=>exact trivial
 |some b=>exact k b rfl
theorem Yd.ite{W:WP γ}{R:γ->c_->β->Prop}[Decidable c]{p:P β}(k:c->Yd W R p):Yd W R<|if c then p else .no:=by
 by_cases h:c
 ·rw[if_pos h];exact k h
 ·rw[if_neg h];exact trivial
open Yd renaming ite->DB
theorem Yd.ER{W:WP γ}{R:γ->c_->β->Prop}[Decidable c]{p q:P β}(k:c->Yd W R p)(k':¬c->Yd W R q):Yd W R<|if c then p else q:=by
 by_cases h:c
 ·rw[if_pos h];exact k h
 ·rw[if_neg h];exact k' h
def z_(l:List nt)(b:f_):Prop:=b∈l.filterMap (·.frame)
inductive K(l:List nt)(s s':c_):Prop where
 |mk (h:mj) (t:Nat) (e:s'={s with heap:=h,toks:=t}) (k:∀b o,¬z_ l b->s.heap.get? b=à o->h.get? b=à o) (u:∀b o,s.heap.get? b=à o->∃sl,h.get? b=à {o with slots:=sl}):K l s s'
theorem K.of(x:Kp s s'):K l s s':=by refine cL x λh t zq k=>?_;subst x zq;exact⟨h,t,rfl,λb o _ e=>k b o e,λb o e=>⟨o.slots,k b o e⟩⟩
theorem K.rf(l:List nt)(s:c_):K l s s:=K.of<|BE s
theorem K.tr(x:K l s s')(y:K l s' s''):K l s s'':=by obtain⟨h,t,rfl,k,u⟩:=x;obtain⟨h',t',rfl,k',u'⟩:=y;exact⟨h',t',rfl,λb o n e=>k' b o n<|k b o n e,λb o e=>by refine Zs (u b o e) λ_ e1=>?_;exact by refine Zs (u' b _ e1) λsl e2=>?_;exact⟨sl,e2⟩⟩
theorem K.GP(x:K l s s')(y:Kp s' s''):K l s s'':=x.tr<|K.of y
theorem K.at(x:K l s s'){b:f_}(n:¬z_ l b)(e:s.heap.get? b=à o):s'.heap.get? b=à o:=by obtain⟨h,t,rfl,k,u⟩:=x;exact k b o n e
theorem K.up(x:K l s s'){b:f_}(e:s.heap.get? b=à o):∃sl,s'.heap.get? b=à {o with slots:=sl}:=by obtain⟨h,t,rfl,k,u⟩:=x;exact u b o e
theorem K.upTo(x:K l s s'):s.heap.UpToSlots s'.heap:=λ_ _ e _=>x.up e
theorem K.CG(x:K l s s'){b:f_}(e:s'.heap.get? b=á):s.heap.get? b=á:=by
 refine zn (s.heap.get? b) (λh=>?_) λo h=>?_
 ·try rewrite[h]
  rfl
 ·refine Zs (x.up h) λsl e'=>?_;rw[e] at e';cases e'
def Fin{α β:Type}(r:R α)(k:α->R β)(fin:R β):Prop:=rb r k=fin/\fin≠.no
theorem wJ(p:R α)(f:α->R β)(g:β->R γ):rb (rb p f) g=rb p λa=>rb (f a) g:=by cases p<;>rfl
theorem Fin.b{r:R α}{f:α->R γ}{k:γ->R β}{fin:R β}(h:Fin (rb r f) k fin):Fin r (λa=>rb (f a) k) fin:=⟨(wJ r f k)▸h.1,h.2⟩
theorem Fin.ϣ{r:R α}{f:α->R γ}{k:γ->R β}{fin:R β}(h:Fin r (λa=>rb (f a) k) fin):Fin (rb r f) k fin:=⟨(wJ r f k).symm▸h.1,h.2⟩
theorem Fin.no{k:α->R β}{fin:R β}(h:Fin (.no:R α) k fin):False:=h.2 h.1.symm
theorem Fin.ne{r:R α}{k:α->R β}{fin:R β}(h:Fin r k fin):r≠.no:=λe=>by subst e;exact h.no
theorem Fin.ok{a:α}{k:α->R β}{fin:R β}(h:Fin (.ok a) k fin):k a=fin:=h.1
inductive SU{α β:Type}(p:P α)(k:α->R β)(fin:R β):Prop where
 |mk (a:α) (h:p=.ok a) (g:k a=fin):SU p k fin
theorem Fin.p{p:P α}{k:α->R β}{fin:R β}(h:Fin (Zy p) k fin):SU p k fin:=by
 cases p with
 |no=>exact h.no.elim
 |ok a=>exact⟨a,rfl,h.1⟩
theorem Fin.ite[Decidable c]{r:R α}{k:α->R β}{fin:R β}(h:Fin (if c then r else .no) k fin):c/\Fin r k fin:=by
 by_cases hc:c
 ·rw[if_pos hc] at h;exact⟨hc,h⟩
 ·rw[if_neg hc] at h;exact h.no.elim
theorem Yd.fin{W:WP γ}{C:γ->c_->α->Prop}{p:P α}{k:α->R β}{fin:R β}{Q:γ->c_->Prop}(h:Yd W C p)(hf:Fin (Zy p) k fin)(hq:∀v s' a,C v s' a->k a=fin->Q v s'):W Q E:=by obtain⟨a,zq,e⟩:=hf.p;subst hf zq;exact h Q E λv s' c=>hq v s' a c e
section
inductive KK(h:mj)(av N:f_->Prop)(v:b_)(d:a_):Prop where
 |mk (pn:f_->Prop) (m:Nat) (c:bJ m d=â) (n:∀b,pn b->¬av b/\¬N b) (l:∀b,pn b->∃kvs,h.DictOf (mc O w) b kvs) (r:Dp h pn v d):KK h av N v d
inductive W'(h:mj)(av N:f_->Prop)(od:Option f_)(fs:List<|Str×a_):Prop where
 |mk (d:f_) (m:d_->Option b_) (e:od=à d) (n:¬av d) (hn:h.Ns d m) (r:∀p x,(p,x)∈fs->∃v,m p=à v/\Zu h av v x) (z:∀p x,fs.getLast?=à (p,x)->∃v,m p=à v/\KK h av N v x):W' h av N od fs
def gS(h:mj)(av N:f_->Prop)(od:Option f_)(fs:List<|Str×a_):Prop:=fs=[]\/W' h av N od fs
inductive EU(h:mj)(av N:f_->Prop)(e:f_)(x:X):Prop where
 |mk (na:¬av e) (o:tg) (vs:Array b_) (C:f_) (he:h.get? e=à o) (hd:o.data=.fields vs) (hc:o.cls=.ref C) (hm:mg x.cls=à (.ref C)) (hx:gS h av N o.dict x.fields):EU h av N e x
def Lv(s:c_)(b:f_):Prop:=∃o,s.heap.get? b=à o
def cM(l:List nt)(h:mj)(av:f_->Prop)(v:b_):V->Prop
 | .fz d=>Zu h av v d
 | .own d=>∃a,v=.ref a/\¬z_ l a/\cC h av a d
 | .ex x=>∃e,v=.ref e/\EU h av (λ_=>False) e x
 | .dp d=>Zu h av v d
structure AI(n:Nat)(hd:Bool)(l:List nt)(A:mz):Prop where
 depth:A.depth+n+1<xi
 units:A.units+16*n+300<cLine
 handled:hd=ã->A.handled=á
 guards:A.guards=à []
 frames:A.frames=à l
def aW(env:nt)(h:mj)(x:d_)(u:b_):Prop:=
 (env.kindOf x=à .local/\∃m,h.Ns env.locals m/\m x=à u) \/
 ((env.kindOf x=à .cell\/env.kindOf x=à .free)/\∃c,env.cells.lookup x=à c/\h.IsCell c (à u))
structure CQ(l:List nt)(av:f_->Prop)(s:c_):Prop where
 glo:NF O w mg mb base
 stay:∀b o,base.get? b=à o->s.heap.get? b=à o
 ff:s.heap.FunFrames base l
 fav:∀b,z_ l b->av b
 avlt:∀b,av b->∃o,s.heap.get? b=à o
 avS:av mw
structure AW(l:List nt)(env:nt)(sc:mh)(σ:aA)(av:f_->Prop)(s:c_):Prop where
 gnd:CQ l av s
 kind:env.scope.kind=.function
 eg:env.globals=mu
 eb:env.builtins=builtinsNs
 dbg:sc.names.lookup (e_ "__debug__")=á
 cld:sc.names.lookup (e_ "__classdict__")=á
 glob:∀x,AL sc x=â->env.kindOf x=à .globalImplicit
 kinds:∀x,qX (sc.names.lookup x)=â->qX (env.kindOf x)=â/\∃c,env.cells.lookup x=à c
 get:∀x v,AV sc x=â->zm σ x=à (à v)->∃u,aW env s.heap x u/\cM l s.heap av u v
inductive Tb(s:c_)(h:mj)(e:f_)(fl:b_):Prop where
 |mk (oe vs T oT ts) (a:h.get? e=à oe) (b:oe.data=.fields vs) (c:vs[1]?=à (.ref T)) (d:s.heap.get? T=á) (f:T≠e) (g:h.get? T=à oT) (i:oT.data=.fields ts) (j:ts[3]?=à fl):Tb s h e fl
inductive FL(l:List nt)(s:c_)(av:f_->Prop)(x:X)(v:b_)(s':c_):Prop where
 |mk (k:K l s s') (e:f_) (a:v=.ref e) (b:s.heap.get? e=á) (c:EU s'.heap av (Lv s) e x) (d:Tb s s'.heap e .none):FL l s av x v s'
def QH{β:Type}(l:List nt)(s:c_)(av:f_->Prop)(k:V->R β)(fin:R β)(Q:b_->c_->Prop):Prop:=
 ∀v s' u,K l s s'->bC s s'.heap av v u->k u=fin->Q v s'
def EH{β:Type}(l:List nt)(s:c_)(av:f_->Prop)(fin:R β)(E:b_->c_->Prop):Prop:=
 ∀x v s',fin=.exc x->FL l s av x v s'->E v s'
def aJ(n:Nat)(hd:Bool)(l:List nt)(sc:mh)(σ:aA)(e:h_)(r:R V):Prop:=
 ∀(A:mz) (env:nt) (s:c_) (av:f_->Prop),AI n hd l A->AW l env sc σ av s ->
  ∀{β:Type} {k:V->R β} {fin:R β} {Q:b_->c_->Prop} {E:b_->c_->Prop},Fin r k fin->QH l s av k fin Q->EH l s av fin E->i' (i_ O w) A (eval e env) Q E s
theorem wH.rep(c:wH v d):Zu h av v d:=by
 rcases c with ⟨i,t,rfl,rfl⟩|⟨x,t,rfl,rfl,hx⟩
 ·exact .int i t
 ·exact .str x t hx
theorem Zu.k(fav:∀b,z_ l b->av b)(k:K l s s')(r:Zu s.heap av v d):Zu s'.heap av v d:=
 r.mono (λ_ _ n e=>k.at (λf=>n<|fav _ f) e) λ_ _ _ x=>x
theorem cC.k(fav:∀b,z_ l b->av b)(k:K l s s')(n:¬z_ l a)(r:cC s.heap av a d):cC s'.heap av a d:=
 r.mono (λ_ _ n e=>k.at (λf=>n<|fav _ f) e) (λ_ _ _ x=>x) λ_ e=>k.at n e
theorem KK.mono{N:f_->Prop}(hk:∀b o,¬av b->h.get? b=à o->h'.get? b=à o)(ha:∀b o,h.get? b=à o->av' b->av b)(hN:∀b,N' b->N b)(r:KK h av N v d):KK h' av' N' v d:=by
 obtain⟨pn,m,c,n,l,r⟩:=r;refine⟨pn,m,c,λb hb=>⟨λx=>(n b hb).1 ?_,λx=>(n b hb).2<|hN b x⟩,λb hb=>?_,r.mono λb o hb e=>hk b o (n b hb).1 e⟩
 ·exact eH (l b hb) λ_ o _ _ e _=>ha b o e x
 ·exact eH (l b hb) λkvs o es ep e r=>⟨kvs,o,es,ep,hk b o (n b hb).1 e,r⟩
theorem gS.mono{N:f_->Prop}(hk:∀b o,¬av b->h.get? b=à o->h'.get? b=à o)(ha:∀b o,h.get? b=à o->av' b->av b)(hN:∀b,N' b->N b)(r:gS h av N od fs):gS h' av' N' od fs:=by
 rcases r with r|⟨d,m,e,n,hn,r,z⟩
 ·exact .inl r
 ·refine dN hn λo es ep ho hr=>.inr ⟨d,m,e,λx=>n<|ha _ _ ho x,⟨o,es,ep,hk _ _ n ho,hr⟩,λp x hp=>?_,λp x hp=>?_⟩
  ·exact aD (r p x hp) λv e1 e2=>⟨v,e1,e2.mono hk ha⟩
  ·exact aD (z p x hp) λv e1 e2=>⟨v,e1,e2.mono hk ha hN⟩
theorem EU.RU{N:f_->Prop}(hk:∀b o,¬av b->h.get? b=à o->h'.get? b=à o)(ha:∀b o,h.get? b=à o->av' b->av b)(hN:∀b,N' b->N b){e:f_}{x:X}(r:EU h av N e x):EU h' av' N' e x:=by obtain⟨h1,o,vs,C,h2,h3,h4,h5,h6⟩:=r;exact⟨λx=>h1<|ha _ _ h2 x,o,vs,C,hk _ _ h1 h2,h3,h4,h5,h6.mono hk ha hN⟩
theorem EU.mono{N:f_->Prop}(hk:∀b o,¬av b->h.get? b=à o->h'.get? b=à o)(ha:∀b o,h.get? b=à o->av' b->av b){e:f_}{x:X}(r:EU h av N e x):EU h' av' N e x:=r.RU hk ha λ_ x=>x
theorem cM.k(fav:∀b,z_ l b->av b)(k:K l s s')(r:cM l s.heap av v u):cM l s'.heap av v u:=by
 cases u with
 |fz d=>exact Zu.k fav k r
 |own d=>refine bN r λa e n r=>?_;exact⟨a,e,n,r.k fav k n⟩
 |dp d=>exact Zu.k fav k r
 |ex x=>refine aD r λe h r=>?_;exact⟨e,h,r.mono (λ_ _ n e=>k.at (λf=>n<|fav _ f) e) λ_ _ _ x=>x⟩
theorem aW.k(k:K l s s'){u:b_}(v:aW env s.heap x u):aW env s'.heap x u:=by
 rcases v with ⟨h1,m,hn,e⟩|⟨h1,c,e,o,hc⟩
 ·exact .inl ⟨h1,m,k.upTo.ns hn,e⟩
 ·exact .inr ⟨h1,c,e,by refine Zs (k.up hc.1) λsl e=>?_;exact⟨_,e,hc.2⟩⟩
theorem CQ.k(I:CQ l av s)(k:K l s s'):CQ l av s' where
 glo:=I.glo
 stay:=λb o e=>k.at (λf=>by rw[(I.ff.mem f).1] at e;exact ns e) (I.stay b o e)
 ff:=I.ff.of_keeps λb o e _=>by refine Zs (k.up e) λ_ e'=>?_;exact⟨_,e',rfl⟩
 fav:=I.fav
 avlt:=λb hb=>by refine Zs (I.avlt b hb) λ_ e=>?_;exact by refine Zs (k.up e) λ_ e'=>?_;exact⟨_,e'⟩
 avS:=I.avS
theorem AW.k(I:AW l env sc σ av s)(k:K l s s'):AW l env sc σ av s':=
 {I with gnd:=I.gnd.k k,get:=λx v hl e=>by refine aD (I.get x v hl e) λu h1 h2=>?_;exact⟨u,h1.k k,h2.k I.gnd.fav k⟩}
theorem bC.back(k:K l s s')(r:bC s' h av v u):bC s h av v u:=by
 cases u with
 |fz d=>exact r
 |own d=>refine bN r λa e hn r=>?_;exact⟨a,e,k.CG hn,r⟩
 |dp d=>obtain⟨pn,hn,hl,r⟩:=r;exact⟨pn,λb hb=>k.CG<|hn b hb,hl,r⟩
 |ex x=>exact r
theorem FW.TH(k:Kp s s')(r:FW s' h av v d):FW s h av v d:=
 by refine bN r λa e hn r=>?_;exact⟨a,e,(K.of (l:=[]) k).CG hn,r⟩
theorem FL.back{x:X}(k:K l s s')(f:FL l s' av x v s''):FL l s av x v s'':=by obtain⟨k',e,h1,h2,h3,oe,vs,T,oT,ts,g1,g2,g3,g4,g5,g6,g7,g8⟩:=f;exact⟨k.tr k',e,h1,k.CG h2,h3.RU (λ_ _ _ e=>e) (λ_ _ _ x=>x) (λb x=>by refine Zs x λo e=>?_;refine Zs (k.up e) λ_ e=>?_;exact⟨_,e⟩),oe,vs,T,oT,ts,g1,g2,g3,k.CG g4,g5,g6,g7,g8⟩
theorem EH.back{fin:R β}(h:EH l s av fin E)(k:K l s s'):EH l s' av fin E:=
 λx v s'' e f=>h x v s'' e<|f.back k
theorem QH.step{k:V->R β}{fin:R β}(h:QH l s av k fin Q)(kk:K l s s')(r:Kp s' s''/\bC s' s''.heap av v u)(e:k u=fin):Q v s'':=
 h v s'' u (kk.GP r.1) (r.2.back kk) e
theorem QH.back{k:V->R β}{fin:R β}(h:QH l s av k fin Q)(kk:K l s s'):QH l s' av k fin Q:=
 λv s'' u k' r e=>h v s'' u (kk.tr k') (r.back kk) e
theorem AI.h0(h:AI n ã l A):A.handled=á:=h.handled rfl
theorem AI.q2E(h:AI n hd l A):A.units+70<cLine:=by have:=h.units;exact YJ this
theorem wK(I:AW l env sc σ av s)(h:AV sc x=â\/AL sc x=â):(x==("__debug__" : d_))=ã:=by
 refine DO (x==("__debug__" : d_)) (λhx=>?_) λhx=>?_
 ·try rewrite[hx]
  rfl
 ·obtain e:=eq_of_beq hx;subst hx e;rcases h with h|h
  ·rw[AV,I.dbg] at h;exact zk h
  ·rw[AL,I.dbg] at h;exact zk h
theorem Qr(I:AW l env sc σ av s)(h:AV sc x=â):(x==("__classdict__" : d_))=ã:=by
 refine DO (x==("__classdict__" : d_)) (λhx=>?_) λhx=>?_
 ·try rewrite[hx]
  rfl
 ·obtain e:=eq_of_beq hx;subst hx e;rw[AV,I.cld] at h;exact zk h
theorem dE{u:b_}(I:AW l env sc σ av s)(hl:AV sc x=â)
  (v:aW env s.heap x u) (h:Q u s):i' (i_ O w) A (eval (.Name x pos) env) Q E s:=by
 refine wpAny_Name ?_<|wK I<|.inl hl;rcases v with ⟨k,m,hn,e⟩|⟨k|k,c,e,hc⟩
 ·exact uf I.kind k hn e h
 ·exact wpAny_loadName_cell I.kind k e hc h
 ·exact wpAny_loadName_free I.kind k e hc h<|Qr I hl
theorem CQ.g(G:CQ l av s):s.heap.Ns mu mg:=G.glo.g.keeps G.stay
theorem iP{u:b_}(I:AW l env sc σ av s)(hg:AL sc x=â)
  (v:mg x=à u) (h:Q u s):i' (i_ O w) A (eval (.Name x pos) env) Q E s:=
 wg I.kind (I.glob x hg) (Calls.loadGlobal_global (I.eg▸I.gnd.g) v h) (wK I<|.inr hg)
theorem eT{u:b_}(I:AW l env sc σ av s)(hg:AL sc x=â)
  (v:mG x=à u) (h:Q u s):i' (i_ O w) A (eval (.Name x pos) env) Q E s:=
 wg I.kind (I.glob x hg) (Calls.loadGlobal_builtin (I.eg▸I.gnd.g) (I.gnd.glo.blt x u v).1 (I.eb▸I.gnd.glo.b.keeps I.gnd.stay) (I.gnd.glo.blt x u v).2 h) (wK I<|.inr hg)
theorem Qs(hc:C.const=jN O.main.body):aJ n hd l sc σ (.Name x pos)<|Zy<|u9 C sc σ x:=by
 intro A env s av hA I β k fin Q E hf hq he;obtain⟨u,e1,e2⟩:=hf.p;unfold u9 at e1
 split at e1
 ·rename_i hl;refine zn (zm σ x) (λe=>?_) λo e=>?_
  ·rw[e] at e1;exact zz e1
  ·rw[e] at e1;cases o with
   |none=>exact zz e1
   |some v=>
    cases v with
    |fz d=>replace e1:=pi e1;subst e1;exact aD (I.get _ _ hl e) λu h1 h2=>dE I hl h1<|hq _ _ (.fz d) (K.rf l s) h2 e2
    |dp d=>replace e1:=pi e1;subst e1;exact aD (I.get _ _ hl e) λu h1 h2=>dE I hl h1<|hq _ _ (.fz d) (K.rf l s) h2 e2
    |_=>exact zz e1
 ·split at e1
  ·rename_i hg;rw[hc] at e1;refine zn (jN O.main.body x) (λe=>?_) λd e=>?_
   ·rw[e] at e1;exact zz e1
   ·rw[e] at e1;replace e1:=pi e1;subst e1;exact aD (I.gnd.glo.const _ _ e) λv h1 h2=>iP I hg h1<|hq _ _ (.fz d) (K.rf l s) h2.rep e2
  ·exact zz e1
theorem Qt{c:Const}{k:Nat}:aJ n hd l sc σ (.Constant c k pos)<|Zy<|vA c:=by
 intro A env s av hA I β k fin Q E hf hq he;obtain key:Yd (λQ E=>i' (i_ O w) A (eval (.Constant c ‹_› pos) env) Q E s) (λv s' u=>Kp s s'/\bC s s'.heap av v u)<|vA c:=by
  cases c with
  |none=>exact λQ E hq=>wpAny_Constant_none<|hq _ _ ⟨BE s,.none⟩
  |bool b=>exact λQ E hq=>wpAny_Constant_bool<|hq _ _ ⟨BE s,.bool b⟩
  |int i=>exact λQ E hq=>wpAny_Constant_int<|hq _ _ ⟨BK s _,.int i _⟩
  |str x=>exact DB λhx=>λQ E hq=>vm<|hq _ _ ⟨BK s _,.str x _ hx⟩
  |_=>exact trivial
 exact key.fin hf λv s' u r e=>hq.step (K.rf l s) r e
end
section
theorem fL(x:d_)(t:vg):(mc O w).is x (.str x t)=â:=by show Value.isStrOf x (.str x t)=â;simp[Value.isStrOf]
inductive TA(v:b_)(x:d_):Prop where
 |mk (t:vg) (h:v=.str x t) (g:x.length<=g_):TA v x
theorem Zu.str_inv(r:Zu h av v<|.str x):TA v x:=by
 cases r with
 |str _ t hx=>exact⟨t,rfl,hx⟩
theorem Zu.int_inv{i:Int}(r:Zu h av v<|.int i):∃t,v=.int i t:=by
 cases r with
 |int _ t=>exact⟨t,rfl⟩
theorem Zu.bool_inv{b:Bool}(r:Zu h av v<|.bool b):v=.bool b:=by cases r;rfl
inductive XG(h:mj)(av:f_->Prop)(v:b_)(ds:List a_):Prop where
 |mk (a:f_) (vs:List b_) (e:v=.ref a) (n:¬av a) (p:h.PlainList a<|List.toArray vs) (l:vs.length=ds.length) (z:vs.length<=g_) (r:∀(i:Nat) (v:b_) (d:a_),vs[i]?=à v->ds[i]?=à d->Zu h av v d):XG h av v ds
inductive YB(h:mj)(av:f_->Prop)(v:b_)(ds:List a_):Prop where
 |mk (a:f_) (vs:List b_) (e:v=.ref a) (n:¬av a) (p:DH h a<|List.toArray vs) (l:vs.length=ds.length) (z:vs.length<=g_) (r:∀(i:Nat) (v:b_) (d:a_),vs[i]?=à v->ds[i]?=à d->Zu h av v d):YB h av v ds
inductive WU(h:mj)(av:f_->Prop)(v:b_)(ds:List<|PyData×a_):Prop where
 |mk (a:f_) (kvs:List<|Str×b_) (e:v=.ref a) (n:¬av a) (p:h.DictOf (mc O w) a kvs) (z:kvs.length<=g_/\∀kv∈kvs,kv.1.length<=g_) (m:(a==mw)=ã)
  (l:ds.map (·.1)=kvs.map (λkv=>l_ kv.1)) (r:∀(i:Nat) (kv:d_×b_) (d:a_×a_),kvs[i]?=à kv->ds[i]?=à d->Zu h av kv.2 d.2):WU h av v ds
theorem Zu.DY(r:Zu h av v<|.list ds):XG h av v ds:=by
 cases r with
 |list h1 h2 h3 h4 h5=>exact⟨_,_,rfl,h1,h2,h3,h4,h5⟩
theorem Zu.HM(r:Zu h av v<|.tuple ds):YB h av v ds:=by
 cases r with
 |tuple h1 h2 h3 h4 h5=>exact⟨_,_,rfl,h1,h2,h3,h4,h5⟩
theorem Zu.FB{ds:List<|PyData×a_}(r:Zu h av v<|.dict ds):WU h av v ds:=by
 cases r with
 |dict h1 h2 h3 h4 h5 h6=>exact⟨_,_,rfl,h1,h2,h3,h4,h5,h6⟩
theorem rV:∀{ds:List<|PyData×a_} {kvs:List<|Str×b_} (x:d_),ds.map (·.1)=kvs.map (λkv=>l_ kv.1) ->
  (valueAt kvs x=á/\bV ds x=á)\/∃(i:Nat) (v:b_) (d:a_),valueAt kvs x=à v/\bV ds x=à d/\kvs[i]?=à (x,v)/\ds[i]?=à (.str x,d)
 :=by
 intro ds;induction ds with
 |nil=>
  intro kvs x h;cases kvs with
  |nil=>exact .inl ⟨rfl,rfl⟩
  |cons=>exact nomatch h
 |cons p ds ih=>
  obtain⟨k,d⟩:=p;intro kvs x h;cases kvs with
  |nil=>exact nomatch h
  |cons q kvs=>
   obtain⟨y,v⟩:=q;refine zj (yi h) λzq h2=>?_;subst h zq
   by_cases hx:x=y
   ·subst hx;exact .inr ⟨0,v,d,by unfold valueAt;rw[List.find?_cons,decide_eq_true rfl];rfl,if_pos rfl,rfl,rfl⟩
   ·have hv:valueAt ((y,v)::kvs) x=valueAt kvs x:=by unfold valueAt;rw[List.find?_cons,decide_eq_false (λe=>hx e.symm:¬(y,v).1=x)]
    rcases ih (kvs:=kvs) x h2 with ⟨a,b⟩|⟨i,v',d',a,b,c,e⟩
    ·exact .inl ⟨hv.trans a,(if_neg hx).trans b⟩
    ·exact .inr ⟨i+1,v',d',hv.trans a,(if_neg hx).trans b,c,e⟩
theorem jR:∀{vs:List b_} {ds:List a_} {ss:List d_},vs.length=ds.length->(∀(i:Nat) (v:b_) (d:a_),vs[i]?=à v->ds[i]?=à d->Zu h av v d) ->
  CI ds=à ss->∃ts:List vg,ts.length=ss.length/\vs=pf (λx t=>qa x t) ss ts/\∀x∈ss,x.length<=g_
 :=by
 intro vs;induction vs with
 |nil=>
  intro ds ss hl hr hs;cases ds with
  |nil=>replace hs:=si hs;subst hs;exact⟨[],rfl,rfl,λx hx=>cB hx⟩
  |cons=>exact nomatch hl
 |cons v vs ih=>
  intro ds ss hl hr hs;cases ds with
  |nil=>exact nomatch hl
  |cons d ds=>
   have h0:=hr 0 v d rfl rfl;cases d with
   |str x=>obtain⟨t,zq,hx⟩:=h0.str_inv;subst h0 zq;refine aD (az.mp (hs:(CI ds).map (x::·)=à ss)) λM' AZ zq=>?_;subst hs zq;exact bN (ih (ds:=ds) (qb hl) (λi v d e1 e2=>hr (i+1) v d e1 e2) AZ) λts h1 h2 h3=>⟨t::ts,congrArg qh h1,congrArg (qa x t::·) h2,io.mpr ⟨hx,h3⟩⟩
   |_=>exact ns hs
def iQ(x:d_):b_->Bool
 | .str y _=>y==x
 |_=>ã
theorem Ds(x:d_):∀(ss:List d_) (ts:List vg),ts.length=ss.length->(pf (λx t=>qa x t) ss ts).any (iQ x)=ss.contains x
 | [],[],_=>rfl
 | [],_::_,h=>by simp at h
 |_::_,[],h=>by simp at h
 |s::ss,t::ts,h=>by rw[List.zipWith_cons_cons,wu,(Ds x ss ts<|by simpa using h),ec,iQ];rw[Bool.beq_comm]
theorem Dt(x:d_)(t:vg):∀(ss:List d_) (ts:List vg) (y:b_),y∈pf (λx t=>qa x t) ss ts->v_ A s y (.str x t) (iQ x y)
 | [],_,y,h=>by simp at h
 |_::_,[],y,h=>by simp at h
 |s'::ss,t'::ts,y,h=>by
  rcases List.mem_cons.mp h with h|h
  ·subst h;exact wq _ _ _ _
  ·exact Dt x t ss ts y h
def CS(A:mz)(s:c_)(op:wv)(va vb:b_)(p:P Bool):Prop:=
 Yd (λQ E=>i' (i_ O w) A (compareOp op va vb) Q E s) (λv s' r=>Kp s s'/\v=.bool r) p
theorem CS.ok{b:Bool}(s':c_)(k:Kp s s')(h:∀(Q:b_->c_->Prop) E,Q (.bool b) s'->i' (i_ O w) A (compareOp op va vb) Q E s):CS A s op va vb (.ok b):=
 λQ E hq=>h Q E<|hq _ _ ⟨k,rfl⟩
theorem rW{vs:List b_}{l:List a_}{t:vg}{g:P Bool->P Bool}(h3:vs.length=l.length)(h5:∀(i:Nat) (v:b_) (d:a_),vs[i]?=à v->l[i]?=à d->Zu s.heap av v d)
  (hg:g .no=.no) (h:∀b,(∀y∈vs.toArray,v_ A.in1 s y (.str x t)<|iQ x y)->vs.toArray.any (iQ x)=b->CS A s op (.str x t) vb (g<|.ok b)):CS A s op (.str x t) vb<|g<|qR x l:=by
 unfold qR;cases hs:CI l with
 |none=>have:g ((AT (á:Option<|List d_)).bind λss=>.ok<|ss.contains x)=.no:=hg;rw[this];exact trivial
 |some ss=>refine bN (jR h3 h5 hs) λts e1 e2 e3=>?_;subst h3 h5 e2;exact h _ (λy hy=>Dt x t ss ts y<|by simpa using hy) (by simpa using Ds x ss ts e1)
theorem Du{a b:a_}(ra:Zu s.heap av va a)(rb:Zu s.heap av vb b):
  CS A s .In va vb (contains a b)/\CS A s .NotIn va vb (b6<|contains a b):=by
 cases a with
 |str x=>
  obtain⟨t,zq,hx⟩:=ra.str_inv;subst ra zq;cases b with
  |str y=>obtain⟨u,zq,hy⟩:=rb.str_inv;subst rb zq;exact⟨CS.ok s (BE s) λQ E h=>SB.contains h,CS.ok s (BE s) λQ E h=>SB.notContains h⟩
  |dict l=>
   obtain⟨a,kvs,zq,h1,h2,h3,h4,h5,h6⟩:=rb.FB;subst rb zq;have π:(valueAt kvs x).isSome=(bV l x).isSome:=by rcases rV x h5 with ⟨e1,e2⟩|⟨i,v,d,e1,e2,_⟩<;>rw[e1,e2]<;>rfl
   exact⟨CS.ok _ (BK s _) λQ E h=>wpAny_in_of (fL x t) h4 h2.mapOf (by rw[π];exact h),CS.ok _ (BK s _) λQ E h=>wpAny_notIn_of (fL x t) h4 h2.mapOf<|by rw[π];exact h⟩
  |list l=>
   obtain⟨a,vs,zq,h1,h2,h3,h4,h5⟩:=rb.DY;subst rb zq;exact⟨rW (g:=id) h3 h5 rfl λb he hb=>CS.ok s (BE s) λQ E h=>SeqAt.in_listAt (iQ x) h2.isList he (by rw[hb];exact h),
    rW (g:=b6) h3 h5 rfl λb he hb=>CS.ok s (BE s) λQ E h=>SeqAt.notIn_listAt (iQ x) h2.isList he<|by rw[hb];exact h⟩
  |tuple l=>
   obtain⟨a,vs,zq,h1,h2,h3,h4,h5⟩:=rb.HM;subst rb zq;exact⟨rW (g:=id) h3 h5 rfl λb he hb=>CS.ok s (BE s) λQ E h=>SeqAt.in_tupleAt (iQ x) h2.GK he (by rw[hb];exact h),
    rW (g:=b6) h3 h5 rfl λb he hb=>CS.ok s (BE s) λQ E h=>SeqAt.notIn_tupleAt (iQ x) h2.GK he<|by rw[hb];exact h⟩
  |_=>exact⟨trivial,trivial⟩
 |_=>exact⟨trivial,trivial⟩
theorem Dv{a b:a_}(ra:Zu s.heap av va a)(rb:Zu s.heap av vb b):
  CS A s .Is va vb (qS a b)/\CS A s .IsNot va vb (b6<|qS a b):=by
 ext av A s va vb a b;cases b with
 |none=>
  cases rb;have hv:(va==Value.none)=fV a:=by cases ra<;>rfl
  exact⟨CS.ok s (BE s) λQ E h=>is_none (by rw[hv];exact h),CS.ok s (BE s) λQ E h=>isNot_none<|by rw[hv];exact h⟩
 |_=>exact⟨trivial,trivial⟩
theorem Qu{a b:List d_}(h:a.length=b.length):(oy a.length).all (λj=>a[j]?==b[j]?)=(a==b):=by
 rw[fq,ak,beq_iff_eq];constructor
 ·intro hh;refine um λi=>?_
  by_cases hi:i<a.length
  ·exact eq_of_beq<|hh i<|List.mem_range.mpr hi
  ·rw[dg<|Nat.not_lt.mp hi,dg<|h▸Nat.not_lt.mp hi]
 ·intro hh i _;rw[hh];exact beq_self_eq_true _
theorem Dx{vs BZ:List b_}{x y:List a_}{p:Bool}(hl:x.length=y.length)(h3:vs.length=x.length)(h5:∀(i:Nat) (v:b_) (d:a_),vs[i]?=à v->x[i]?=à d->Zu h av v d)(k3:BZ.length=y.length)
  (k5:∀(i:Nat) (v:b_) (d:a_),BZ[i]?=à v->y[i]?=à d->Zu h av v d) (he:iL x y=.ok p):∃e:Nat->Bool,(oy vs.length).all e=p/\∀j (h1:j<vs.toArray.size) (h2:j<BZ.toArray.size),v_ A s vs.toArray[j] BZ.toArray[j] (e j):=by
 unfold iL at he;refine zn (CI x) (λhx=>?_) λa hx=>?_
 ·simp only[hx] at he;exact zz he
 ·refine zn (CI y) (λhy=>?_) λb hy=>?_
  ·simp only[hx,hy] at he;exact zz he
  ·simp only[hx,hy] at he;replace he:=pi he;subst he;refine bN (jR h3 h5 hx) λta q1 zq _=>?_;subst h5 zq;refine bN (jR k3 k5 hy) λtb q2 zq _=>?_;subst k5 zq;have la:(pf (λx t=>qa x t) a ta).length=a.length:=by simp[q1]
   refine⟨λj=>a[j]?==b[j]?,?_,λj h1 h2=>?_⟩
   ·rw[la];exact Qu (by rw[<- la,<- (by simp[q2]:(pf (λx t=>qa x t) b tb).length=b.length),h3,k3,hl])
   ·simp only[(ai<|by simpa[q1] using h1),(ai<|by simpa[q2] using h2),te,List.getElem_zipWith];exact wq _ _ _ _
theorem Dy{a b:a_}(hu:A.units+70<cLine)(ra:Zu s.heap av va a)(rb:Zu s.heap av vb b):
  CS A s .Eq va vb (CU a b)/\CS A s .NotEq va vb (b6<|CU a b):=by
 ext av A s va vb a b
 have KD:A.units<cLine:=by exact ax2 hu
 cases a with
 |none=>
  cases ra;cases b with
  |list y=>obtain⟨a',BZ,zq,k1,k2,k3,k4,k5⟩:=rb.DY;subst rb zq;exact⟨CS.ok s (BE s) λQ E h=>SeqAt.RcAt.none_list k2.isList KD O w E Q h,CS.ok s (BE s) λQ E h=>SeqAt.RcNeAt.none_list k2.isList KD O w E Q h⟩
  |_=>exact⟨trivial,trivial⟩
 |int x=>
  refine Zs ra.int_inv λt zq=>?_;subst ra zq;cases b with
  |int y=>refine Zs rb.int_inv λu zq=>?_;subst rb zq;exact⟨CS.ok s (BE s) λQ E h=>SeqAt.RcAt.int_int x t y u O w E Q h,CS.ok s (BE s) λQ E h=>SeqAt.RcNeAt.int_int x t y u O w E Q h⟩
  |_=>exact⟨trivial,trivial⟩
 |str x=>
  obtain⟨t,zq,_⟩:=ra.str_inv;subst ra zq;cases b with
  |str y=>obtain⟨u,zq,_⟩:=rb.str_inv;subst rb zq;exact⟨CS.ok s (BE s) λQ E h=>SeqAt.RcAt.str_str x t y u O w E Q h,CS.ok s (BE s) λQ E h=>SeqAt.RcNeAt.str_str x t y u O w E Q h⟩
  |_=>exact⟨trivial,trivial⟩
 |bool x=>
  replace ra:=ra.bool_inv;subst ra;cases b with
  |bool y=>replace rb:=rb.bool_inv;subst rb;exact⟨CS.ok s (BE s) λQ E h=>SeqAt.RcAt.bool_bool x y O w E Q h,CS.ok s (BE s) λQ E h=>SeqAt.RcNeAt.bool_bool x y O w E Q h⟩
  |_=>exact⟨trivial,trivial⟩
 |list x=>
  obtain⟨a,vs,zq,h1,h2,h3,h4,h5⟩:=ra.DY;subst ra zq;cases b with
  |list y=>
   obtain⟨a',BZ,zq,k1,k2,k3,k4,k5⟩:=rb.DY;subst rb zq
   by_cases hl:x.length=y.length
   ·obtain e0:CU (.list x) (.list y)=iL x y:=if_pos hl;rw[e0];refine RZ (iL x y) (λhe=>?_) λp he=>?_
    ·rewrite[he];exact⟨trivial,trivial⟩
    ·rewrite[he];refine aD (Dx (A:=A.in1) (s:=s) hl h3 h5 k3 k5 he) λe q1 q2=>?_;have CL:vs.toArray.size=BZ.toArray.size:=by simp[h3,k3,hl]
     subst he q1;exact⟨CS.ok s (BE s) λQ E h=>SeqAt.RcAt.lists h2.isList k2.isList CL KD q2 O w E Q (by simpa using h),
      CS.ok s (BE s) λQ E h=>SeqAt.RcNeAt.lists h2.isList k2.isList CL KD q2 O w E Q<|by simpa using h⟩
   ·obtain e0:CU (.list x) (.list y)=.ok ã:=if_neg hl;rw[e0];have CL:(vs.toArray.size != BZ.toArray.size)=â:=by simp[h3,k3,hl]
    exact⟨CS.ok s (BE s) λQ E h=>SeqAt.RcAt.lists_lengths h2.isList k2.isList CL KD O w E Q h,
     CS.ok s (BE s) λQ E h=>SeqAt.RcNeAt.lists_lengths h2.isList k2.isList CL KD O w E Q h⟩
  |_=>exact⟨trivial,trivial⟩
 |tuple x=>
  obtain⟨a,vs,zq,h1,h2,h3,h4,h5⟩:=ra.HM;subst ra zq;cases b with
  |tuple y=>
   obtain⟨a',BZ,zq,k1,k2,k3,k4,k5⟩:=rb.HM;subst rb zq
   by_cases hl:x.length=y.length
   ·obtain e0:CU (.tuple x) (.tuple y)=iL x y:=if_pos hl;rw[e0];refine RZ (iL x y) (λhe=>?_) λp he=>?_
    ·rw[he];exact⟨trivial,trivial⟩
    ·rw[he];refine aD (Dx (A:=A.in1) (s:=s) hl h3 h5 k3 k5 he) λe q1 q3=>?_;have CL:BZ.length=x.length:=by rw[k3,hl]
     subst he q1;exact⟨CS.ok s (BE s) λQ E h=>SeqAt.RcAt.tuples h2.GK k2.GK KD q3 O w E Q (by simpa[CL,h3] using h),
      CS.ok s (BE s) λQ E h=>SeqAt.RcNeAt.tuples h2.GK k2.GK KD q3 O w E Q<|by simpa[CL,h3] using h⟩
   ·obtain e0:CU (.tuple x) (.tuple y)=.no:=if_neg hl;rw[e0];exact⟨trivial,trivial⟩
  |_=>exact⟨trivial,trivial⟩
 |_=>exact⟨trivial,trivial⟩
theorem rX{a b:a_}{f:Int->Int->Bool}(ra:Zu s.heap av va a)(rb:Zu s.heap av vb b)
  (h:∀x t y u (Q:b_->c_->Prop) E,Q (.bool<|f x y) s->i' (i_ O w) A (compareOp op (.int x t)<|.int y u) Q E s):CS A s op va vb<|n6 f a b:=by
 cases a with
 |int x=>
  refine Zs ra.int_inv λt zq=>?_;subst ra zq;cases b with
  |int y=>refine Zs rb.int_inv λu zq=>?_;subst rb zq;exact CS.ok s (BE s) λQ E hq=>h x t y u Q E hq
  |_=>exact trivial
 |_=>exact trivial
theorem Qv{a b:a_}(hu:A.units+70<cLine)(ra:Zu s.heap av va a)(rb:Zu s.heap av vb b):CS A s op va vb<|BX op a b:=by
 cases op with
 |Eq=>exact(Dy hu ra rb).1
 |NotEq=>exact(Dy hu ra rb).2
 |In=>exact(Du ra rb).1
 |NotIn=>exact(Du ra rb).2
 |Is=>exact(Dv ra rb).1
 |IsNot=>exact(Dv ra rb).2
 |Lt=>exact rX ra rb λx t y u Q E h=>lt_int h
 |LtE=>exact rX ra rb λx t y u Q E h=>P.le_int h
 |Gt=>exact rX ra rb λx t y u Q E h=>gt_int h
 |GtE=>exact rX ra rb λx t y u Q E h=>P.ge_int h
end
section
theorem bU(h:mj):h.get? h.objs.size=á:=by
 refine zn (h.get? h.objs.size) (λe=>?_) λo e=>?_
 ·rewrite[e];rfl
 ·rewrite[e];exact absurd (ci e)<|il _
theorem Zu.apart(hn:h.get? a=Option.none)(r:Zu h av v d):Zu h (λb=>av b\/b=a) v d:=
 r.mono (λ_ _ _ e=>e) λb o e x=>x.elim id λx=>by subst x;rw[hn] at e;exact ns e
theorem dA(h:mj)(o:tg)(ho:o.isFreed=ã):(h.push o).get? h.objs.size=à o:=ip h ho
theorem Dz{xs:List b_}{as bs:List a_}(hx:xs.length=as.length)(_hy:ys.length=bs.length)
  (rx:∀(i:Nat) (v:b_) (d:a_),xs[i]?=à v->as[i]?=à d->Zu h av v d) (ry:∀(i:Nat) (v:b_) (d:a_),ys[i]?=à v->bs[i]?=à d->Zu h av v d) :
  ∀(i:Nat) (v:b_) (d:a_),(xs++ys)[i]?=à v->(as++bs)[i]?=à d->Zu h av v d:=by
 intro i v d e1 e2
 by_cases hi:i<xs.length
 ·rw[gh hi] at e1;rw[gh<|hx▸hi] at e2;exact rx i v d e1 e2
 ·rw[gj<|by exact ax4 hi] at e1;rw[gj (by exact ax5 hx hi),<- hx] at e2;exact ry _ v d e1 e2
theorem wL{jv:c_}{vs:List b_}(k:Kp s jv)(hl:vs.length=ds.length)(hz:vs.length<=g_)
  (hr:∀(i:Nat) (v:b_) (d:a_),vs[i]?=à v->ds[i]?=à d->Zu jv.heap av v d) :
  Kp s {jv with heap:=jv.heap.push {cls:=.type "list",data:=.seq vs.toArray}} /\
   bC s (jv.heap.push {cls:=.type "list",data:=.seq vs.toArray}) av (.ref jv.heap.objs.size) (.own<|.list ds):=by
 refine⟨k.tr<|Kp.IL _ _,FW.TH k ⟨_,rfl,bU _,vs,⟨0,dA _ _ rfl⟩,hl,hz,λi v d e1 e2=>?_⟩⟩;exact(((hr i v d e1 e2).apart (bU _)).keeps λb o e=>ah _ e)
theorem wM{jv:c_}{vs:List b_}(k:Kp s jv)(ha:∀b,av b->∃o,jv.heap.get? b=à o)(hl:vs.length=ds.length)(hz:vs.length<=g_)
  (hr:∀(i:Nat) (v:b_) (d:a_),vs[i]?=à v->ds[i]?=à d->Zu jv.heap av v d) :
  Kp s {jv with heap:=jv.heap.push {cls:=.type "tuple",data:=.seq vs.toArray}} /\
   bC s (jv.heap.push {cls:=.type "tuple",data:=.seq vs.toArray}) av (.ref jv.heap.objs.size) (.fz<|.tuple ds):=by
 refine⟨k.tr<|Kp.IL _ _,Zu.tuple (λx=>?_) ⟨0,dA _ _ rfl⟩ hl hz λi v d e1 e2=>(hr i v d e1 e2).keeps λb o e=>ah _ e⟩;refine Zs (ha _ x) λo e=>?_;rw[bU] at e;exact ns e
theorem Qw{x y:Int}(hy:y.natAbs<2 ^ 63):u_ x y=ã:=by
 unfold u_;obtain this:(if (y==0)=â then 0 else y.natAbs.log2 / 30+1)<=300:=by
  split
  ·exact ax6
  ·rename_i h0;exact ax7<|(Nat.log2_lt<|by simpa using h0).mpr hy
 rw[Bool.and_eq_false_iff,decide_eq_false_iff_not];left;exact ax8 this
theorem D0{x:Int}(h:x.natAbs<2 ^ 63):Builtin.Int.intBits x<=64:=intBits_le_64 (by omega) (by omega)
theorem Qx{n:Int}(hn:n<=1024)(hx:x.length<=1024):(nY x n).length<=g_:=by
 unfold nY
 split
 ·exact ay _
 ·split
  ·rw[nh];exact ax9 hx
  ·obtain hf:∀(k:Nat) (acc:Array Nat),((wh k x.cps).foldl (·++·) acc).size=acc.size+k*x.cps.size:=by
    intro k;induction k with
    |zero=>intro acc;simp
    |succ k ih=>intro acc;rw[List.replicate_succ,vq,ih,Array.size_append,Nat.succ_mul];exact Kr
   show((wh n.toNat x.cps).foldl (·++·) #[]).size<=g_;rw[hf];rw[nh];simp;exact Kt<|Nat.mul_le_mul (by exact Ks hn)<|hx
theorem D4{op:ox}(h:jG op=â):op=.Add:=by cases op<;>first | rfl | cases h
theorem Qy{op:ox}(h:Ce op=â):op=.Mult:=by cases op<;>first | rfl | cases h
def OS(A:mz)(s:c_)(av:f_->Prop)(op:ox)(va vb:b_)(p:P V):Prop:=
 Yd (λQ E=>i' (i_ O w) A (binaryOp op va vb) Q E s) (λv s' u=>Kp s s'/\bC s s'.heap av v u) p
theorem Qz{op:ox}(x y:Int)(t u:vg):OS A s av op (.int x t) (.int y u)<|Cd op x y:=by
 cases op with
 |Add=>exact λQ E hq=>add_int<|hq _ _ ⟨BK s _,.int _ _⟩
 |Sub=>exact λQ E hq=>sub_int<|hq _ _ ⟨BK s _,.int _ _⟩
 |Mult=>exact DB λh Q E hq=>P.mul_int (hq _ _ ⟨BK s _,.int _ _⟩)<|h.elim (λh=>.of_left<|D0 h) λh=>.of_right<|D0 h
 |FloorDiv=>exact DB λh Q E hq=>floordiv_int h.1 (hq _ _ ⟨BK s _,.int _ _⟩)<|.inl<|Qw h.2
 |Mod=>exact DB λh Q E hq=>mod_int' h<|hq _ _ ⟨BK s _,.int _ _⟩
 |Pow=>exact DB λh Q E hq=>pow_int_small h.1 (by exact Ku h) (by omega)<|hq _ _ ⟨BK s _,.int _ _⟩
 |_=>exact trivial
theorem Q0{n:Int}(h1:1<=n)(h2:n<=1024)(hx:x.length<=1024):(x.length:Int)<=(2 ^ 63 - 1) / n:=
 Int.le_ediv_of_mul_le (by exact Kv h1) (cj (Int.mul_le_mul (cz.mpr hx) h2 (by exact Kw h1) Zw) Zw)
theorem Q1(x:d_)(n:Int)(t u:vg)(h:-100<=n/\n<=1024/\x.length<=1024):OS A s av .Mult (.str x t) (.int n u)<|.ok<|.fz<|.str<|nY x n:=by
 intro Q E hq;have hlen:=Qx h.2.1 h.2.2;refine P.mul_str (by rw[gk,decide_eq_false_iff_not];lia) (λh1 _=>?_) (λh1 _=>?_) ?_
 ·exact Ky<|Q0 (by exact Kx h1) h.2.1 h.2.2
 ·exact decide_eq_false<|Nat.not_lt.mpr<|aa (Nat.mul_le_mul h.2.2 (by exact Kz h:n.toNat<=1024)) Zw
 ·unfold nY at hlen hq
  split
  ·rename_i hn;rw[if_pos hn] at hq hlen;exact⟨hlen,hq _ _ ⟨BK s _,.str _ _ hlen⟩⟩
  ·rename_i hn;rw[if_neg hn] at hq hlen
   split
   ·rename_i h1;rw[if_pos h1] at hq hlen;exact hq _ _ ⟨BE s,.str _ _ hlen⟩
   ·rename_i h1;rw[if_neg h1] at hq hlen;exact⟨hlen,hq _ _ ⟨BK s _,.str _ _ hlen⟩⟩
theorem Q2{l m:List a_}(ra:Zu s.heap av va<|.list l)(rb:Zu s.heap av vb<|.list m)(h:l.length+m.length<=a8):OS A s av .Add va vb<|.ok<|.own<|.list<|l++m:=by
 obtain⟨a,vs,zq,h1,⟨n,e⟩,h3,h4,h5⟩:=ra.DY;subst ra zq;obtain⟨a',BZ,zq,k1,⟨n',e'⟩,k3,k4,k5⟩:=rb.DY;subst rb zq;intro Q E hq;have hz:(vs++BZ).length<=g_:=by rw[k_,h3,k3];exact h
 refine P.add_list e e' ?_ (by simpa using hz);rw[List.append_toArray];exact hq _ _<|wL (vs:=vs++BZ) (ds:=l++m) (BE s) (by simp[h3,k3]) hz<|Dz h3 k3 h5 k5
theorem Q3{op:ox}{a b:a_}(BY:∀b,av b->∃o,s.heap.get? b=à o)(ra:Zu s.heap av va a)(rb:Zu s.heap av vb b):OS A s av op va vb<|aG op a b:=by
 cases a with
 |int x=>
  refine Zs ra.int_inv λt zq=>?_;subst ra zq;cases b with
  |int y=>refine Zs rb.int_inv λu zq=>?_;subst rb zq;exact Qz x y t u
  |_=>exact trivial
 |str x=>
  obtain⟨t,zq,hx⟩:=ra.str_inv;subst ra zq;cases b with
  |str y=>obtain⟨u,zq,hy⟩:=rb.str_inv;subst rb zq;exact DB λh Q E hq=>by cases D4 h.1;exact SB.add (λt' k=>hq _ _ ⟨BK s _,.str _ _<|by rw[strLen_append];exact h.2⟩) h.2
  |int y=>refine Zs rb.int_inv λu zq=>?_;subst rb zq;exact DB λh=>by cases Qy h.1;exact Q1 x y t u h.2
  |_=>exact trivial
 |list l=>
  cases b with
  |list m=>exact DB λh=>by cases D4 h.1;exact Q2 ra rb h.2
  |_=>exact trivial
 |_=>exact trivial
end
section
theorem mH{b:Bool}(h:dY u=.ok b):u=.fz (.bool b):=by
 cases u with
 |fz d=>cases d<;>first | (cases h;rfl) | cases h
 |_=>exact zz h
theorem bC.cl(zw:∀b,av b->∃o,s.heap.get? b=à o)(r:bC s h av v u):cM l h av v u.cl:=by
 cases u with
 |fz d=>exact r
 |own d=>exact FW.rep zw r
 |dp d=>exact CO.rep zw r
 |ex x=>exact r.elim
theorem Q4{a b:h_}{op:ox}{pl pr:R V}(hl:aJ n hd l sc σ a pl)(hr:aJ n hd l sc σ b pr):
  aJ n hd l sc σ (.BinOp a op b pos) (rb pl λa=>rb pr λb=>Zy<|aG op (Zp a)<|Zp b):=by
 intro A env s av hA I β k fin Q E hf hq he;refine wpAny_BinOp<|hl A env s av hA I hf.b (λva jv a k1 ra h1=>?_) he;have I1:=I.k k1;refine hr A env jv av hA I1 (Fin.b ⟨h1,hf.2⟩) (λvb jy b k2 rb h2=>?_)<|he.back k1;exact(Q3 (I1.k k2).gnd.avlt ((ra.rep I.gnd.avlt).k I.gnd.fav k2) (rb.rep I1.gnd.avlt)).fin ⟨h2,hf.2⟩ λv s' u r e=>hq.step (k1.tr k2) r e
theorem D5{x:h_}{op:UnaryOp}{p:R V}(hx:aJ n hd l sc σ x p):aJ n hd l sc σ (.UnaryOp op x pos)<|rb p λv=>Zy<|gA op v:=by
 intro A env s av hA I β k fin Q E hf hq he;refine wpAny_UnaryOp<|hx A env s av hA I hf.b (λva jv a k1 ra h1=>?_) he;obtain⟨u,e1,e2⟩:=Fin.p ⟨h1,hf.2⟩;cases op with
 |Not=>
  refine RZ (dY a) (λht=>?_) λb ht=>?_
  ·rw[gA,ht] at e1;exact zz e1
  ·rw[gA,ht] at e1;replace e1:=pi e1;subst e1;clear h1;cases mH ht;cases (ra:Zu jv.heap av va<|.bool b).bool_inv;exact not_value<|cx<|hq _ _ (.fz<|.bool _) k1 (.bool _) e2
 |USub=>
  have r:=ra.rep I.gnd.avlt;have e1:Cu (Zp a)=.ok u:=e1;generalize Zp a=d at r e1;cases d with
  |int i=>replace e1:=pi e1;subst e1;refine Zs r.int_inv λt zq=>?_;subst ra r zq;exact P.neg_int<|hq _ _ (.fz<|.int _) (k1.GP<|BK _ _) (.int _ _) e2
  |_=>exact zz e1
 |_=>exact zz e1
def cD(n:Nat)(hd:Bool)(l:List nt)(sc:mh)(σ:aA)(e:h_)(r:R V):Prop:=
 ∀(A:mz) (env:nt) (s:c_) (av:f_->Prop),AI n hd l A->AW l env sc σ av s ->
  ∀{β:Type} {k:Bool->R β} {fin:R β} {Q:Bool->c_->Prop} {E:b_->c_->Prop},Fin (zu r) k fin->(∀b s',K l s s'->k b=fin->Q b s')->EH l s av fin E->i' (i_ O w) A (isTrue e env<|eval e env) Q E s
theorem Q5{b o:h_}(ht:cD n hd l sc σ t pt)(hb:aJ n hd l sc σ b pb)(ho:aJ n hd l sc σ o po):
  aJ n hd l sc σ (.IfExp t b o pos) (rb (zu pt) λc=>if c then pb else po):=by
 intro A env s av hA I β k fin Q E hf hq he;refine wpAny_IfExp<|ht A env s av hA I hf.b (λc jv k1 h1=>?_) he;cases c with
 |true=>exact hb A env jv av hA (I.k k1) ⟨h1,hf.2⟩ (hq.back k1)<|he.back k1
 |false=>exact ho A env jv av hA (I.k k1) ⟨h1,hf.2⟩ (hq.back k1)<|he.back k1
theorem D6(h:aJ n hd l sc σ e r)(he:∀env whole,isTrue e env whole=(do let v <- whole;standAt e.pos;holding [v] (truthy v))):cD n hd l sc σ e r:=by intro A env s av hA I β k fin Q E hf hq hE;refine wpAny_isTrue_value (h A env s av hA I hf.b (λv jv a k1 ra h1=>?_) hE)<|he env _;obtain⟨b,e1,e2⟩:=Fin.p ⟨h1,hf.2⟩;clear h1;cases mH e1;cases (ra:Zu jv.heap av v<|.bool b).bool_inv;exact cx<|hq _ _ k1 e2
theorem Q6{x:h_}{p:R V}(hx:cD n hd l sc σ x p):cD n hd l sc σ (.UnaryOp .Not x pos)<|rb p λv=>Zy<|gA .Not v:=by
 intro A env s av hA I β k fin Q E hf hq hE;refine wpAny_isTrue_Not<|hx A env s av hA I (k:=λb=>k !b) ⟨?_,hf.2⟩ (λb jv k1 h1=>hq _ _ k1 h1) hE;rw[<- hf.1];cases p with
 |ok v=>show rb (Zy<|dY v) _=rb (zu<|Zy<|gA .Not v) k;unfold gA;cases dY v<;>rfl
 |_=>rfl
theorem Q7{b o:h_}(ht:cD n hd l sc σ t pt)(hb:cD n hd l sc σ b pb)(ho:cD n hd l sc σ o po):
  cD n hd l sc σ (.IfExp t b o pos) (rb (zu pt) λc=>if c then pb else po):=by
 intro A env s av hA I β k fin Q E hf hq hE;refine ac<|ht A env s av hA I hf.b.b (λc jv k1 h1=>?_) hE;cases c with
 |true=>exact hb A env jv av hA (I.k k1) (Fin.ϣ ⟨h1,hf.2⟩) (λb s' k2 e=>hq b s' (k1.tr k2) e)<|hE.back k1
 |false=>exact ho A env jv av hA (I.k k1) (Fin.ϣ ⟨h1,hf.2⟩) (λb s' k2 e=>hq b s' (k1.tr k2) e)<|hE.back k1
theorem Q8(hA:AI n hd l A):∀{vs:List h_} {s:c_},(∀e∈vs,aJ n hd l sc σ e<|rec e)->AW l env sc σ av s ->
  ∀{β:Type} {k:V->R β} {fin:R β} {Q:b_->c_->Prop} {E:b_->c_->Prop},Fin (n8 rec vs) k fin->QH l s av k fin Q->EH l s av fin E->i' (i_ O w) A (boolOp pos .And<|evalEach vs env) Q E s:=by
 intro v0;induction v0 with
 |nil=>intro _ _ _ _ _ _ _ _ hf _ _;exact hf.no.elim
 |cons e r0 ih=>
  cases r0 with
  |nil=>intro s h I _ _ _ _ _ hf hq he;exact h e ag A env s av hA I hf hq he
  |cons e' r=>
   intro s h I _ _ _ _ _ hf hq he;refine ac<|h e ag A env s av hA I (Fin.b hf) (λv jv a k1 ra h1=>ac<|ck<|ac<|bk ?_) he;obtain⟨b,e1,e2⟩:=Fin.p<|Fin.b ⟨h1,hf.2⟩;clear h1;cases mH e1;cases (ra:Zu jv.heap av v<|.bool b).bool_inv;cases b with
   |true=>exact cx<|ih (λx hx=>h x<|af _ hx) (I.k k1) ⟨e2,hf.2⟩ (hq.back k1)<|he.back k1
   |false=>exact cx<|ae<|hq _ _ (.fz<|.bool _) k1 (.bool _) e2
theorem Q9(hA:AI n hd l A):∀{vs:List h_} {s:c_},(∀e∈vs,aJ n hd l sc σ e<|rec e)->AW l env sc σ av s ->
  ∀{β:Type} {k:V->R β} {fin:R β} {Q:b_->c_->Prop} {E:b_->c_->Prop},Fin (n9 rec vs) k fin->QH l s av k fin Q->EH l s av fin E->i' (i_ O w) A (boolOp pos .Or<|evalEach vs env) Q E s:=by
 intro v0;induction v0 with
 |nil=>intro _ _ _ _ _ _ _ _ hf _ _;exact hf.no.elim
 |cons e r0 ih=>
  cases r0 with
  |nil=>intro s h I _ _ _ _ _ hf hq he;exact h e ag A env s av hA I hf hq he
  |cons e' r=>
   intro s h I _ _ _ _ _ hf hq he;refine ac<|h e ag A env s av hA I (Fin.b hf) (λv jv a k1 ra h1=>ac<|ck<|ac<|bk ?_) he;obtain⟨b,e1,e2⟩:=Fin.p<|Fin.b ⟨h1,hf.2⟩;clear h1;cases mH e1;cases (ra:Zu jv.heap av v<|.bool b).bool_inv;cases b with
   |false=>exact cx<|ih (λx hx=>h x<|af _ hx) (I.k k1) ⟨e2,hf.2⟩ (hq.back k1)<|he.back k1
   |true=>exact cx<|ae<|hq _ _ (.fz<|.bool _) k1 (.bool _) e2
theorem Ra(hA:AI n hd l A):∀{vs:List h_} {s:c_},(∀e∈vs,cD n hd l sc σ e<|rec e)->AW l env sc σ av s ->
  ∀{β:Type} {k:Bool->R β} {fin:R β} {Q:Bool->c_->Prop} {E:b_->c_->Prop},Fin (zu<|n8 rec vs) k fin->(∀b s',K l s s'->k b=fin->Q b s')->EH l s av fin E->i' (i_ O w) A (allTrue .And vs env) Q E s:=by
 intro v0;induction v0 with
 |nil=>intro _ _ _ _ _ _ _ _ hf _ _;exact hf.no.elim
 |cons e r0 ih=>
  cases r0 with
  |nil=>
   intro s h I _ _ _ _ _ hf hq he;exact yk (h e ag A env s av hA I hf (λb jv k1 h1=>by
    cases b with
    |true=>exact wpAny_allTrue_And_nil<|hq _ _ k1 h1
    |false=>exact hq _ _ k1 h1) he)
  |cons e' r=>
   intro s h I _ k _ _ _ hf hq he;exact yk (h e ag A env s av hA I (k:=λb=>if b then rb (zu<|n8 rec<|e'::r) k else k ã) ⟨by
    rw[<- hf.1];show rb (zu<|rec e) _=rb (rb (rb (rec e) _) _) k;cases rec e with
    |ok v=>
     show rb (Zy<|dY v) _=rb (rb (rb (Zy<|dY v) _) _) k;cases ht:dY v with
     |ok b=>cases mH ht;clear ht;cases b<;>rfl
     |_=>rfl
    |_=>rfl,hf.2⟩ (λb jv k1 h1=>by
    cases b with
    |true=>exact ih (λx hx=>h x<|af _ hx) (I.k k1) ⟨h1,hf.2⟩ (λb s' k2 e=>hq b s' (k1.tr k2) e)<|he.back k1
    |false=>exact hq _ _ k1 h1) he)
theorem Rb(hA:AI n hd l A):∀{vs:List h_} {s:c_},(∀e∈vs,cD n hd l sc σ e<|rec e)->AW l env sc σ av s ->
  ∀{β:Type} {k:Bool->R β} {fin:R β} {Q:Bool->c_->Prop} {E:b_->c_->Prop},Fin (zu<|n9 rec vs) k fin->(∀b s',K l s s'->k b=fin->Q b s')->EH l s av fin E->i' (i_ O w) A (allTrue .Or vs env) Q E s:=by
 intro v0;induction v0 with
 |nil=>intro _ _ _ _ _ _ _ _ hf _ _;exact hf.no.elim
 |cons e r0 ih=>
  cases r0 with
  |nil=>
   intro s h I _ _ _ _ _ hf hq he;exact yz (h e ag A env s av hA I hf (λb jv k1 h1=>by
    cases b with
    |true=>exact hq _ _ k1 h1
    |false=>exact wpAny_allTrue_Or_nil<|hq _ _ k1 h1) he)
  |cons e' r=>
   intro s h I _ k _ _ _ hf hq he;exact yz (h e ag A env s av hA I (k:=λb=>if b then k â else rb (zu<|n9 rec<|e'::r) k) ⟨by
    rw[<- hf.1];show rb (zu<|rec e) _=rb (rb (rb (rec e) _) _) k;cases rec e with
    |ok v=>
     show rb (Zy<|dY v) _=rb (rb (rb (Zy<|dY v) _) _) k;cases ht:dY v with
     |ok b=>cases mH ht;clear ht;cases b<;>rfl
     |_=>rfl
    |_=>rfl,hf.2⟩ (λb jv k1 h1=>by
    cases b with
    |false=>exact ih (λx hx=>h x<|af _ hx) (I.k k1) ⟨h1,hf.2⟩ (λb s' k2 e=>hq b s' (k1.tr k2) e)<|he.back k1
    |true=>exact hq _ _ k1 h1) he)
end
section
theorem D7{vs:List b_}{m:Sem b_}(h:i' M A m Q E s):i' M A (operate vs m) Q E s:=
 λΓ p hΓ=>by rw[Sem.wp_operate];exact h Γ p hΓ
theorem D9{vs ks:List b_}{Q:Unit->c_->Prop}(h:Q () s):i' M A (release vs ks) Q E s:=
 λΓ p hΓ=>by rw[Sem.wp_release];exact h
theorem rY{jv:c_}{a b:a_}{k:Bool->R β}{fin:R β}(hA:AI n hd l A)(ra:Zu jv.heap av va a)(rb:Zu jv.heap av vb b)
  (hf:Fin (Zy<|BX op a b) k fin) (hq:∀b s',Kp jv s'->k b=fin->Q (.bool b) s'):i' (i_ O w) A (compareOp op va vb) Q E jv:=
 Yd.fin (Qv hA.q2E ra rb) hf λv s' b r e=>by rw[r.2];exact hq b s' r.1 e
theorem wN(zv:∀e,zr e=â->rec e=.no){a:a_}
  (h:aJ n hd l sc σ e<|rec e) (hA:AI n hd l A) (I:AW l env sc σ av s) (ra:Zu s.heap av va a) {β:Type} {k:Bool->R β} {fin:R β} {E:b_->c_->Prop} (hf:Fin (uY rec a op e) k fin) (he:EH l s av fin E) :
  (∀{Q:b_->c_->Prop},(∀b s',K l s s'->k b=fin->Q (.bool b) s')->i' (i_ O w) A (compareChain pos va [op] [markedBehindIn op e<|eval e env]) Q E s) /\
  (∀{Q:Bool->c_->Prop},(∀b s',K l s s'->k b=fin->Q b s')->i' (i_ O w) A (testChain pos va [op] [markedBehindIn op e<|eval e env]) Q E s):=by
 rw[Qe<|gR (zv e) (Fin.b hf).ne];constructor<;>intro Q hq
 ·refine ac<|bk<|h A env s av hA I (Fin.b hf) (λvb jv u k1 rb h1=>ac<|ck<|D7 ?_) he;exact rY hA (ra.k I.gnd.fav k1) (rb.rep I.gnd.avlt) ⟨h1,hf.2⟩ λb s' kk e=>hq b s' (k1.GP kk) e
 ·refine ac<|bk<|h A env s av hA I (Fin.b hf) (λvb jv u k1 rb h1=>ac<|ck<|ac<|D7 ?_) he;exact rY hA (ra.k I.gnd.fav k1) (rb.rep I.gnd.avlt) ⟨h1,hf.2⟩ λb s' kk e=>bk<|cx<|hq b s' (k1.GP kk) e
theorem Ea(zv:∀e,zr e=â->rec e=.no){a:a_}
  (h:∀e∈es,aJ n hd l sc σ e<|rec e) (hA:AI n hd l A) (I:AW l env sc σ av s) (ra:Zu s.heap av va a) {β:Type} {k:Bool->R β} {fin:R β} {E:b_->c_->Prop} (hf:Fin (qU rec a ops es) k fin) (he:EH l s av fin E) :
  (∀{Q:b_->c_->Prop},(∀b s',K l s s'->k b=fin->Q (.bool b) s')->i' (i_ O w) A (compareChain pos va ops<|markedEach ops es<|evalEach es env) Q E s) /\
  (∀{Q:Bool->c_->Prop},(∀b s',K l s s'->k b=fin->Q b s')->i' (i_ O w) A (testChain pos va ops<|markedEach ops es<|evalEach es env) Q E s):=by
 cases ops with
 |nil=>exact hf.no.elim
 |cons op ops=>
  cases es with
  |nil=>exact hf.no.elim
  |cons e es=>
   have h1:=h e ag;cases ops with
   |nil=>
    cases es with
    |nil=>exact wN zv h1 hA I ra hf he
    |cons=>exact hf.no.elim
   |cons MY ops=>
    cases es with
    |nil=>exact hf.no.elim
    |cons e' es=>
     have h2:=h e'<|af _ ag;cases ops with
     |cons=>exact hf.no.elim
     |nil=>
      cases es with
      |cons=>exact hf.no.elim
      |nil=>
       constructor<;>intro Q hq
       ·refine ac<|bk<|h1 A env s av hA I (Fin.b hf) (λvb jv u k1 rb g1=>ac<|ck<|ac<|bk ?_) he;have r1:=rb.rep I.gnd.avlt;refine rY hA (ra.k I.gnd.fav k1) r1 (Fin.b ⟨g1,hf.2⟩) λt jy kk g2=>ac<|D9<|ac<|bk<|cx ?_;have k2:=k1.GP kk;cases t with
        |false=>exact ae<|hq _ _ k2 g2
        |true=>exact(wN zv h2 hA (I.k k2) (r1.keeps kk.heap) ⟨g2,hf.2⟩<|he.back k2).1 λb s' k3 g3=>hq _ _ (k2.tr k3) g3
       ·refine ac<|bk<|h1 A env s av hA I (Fin.b hf) (λvb jv u k1 rb g1=>ac<|ck<|ac<|bk ?_) he;have r1:=rb.rep I.gnd.avlt;refine rY hA (ra.k I.gnd.fav k1) r1 (Fin.b ⟨g1,hf.2⟩) λt jy kk g2=>ac<|D9<|ac<|bk<|cx ?_;have k2:=k1.GP kk;cases t with
        |false=>exact ae<|hq _ _ k2 g2
        |true=>exact(wN zv h2 hA (I.k k2) (r1.keeps kk.heap) ⟨g2,hf.2⟩<|he.back k2).2 λb s' k3 g3=>hq _ _ (k2.tr k3) g3
theorem Rc(zv:∀e,zr e=â->rec e=.no)(hl:aJ n hd l sc σ e<|rec e)
  (h:∀e∈es,aJ n hd l sc σ e<|rec e):aJ n hd l sc σ (.Compare e ops es pos)<|rb (rec e) λa=>aS<|qU rec (Zp a) ops es:=by
 intro A env s av hA I β k fin Q E hf hq he;refine ac<|hl A env s av hA I hf.b (λva jv a k1 ra h1=>?_) he;exact(Ea zv h hA (I.k k1) (ra.rep I.gnd.avlt) (Fin.b ⟨h1,hf.2⟩)<|he.back k1).1 λb s' k2 e=>hq _ _ (.fz<|.bool b) (k1.tr k2) (.bool b) e
theorem Rd(zv:∀e,zr e=â->rec e=.no)(hl:aJ n hd l sc σ e<|rec e)
  (h:∀e∈es,aJ n hd l sc σ e<|rec e):cD n hd l sc σ (.Compare e ops es pos)<|rb (rec e) λa=>aS<|qU rec (Zp a) ops es:=by
 intro A env s av hA I β k fin Q E hf hq he;refine ac<|hl A env s av hA I (Fin.b<|Fin.b hf) (λva jv a k1 ra h1=>?_) he;exact(Ea zv h hA (I.k k1) (ra.rep I.gnd.avlt) (Fin.b ⟨h1,hf.2⟩)<|he.back k1).2 λb s' k2 e=>hq _ _ (k1.tr k2) e
def wO(n:Nat)(hd:Bool)(l:List nt)(sc:mh)(σ:aA)(av:f_->Prop)(C:c_->b_->V->Prop)(e:h_)(r:R V):Prop:=
 ∀(A:mz) (env:nt) (s:c_),AI n hd l A->AW l env sc σ av s ->
  ∀{β:Type} {k:V->R β} {fin:R β} {Q:b_->c_->Prop} {E:b_->c_->Prop},Fin r k fin->(∀v s' u,K l s s'->C s' v u.cl->k u=fin->Q v s')->EH l s av fin E->i' (i_ O w) A (eval e env) Q E s
def gT(C:c_->b_->V->Prop)(s:c_):List b_->List V->Prop
 | [],[]=>True
 |v::vs,u::us=>C s v u/\gT C s vs us
 |_,_=>False
theorem gT.len{C:c_->b_->V->Prop}:∀{vs:List b_} {us:List V},gT C s vs us->vs.length=us.length
 | [],[],_=>rfl
 |_::_,_::_,h=>congrArg qh h.2.len
 | [],_::_,h=>h.elim
 |_::_,[],h=>h.elim
theorem gT.at{C:c_->b_->V->Prop}:∀{vs:List b_} {us:List V},gT C s vs us->∀(i:Nat) (v:b_) (u:V),vs[i]?=à v->us[i]?=à u->C s v u
 |_::_,_::_,h,0,_,_,e1,e2=>by obtain rfl:=si e1;obtain rfl:=si e2;exact h.1
 |_::_,_::_,h,i+1,_,_,e1,e2=>h.2.at i _ _ e1 e2
 | [],[],_,i,_,_,e1,_=>by exact ns e1
 | [],_::_,h,_,_,_,_,_=>h.elim
 |_::_,[],h,_,_,_,_,_=>h.elim
theorem Eb(zv:∀e,zr e=â->rec e=.no){C:c_->b_->V->Prop}(hC:∀s s' v u,K l s s'->C s v u->C s' v u)(hA:AI n hd l A):∀{es:List h_} {s:c_},(∀e∈es,wO n hd l sc σ av C e<|rec e)->AW l env sc σ av s ->
  ∀{β:Type} {k:List V->R β} {fin:R β} {Q:List b_->c_->Prop} {E:b_->c_->Prop},Fin (FC rec es) k fin->(∀vs s' us,K l s s'->gT C s' vs us->k us=fin->Q vs s')->EH l s av fin E ->
   i' (i_ O w) A (spliced<|backTo pos<|starEach es env) Q E s:=by
 intro v0;induction v0 with
 |nil=>intro s _ _ _ _ _ _ _ hf hq _;exact cc<|hq _ _ [] (K.rf l s) trivial hf.ok
 |cons e es ih=>intro s h I _ _ _ _ _ hf hq he;refine bf (h e ag A env s hA I (Fin.b hf) (λv jv u k1 r h1=>?_) he)<|eD<|gR (zv e) (Fin.b hf).ne;refine ih (λx hx=>h x<|af _ hx) (I.k k1) (Fin.b ⟨h1,hf.2⟩) (λvs jy us k2 rs h2=>?_)<|he.back k1;exact hq _ _ (u.cl::us) (k1.tr k2) ⟨hC _ _ _ _ k2 r,rs⟩ h2
theorem Re(u:V):Zp u.cl=Zp u:=by cases u<;>rfl
abbrev CD(av:f_->Prop)(s:c_)(v:b_)(u:V):Prop:=Zu s.heap av v<|Zp u
theorem aJ.item(h:aJ n hd l sc σ e r):wO n hd l sc σ av (CD av) e r:=
 λA env s hA I _ _ _ _ _ hf hq he=>h A env s av hA I hf (λv s' u k r e=>hq v s' u k ((Re u).symm▸r.rep I.gnd.avlt:Zu _ _ _ _) e) he
theorem Ec{vs:List b_}(r:gT (CD av) s vs us):vs.length=(cW us).length/\∀(i:Nat) (v:b_) (d:a_),vs[i]?=à v->(cW us)[i]?=à d->Zu s.heap av v d:=by refine⟨by rw[cW,j_];exact r.len,λi v d e1 e2=>?_⟩;rw[cW,lz,az] at e2;refine aD e2 λu e zq=>?_;subst e2 zq;exact r.at i v u e1 e
theorem mI(zv:∀e,zr e=â->rec e=.no)(hA:AI n hd l A)(h:∀e∈es,aJ n hd l sc σ e<|rec e)(I:AW l env sc σ av s)
  {β:Type} {k:List V->R β} {fin:R β} {Q:List b_->c_->Prop} {E:b_->c_->Prop} (hf:Fin (FC rec es) k fin)
  (hq:∀vs s' us,K l s s'->vs.length=(cW us).length->(∀(i:Nat) (v:b_) (d:a_),vs[i]?=à v->(cW us)[i]?=à d->Zu s'.heap av v d)->k us=fin->Q vs s') (he:EH l s av fin E) :
   i' (i_ O w) A (spliced<|backTo pos<|starEach es env) Q E s:=
 Eb (C:=CD av) zv (λ_ _ _ _ k r=>Zu.k I.gnd.fav k r) hA (λe m=>(h e m).item) I hf (λvs s' us k r e=>hq vs s' us k (Ec r).1 (Ec r).2 e) he
theorem Rg(zv:∀e,zr e=â->rec e=.no)(h:∀e∈es,aJ n hd l sc σ e<|rec e):
  aJ n hd l sc σ (.List es pos) (rb (FC rec es) λl=>if l.length<=a8 then .ok (.own<|.list<|cW l) else .no):=by
 intro A env s av hA I β k fin Q E hf hq he;refine wpAny_List<|mI zv hA h I hf.b (λvs jv us k1 h1 h2 e1=>?_) he;refine zj (Fin.ite ⟨e1,hf.2⟩) λhz e2=>?_;have hz:vs.length<=g_:=by rw[h1,cW,j_];exact hz
 exact⟨hz,hq.step k1 (wL (BE _) h1 hz h2) e2.ok⟩
theorem Rh(zv:∀e,zr e=â->rec e=.no){t:Nat}(h:∀e∈es,aJ n hd l sc σ e<|rec e):
  aJ n hd l sc σ (.Tuple es t pos) (rb (FC rec es) λl=>if l.length<=a8 then .ok (.fz<|.tuple<|cW l) else .no):=by
 intro A env s av hA I β k fin Q E hf hq he;refine wpAny_Tuple<|mI zv hA h I hf.b (λvs jv us k1 h1 h2 e1=>?_) he;refine zj (Fin.ite ⟨e1,hf.2⟩) λhz e2=>?_;have hz:vs.length<=g_:=by rw[h1,cW,j_];exact hz
 exact⟨hz,hq.step k1 (wM (BE _) (I.gnd.k k1).avlt h1 hz h2) e2.ok⟩
end
section
def dI(h:mj)(av:f_->Prop)(v:b_)(d:a_):Prop:=Zu h av v d\/∃a,v=.ref a/\cC h av a d
theorem dI.keeps(hk:∀b o,h.get? b=à o->h'.get? b=à o)(r:dI h av v d):dI h' av v d:=
 r.imp (·.keeps hk) λhh=>by refine aD hh λa e r=>?_;exact⟨a,e,r.mono (λb o _ e=>hk b o e) (λ_ _ _ x=>x) λo e=>hk _ o e⟩
theorem Zu.q1X(r:Zu h av v d)(e:v=.ref a):¬av a:=by
 cases r with
 |list h1=>cases e;exact h1
 |tuple h1=>cases e;exact h1
 |dict h1=>cases e;exact h1
 |_=>cases e
theorem dI.k(fav:∀b,z_ l b->av b)(k:K l s s')(r:dI s.heap av v d/\(∀a,v=.ref a->¬z_ l a)):dI s'.heap av v d/\(∀a,v=.ref a->¬z_ l a):=
 ⟨r.1.imp (·.k fav k) λhh=>by refine aD hh λa e b=>?_;exact⟨a,e,b.k fav k<|r.2 a e⟩,r.2⟩
inductive X_(h:mj)(av:f_->Prop)(v:b_)(ds:List a_):Prop where
 |mk (a:f_) (vs:List b_) (e:v=.ref a) (p:h.PlainList a<|List.toArray vs) (l:vs.length=ds.length) (z:vs.length<=g_) (r:∀(i:Nat) (v:b_) (d:a_),vs[i]?=à v->ds[i]?=à d->Zu h av v d):X_ h av v ds
inductive YA(h:mj)(av:f_->Prop)(v:b_)(ds:List a_):Prop where
 |mk (a:f_) (vs:List b_) (e:v=.ref a) (p:DH h a<|List.toArray vs) (l:vs.length=ds.length) (z:vs.length<=g_) (r:∀(i:Nat) (v:b_) (d:a_),vs[i]?=à v->ds[i]?=à d->Zu h av v d):YA h av v ds
theorem dI.list(r:dI h av v<|.list ds):X_ h av v ds:=by
 rcases r with r|⟨a,e,vs,r1,r2,r3,r4⟩
 ·cases r with
  |list h1 h2 h3 h4 h5=>exact⟨_,_,rfl,h2,h3,h4,h5⟩
 ·exact⟨a,vs,e,r1,r2,r3,r4⟩
theorem dI.tuple(r:dI h av v<|.tuple ds):YA h av v ds:=by
 rcases r with r|⟨a,e,r⟩
 ·cases r with
  |tuple h1 h2 h3 h4 h5=>exact⟨_,_,rfl,h2,h3,h4,h5⟩
 ·exact r.elim
inductive X'(h:mj)(av:f_->Prop)(v:b_)(ds:List<|PyData×a_):Prop where
 |mk (a:f_) (kvs:List<|Str×b_) (e:v=.ref a) (p:h.DictOf (mc O w) a kvs) (z:kvs.length<=g_/\∀kv∈kvs,kv.1.length<=g_) (m:(a==mw)=ã)
  (l:ds.map (·.1)=kvs.map (λkv=>l_ kv.1)) (r:∀(i:Nat) (kv:d_×b_) (d:a_×a_),kvs[i]?=à kv->ds[i]?=à d->Zu h av kv.2 d.2):X' h av v ds
theorem dI.dict{ds:List<|PyData×a_}(r:dI h av v<|.dict ds):X' h av v ds:=by
 rcases r with r|⟨a,e,kvs,r1,r2,r3,r4,r5⟩
 ·obtain⟨a,kvs,e,_,r1,r2,r3,r4,r5⟩:=r.FB;exact⟨a,kvs,e,r1,r2,r3,r4,r5⟩
 ·exact⟨a,kvs,e,r1,r2,r3,r4,r5⟩
theorem dI.str(r:dI h av v<|.str x):TA v x:=by
 rcases r with r|⟨a,e,r⟩
 ·exact r.str_inv
 ·exact r.elim
theorem Yd.frz{W:WP γ}{R:γ->c_->V->Prop}{o:Option a_}(k:∀d,o=à d->Yd W R (.ok<|.fz d)):Yd W R<|frz o:=by
 cases o with
 |none=>exact trivial
 |some d=>exact k d rfl
def wP(s:c_)(v:b_):Prop:=∃T id,s.TypeIs v T/\ni (.type T) "__getitem__" = pure (à<|.builtin id)
def GS(A:mz)(s:c_)(av:f_->Prop)(va vi:b_)(p:P V):Prop:=
 Yd (λQ E=>wP s va/\i' (i_ O w) A (pv va vi) Q E s) (λv s' u=>Kp s s'/\bC s s'.heap av v u) p
theorem Ed{xs:List α}{ys:List β}(hl:xs.length=ys.length){y:β}(e:ys[i]?=à y):∃x,xs[i]?=à x:=
 ⟨_,ai<|hl▸(bw.mp e).1⟩
theorem mJ{k:Int}(h:0<=k/\k<n)(hn:n<=g_):-2 ^ 63<=k/\k<2 ^ 63:=by have hs:=nh;lia
theorem Ri{a i:a_}(ra:dI s.heap av va a)(ri:Zu s.heap av vi i):GS A s av va vi<|Zx a i:=by
 cases i with
 |int k=>
  refine Zs ri.int_inv λt zq=>?_;subst ri zq;cases a with
  |list l=>
   obtain⟨ad,vs,zq,h2,h3,h4,h5⟩:=ra.list;subst ra zq;refine Yd.ER (λ_=>DB λc=>Yd.frz λd e=>?_) λ_=>DB λc=>Yd.frz λd e=>?_<;>refine Zs (Ed h3 e) λv e1=>?_
   ·exact λQ E hq=>⟨⟨"list",_,h2.isList.typeIs,rc⟩,wpAny_getItem_list h2.isList c.1 (mJ (h3▸c) h4).2 (by simpa using e1)<|hq _ _ ⟨BE s,h5 _ _ _ e1 e⟩⟩
   ·rw[<- h3] at c e1;exact λQ E hq=>⟨⟨"list",_,h2.isList.typeIs,rc⟩,wpAny_getItem_list_neg h2.isList c.1 c.2 (by have:=nh;lia) (by simpa using e1)<|hq _ _ ⟨BE s,h5 _ _ _ e1<|h3▸e⟩⟩
  |tuple l=>obtain⟨ad,vs,zq,h2,h3,h4,h5⟩:=ra.tuple;subst ra zq;refine DB λc=>Yd.frz λd e=>Zs (Ed h3 e) λv e1=>?_;have hf:=mJ (h3▸c) h4;exact λQ E hq=>⟨⟨"tuple",_,h2.GK.typeIs,slot_tuple_getitem.lookup⟩,by refine Zs h2 λn h2=>?_;exact P.getItem_tuple h2 hf.1 hf.2 (k:=k.toNat) (seqIndex_of c.1 (h3▸c).2) (by simpa using e1)<|hq _ _ ⟨BE s,h5 _ _ _ e1 e⟩⟩
  |str x=>
   obtain⟨t',zq,hx⟩:=ra.str;subst ra zq;refine DB λc=>Yd.frz λd e=>aD (az.mp e) λch e1 zq=>?_;subst e zq;have hf:=mJ c hx;exact λQ E hq=>⟨⟨"str",_,rfl,slot_str_getitem.lookup⟩,getItem_str (gk.mpr ⟨decide_eq_false<|fy.mpr hf.1,decide_eq_false<|Int.not_le.mpr hf.2⟩) (c:=ch)
    (by rw[(seqIndex_of c.1 c.2:seqIndex? k x.length=à k.toNat)];exact e1) (hq _ _ ⟨BK s _,.str _ _<|by rw[nh];exact iq rfl⟩)⟩
  |_=>exact trivial
 |str x=>
  obtain⟨t,zq,hx⟩:=ri.str_inv;subst ri zq;cases a with
  |dict l=>
   obtain⟨ad,kvs,zq,h2,h3,h4,h5,h6⟩:=ra.dict;subst ra zq;refine Yd.frz λd e=>?_;rcases rV x h5 with ⟨e1,e2⟩|⟨i,v,d',e1,e2,e3,e4⟩
   ·rw[e2] at e;exact ns e
   ·rw[e2] at e;replace e:=si e;subst e;exact λQ E hq=>⟨⟨"dict",_,h2.typeIs,F.slot_dict_getitem.lookup⟩,wpAny_getItem_of (fL x t) h2.mapOf e1<|hq _ _ ⟨BK s _,h6 i _ _ e3 e4⟩⟩
  |_=>exact trivial
 |_=>exact trivial
theorem rZ{value slice:h_}(hs:∃f:b_->b_->List b_,∀o i,subscripted slice ã o i=operate (f o i) (pv o i))
  (h:i' (i_ O w) A (eval value env) (λo jv=>i' (i_ O w) A (eval slice env) (λi jy=>wP jy o/\i' (i_ O w) A (pv o i) Q E jy) E jv) E s) :
  i' (i_ O w) A (eval (.Subscript value slice pos) env) Q E s:=by
 rw[eval_Subscript];refine ac<|aq h (λo jv jz=>ac<|bk<|aq jz (λi jy kq=>ac<|ck ?_) λ_ _ x=>x) λ_ _ x=>x;refine zj kq λzt hg=>?_;obtain⟨T,id,hT,hl⟩:=zt;refine ac ?_;rw[getitemInPython_of_ne hT.not_modules];refine ac<|wpAny_specialOf hT hl ?_;have fin:i' (i_ O w) A (subscripted slice ã o i) (λr kc=>i' (i_ O w) A (letTemporaryGo value o r >>= λ_=>pure r) Q E kc) E jy:=by refine Zs hs λf hs=>?_;rw[hs];exact wpAny_operating<|aq hg (λr kc km=>ac<|wpAny_letTemporaryGo<|ae km) λ_ _ x=>x
 first
  |exact ae<|ac fin
  |exact ac<|ae<|ac fin
  |exact ac fin
theorem Ee{o:Option<|Option V}{f:V->Option α}{d:α}(h:(match o with | some o=>(match o with | some v=>f v | none=>á) | none=>á)=à d):∃v,o=à (à v)/\f v=à d:=by
 cases o with
 |none=>exact ns h
 |some o=>
  cases o with
  |none=>exact ns h
  |some v=>exact⟨v,rfl,h⟩
theorem Ef[Decidable c]{a b:α}(h:(if c then à a else á)=à b):c/\a=b:=by
 by_cases hc:c
 ·rw[if_pos hc] at h;replace h:=si h;subst h;exact⟨hc,rfl⟩
 ·rw[if_neg hc] at h;exact ns h
theorem Eg(h:kM sc σ x=à d):AV sc x=â/\zm σ x=à (à<|.own d):=by
 refine aD (Ee (f:=λv=>match v with | .own d=>if AV sc x then à d else á | _=>á) h) λv e h=>?_;cases v with
 |own d'=>refine zj (Ef h) λhl zq=>?_;subst zq;exact⟨hl,e⟩
 |_=>exact ns h
theorem Rj{d:X}(h:qW sc σ x=à d):AV sc x=â/\zm σ x=à (à<|.ex d):=by
 refine aD (Ee (f:=λv=>match v with | .ex d=>if AV sc x then à d else á | _=>á) h) λv e h=>?_;cases v with
 |ex d'=>refine zj (Ef h) λhl zq=>?_;subst zq;exact⟨hl,e⟩
 |_=>exact ns h
theorem Rk(h:oB sc σ e=à d):∃x p,e=.Name x p/\AV sc x=â/\zm σ x=à (à<|.own d):=by
 unfold oB at h;refine zn (bT e) (λhn=>?_) λx hn=>?_
 ·rw[hn] at h;exact ns h
 ·rw[hn] at h;refine Zs (eJ hn) λp zq=>?_;subst hn zq;exact⟨x,p,rfl,Eg h⟩
theorem Eh{d:X}(h:gQ sc σ e=à d):∃x p,e=.Name x p/\AV sc x=â/\zm σ x=à (à<|.ex d):=by
 unfold gQ at h;refine zn (bT e) (λhn=>?_) λx hn=>?_
 ·rw[hn] at h;exact ns h
 ·rw[hn] at h;refine Zs (eJ hn) λp zq=>?_;subst hn zq;exact⟨x,p,rfl,Rj h⟩
theorem Ei{o:h_}(h:aJ n hd l sc σ o<|rec o)(hA:AI n hd l A)(I:AW l env sc σ av s)
  {β:Type} {k:a_->R β} {fin:R β} {Q:b_->c_->Prop} {E:b_->c_->Prop} (hf:Fin (lZ rec sc σ o) k fin) (hq:∀v s' d,K l s s'->dI s'.heap av v d/\(∀a,v=.ref a->¬z_ l a)->k d=fin->Q v s') (he:EH l s av fin E):i' (i_ O w) A (eval o env) Q E s:=by
 unfold lZ at hf;refine zn (oB sc σ o) (λe=>?_) λd e=>?_
 ·rw[e] at hf;exact h A env s av hA I hf.b (λv jv u k1 r h1=>hq _ _ _ k1 ⟨.inl<|r.rep I.gnd.avlt,λa ha f=>(r.rep I.gnd.avlt).q1X ha (I.gnd.fav _ f)⟩ h1) he
 ·rw[e] at hf;obtain⟨x,pos,rfl,hl,e⟩:=Rk e;obtain⟨u,h1,a,rfl,n1,h2⟩:=I.get _ _ hl e;exact dE I hl h1<|hq _ _ _ (K.rf l s) ⟨.inr ⟨a,rfl,h2⟩,λa' ha=>by cases ha;exact n1⟩ hf.ok
theorem Rl(l:List α)(lo hi:Option Int):(slice l lo hi).length<=l.length:=by unfold slice;rw[oh,jl];exact K0
theorem Rm{l:List α}{m:List β}(hl:l.length=m.length){lo hi:Option Int}{x:α}{y:β}(e1:(slice l lo hi)[i]?=à x)(e2:(slice m lo hi)[i]?=à y):
  ∃j:Nat,l[j]?=à x/\m[j]?=à y:=by
 unfold slice at e1 e2;rw[<- hl] at e2;rw[qy] at e1 e2
 split at e1
 ·rename_i h;rw[if_pos h] at e2;rw[yh] at e1 e2;exact⟨_,e1,e2⟩
 ·exact ns e1
theorem Rn{l:List α}{m:List β}(hl:l.length=m.length)(lo hi:Option Int):(slice l lo hi).length=(slice m lo hi).length:=by unfold slice;rw[oh,oh,jl,jl,hl]
def wQ(v:b_)(k:Option Int):Prop:=IsPart v k/\∃p,v=partValue p/\p.map (·.1)=k
theorem Ej{e:Option h_}(h:∀x,e=à x->aJ n hd l sc σ x (rec x))(hA:AI n hd l A)(I:AW l env sc σ av s)
  {β:Type} {k:Option Int->R β} {fin:R β} {Q:b_->c_->Prop} {E:b_->c_->Prop} (hf:Fin (vC rec e) k fin) (hq:∀v s' d,K l s s'->wQ v d->k d=fin->Q v s') (he:EH l s av fin E):i' (i_ O w) A (evalPart e env) Q E s:=by
 cases e with
 |none=>exact wpAny_evalPart_none<|hq _ _ á (K.rf l s) ⟨.none,á,rfl,rfl⟩ hf.ok
 |some x=>
  refine wpAny_evalPart_some<|h x rfl A env s av hA I (Fin.b hf) (λv jv u k1 r h1=>?_) he;obtain⟨i,e1,e2⟩:=Fin.p ⟨h1,hf.2⟩;cases u with
  |fz d=>
   cases d with
   |int i=>replace e1:=pi e1;subst e1;refine Zs ((r:Zu jv.heap av v<|.int i).int_inv) λt zq=>?_;subst r zq;exact hq _ _ _ k1 ⟨.int i t,à (i,t),rfl,rfl⟩ e2
   |_=>exact zz e1
  |_=>exact zz e1
def sA(s:c_)(vl vu:b_):c_:={s with heap:=s.heap.push {cls:=.type "slice",data:=.fields #[vl,vu,.none]}}
theorem Ro(n:Nat)(h:3<=n):qq (à 1) (à 3) 1 (n:Int)=(1,3):=by unfold qq;simp only[(by decide:¬((1:Int)<0)),(by decide:¬((3:Int)<0)),if_false];congr 1<;>lia
theorem Rp{u t:vg}{Q:Int×Int×Nat->c_->Prop}(hs:s.heap.IsSliceOf sl (.int 1 u) (.int 3 t) .none)(ha:3<=n)(h:Q (1,1,2) s):
  i' (i_ O w) A (ua (.ref sl)<|pure (n:Int)) Q E s:=by
 refine bN (id hs) λos OU ZI FG=>?_;unfold ua Builtin.Slice.sliceFields;refine ac<|ac<|wpAny_field OU FG (x:=.int 1 u) rfl (ac<|wpAny_field OU FG (x:=.int 3 t) rfl (ac<|wpAny_field OU FG (x:=.none) rfl (ae ?_)));refine ac<|slicePart_none ?_;rw[if_neg Zw];refine ac<|slicePart_int<|ac<|slicePart_int<|ac<|ae ?_;show i' _ _ (match qq (à 1) (à 3) 1 (n:Int) with | (lo,hi)=>pure (lo,(1:Int),Builtin.Slice.slicePlaces lo hi 1)) _ _ s;rw[Ro n ha];exact ae h
theorem Rq{t:f_}{items:Array b_}{u v:vg}(ht:PyProof.Rows.IsTup s.heap t items)(hs:s.heap.IsSliceOf sl (.int 1 u) (.int 3 v) .none)(ha:3<=items.size)
  (h:Q (.ref s.heap.objs.size) {s with heap:=s.heap.push {cls:=.type "tuple",data:=.seq ((items.toList.drop 1).take 2).toArray}}):i' (i_ O w) A (pv (.ref t)<|.ref sl) Q E s:=by
 ext sl A s E Q t items u v
 have RC:sizeOk<|.seq ((items.toList.drop 1).take 2).toArray:=by show((items.toList.drop 1).take 2).toArray.size<=g_;rw[ir];exact aa (ya _ _) (by rw[nh];decide)
 refine bN (id hs) λos OU ZI FG=>?_;obtain q1K:((oy 2).filterMap λ(k:Nat)=>items[((1:Int)+(k:Int)*1).toNat]?).toArray=((items.toList.drop 1).take 2).toArray:=by
  obtain e:(λ(k:Nat)=>items[((1:Int)+(k:Int)*1).toNat]?)=λk=>items[1+k]?:=by
   funext k;obtain this:((1:Int)+(k:Int)*1).toNat=1+k:=by rw[Int.mul_one];exact(congrArg Int.toNat (we 1 k).symm).trans (jm _)
   rw[this]
  have:=pick_run items 1 2;rw[List.filterMap_map] at this;rw[e];exact congrArg List.toArray this
 unfold pv
 try with_reducible refine bk ?_
 first | refine ac (ae ?_) | skip
 refine ac<|wpAny_sequenceKey ht.typeIs Zw ?_;refine ac (ye (name:=e_ "__getitem__") ht.typeIs tc
  (wpAny_call_entry tc ht.typeIs entry_tuple_getitem ?_<|args_tuple_getitem _ _))
 show i' _ _ (Builtin.Tuple.tupleItemsOf (.ref t) >>= _) _ _ s;refine ac<|tupleItemsOf_ ht ?_;refine ac<|iu (⟨os,OU,ZI⟩) ?_;rw[if_pos Zw];refine ac<|Rp hs ha ?_;show i' _ _ (if ((1:Int)==0&&(1:Int)==1&&(2==items.size))=â then _ else _) _ _ s;rw[if_neg (by simp),q1K]
 first
  |exact ac (m:=ot _)<|gn (ae ⟨_,rfl,ae h⟩) RC
  |exact ac (m:=ot _)<|gn (ac<|ae<|ae ⟨_,rfl,ae h⟩) RC
  |exact ac<|ac (m:=ot _)<|gn (ae<|ae ⟨_,rfl,ae h⟩) RC
  |exact ac<|ac (m:=ot _)<|gn (ae ⟨_,rfl,ae h⟩) RC
theorem Rr{vl vu:b_}{a:a_}{kl kh:Option Int}(BY:∀b,av b->∃o,s.heap.get? b=à o)(rt:dI (sA s vl vu).heap av va a)(rl:wQ vl kl)(rh:wQ vu kh):
  GS A (sA s vl vu) av va (.ref s.heap.objs.size) (lV a kl kh):=by
 ext av A s va vl vu a kl kh;cases a with
 |list l=>
  obtain⟨ad,vs,zq,p2,p3,p4,p5⟩:=rt.list;subst rt zq;refine λQ E hq=>⟨⟨"list",_,p2.isList.typeIs,rc⟩,wpAny_getItem_list_slice p2.isList (vt ..) rl.1 rh.1 .none (by simp) ?_<|by simpa using p4⟩
  obtain e:slicePick vs.toArray kl kh á=(slice vs kl kh).toArray:=by rw[slicePick_plain];simp[slice]
  rw[e];exact hq _ _ (wL (BE _) (Rn p3 kl kh) (aa (Rl _ _ _) p4) λi v d e1 e2=>by refine aD (Rm p3 e1 e2) λj e3 e4=>?_;exact p5 j v d e3 e4)
 |tuple l=>
  refine DB λhc=>?_
  ·refine bP hc λzq HO hl=>?_;subst hc zq;subst HO;obtain⟨ad,vs,zq,p2,p3,p4,p5⟩:=rt.tuple;subst rt zq;refine iK rl λ_ pl zq Χ=>?_;subst rl zq;refine iK rh λ_ pu zq Ψ=>?_;subst rh zq;refine aD (az.mp Χ) λzt HO e1=>?_;obtain⟨i,t⟩:=zt;subst Χ HO;refine aD (az.mp Ψ) λzt HO e2=>?_;obtain⟨j,u⟩:=zt;subst Ψ HO;obtain rfl:=e1;obtain rfl:=e2;refine λQ E hq=>⟨⟨"tuple",_,p2.GK.typeIs,slot_tuple_getitem.lookup⟩,Rq (items:=vs.toArray) (by refine Zs p2 λn e=>?_;exact⟨_,e,rfl,_,rfl⟩) (vt ..) (by simpa[p3] using hl) ?_⟩
   exact hq _ _ (wM (jv:=sA s (.int 1 t)<|.int 3 u) (vs:=(vs.drop 1).take 2) (ds:=(l.drop 1).take 2) (BE _) (λb hb=>by refine Zs (BY b hb) λo e=>?_;exact⟨o,ah _ e⟩) (by simp[p3]) (aa (ya _ _)<|by rw[nh];decide) λi v d e1 e2=>by
    rw[qy] at e1 e2
    by_cases hi:i<2
    ·rw[if_pos hi,yh] at e1 e2;exact p5 _ v d e1 e2
    ·rw[if_neg hi] at e1;exact ns e1)
 |_=>exact trivial
theorem Rs{o i:h_}(ho:aJ n hd l sc σ o<|rec o)(ZR:aJ n hd l sc σ i<|rec i)
  (hs:∀c,oC i=à c->(∀x,c.1=à x->aJ n hd l sc σ x (rec x))/\(∀x,c.2.1=à x->aJ n hd l sc σ x (rec x))) :
  aJ n hd l sc σ (.Subscript o i pos) (vD rec sc σ o i):=by
 intro A env s av hA I β k fin Q E hf hq he;unfold vD at hf;refine zn (oC i) (λhv=>?_) λc hv=>?_
 ·rw[hv] at hf;refine DO (zr i) (λhb=>?_) λhb=>?_
  ·rw[hb] at hf;refine rZ ⟨_,λ_ _=>wC hb⟩<|Ei ho hA I (Fin.b hf) (λva jv a k1 ra h1=>?_) he;have I1:=I.k k1;exact ZR A env jv av hA I1 (Fin.b ⟨h1,hf.2⟩) (λvi jy u k2 r h2=>Yd.fin (Ri (A:=A) (dI.k I.gnd.fav k2 ra).1<|r.rep I1.gnd.avlt) ⟨h2,hf.2⟩ λv s' u r e=>hq.step (k1.tr k2) r e)<|he.back k1
  ·rw[hb] at hf;exact hf.no.elim
 ·rw[hv] at hf;refine zj (hs c hv) λg1 g2=>Zs (Qd hv) λp zq=>?_;subst ZR hs hv zq;obtain⟨lo,hi,st⟩:=c;cases st with
  |some x=>exact hf.no.elim
  |none=>refine rZ ⟨_,λ_ _=>rfl⟩<|Ei ho hA I (Fin.b hf) (λva jv a k1 ra h1=>?_) he;have I1:=I.k k1;refine wpAny_Slice<|Ej g1 hA I1 (Fin.b ⟨h1,hf.2⟩) (λvl jy kl k2 rl h2=>Ej g2 hA (I1.k k2) (Fin.b ⟨h2,hf.2⟩) (λvu kc kh k3 rh h3=>wpAny_evalPart_none ?_)<|he.back<|k1.tr k2)<|he.back k1;have kk:=(k1.tr k2).tr k3;have hp:Kp kc<|sA kc vl vu:=Kp.IL kc _;exact Yd.fin (Rr (A:=A) (I.gnd.k kk).avlt ((dI.k I.gnd.fav k3<|dI.k I.gnd.fav k2 ra).1.keeps hp.heap) rl rh) ⟨h3,hf.2⟩ λv s' u r e=>hq.step (kk.GP hp) r e
end
section
def kU(A:mz)(s:c_)(v:b_)(T:String)(b:Bool):Prop:=
 ∀(Q:b_->c_->Prop) (E:b_->c_->Prop),(∀tk,Q (.bool b) {s with toks:=tk})->i' (i_ O w) A (call (.builtin "isinstance") [v,.type T]) Q E s
theorem Ek(r:Zu s.heap av v d):
  kU A s v "dict" (b7 d)/\kU A s v "int" (iM d)/\kU A s v "bool" (jH d)/\kU A s v "str" (fX d)/\kU A s v "list" (uT d)/\kU A s v "tuple" (qT d):=by
 ext av A d s v;cases r with
 |none=>exact⟨λQ E hq=>IsiPair.NoneType_dict<|hq _,λQ E hq=>IsiPair.NoneType_int<|hq _,λQ E hq=>IsiPair.NoneType_bool<|hq _,λQ E hq=>IsiPair.NoneType_str<|hq _,λQ E hq=>IsiPair.NoneType_list<|hq _,λQ E hq=>IsiPair.NoneType_tuple<|hq _⟩
 |bool _=>exact⟨λQ E hq=>IsiPair.bool_dict<|hq _,λQ E hq=>IsiPair.bool_int<|hq _,λQ E hq=>IsiPair.bool_bool<|hq _,λQ E hq=>IsiPair.bool_str<|hq _,λQ E hq=>IsiPair.bool_list<|hq _,λQ E hq=>IsiPair.bool_tuple<|hq _⟩
 |int _ _=>exact⟨λQ E hq=>IsiPair.int_dict<|hq _,λQ E hq=>IsiPair.int_int<|hq _,λQ E hq=>IsiPair.int_bool<|hq _,λQ E hq=>IsiPair.int_str<|hq _,λQ E hq=>IsiPair.int_list<|hq _,λQ E hq=>IsiPair.int_tuple<|hq _⟩
 |str _ _ _=>exact⟨λQ E hq=>IsiPair.str_dict<|hq _,λQ E hq=>IsiPair.str_int<|hq _,λQ E hq=>IsiPair.str_bool<|hq _,λQ E hq=>IsiPair.str_str<|hq _,λQ E hq=>IsiPair.str_list<|hq _,λQ E hq=>IsiPair.str_tuple<|hq _⟩
 |list _ h2=>refine Zs h2 λn e=>?_;exact⟨λQ E hq=>IsiPair.list_dict e rfl (hq _),λQ E hq=>IsiPair.list_int e rfl (hq _),λQ E hq=>IsiPair.list_bool e rfl (hq _),λQ E hq=>IsiPair.list_str e rfl (hq _),λQ E hq=>IsiPair.list_list e rfl (hq _),λQ E hq=>IsiPair.list_tuple e rfl (hq _)⟩
 |tuple _ h2=>refine Zs h2 λn e=>?_;exact⟨λQ E hq=>IsiPair.tuple_dict e rfl (hq _),λQ E hq=>IsiPair.tuple_int e rfl (hq _),λQ E hq=>IsiPair.tuple_bool e rfl (hq _),λQ E hq=>IsiPair.tuple_str e rfl (hq _),λQ E hq=>IsiPair.tuple_list e rfl (hq _),λQ E hq=>IsiPair.tuple_tuple e rfl (hq _)⟩
 |dict _ h2=>refine jF h2 λo es ep e c _=>?_;exact⟨λQ E hq=>IsiPair.dict_dict e c.1<|hq _,λQ E hq=>IsiPair.dict_int e c.1<|hq _,λQ E hq=>IsiPair.dict_bool e c.1<|hq _,λQ E hq=>IsiPair.dict_str e c.1<|hq _,λQ E hq=>IsiPair.dict_list e c.1<|hq _,λQ E hq=>IsiPair.dict_tuple e c.1<|hq _⟩
theorem Kp.mk'(k:∀b o,s.heap.get? b=à o->h'.get? b=à o):Kp s {s with heap:=h',toks:=tk}:=⟨h',tk,rfl,k⟩
theorem Kp.MX(k:∀b o,s.heap.get? b=à o->h'.get? b=à o):Kp s {s with heap:=h'}:=⟨h',s.toks,rfl,k⟩
theorem wR{jv:c_}{vs:List b_}(k0:Kp s jv)(k:Kp jv s')(hn:jv.heap.get? a=á)(hp:s'.heap.PlainList a vs.toArray)(hl:vs.length=ds.length)(hz:vs.length<=g_)
  (h:∀(i:Nat) (v:b_) (d:a_),vs[i]?=à v->ds[i]?=à d->Zu jv.heap av v d):Kp s s'/\bC s s'.heap av (.ref a) (.own<|.list ds):=by
 refine⟨k0.tr k,FW.TH k0 ⟨a,rfl,hn,vs,hp,hl,hz,λi v d e1 e2=>((h i v d e1 e2).apart hn).keeps k.heap⟩⟩
theorem El{jv:c_}{ds:List<|PyData×a_}(k0:Kp s jv)(k:Kp jv s')(hn:jv.heap.get? a=á)(hm:(a==mw)=ã)(hp:s'.heap.DictOf (mc O w) a kvs)
  (hz:kvs.length<=g_/\∀kv∈kvs,kv.1.length<=g_) (hl:ds.map (·.1)=kvs.map (λkv=>l_ kv.1))
  (h:∀(i:Nat) (kv:d_×b_) (d:a_×a_),kvs[i]?=à kv->ds[i]?=à d->Zu jv.heap av kv.2 d.2):Kp s s'/\bC s s'.heap av (.ref a) (.own<|.dict ds):=by
 refine⟨k0.tr k,FW.TH k0 ⟨a,rfl,hn,kvs,hp,hz,hm,hl,λi v d e1 e2=>((h i v d e1 e2).apart hn).keeps k.heap⟩⟩
theorem oS(G:CQ l av s):(s.heap.objs.size==mw)=ã:=by exact beq_eq_false_iff_ne.mpr<|fe<|modules_low<|G.glo.nolimit.keeps G.stay
def FT(x y:d_):Prop:=¬(y.cps.toList<x.cps.toList)
theorem Em(h:FT x y)(h':FT y z):FT x z:=by exact ft.mpr<|List.le_trans (ft.mp h)<|ft.mp h'
theorem Rt(h:FT x y)(h':FT y x):x=y:=by have:=List.le_antisymm (ft.mp h)<|ft.mp h';cases x;cases y;simp_all [Array.toList_inj]
theorem wS(a:d_):∀l,(fG a l).Perm (a::l)
 | []=>.refl _
 |b::r=>by
  show(if b.cps.toList<a.cps.toList then b::fG a r else a::b::r).Perm _
  split
  ·exact((wS a r).cons b).trans (.swap a b r)
  ·exact .refl _
theorem wT:∀l,(aU l).Perm l
 | []=>.refl _
 |a::r=>(wS a _).trans ((wT r).cons a)
theorem En(a:d_):∀{l},l.Pairwise FT->(fG a l).Pairwise FT
 | [],_=>wz _ _
 |b::r,h=>by
  rw[cu] at h;show(if b.cps.toList<a.cps.toList then b::fG a r else a::b::r).Pairwise FT
  split
  ·rename_i zw;rw[cu];refine⟨λx hx=>?_,En a h.2⟩;rcases List.mem_cons.mp ((wS a r).mem_iff.mp hx) with rfl|hx
   ·exact ft.mpr<|List.le_of_lt zw
   ·exact h.1 x hx
  ·rename_i zw;rw[cu];refine⟨λx hx=>?_,by rw[cu];exact h⟩;rcases List.mem_cons.mp hx with rfl|hx
   ·exact zw
   ·exact Em zw<|h.1 x hx
theorem Eo:∀l,(aU l).Pairwise FT
 | []=>.nil
 |a::r=>En a<|Eo r
theorem Ep:∀(p:d_) (l:List d_),vo p l=â->(p::l).Pairwise FT
 |p,[],_=>wz _ _
 |p,x::r,h=>by
  unfold vo at h;simp only[ml,nu] at h;have hr:=Ep x r h.2;have ο:FT p x:=by have:=lt_meets x p;rw[h.1,decide_eq_false_iff_not] at this;exact this
  rw[cu];refine⟨λy hy=>?_,hr⟩;rcases List.mem_cons.mp hy with rfl|hy
  ·exact ο
  ·exact Em ο<|(cu.mp hr).1 y hy
theorem Ru{l:List d_}(h:rm l=â):l.Pairwise FT:=by
 cases l with
 |nil=>exact .nil
 |cons x r=>exact Ep x r h
theorem Rv{l l':List d_}(h:rm l'=â)(p:l'.Perm l):l'=aU l:=
 List.Perm.eq_of_pairwise (le:=FT) (λ_ _ _ _ a b=>Rt a b) (Ru h) (Eo l) (p.trans (wT l).symm)
theorem Er:∀{ss:List d_} {ts:List vg},ts.length=ss.length->qd (pf (λx t=>qa x t) ss ts) ss
 | [],[],_=>.nil
 | [],_::_,h=>by simp at h
 |_::_,[],h=>by simp at h
 |s::ss,t::ts,h=>.cons s t (Er<|by simpa using h)
theorem Rw:∀{vs:List b_} {ss:List d_},qd vs ss->(∀x∈ss,x.length<=g_) ->
  vs.length=(ss.map l_).length/\∀(i:Nat) (v:b_) (d:a_),vs[i]?=à v->(ss.map l_)[i]?=à d->Zu h av v d
 :=by
 intro vs ss r;induction r with
 |nil=>exact λ_=>⟨rfl,λi v d e=>nomatch e⟩
 |cons y t r ih=>
  intro hx;refine zj (ih λx hx'=>hx x<|af _ hx') λh1 h2=>⟨congrArg qh h1,λi v d e1 e2=>?_⟩;cases i with
  |zero=>obtain rfl:=si e1;obtain rfl:=si e2;exact .str y t<|hx y ag
  |succ i=>exact h2 i v d e1 e2
theorem sB(h:n<=g_):((n:Nat):Int)<2 ^ 63:=by have:=nh;lia
abbrev YV(A:mz)(s:c_)(av:f_->Prop)(t:Sem b_)(p:P V):Prop:=
 Yd (λQ E=>i' (i_ O w) A t Q E s) (λv s' u=>Kp s s'/\bC s s'.heap av v u) p
theorem Rx(r:Zu s.heap av v d):YV A s av (call (.builtin "len") [v])<|bQ d:=by
 cases d with
 |list l=>obtain⟨a,vs,zq,h1,h2,h3,h4,h5⟩:=r.DY;subst r zq;show YV A s av _ (fz<|.int l.length);rw[<- h3];exact λQ E hq=>Calls.call_len_list h2.isList (by simpa using sB h4)<|hq _ _ ⟨BK s _,.int _ _⟩
 |tuple l=>obtain⟨a,vs,zq,h1,⟨n,e⟩,h3,h4,h5⟩:=r.HM;subst r zq;show YV A s av _ (fz<|.int l.length);rw[<- h3];exact λQ E hq=>P.len_tuple e (by simpa using sB h4)<|hq _ _ ⟨BK s _,.int _ _⟩
 |str x=>obtain⟨t,zq,hx⟩:=r.str_inv;subst r zq;exact λQ E hq=>P.len_str (Int.not_le.mpr<|sB hx)<|hq _ _ ⟨BK s _,Zu.int _ _⟩
 |dict m=>obtain⟨a,kvs,zq,h1,h2,h3,h4,h5,h6⟩:=r.FB;subst r zq;show YV A s av _ (fz<|.int m.length);rw[(by simpa using congrArg nq h5:m.length=kvs.length)];exact λQ E hq=>call_len_dict h4 h2 (sB h3.1)<|hq _ _ ⟨BK s _,.int _ _⟩
 |_=>exact trivial
theorem Es:∀{vs:List b_} {ds:List a_} {bs:List Bool},vs.length=ds.length->(∀(i:Nat) (v:b_) (d:a_),vs[i]?=à v->ds[i]?=à d->Zu h av v d) ->
  FY ds=à bs->vs=bs.map ou
 :=by
 intro vs;induction vs with
 |nil=>
  intro ds bs hl h e;cases ds with
  |nil=>replace e:=si e;subst e;rfl
  |cons=>exact nomatch hl
 |cons v vs ih=>
  intro ds bs hl h e;cases ds with
  |nil=>exact nomatch hl
  |cons d ds=>
   cases d with
   |bool b=>refine aD (az.mp (e:(FY ds).map (b::·)=à bs)) λYM hb zq=>?_;subst e zq;rw[ih (ds:=ds) (qb hl) (λi v d e1 e2=>h (i+1) v d e1 e2) hb,(h 0 v _ rfl rfl).bool_inv];rfl
   |_=>exact ns e
theorem Ry(bs:List Bool):(oy bs.length).all (λi=>(bs[i]?).getD â)=bs.all id:=by
 rw[fq,ak,ak];constructor
 ·intro h b hb;obtain⟨i,hi,zq⟩:=List.mem_iff_getElem.mp hb;subst hb zq;simpa[ai hi] using (h i<|List.mem_range.mpr hi)
 ·intro h i hi;have MH:=List.mem_range.mp hi;rw[ai MH];exact h _<|go MH
theorem Rz(hh:A.handled=á)(r:Zu s.heap av v d):YV A s av (call (.builtin "all") [v])<|dD d:=by
 cases r with
 | @list a vs ds h1 h2 h3 h4 h5=>
  show YV A s av _ (((AT<|FY ds).bind λbs=>.ok<|bs.all id).bind λb=>.ok<|.fz<|.bool b);refine zn (FY ds) (λhb=>?_) λbs hb=>?_
  ·rewrite[hb];exact trivial
  ·rewrite[hb];obtain hv:=Es h3 h5 hb;subst h3 h4 h5 hv;intro Q E hq;have OQ:=h2.isList;obtain zh:a≠s.heap.objs.size:=λe=>by
    refine aD OQ λo ho _=>?_;rw[e,bU] at ho;exact ns ho
   refine call_all_walk (iw OQ ⟨s.heap.objs.size,_,_,_,_,_,λi=>(bs[i]?).getD â,rfl,vy (by exact hh) s.heap.objs.size a zh (bs.map ou).toArray,
    ⟨⟨_,dA _ _ rfl,rfl,rfl⟩,by refine aD OQ λo e r=>?_;exact⟨o,ah _ e,r⟩⟩,λi v s Q E hP hQ=>?_,λh' tk hk=>?_⟩)
   ·have hP:(bs.map ou).toArray[i]?=à v:=hP;rw[List.getElem?_toArray,lz] at hP;refine zn (bs[i]?) (λOE=>?_) λb OE=>?_
    ·rw[OE] at hP;exact ns hP
    ·rw[OE] at hP;replace hP:=si hP;subst hP;exact cx (by simpa[OE] using hQ)
   ·have e:(oy<|(bs.map ou).toArray.size).all (λi=>(bs[i]?).getD â)=bs.all id:=by simpa using Ry bs
    rw[e];refine hq _ _ ⟨⟨h',tk,rfl,λb o e=>hk b o (λhb=>?_)<|ah _ e⟩,.bool _⟩;rw[List.mem_singleton.mp hb,bU] at e;exact ns e
 |_=>exact trivial
theorem Et{out:Array b_}{M':List d_}(k:Kp s s')(hn:s.heap.get? a=á)(he:∃e,s'.heap.get? a=à (wa "list" out e))(hS:qd out.toList M')(hp:M'.Perm ss)(JI:rm M'=â)
  (h3:∀x∈ss,x.length<=g_) (zw:ss.length<64):Kp s s'/\bC s s'.heap av (.ref a) (.own<|.list<|(aU ss).map .str):=by
 replace JI:=Rv JI hp;subst JI;refine zj (Rw (h:=s.heap) (av:=av) hS λx hx=>h3 x<|hp.mem_iff.mp hx) λq1 q2=>Zs he λe he=>wR (vs:=out.toList) (BE s) k hn ⟨e,by simpa using he⟩ q1 ?_ q2;rw[q1,j_,(wT ss).length_eq];exact aa (bu zw) Zw
theorem R1{acc:List b_}(hl:acc.length=kvs.length)(h:∀(i:Nat) (v:b_),acc[i]?=à v->∃k x,kvs[i]?=à (k,x)/\(mc O w).is k v=â):qd acc<|kvs.map (·.1):=by
 induction kvs generalizing acc with
 |nil=>cases acc with
  |nil=>exact .nil
  |cons=>cases hl
 |cons kv r ih=>
  cases acc with
  |nil=>cases hl
  |cons v acc=>refine cL (h 0 v rfl) λk x e hk=>?_;obtain rfl:=si e;refine Zs (qt hk) λt zq=>?_;subst hk zq;exact .cons k t<|ih (qb hl) λi v e=>h (i+1) v e
theorem R2(kvs:List<|Str×b_):CI (kvs.map λkv=>l_ kv.1)=à (kvs.map (·.1)):=by
 induction kvs with
 |nil=>rfl
 |cons kv r ih=>show(CI<|r.map _).map _=_;rw[ih];rfl
theorem R3(hh:A.handled=á)(r:Zu s.heap av v d):YV A s av (call (.builtin "sorted") [v])<|bX d:=by
 cases d with
 |list l=>obtain⟨a,vs,zq,h1,h2,h3,h4,h5⟩:=r.DY;subst r zq;refine Yd.KG λss hs=>DB λzw=>bN (jR h3 h5 hs) λts e1 zq e3=>?_;subst h3 h4 h5 zq;intro Q E hq;exact sorted_strs h2.isList (Er e1) (by simpa[e1] using zw) λout M' hS hp JI=>hq _ _<|Et (Kp.MX λb o e=>sortedAll_old e) (dh<|am _ _) (sortedAll_at s.heap _ out) hS hp JI e3 zw
 |dict l=>
  obtain⟨a,kvs,zq,h1,⟨o,es,ep,hd⟩,h3,h4,h5,h6⟩:=r.FB;subst r zq;show YV A s av _ (eX<|l.map (·.1));unfold eX;rw[h5,R2];refine DB λzw=>?_;intro Q E hq;refine Calls.call_function_entry kind_sorted plain_sorted entry_sorted (args_sorted1 _) ?_;unfold px.«sorted»;refine ac (m:=checkCount "sorted" 1 1 _)<|ae ?_;refine ac<|W.kdu_collect (A:=A.in1) (W.kdl_dict (knd:=mc O w) (kvs:=kvs) (ep:=ep) h4) hh ⟨o,es,hd⟩ h3.1 λh' tk acc hk MD=>?_;have hl:acc.toList.length=kvs.length:=by rw[Array.length_toList];exact MD.1
  refine ac (wpAny_newList ?_<|by rw[hl];exact h3.1);have hS:=R1 hl λi v e=>MD.2 i v (by rw[<- xf];exact e);have UX:(h'.push {cls:=.type "list",data:=.seq acc.toList.toArray}).get? h'.objs.size=à (wa "list" acc.toList.toArray 0):=ip _ rfl;obtain h64:acc.toList.length<64:=by rw[hl];simpa using zw
  refine ac<|bk<|wpAny_call_entry slot_list_sort ⟨_,UX,rfl⟩ entry_list_sort (list_sort_treeK strKind_oneLt UX hS.keysOf (λls lu rest e=>keyKind_strs<|by rw[<- e];exact hS) h64 λAU hp hs=>⟨_,rfl,?_⟩)<|args_list_sort _;refine bN (sorted_out_str hS hp hs) λM' g1 g2 g3=>?_;obtain q1I:∀b o,s.heap.get? b=à o->(uq (h'.push {cls:=.type "list",data:=.seq acc.toList.toArray}) h'.objs.size acc.toList<|(sg AU).map (·.2)).get? b=à o:=λb o e=>by have e1:=hk b o e;have zw:=ci e1;rw[sortedHeap_old (cb zw)<|by rw[size_push'];exact iz zw];exact ah _ e1
  obtain hn:s.heap.get? h'.objs.size=á:=by
   refine zn (s.heap.get? h'.objs.size) (λhb=>?_) λo hb=>?_
   ·rewrite[hb];rfl
   ·rewrite[hb];exact absurd (ci<|hk _ _ hb)<|il _
  obtain hz:∀x∈kvs.map (·.1),x.length<=g_:=λx hx=>by refine aD (ba.mp hx) λkv ED zq=>?_;subst hx zq;exact h3.2 kv ED
  have kk:=Kp.mk' (tk:=tk) q1I;have at':=sortedHeap_at (out:=(sg AU).map (·.2)) UX;generalize uq (h'.push {cls:=.type "list",data:=.seq acc.toList.toArray}) h'.objs.size acc.toList ((sg AU).map (·.2))=H at kk at';exact ae ⟨_,rfl,hq _ _<|Et kk hn at' g1 g2 g3 hz zw⟩
 |_=>exact trivial
theorem Eu(hh:A.handled=á)(r:Zu s.heap av v d):YV A s av (call (.type "list") [v])<|dO d:=by
 cases d with
 |dict l=>
  obtain⟨a,kvs,zq,h1,⟨o,es,ep,hd⟩,h3,h4,h5,h6⟩:=r.FB;subst r zq;intro Q E hq;refine W.kdl_call (W.kdl_dict (knd:=mc O w) (kvs:=kvs) (ep:=ep) h4) hh ⟨o,es,hd⟩ h3.1 λh' tk acc c' hk he CE=>?_;have CL:acc.toList.length=kvs.length:=by simpa using CE.1
  refine hq _ _<|wR (vs:=acc.toList) (BE s) (Kp.mk' hk) (bU _) ⟨c',by simpa using he⟩ (by rw[CL,h5,j_]) (CL▸h3.1) λi v d e1 e2=>?_;refine cL (CE.2 i v<|by simpa using e1) λk x e3 e4=>Zs (qt e4) λt zq=>?_;subst e1 e4 zq;simp only[h5,lz,e3] at e2;replace e2:=si e2;subst e2;exact .str k t<|h3.2 _<|bq e3
 |list l=>obtain⟨a,vs,zq,h1,⟨n,h2⟩,h3,h4,h5⟩:=r.DY;subst r zq;intro Q E hq;exact call_list_seq a (.inl rfl) h2 rfl rfl (λh' c' hk he=>hq _ _<|wR (BE s) (Kp.MX hk) (bU _) ⟨c',he⟩ h3 h4 h5) (by simpa using h4)
 |_=>exact trivial
theorem R4(ha:∀b,av b->∃o,s.heap.get? b=à o)(r:Zu s.heap av v d):YV A s av (call (.type "tuple") [v])<|kH d:=by
 cases d with
 |list l=>obtain⟨a,vs,zq,h1,h2,h3,h4,h5⟩:=r.DY;subst r zq;intro Q E hq;refine call_tuple_list h2.isList (λh' hk=>?_) (by simpa using h4);exact hq _ _<|wM (jv:={s with heap:=h'}) (Kp.MX hk) (λb hb=>by refine Zs (ha b hb) λo e=>?_;exact⟨o,hk _ _ e⟩) h3 h4 λi v d e1 e2=>(h5 i v d e1 e2).keeps hk
 |_=>exact trivial
theorem R5(hs:mq h.objs.size (h.push o) h'):∀b o',h.get? b=à o'->h'.get? b=à o':=by
 intro b o' e;obtain hb:b≠h.objs.size:=λhh=>by rw[hh,bU] at e;exact ns e
 rw[hs.2 b hb];exact ah _ e
theorem R6(r:Zu s.heap av v d):YV A s av (call (.type "int") [v])<|fH d:=by
 cases d with
 |bool b=>replace r:=r.bool_inv;subst r;exact λQ E hq=>call_int_bool<|hq _ _ ⟨BK s _,.int _ _⟩
 |str x=>obtain⟨t,zq,hx⟩:=r.str_inv;subst r zq;exact DB λhl=>Yd.KG λi hi Q E hq=>W.KIN.call_text hi hl<|hq _ _ ⟨BK s _,.int _ _⟩
 |_=>exact trivial
theorem R7(r:Zu s.heap av v d):YV A s av (call (.builtin "abs") [v])<|uU d:=by
 cases d with
 |int i=>refine Zs r.int_inv λt zq=>?_;subst r zq;exact λQ E hq=>call_abs_int λu tk=>hq _ _ ⟨BK s _,.int _ _⟩
 |_=>exact trivial
end
theorem R8:ni (.type "list") "keys" = pure á:=by rw[tj,qr];kernel_rfl
theorem R9:ni (.type "list") "__getattr__" = pure á:=by rw[tj,qr];kernel_rfl
section
variable {g:Array ug}{d:Drawn}{t:Nat}{os:qo}{xs:Array b_}
theorem Sa{tk:vg}{Q:td->c_->Prop}(hx:h.get? a=à {cls:=.type "list",data:=.seq xs n})(hh:A.handled=á)
  (hq:∀h' EG e,Heap.NewAttrErr h h' e (.ref a) (e_ "keys")->E (.ref e) ⟨h',g,d,EG,os⟩) :
  i' (i_ O w) A (px.«object.__getattribute__» ⟨[.ref a,.str "keys" tk],[]⟩) Q E ⟨h,g,d,t,os⟩:=by
 ext a A h n E g d t os xs tk Q
 have hT:(⟨h,g,d,t,os⟩:c_).TypeIs (.ref a) "list":=⟨_,hx,rfl⟩
 have f4:=R8
 repeat (any_goals (first | assumption | wp_step))
 exact wpAny_raiseAttrError hh hq (attrMsg_fits (by decide +kernel)<|by decide +kernel)
theorem Sb{tk:vg}{R:wi->c_->Prop}(hx:h.get? a=à {cls:=.type "list",data:=.seq xs n})(hh:A.handled=á)
  (hq:∀h' EG e,Heap.NewAttrErr h h' e (.ref a) (e_ "keys")->R (.error<|.ref e) ⟨h',g,d,EG,os⟩) :
  rg (i_ O w) A (.call (.builtin "list.__getattribute__") ⟨[.ref a,.str "keys" tk],[]⟩) R ⟨h,g,d,t,os⟩:=
 oa F.slot_list_getattribute.plain F.entry_list_ga (F.slot_list_getattribute.check _ _ _ _ _ _ _ _ (⟨_,hx,rfl⟩:(⟨h,g,d,t,os⟩:c_).TypeIs (.ref a) "list") (F.args_list_getattribute_2 _ _)<|Sa hx hh hq)
theorem Ev{Q:Option b_->c_->Prop}(hx:h.get? a=à {cls:=.type "list",data:=.seq xs n})(hh:A.handled=á)
  (hq:∀h' EG,(∀b o,h.get? b=à o->h'.get? b=à o)->Q á ⟨h',g,d,EG,os⟩):i' (i_ O w) A (getAttr? (.ref a) "keys") Q E ⟨h,g,d,t,os⟩:=by
 revert n Q;ext a A h E g d t os xs;ext n Q
 have hT:(⟨h,g,d,t,os⟩:c_).TypeIs (.ref a) "list":=⟨_,hx,rfl⟩
 have f1:=sub_AttributeError;have f2:=F.slot_list_getattribute.lookup;have f3:=F.slot_list_getattribute.bind<|.ref a;have f5:=R9;unfold getAttr? getAttrBy? getAttrBy
 repeat (any_goals (first | assumption | wp_step))
 refine Sb hx hh λh' EG e hx=>bM hx.there λt' u' he=>?_
 repeat (any_goals (first | assumption | wp_step))
 exact hq _ _ hx.keeps
end
theorem Ew:entryFor table "dict.update.loop" = à px.«dict.update.loop»:=entryFor_of_tree (by kernel_rfl)
theorem oU:plainId "dict.update.loop" = â:=by decide +kernel
section
def iR(h:mj):List b_->List (d_×b_)->Prop
 | [],[]=>True
 |v::vs,kv::kvs=>(∃a t,v=.ref a/\DH h a #[.str kv.1 t,kv.2])/\iR h vs kvs
 |_,_=>False
theorem iR.at:∀{vs:List b_} {kvs:List<|Str×b_},iR h vs kvs->∀{i:Nat} {v:b_},vs[i]?=à v->∃kv a t,kvs[i]?=à kv/\v=.ref a/\DH h a #[.str kv.1 t,kv.2]
 |_::_,_::_,p,0,_,e=>by obtain rfl:=si e;refine cL p.1 λa t h1 h2=>?_;exact⟨_,a,t,rfl,h1,h2⟩
 |_::_,_::_,p,i+1,_,e=>p.2.at (i:=i) e
 | [],[],_,i,_,e=>by exact ns e
 | [],_::_,p,_,_,_=>p.elim
 |_::_,[],p,_,_,_=>p.elim
theorem iR.len:∀{vs:List b_} {kvs:List<|Str×b_},iR h vs kvs->vs.length=kvs.length
 | [],[],_=>rfl
 |_::_,_::_,p=>congrArg qh p.2.len
 | [],_::_,p=>p.elim
 |_::_,[],p=>p.elim
theorem Ex{R:wi->c_->Prop}(hh:A.handled=á){l:f_}(hlI:l≠I)(UD:D≠I)(hDl:D≠l){vs:List b_}(hn:kvs.length<=g_){kj:mj}(hp:iR kj vs kvs)(Y_:kj.get? D=á)(UE:kj.get? I=á):
  ∀(k i:Nat) (s:c_),kvs.length - i=k->i<=kvs.length->s.heap.IsListIter I l i/\s.heap.IsList l vs.toArray->(∀b o,kj.get? b=à o->s.heap.get? b=à o)->s.heap.DictOf (mc O w) D (merged []<|kvs.take i) ->
   (∀h' tk,(∀b o,kj.get? b=à o->h'.get? b=à o)->h'.DictOf (mc O w) D (merged [] kvs)->R (.ok<|.ret .none) {s with heap:=h',toks:=tk}) ->
   rg (i_ O w) A (.builtin "dict.update.loop" ⟨[.ref D,.ref I,rawInt i,.none],[]⟩) R s:=by
 have W:=@vy O w A.in1 hh I l hlI vs.toArray;have hlen:=hp.len;have new:∀b o,kj.get? b=à o->b≠D/\b≠I:=λb o e=>⟨λx=>by (rw[x,Y_] at e;exact ns e),λx=>by (rw[x,UE] at e;exact ns e)⟩
 intro k;induction k with
 |zero=>
  intro i s hk hi AP hkeep hd hR;obtain AO:i=kvs.length:=by exact A1 hk hi
  subst hk hi AO;refine qf Ew ?_;rw[qm oU _];refine ac<|W.done s _ _ (by rw[ir,hlen];exact AP) λh' tk AX=>?_;rw[jn] at hd;refine ac<|ae<|ae<|hR h' tk (λb o e=>AX b o (λhb=>(new b o e).2<|List.mem_singleton.mp hb)<|hkeep b o e) ?_;exact dN hd λo es ep e r=>⟨o,es,ep,AX _ _ (λhb=>UD<|List.mem_singleton.mp hb) e,r⟩
 |succ k ih=>
  intro i s hk hi AP hkeep hd hR;have zw:i<kvs.length:=by exact A2 hk
  refine qf Ew ?_;rw[qm oU _];refine ac<|W.item i s _ _ (by rw[ir,hlen];exact zw) AP λv h' tk hP VC hm=>?_;obtain⟨kv,a,t,e1,zq,n,e2⟩:=hp.at (by simpa using hP);subst hP zq;have MN:∀b o,kj.get? b=à o->h'.get? b=à o:=λb o e=>hm b o (λhb=>(new b o e).2<|List.mem_singleton.mp hb)<|hkeep b o e;have EP:h'.DictOf (mc O w) D<|merged []<|kvs.take i:=by exact dN hd λo es ep e r=>⟨o,es,ep,hm _ _ (λhb=>UD<|List.mem_singleton.mp hb) e,r⟩
  have ha:=MN _ _ e2;refine ac<|bk<|ac<|wpAny_tryCatch ?_;unfold Builtin.Dict.pairItems;refine ac<|iu (T:="tuple") ⟨_,ha,rfl⟩ ?_;rw[if_pos Zw];refine ac<|wpAny_seqItems ha rfl (ae ?_);refine bk (wpAny_dictSet_pairs (knd:=mc O w) (fL kv.1 t) EP (λIB KZ hs=>?_)<|aa (s_ _ _)<|by simp;exact K2 hn);rw[<- merged_take_succ [] kvs i kv e1] at KZ;have ks:∀b o,b≠D->h'.get? b=à o->IB.get? b=à o:=λb o hb e=>by rw[hs.2 b hb];exact e
  refine ae ⟨vf oU _,?_⟩;refine ih (i+1) _ (by exact A3 hk) zw ?_ (λb o e=>ks b o (new b o e).1<|MN b o e) KZ hR;exact W.frame _ h' _ VC λb hb o e=>ks b o (λx=>by
   subst Y_ new ih hd hR EP KZ hs ks x;rcases List.mem_cons.mp hb with hb|hb
   ·exact UD hb
   ·exact hDl<|List.mem_singleton.mp hb) e
end
section
def KV(h:mj)(av:f_->Prop):List (d_×b_)->List (a_×a_)->Prop
 | [],[]=>True
 |kv::r,d::t=>d.1=.str kv.1/\Zu h av kv.2 d.2/\KV h av r t
 |_,_=>False
theorem KV.out:∀{kvs:List<|Str×b_} {ds:List<|PyData×a_},KV h av kvs ds ->
  ds.map (·.1)=kvs.map (λkv=>l_ kv.1)/\∀(i:Nat) (kv:d_×b_) (d:a_×a_),kvs[i]?=à kv->ds[i]?=à d->Zu h av kv.2 d.2
 | [],[],_=>⟨rfl,λi kv d e=>by simp at e⟩
 |kv::r,d::t,x=>by
  refine bP x λx1 x2 x3=>zj (KV.out x3) λy1 y2=>⟨by simp[x1,y1],λi RR d' e1 e2=>?_⟩;cases i with
  |zero=>simp at e1 e2;subst e1;subst e2;exact x2
  |succ i=>exact y2 i RR d' (by simpa using e1) (by simpa using e2)
 | [],_::_,x=>x.elim
 |_::_,[],x=>x.elim
theorem KV.of:∀{kvs:List<|Str×b_} {ds:List<|PyData×a_},ds.map (·.1)=kvs.map (λkv=>l_ kv.1) ->
  (∀(i:Nat) (kv:d_×b_) (d:a_×a_),kvs[i]?=à kv->ds[i]?=à d->Zu h av kv.2 d.2)->KV h av kvs ds
 | [],[],_,_=>trivial
 |kv::r,d::t,e,x=>by simp at e;exact⟨e.1,x 0 kv d rfl rfl,KV.of (by simpa using e.2) λi kv d e1 e2=>x (i+1) kv d (by simpa using e1)<|by simpa using e2⟩
 | [],_::_,e,_=>by simp at e
 |_::_,[],e,_=>by simp at e
theorem KV.mono(hk:∀b o,¬av b->h.get? b=à o->h'.get? b=à o)(ha:∀b o,h.get? b=à o->av' b->av b):∀{kvs:List<|Str×b_} {ds:List<|PyData×a_},
  KV h av kvs ds->KV h' av' kvs ds
 | [],[],_=>trivial
 |_::_,_::_,x=>⟨x.1,x.2.1.mono hk ha,x.2.2.mono hk ha⟩
 | [],_::_,x=>x.elim
 |_::_,[],x=>x.elim
theorem Sc{v0:b_}{r:List<|Str×b_}{k:d_}(hn:(((y,v0)::r).map (·.1)).Nodup):stored ((y,v0)::r) k v=if k=y then (y,v)::r else (y,v0)::stored r k v:=by
 unfold stored
 by_cases h:k=y
 ·subst h;simp only[wu,decide_true,Bool.true_or,if_true,qp];congr 1;obtain BR:k∉r.map (·.1):=(bh.mp (hn:(k::r.map (·.1)).Nodup)).1;obtain this:∀kv∈r,(if kv.1=k then (kv.1,v) else kv)=kv:=λkv ED=>by
   rw[if_neg];intro e;exact BR<|e▸gq ED
  exact(tq this).trans (List.map_id' r)
 ·rw[if_neg h];obtain zh:¬y=k:=λe=>h e.symm;simp only[wu,zh,decide_false,Bool.false_or,qp,if_false,List.cons_append]
  split<;>rfl
theorem Sd{k:d_}(hn:(kvs.map (·.1)).Nodup):((stored kvs k v).map (·.1)).Nodup:=by
 unfold stored
 split
 ·obtain this:(kvs.map λkv=>if kv.1=k then (kv.1,v) else kv).map (·.1)=kvs.map (·.1):=by
   rw[qu];refine tq λkv _=>?_;show(if kv.1=k then (kv.1,v) else kv).1=kv.1
   split<;>rfl
  rw[this];exact hn
 ·rename_i h;rw[ej,List.nodup_append];refine⟨hn,by simp,λa ha b hb I_=>?_⟩;simp at hb;subst hb;subst I_;refine aD (ba.mp ha) λkv ED zq=>?_;subst ha zq;exact h<|List.any_eq_true.mpr ⟨kv,ED,by simp⟩
theorem Ey{k:d_}(hx:∀kv∈kvs,kv.1.length<=g_)(hk:k.length<=g_):∀kv∈stored kvs k v,kv.1.length<=g_:=by
 intro kv h;unfold stored at h
 split at h
 ·refine aD (ba.mp h) λRR h' zq=>?_;subst h zq
  split
  ·exact hx RR h'
  ·exact hx RR h'
 ·rcases List.mem_append.mp h with h|h
  ·exact hx kv h
  ·simp at h;subst h;exact hk
theorem KV.set{k:d_}(hv:Zu h av v d):∀{kvs:List<|Str×b_} {ds:List<|PyData×a_},(kvs.map (·.1)).Nodup->KV h av kvs ds->KV h av (stored kvs k v) (fP ds k d)
 | [],[],_,_=>⟨rfl,hv,trivial⟩
 | (y,v0)::r,(dk,d0)::t,hn,x=>by
  refine bP x λx1 x2 x3=>?_;have x1:=x1;subst x x1;rw[Sc hn];show KV h av _ (if k=y then (.str y,d)::t else (.str y,d0)::fP t k d)
  split
  ·exact⟨rfl,hv,x3⟩
  ·exact⟨rfl,x2,KV.set hv (bh.mp (hn:(y::r.map (·.1)).Nodup)).2 x3⟩
 | [],_::_,_,x=>x.elim
 |_::_,[],_,x=>x.elim
def PS(h:mj)(av:f_->Prop):List (d_×b_)->List (d_×a_)->Prop
 | [],[]=>True
 |kv::r,p::t=>kv.1=p.1/\kv.1.length<=g_/\Zu h av kv.2 p.2/\PS h av r t
 |_,_=>False
theorem KV.R':∀{kvs:List<|Str×b_} {ps:List<|Str×a_} {acc:List<|Str×b_} {QI:List<|PyData×a_},PS h av kvs ps->(acc.map (·.1)).Nodup->KV h av acc QI->(∀kv∈acc,kv.1.length<=g_) ->
  KV h av (merged acc kvs) (eB ps QI)/\∀kv∈merged acc kvs,kv.1.length<=g_
 | [],[],_,_,_,_,x,hz=>⟨x,hz⟩
 | (k,v)::r,(k',d)::t,acc,QI,y,hn,x,hz=>by refine fO y λy1 y2 y3 y4=>?_;obtain rfl:=y1;exact(KV.R' (kvs:=r) (ps:=t) y4 (Sd hn) (KV.set y3 hn x) (Ey hz y2):KV h av (merged (stored acc k v) r) (eB t<|fP QI k d)/\_)
 | [],_::_,_,_,x,_,_,_=>x.elim
 |_::_,[],_,_,x,_,_,_=>x.elim
theorem PS.length:∀{kvs:List<|Str×b_} {ps:List<|Str×a_},PS h av kvs ps->kvs.length=ps.length
 | [],[],_=>rfl
 |_::r,_::t,x=>congrArg (·+1)<|PS.length (kvs:=r) (ps:=t) x.2.2.2
 | [],_::_,x=>x.elim
 |_::_,[],x=>x.elim
theorem Ez{jv:c_}{ps:List<|Str×a_}(k0:Kp s jv)(k:Kp jv s')(hn:jv.heap.get? a=á)(hm:(a==mw)=ã)(hp:s'.heap.DictOf (mc O w) a<|merged [] kvs)
  (hl:ps.length<=g_) (x:PS jv.heap av kvs ps):Kp s s'/\bC s s'.heap av (.ref a) (.own<|.dict<|eB ps []):=by
 exact zj (KV.R' x (acc:=[]) fg (show KV jv.heap av [] [] from trivial) λx hx=>cB hx) λy1 y2=>zj y1.out λz1 z2=>El k0 k hn hm hp ⟨aa (s_ [] kvs) (by rw[x.length];simpa using hl),y2⟩ z1 z2
end
section
theorem E0(r:List d_)(x:d_):(cZ<|x::r).length=if r.contains x then (cZ r).length else (cZ r).length+1:=by
 show(if r.contains x then cZ r else x::cZ r).length=_
 split<;>rfl
theorem wU:∀l:List d_,(cZ l).length<=l.length
 | []=>bv _
 |a::r=>by
  rw[E0];have:=wU r
  split
  ·exact gc this
  ·exact be this
def CX(ss:List d_)(i:Nat):List d_:=(ss.take i).reverse
theorem E1(h:ss[i]?=à x):CX ss (i+1)=x::CX ss i:=by unfold CX;rw[yr,h];simp
theorem E2(ss:List d_)(i:Nat):(CX ss i).length<=ss.length:=by unfold CX;simp;exact K3
theorem Se{R:wi->c_->Prop}{wr:List f_}{P:Nat->b_->Prop}{St:Nat->mj->Prop}(W:Walks O w A.in1 I fp wr ss.length P St)(S:f_)(Q_:S∉fp)
  (VF:∀i v,P i v->∃x t,ss[i]?=à x/\v=.str x t) (hb:ss.length+1<scanBound) :
  ∀(k i:Nat) (s:c_),ss.length - i=k->i<=ss.length->St i s.heap->s.heap.SetOf (mc O w) S (λk'=>(CX ss i).contains k') (cZ<|CX ss i).length ->
   (∀h' tk,(∀b o,b∉S::wr->s.heap.get? b=à o->h'.get? b=à o)->h'.SetOf (mc O w) S (λk'=>(CX ss ss.length).contains k') (cZ<|CX ss ss.length).length->R (.ok<|.ret .none) {s with heap:=h',toks:=tk}) ->
   rg (i_ O w) A (.builtin "set.update.loop" ⟨[.ref S,.ref I],[]⟩) R s:=by
 have ZB:S∉wr:=λh=>Q_<|W.sub _ h;intro k;induction k with
 |zero=>
  intro i s hk hi AP hS hR;obtain AO:i=ss.length:=by exact A1 hk hi
  subst hk hi AO;refine qf rp ?_;rw[qm ol _];refine ac<|W.done s _ _ AP λh' tk hm=>?_;refine ae<|hR h' tk (λb o hb e=>hm b o (λh=>hb<|af _ h) e) ?_;exact eH hS λo es ep t ho rest=>⟨o,es,ep,t,hm S _ ZB ho,rest⟩
 |succ k ih=>
  intro i s hk hi AP hS hR;have zw:i<ss.length:=by exact A2 hk
  refine qf rp ?_;rw[qm ol _];refine ac<|W.item i s _ _ zw AP λv h' tk hP VC hm=>?_;refine cL (VF i v hP) λx t hx zq=>?_;subst hP zq;obtain OC:h'.SetOf (mc O w) S (λk'=>(CX ss i).contains k') (cZ<|CX ss i).length:=by exact eH hS λo es ep tb ho rest=>⟨o,es,ep,tb,hm S _ ZB ho,rest⟩
  refine ac<|bk ?_;unfold setAdd;refine bk ?_;refine ac<|(mc O w).pyHash (k:=x) (fL x t) ?_;obtain U_:(cZ<|CX ss i).length+1<scanBound:=by have:=wU<|CX ss i;have:=E2 ss i;lia
  refine wpAny_setAddHashed_of (knd:=mc O w) (s:={s with heap:=h',toks:=tk+1}) (fL x t) rfl OC U_ λIB CW hS2=>?_;obtain hSi:IB.SetOf (mc O w) S (λk'=>(CX ss<|i+1).contains k') (cZ<|CX ss<|i+1).length:=
   uj hS2 (λk'=>by rw[E1 hx,ec,Bool.or_comm];congr 1) (by rw[E1 hx,E0])
  refine ae ⟨vf ol _,ih (i+1) _ (by exact A3 hk) zw (W.frame _ h' _ VC λb hb o e=>?_) hSi λh3 R_ hk3 hS3=>hR h3 R_ (λb o hb e=>hk3 b o hb ?_) hS3⟩
  ·rw[CW.2 b (λh:b=S=>Q_<|by rw[<- h];exact hb)];exact e
  ·rw[CW.2 b (λh:b=S=>hb<|by rw[h];exact ag)];exact hm b o (λh=>hb<|af _ h) e
set_option maxHeartbeats 3200000 in
theorem E3{l:f_}{T:String}{items:Array b_}{nl:Nat}{oI:tg}{St:f_->Nat->mj->Prop}(hh:A.handled=á)(μ:s.heap.get? l=à {cls:=.type T,data:=.seq items nl})
  (hsls:isSubtype (.type T) (.type "set")=pure ã) (hslf:isSubtype (.type T) (.type "frozenset")=pure ã) (zh:(xz T==xz "dict")=ã) (CL:items.size=ss.length)
  (CE:∀(A':mz) (s':c_) (Q:b_->c_->Prop) (E:b_->c_->Prop),s'.heap.get? l=à {cls:=.type T,data:=.seq items nl}->Q (.ref s'.heap.objs.size) {s' with heap:=s'.heap.push oI}->i' (i_ O w) A' (pyIter<|.ref l) Q E s')
  (hW:∀(A':mz) (I:f_),A'.handled=á->l≠I->Walks O w A' I [I,l] [I] items.size (λi v=>items[i]?=à v) (St I))
  (AP:∀(h:mj),h.get? l=à {cls:=.type T,data:=.seq items nl}->St h.objs.size 0 (h.push oI))
  (VF:∀(i:Nat) (v:b_),items[i]?=à v->∃x t,ss[i]?=à x/\v=.str x t) (hb:ss.length+1<scanBound)
  (h:∀(h':mj) (tk:Nat),h'.SetOf (mc O w) s.heap.objs.size (λk'=>(CX ss ss.length).contains k') (cZ<|CX ss ss.length).length ->
   (∀b o,s.heap.get? b=à o->h'.get? b=à o)->Q (.ref s.heap.objs.size) {s with heap:=h',toks:=tk}) :
  i' (i_ O w) A (call (.type "set") [.ref l]) Q E s:=by
 revert oI St;ext A ss s E Q l T items nl;ext oI St
 refine bM F.called_set.mro λc tl ι=>?_;have hmade:=F.called_set.made;have hsub:=F.called_set.sub;refine vk<|codeAny_of_tree ?_;refine ae ⟨qz _ (by decide +kernel),qf F.entry_type_call ?_⟩;rw[Around.under_plain (weight_type_call_type "set" [.ref l] []) rfl];have h1:=F.called_set.notType;have h2:=F.called_set.canCreate;have hct:=F.typeCall_set_1 (.ref l)
 repeat (any_goals (first | assumption | wp_step))
 refine codeAny_mono (code_set_new_1 (.ref l) (E:=E) (Q₁:=λobj jv=>∃led:Bool,obj=.ref s.heap.objs.size/\jv={s with heap:=s.heap.push {cls:=.type "set",dict:=á,data:=.set #[] 0 (.fresh 0 0 led)}}) λled=>⟨led,rfl,rfl⟩) λr jv hr=>?_;cases r with
 |error e=>exact hr
 |ok fl=>
  cases fl with
  |ret obj=>
   refine aD hr λled zq HO=>?_;subst hr zq;subst HO;have hS:(s.heap.push {cls:=.type "set",dict:=á,data:=.set #[] 0 (.fresh 0 0 led)}).get? s.heap.objs.size=à {cls:=.type "set",dict:=á,data:=.set #[] 0 (.fresh 0 0 led)}:=ip _ rfl;obtain hT:Shared.TypeIs {s with heap:=s.heap.push {cls:=.type "set",dict:=á,data:=.set #[] 0 (.fresh 0 0 led)}} (.ref s.heap.objs.size) "set":=⟨_,hS,rfl⟩
   have OQ:=F.called_set.init.lookup;have OE:=F.called_set.init.bind (.ref s.heap.objs.size)
   repeat (any_goals (first | assumption | wp_step))
   refine codeAny_mono (oa (R:=wants (λr jy=>r=.none/\∃h' tk,jy={s with heap:=h',toks:=tk} /\
     h'.SetOf (mc O w) s.heap.objs.size (λk'=>(CX ss ss.length).contains k') (cZ<|CX ss ss.length).length /\
     (∀b o,s.heap.get? b=à o->h'.get? b=à o)) E) F.called_set.init.plain F.entry_set_init<|check_set_init_1 hT ?_) λlh jy ld=>?_
   ·have ν:(s.heap.push {cls:=.type "set",dict:=á,data:=.set #[] 0 (.fresh 0 0 led)}).get? l=à {cls:=.type T,data:=.seq items nl}:=ah _ μ;unfold px.«set.__init__» noKeywords Builtin.Frozenset.updateFrom;generalize hPI:pyIter=PI
    wp_walk
    subst hPI;refine CE _ _ _ _ ν ?_;refine ac<|wpAny_runValue ?_;have ZX:=ci μ;obtain q1E:l≠(s.heap.push {cls:=.type "set",dict:=á,data:=.set #[] 0 (.fresh 0 0 led)}).objs.size:=by rw[gr];exact cb<|iz ZX
    obtain Q_:s.heap.objs.size∉[(s.heap.push {cls:=.type "set",dict:=á,data:=.set #[] 0 (.fresh 0 0 led)}).objs.size,l]:=by rw[gr];simp only[mo,qx,ql,or_false,not_or];exact⟨cb<|fk _,fe ZX⟩
    refine Se (CL▸hW _ _ (by simp[hh]) q1E) s.heap.objs.size Q_ VF hb ss.length 0 _ rfl (ay _) (AP _ ν) ?hS0 λh' EG hk OC=>?hR
    case hS0=>exact uj ((setObjOf_fresh (knd:=mc O w) led).setOf (ah _ hS) (by unfold scanBound;exact K4)) (λ_=>rfl) rfl
    case hR=>
     refine ae ?_;refine ae ⟨rfl,h',EG,rfl,OC,λb o e=>?_⟩;have hb:=ci e;refine hk b o ?_<|ah _<|ah _ e;rw[gr];intro hm;rcases List.mem_cons.mp hm with hm|hm
     ·exact absurd hb (by rw[hm];exact il _)
     ·exact absurd hb (by rw[List.mem_singleton.mp hm];exact Nat.not_lt.mpr<|ao _)
   ·cases lh with
    |error e=>exact ld
    |ok fl2=>
     cases fl2 with
     |ret r=>
      obtain⟨rfl,h',tk,rfl,OC,AX⟩:=ld
      repeat (any_goals (first | assumption | wp_step))
      exact h _ _ OC AX
     |_=>exact ld.elim
  |_=>exact hr.elim
end
section
theorem Sf{p:a_×a_}(e:two d=à p):d=.tuple [p.1,p.2]:=by
 cases d with
 |tuple ds=>
  rcases ds with _|⟨a,_|⟨b,_|⟨c,r⟩⟩⟩
  ·exact ns e
  ·exact ns e
  ·replace e:=si e;subst e;rfl
  ·exact ns e
 |_=>exact ns e
theorem Sg{l:List α}(h:l.length=2):∃x y,l=[x,y]:=by
 rcases l with _|⟨a,_|⟨b,_|⟨c,r⟩⟩⟩
 ·cases h
 ·cases h
 ·exact⟨a,b,rfl⟩
 ·cases h
theorem Zu.two{p:a_×a_}(r:Zu h av v d)(e:two d=à p):∃a x y,v=.ref a/\DH h a #[x,y]/\Zu h av x p.1/\Zu h av y p.2:=by rw[Sf e] at r;obtain⟨a,vs,zq,h1,h2,h3,h4,h5⟩:=r.HM;subst r zq;refine bM (Sg h3) λx y zq=>?_;subst h3 h4 zq;exact⟨a,x,y,rfl,h2,h5 0 _ _ rfl rfl,h5 1 _ _ rfl rfl⟩
theorem Sh:∀{vs:List b_} {ds:List a_} {ps:List<|PyData×a_} {qs:List<|Str×a_},vs.length=ds.length->(∀(i:Nat) (v:b_) (d:a_),vs[i]?=à v->ds[i]?=à d->Zu h av v d) ->
  KH ds=à ps->DX ps=à qs->∃kvs,iR h vs kvs/\PS h av kvs qs:=by
 intro vs;induction vs with
 |nil=>
  intro ds ps qs hl hr e1 e2;cases ds with
  |nil=>replace e1:=si e1;subst e1;replace e2:=si e2;subst e2;exact⟨[],trivial,trivial⟩
  |cons=>exact nomatch hl
 |cons v vs ih=>
  intro ds ps qs hl hr e1 e2;cases ds with
  |nil=>exact nomatch hl
  |cons d ds=>
   replace e1:((two d).bind λp=>(KH ds).map (p::·))=à ps:=e1;refine zn (two d) (λhp=>?_) λp hp=>?_
   ·rw[hp] at e1;exact ns e1
   ·rw[hp] at e1;refine aD (az.mp (e1:(KH ds).map (p::·)=à ps)) λIK LZ zq=>?_;subst zq;refine lR ((hr 0 v d rfl rfl).two hp) λa x y zq g1 g2 g3=>?_;subst zq;obtain⟨p1,p2⟩:=p;cases p1 with
    |str k=>refine aD (az.mp (e2:(DX IK).map ((k,p2)::·)=à qs)) λqs' QM zq=>?_;subst zq;obtain⟨t,hx,hk⟩:=(g2:Zu h av x<|.str k).str_inv;subst g2 hx;exact aD (ih (ds:=ds) (qb hl) (λi v d e1 e2=>hr (i+1) v d e1 e2) LZ QM) λkvs z1 z2=>⟨(k,y)::kvs,⟨⟨a,t,rfl,g1⟩,z1⟩,rfl,hk,g3,z2⟩
    |_=>exact ns e2
theorem E4{ts:List vg}(e1:ts.length=ss.length)(e:(pf (λx t=>qa x t) ss ts)[i]?=à v):∃x t,ss[i]?=à x/\v=.str x t:=by
 rw[List.getElem?_zipWith] at e;cases hs:ss[i]? with
 |none=>rw[hs] at e;exact ns e
 |some x=>
  cases ht:ts[i]? with
  |none=>rw[hs,ht] at e;exact ns e
  |some t=>rw[hs,ht] at e;replace e:=si e;subst e;exact⟨x,t,rfl,rfl⟩
theorem Si(hh:A.handled=á)(G:CQ l av s)(r:Zu s.heap av v d):YV A s av (call (.type "dict") [v])<|bA d:=by
 cases d with
 |dict m=>obtain⟨a,kvs,zq,h1,h2,h3,h4,h5,h6⟩:=r.FB;subst r zq;intro Q E hq;exact kt_call_dict (knd:=mc O w) h4 h2 h3.1 λh' hd hs=>hq _ _<|El (BE s) (Kp.MX<|R5 hs) (bU _) (oS G) hd h3 h5 h6
 |list m=>
  obtain⟨a,vs,zq,h1,⟨nn,h2⟩,h3,h4,h5⟩:=r.DY;subst r zq;refine Yd.KG λps GH=>Yd.KG λqs hqs=>DB λzw=>aD (Sh h3 h5 GH hqs) λkvs g1 g2=>?_;have hz:kvs.length<=g_:=by rw[g2.length];exact aa (bu zw) Zw
  intro Q E hq;refine callType_codes (Q₁:=λobj jv=>obj=.ref s.heap.objs.size/\jv={s with heap:=s.heap.push {cls:=.type "dict",data:=.dict #[]}}) F.kt_called_dict (yw _) F.entry_dict_init (kt_code_dict_new _ ⟨rfl,rfl⟩) ?_
  rintro obj jv ⟨rfl,rfl⟩
  have LD:(s.heap.push {cls:=.type "dict",data:=.dict #[]}).DictOf (mc O w) s.heap.objs.size []:=re s.heap;have DU:(s.heap.push {cls:=.type "dict",data:=.dict #[]}).get? a=à _:=ah _ h2;refine⟨LD.typeIs,F.args_dict_init_2 _ _,?_⟩;unfold px.«dict.__init__»;refine ac ?_;unfold uo;refine ac<|wpAny_notOrdered_dict LD.typeIs ?_;refine ae ?_;show i' _ _ (pe "dict.__init__" s.heap.objs.size (.ref a) [] .none) _ _ _;unfold pe;refine ac<|iu (T:="list") ⟨_,DU,rfl⟩ ?_;rw[if_pos Zw];refine ac<|Ev DU hh λh' tk hk=>?_;rw[if_pos<|show(á:Option b_).isNone=â from rfl];refine ac<|wpAny_rule ?_;have hD:=LD.keep hk;have NZ:=hk _ _ DU;refine ac<|iw ⟨_,NZ,rfl,nn,rfl⟩<|ae ⟨vf oU _,?_⟩;have LJ:s.heap.objs.size<h'.objs.size:=(by refine dN hD λo _ _ e _=>?_;exact ci e)
  have PK:=ci h2;obtain old:∀b o,s.heap.get? b=à o->(h'.push {cls:=.type "list_iterator",data:=.fields #[mr a,rawInt 0]}).get? b=à o:=λb o e=>ah _<|hk _ _<|ah _ e;refine Ex (A:=A.in1) (I:=h'.objs.size) (l:=a) (D:=s.heap.objs.size) (vs:=vs) (kvs:=kvs) hh (cb<|cy PK LJ) (cb LJ) (fe PK) hz g1 (bU _) (dh<|bu LJ) kvs.length 0 _ rfl (ay _)
   ⟨⟨_,dA _ _ rfl,rfl,rfl⟩,⟨_,ah _ NZ,rfl,nn,rfl⟩⟩ old (hD.push _) λIB EG MJ KZ=>⟨rfl,hq _ _ ?_⟩
  exact Ez (BE s) (Kp.mk' MJ) (bU _) (oS G) KZ (by rw[<- g2.length];exact hz) g2
 |_=>exact trivial
theorem Sj(hh:A.handled=á)(BY:∀b,av b->∃o,s.heap.get? b=à o)(r:Zu s.heap av v d):
  Yd (λQ E=>i' (i_ O w) A (call (.builtin "dict.items") [v]) (λx jv=>i' (i_ O w) A (call (.type "list") [x]) Q E jv) E s) (λv s' u=>Kp s s'/\bC s s'.heap av v u) (f0 d):=by
 cases d with
 |dict m=>
  obtain⟨a,kvs,zq,h1,h2,h3,h4,h5,h6⟩:=r.FB;subst r zq;intro Q E hq;refine tf F.slot_dict_items h2.typeIs F.entry_dict_items (F.args_dict_items_1 _) (meets_dict_items (mc O w) a h4) ⟨⟨kvs,h2⟩,?_⟩;refine lO h2 λo es ep hd=>?_;have hp:∀b o,s.heap.get? b=à o->(s.heap.push {cls:=.type "dict_items",data:=.fields #[.ref a]}).get? b=à o:=λb o e=>ah _ e;have fr:∀{x:f_},s.heap.objs.size<x->s.heap.get? x=á:=λhx=>dh<|bu hx;refine W.kdx_call (knd:=mc O w) (kvs:=kvs) (ep:=ep) hh ⟨_,dA _ _ rfl,rfl,rfl⟩ ⟨o,es,hp _ _ hd.1,hd.2⟩ h3.1 λh' tk acc c as hk JE ZZ hG MD=>?_;have AX:∀b o,s.heap.get? b=à o->h'.get? b=à o:=λb o e=>hk _ _<|hp _ _ e;have zw:s.heap.objs.size<(s.heap.push {cls:=.type "dict_items",data:=.fields #[.ref a]}).objs.size:=by rw[gr];exact fk _
  have hn:s.heap.get? (s.heap.push {cls:=.type "dict_items",data:=.fields #[.ref a]}).objs.size=á:=fr zw;refine hq _ _ ⟨Kp.mk' AX,⟨_,rfl,hn,acc.toList,⟨c,by simpa using JE⟩,by rw[MD,j_,j_,ZZ,(by simpa using congrArg nq h5:m.length=kvs.length)],by rw[MD,j_,ZZ];exact h3.1,λi v d e1 e2=>?_⟩⟩;rw[MD,lz] at e1;refine aD (az.mp e1) λta LZ zq=>?_;subst zq;rw[lz] at e2;refine aD (az.mp e2) λp QM zq=>?_;subst zq;clear e1 e2;refine AN λΘ θ=>jF (hG.pairs i ta LZ) λkey k x e3 e4 e5=>Zs (qt e4) λt zq=>?_;subst e4 zq;apply θ;obtain hp1:p.1=.str k:=by have:=congrArg (λl=>l[i]?) h5;simp only[lz,QM,e3,r_] at this;exact m_ this
  have AG:(s.heap.push {cls:=.type "dict_items",data:=.fields #[.ref a]}).objs.size<ta:=hG.above ta<|bq LZ;obtain rx:Zu h' (λb=>av b\/b=(s.heap.push {cls:=.type "dict_items",data:=.fields #[.ref a]}).objs.size) x p.2:=((h6 i _ _ e3 QM).apart hn).keeps AX;refine .tuple (λhx=>?_) ⟨0,by simpa using e5⟩ rfl (by rw[nh];exact iq rfl) λj v d f1 f2=>?_
  ·rcases hx with hx|hx
   ·refine Zs (BY _ hx) λo e=>?_;rw[(fr<|cy zw AG)] at e;exact ns e
   ·exact absurd AG (by rw[hx];exact il _)
  ·match j,f1,f2 with
   |0,f1,f2=>obtain rfl:=si f1;obtain rfl:=si f2;rw[hp1];exact .str k t<|h3.2 _<|bq e3
   |1,f1,f2=>replace f1:=si f1;subst f1;replace f2:=si f2;subst f2;exact rx
 |_=>exact trivial
theorem Sk:isSubtype (.type "tuple") (.type "set")=pure ã:=by rw[isSubtype_type];kernel_rfl
theorem Sl:isSubtype (.type "tuple") (.type "frozenset")=pure ã:=by rw[isSubtype_type];kernel_rfl
theorem Sm(hh:A.handled=á)(r:Zu s.heap av v d):
  Yd (λQ E=>i' (i_ O w) A (call (.type "set") [v]) (λx jv=>i' (i_ O w) A (call (.builtin "len") [x]) Q E jv) E s) (λv s' u=>Kp s s'/\bC s s'.heap av v u) (fQ d):=by
 have key:∀{ss:List d_} {Q:b_->c_->Prop} {E:b_->c_->Prop} (_:ss.length<64),(∀v s',Kp s s'/\bC s s'.heap av v (.fz<|.int (cZ ss.reverse).length)->Q v s')->∀(h':mj) (tk:Nat),h'.SetOf (mc O w) s.heap.objs.size (λk'=>(CX ss ss.length).contains k') (cZ<|CX ss ss.length).length ->
   (∀b o,s.heap.get? b=à o->h'.get? b=à o)->i' (i_ O w) A (call (.builtin "len") [.ref s.heap.objs.size]) Q E {s with heap:=h',toks:=tk}:=by
  intro ss Q E zw hq h' tk hS hk;refine AN λ_ θ=>?_;obtain⟨o,es,ep,t,ho,hex,hd,hel,hmem,hb,hf,hn⟩:=hS;apply θ;obtain hz:(es.size:Int)<2 ^ 63:=by have:=wU<|CX ss ss.length;have:=E2 ss ss.length;lia
  refine call_len_set ho hex hd hf hz<|hq _ _ ⟨Kp.mk' hk,?_⟩;rw[hn];unfold CX;rw[jn];exact .int _ _
 cases d with
 |list m=>obtain⟨a,vs,zq,h1,⟨nn,h2⟩,h3,h4,h5⟩:=r.DY;subst r zq;refine Yd.KG λss hs=>DB λzw=>bN (jR h3 h5 hs) λts e1 zq e3=>?_;subst h3 h4 h5 zq;intro Q E hq;refine E3 (T:="list") (ss:=ss) hh h2 F.sub_list_set F.sub_list_frozenset rfl (by simp[e1]) (λA' s' Q E e hq=>iw ⟨_,e,rfl,_,rfl⟩ hq) (λA' I EN zh=>vy EN I a zh _) (λh e=>⟨⟨_,dA _ _ rfl,rfl,rfl⟩,⟨_,ah _ e,rfl,_,rfl⟩⟩) (λi v e=>?_) (by unfold scanBound;exact A4 zw) (key zw hq);exact E4 e1 (by simpa using e)
 |tuple m=>obtain⟨a,vs,zq,h1,⟨nn,h2⟩,h3,h4,h5⟩:=r.HM;subst r zq;refine Yd.KG λss hs=>DB λzw=>bN (jR h3 h5 hs) λts e1 zq e3=>?_;subst h3 h4 h5 zq;intro Q E hq;refine E3 (T:="tuple") (ss:=ss) hh h2 Sk Sl rfl (by simp[e1]) (λA' s' Q E e hq=>wpAny_pyIter_tuple ⟨_,e,rfl,_,rfl⟩ hq) (λA' I EN zh=>Walks.tuple EN I a zh _) (λh e=>⟨⟨_,dA _ _ rfl,rfl,rfl⟩,⟨_,ah _ e,rfl,_,rfl⟩⟩) (λi v e=>?_) (by unfold scanBound;exact A4 zw) (key zw hq);exact E4 e1 (by simpa using e)
 |_=>exact trivial
end
section
theorem wV:∀{vs:List b_} {ds:List a_},vs.length=ds.length->(∀(i:Nat) (v:b_) (d:a_),vs[i]?=à v->ds[i]?=à d->∃as,Reads h v d as)->∃as,ReadsAll h vs ds as:=by
 intro vs;induction vs with
 |nil=>
  intro ds e _;cases ds with
  |nil=>exact⟨[],.nil⟩
  |cons=>exact nomatch e
 |cons v vs ih=>
  intro ds e h;cases ds with
  |nil=>exact nomatch e
  |cons d ds=>exact Zs (h 0 v d rfl rfl) λas h1=>Zs (ih (ds:=ds) (qb e) λi v d e1 e2=>h (i+1) v d e1 e2) λbs h3=>⟨as++bs,.cons h1 h3⟩
structure WZ(k:Nat)(d:a_):Prop where
 s:d.showable=â
 h:d.hasDict=ã
 d:d.depth<=k
structure ϲ(k:Nat)(l:List a_):Prop where
 s:xr l=â
 h:PyData.hasDictAll l=ã
 d:PyData.depthAll l<=k
theorem wW{k:Nat}{l:List a_}(h:∀d∈l,WZ k d):ϲ k l:=by
 induction l with
 |nil=>exact⟨rfl,rfl,ay _⟩
 |cons d l ih=>
  obtain⟨a,b,c⟩:=h d ag;obtain⟨e,f,g⟩:=ih λx hx=>h x<|af _ hx;refine⟨?_,?_,Nat.max_le.mpr ⟨c,g⟩⟩
  ·show(d.showable&&xr l)=â;rw[a,e];rfl
  ·show(d.hasDict||PyData.hasDictAll l)=ã;rw[b,f];rfl
theorem Sn:∀{n:Nat} {d:a_},gN n d=â->WZ n d:=by
 intro n;induction n with
 |zero=>intro d h;exact zk h
 |succ n ih=>
  intro d h;cases d with
  |str x=>exact⟨rfl,rfl,ay _⟩
  |int i=>exact⟨h,rfl,ay _⟩
  |list l=>obtain⟨a,b,c⟩:=wW λd hd=>ih<|ak.mp h d hd;exact⟨a,b,be c⟩
  |tuple l=>obtain⟨a,b,c⟩:=wW λd hd=>ih<|ak.mp h d hd;exact⟨a,b,be c⟩
  |_=>exact zk h
theorem So:∀{n:Nat} {v:b_} {d:a_},Zu h av v d->gN n d=â->∃as,Reads h v d as:=by
 intro n;induction n with
 |zero=>intro v d _ hf;exact zk hf
 |succ n ih=>
  intro v d r hf;cases d with
  |str x=>obtain⟨t,rfl,_⟩:=r.str_inv;exact⟨_,.str x t⟩
  |int i=>refine Zs r.int_inv λt zq=>?_;subst zq;exact⟨_,.int i t⟩
  |list l=>obtain⟨a,vs,zq,h1,⟨n,e⟩,h3,h4,h5⟩:=r.DY;subst r zq;exact Zs (wV h3 λi v d e1 e2=>ih (h5 i v d e1 e2)<|ak.mp hf d<|bq e2) λas ra=>⟨_,.list e rfl rfl (by simpa using ra)⟩
  |tuple l=>obtain⟨a,vs,zq,h1,⟨n,e⟩,h3,h4,h5⟩:=r.HM;subst r zq;exact Zs (wV h3 λi v d e1 e2=>ih (h5 i v d e1 e2)<|ak.mp hf d<|bq e2) λas ra=>⟨_,.tuple e rfl rfl (by simpa using ra)⟩
  |_=>exact zk hf
theorem Sp(hg:A.guards=à [])(hu:A.units+70<cLine)(r:Zu s.heap av v d):YV A s av (call (.builtin "repr") [v])<|kI d:=by
 cases d with
 |tuple l=>refine DB λhc=>zj hc λhf hz=>?_;obtain⟨a,b,c⟩:=wW λd hd=>Sn<|ak.mp hf d hd;obtain⟨ad,vs,zq,h1,⟨n,e⟩,h3,h4,h5⟩:=r.HM;subst r zq;refine Zs (wV h3 λi v d e1 e2=>So (h5 i v d e1 e2)<|ak.mp hf d<|bq e2) λas ra=>?_;intro Q E hq;refine repr_of_reads' (d:=.tuple l) (Reads.tuple e rfl rfl (by simpa using ra)) a (PyData.noDict_hsm b) hg (au (bo (aa (be<|be c) (by decide:26<=70)) _) hu) (λ_ _ e=>e) (λh' u tk k=>hq _ _ ⟨Kp.mk' k,.str _ _ hz⟩) hz
 |_=>exact trivial
end
section
def CA(l:List nt)(av:f_->Prop)(s:c_)(v:b_)(u:V):Prop:=cM l s.heap av v u/\∀d,u≠.own d
structure DG(n:Nat)(C:Ctx):Prop where
 const:C.const=jN O.main.body
 init:C.init=λc=>(bO c O.main.body).map (·.2)
 sub:C.sub=fJ O.main.body
 has:∀f,C.has f=â->∃a b sc,cX f O.main.body=à (a,b,sc)
 call:∀f us ad,mg f=à (.ref ad)->C.has f=â->∀(A:mz) (l:List nt) (s:c_) (av:f_->Prop) (vs:List b_),AI n C.hd l A->CQ l av s->gT (CA l av) s vs us ->
  ∀{β:Type} {k:V->R β} {fin:R β} {Q:b_->c_->Prop} {E:b_->c_->Prop},Fin (C.call f us) k fin->QH l s av k fin Q->EH l s av fin E->i' (i_ O w) A (call (.ref ad) vs) Q E s
theorem mK{f:b_}{Q:Args->c_->Prop}(hs:es.any zr=ã)
  (h:i' M A (spliced<|backTo pos<|starEach es env) (λvs s'=>Q ⟨vs,[]⟩ s') E s):i' M A (evalArgs f â (xj pos<|starEach es env) []) Q E s:=by
 ext A env es M pos s E f Q;cases es with
 |nil=>rw[(rfl:xj pos (starEach [] env)=[])] at h ⊢;unfold evalArgs;refine ac<|ac<|aq h (λvs s' h'=>?_) λ_ _ x=>x;refine ae<|bk ?_;exact ac<|ae<|ae h'
 |cons e r=>rw[eD (gk.mp hs).1] at h ⊢;exact Calls.evalArgs_plain h
theorem wX:∀{es:List h_},es.any zr=ã->(xj pos<|starEach es env).any (·.1)=ã:=by
 intro v0;induction v0 with
 |nil=>intro _;exact rfl
 |cons e es ih=>intro h;refine zj (gk.mp h) λh1 h2=>?_;rw[eD h1];show(ã||(xj pos<|starEach es env).any (·.1))=ã;rw[ih h2];rfl
theorem Sr(zv:∀e,zr e=â->rec e=.no)(e:h_)(h:zr e=â):l5 rec sc σ e=.no:=by
 have h0:=h;unfold l5 gQ bT;unfold zr at h;generalize hv:vw e=v at h;cases v with
 |name x=>exact zk h
 |_=>exact zv e h0
theorem Ss(h:aJ n hd l sc σ e<|rec e):wO n hd l sc σ av (CA l av) e<|l5 rec sc σ e:=by
 intro A env s hA I β k fin Q E hf hq he;unfold l5 at hf;refine zn (gQ sc σ e) (λhx=>?_) λx hx=>?_
 ·rw[hx] at hf;exact h A env s av hA I hf (λv s' u k r e=>hq v s' u k ⟨r.cl I.gnd.avlt,λd hh=>by clear r e;cases u<;>cases hh⟩ e) he
 ·rw[hx] at hf;refine eG (Eh hx) λy p zq hl e=>?_;subst h hx zq;exact aD (I.get _ _ hl e) λu h1 h2=>dE I hl h1<|hq _ _ (.ex x) (K.rf l s) ⟨h2,λd hh=>by cases hh⟩ hf.ok
theorem Su(hK:DG n C)(zv:∀e,zr e=â->rec e=.no){p:oi}(hg:AL sc f=â)(AR:as.any zr=ã)(hh:C.has f=â)
  (h:∀e∈as,aJ n C.hd l sc σ e<|rec e):aJ n C.hd l sc σ (.Call (.Name f p) as [] pos)<|rb (FC (l5 rec sc σ) as) λvs=>C.call f vs:=by
 intro A env s av hA I β k fin Q E hf hq he;refine lO (hK.has f hh) λa b zo hd=>kG (I.gnd.glo.fn f a b zo hd) λad o pm cd doc h1 h2 h3 h4=>fh<|iP I hg h1<|Calls.callWith_function (o:=o) (fd:=o_ f a b zo pm cd doc)<|mK AR<|Eb (C:=CA l av) (Sr zv) (λ_ _ _ _ k r=>⟨r.1.k I.gnd.fav k,r.2⟩) hA (λe m=>Ss<|h e m) I hf.b (λvs jv us k1 r e1=>?_) he;exact⟨⟨(I.gnd.k k1).stay _ _ h2,h3⟩,hK.call f us ad h1 hh A l jv av vs hA (I.gnd.k k1) r ⟨e1,hf.2⟩ (hq.back k1)<|he.back k1⟩
theorem jS(hf:(∃id,fv=.builtin id)\/∃T,fv=.type T){t:Sem b_}
  (h:i' M A t (λv jv=>i' M A (call fv [v]) Q E jv) E s):i' M A (callWith pos fv [] [(ã,t)] []) Q E s:=by
 rcases hf with ⟨id,rfl⟩|⟨T,rfl⟩
 ·exact PySem.callWith_builtin1 h
 ·exact PySem.callWith_type1 h
theorem Sv(hv:mG f=à fv)(hh:u6 f=â->A.handled=á)(hg:A.guards=à [])(hu:A.units+70<cLine)(G:CQ l av s)
  (r:Zu s.heap av v d):YV A s av (call fv [v]) (Cg f d):=
 Yd.ER (λe=>by subst hh e;replace hv:=si hv;subst hv;exact Rx r) λ_=>
 Yd.ER (λe=>by subst e;replace hv:=si hv;subst hv;exact Rz (hh rfl) r) λ_=>
 Yd.ER (λe=>by subst e;replace hv:=si hv;subst hv;exact R3 (hh rfl) r) λ_=>
 Yd.ER (λe=>by subst e;replace hv:=si hv;subst hv;exact Eu (hh rfl) r) λ_=>
 Yd.ER (λe=>by subst hh e;replace hv:=si hv;subst hv;exact R4 G.avlt r) λ_=>
 Yd.ER (λe=>by subst e;replace hv:=si hv;subst hv;exact Si (hh rfl) G r) λ_=>
 Yd.ER (λe=>by subst hh e;replace hv:=si hv;subst hv;exact R6 r) λ_=>
 Yd.ER (λe=>by subst hh e;replace hv:=si hv;subst hv;exact R7 r) λ_=>
 Yd.ER (λe=>by subst hh e;replace hv:=si hv;subst hv;exact Sp hg hu r) λ_=>trivial
theorem Sw(h:fY f=â):∃fv,mG f=à fv/\((∃id,fv=.builtin id)\/∃T,fv=.type T):=by
 unfold fY at h;simp only[p_,beq_iff_eq] at h;rcases h with (((((((h|h)|h)|h)|h)|h)|h)|h)|h<;>subst h
 all_goals first
  |exact⟨.builtin _,rfl,.inl ⟨_,rfl⟩⟩
  |exact⟨.type _,rfl,.inr ⟨_,rfl⟩⟩
theorem Sx(zv:∀e,zr e=â->rec e=.no){a:h_}{p:oi}(hg:AL sc f=â)(hb:fY f=â)(h:aJ n hd l sc σ a<|rec a):
  aJ n hd l sc σ (.Call (.Name f p) [a] [] pos) (jL rec hd f a):=by
 intro A env s av hA I β k fin Q E hf hq he;refine aD (Sw hb) λfv hv hfv=>?_;unfold jL at hf;refine DO (hd&&u6 f) (λhn=>?_) λhn=>?_
 ·rw[hn] at hf;have hf:=hf;refine og (eD<|gR (zv a) hf.b.ne)<|eT I hg hv<|jS hfv<|h A env s av hA I hf.b (λv jv u k1 r h1=>?_) he;exact Yd.fin (Sv hv (λzh=>hA.handled<|by rw[zh,Bool.and_true] at hn;exact hn) hA.guards (YJ hA.units) (I.gnd.k k1)<|r.rep I.gnd.avlt) ⟨h1,hf.2⟩ λv s' u r e=>hq.step k1 r e
 ·rw[hn] at hf;exact hf.no.elim
theorem gU{id:String}{first:List b_}(hs:as.any zr=ã)
  (h:i' M A (spliced<|backTo pos<|starEach as env) (λvs jv=>i' M A (call (.builtin id)<|first++vs) Q E jv) E s):i' M A (callWith pos (.builtin id) first (xj pos<|starEach as env) []) Q E s:=
 Calls.callWith_builtin (wX hs) (mK hs h)
theorem wY(h:kK u=.ok d):u=.fz d:=by
 cases u with
 |fz=>obtain rfl:=pi h;rfl
 |_=>exact zz h
def RL(h:mj)(av:f_->Prop)(vs:List b_)(ds:List a_):Prop:=
 vs.length=ds.length/\∀(i:Nat) (v:b_) (d:a_),vs[i]?=à v->ds[i]?=à d->Zu h av v d
theorem RL.cons{vs:List b_}(r:RL h av vs<|d::ds):∃v BZ,vs=v::BZ/\Zu h av v d/\RL h av BZ ds:=by
 cases vs with
 |nil=>cases r.1
 |cons v vs=>exact⟨v,vs,rfl,r.2 0 v d rfl rfl,qb r.1,λi v d e1 e2=>r.2 (i+1) v d e1 e2⟩
theorem RL.nil{vs:List b_}(r:RL h av vs []):vs=[]:=List.length_eq_zero_iff.mp r.1
theorem Sy{vs:List b_}(hh:A.handled=á)(r:RL s.heap av vs<|cW us):YV A s av (call (.builtin "min") vs)<|qY us:=by
 ext av A us s vs;cases us with
 |nil=>exact trivial
 |cons a us=>
  cases us with
  |nil=>exact trivial
  |cons b us=>
   cases us with
   |cons=>exact trivial
   |nil=>
    obtain⟨v1,vs,rfl,r1,r⟩:=r.cons;obtain⟨v2,vs,rfl,r2,r⟩:=r.cons;replace r:=r.nil;subst r;refine Yd.Ϙ λx hx=>Yd.Ϙ λy hy=>?_;clear r;cases wY hx;clear r;cases wY hy;cases x with
    |int x=>
     cases y with
     |int y=>
      refine Zs ((r1:Zu s.heap av v1<|.int x).int_inv) λt zq=>?_;subst r1 zq;refine Zs ((r2:Zu s.heap av v2<|.int y).int_inv) λu zq=>?_;subst r2 zq;refine λQ E hq=>min_two_ints hh λh' tk hk=>hq _ _ ⟨Kp.mk' hk,?_⟩
      split<;>exact .int _ _
     |_=>exact trivial
    |_=>exact trivial
theorem Sz(zv:∀e,zr e=â->rec e=.no){p:oi}(hg:AL sc "min" = â)(AR:as.any zr=ã)(hh:hd=ã)
  (h:∀e∈as,aJ n hd l sc σ e<|rec e):aJ n hd l sc σ (.Call (.Name "min" p) as [] pos)<|rb (FC rec as) λvs=>Zy<|qY vs:=by
 intro A env s av hA I β k fin Q E hf hq he;refine fh<|eT I hg rfl (gU AR<|mI zv hA h I hf.b (λvs jv us k1 r1 r2 e1=>?_) he);exact Yd.fin (Sy (hA.handled hh) ⟨r1,r2⟩) ⟨e1,hf.2⟩ λv s' u r e=>hq.step k1 r e
theorem S0{a:h_}{t:d_}{p:oi}(zv:∀e,zr e=â->rec e=.no)(hg:AL sc "isinstance" = â)
  (ht:AL sc t=â) (h:aJ n hd l sc σ a<|rec a):aJ n hd l sc σ (.Call (.Name "isinstance" p) [a,.Name t p'] [] pos)<|rb (rec a) λv=>Zy<|l0 t<|Zp v:=by
 intro A env s av hA I β k fin Q E hf hq he;have hb:=gR (zv a) hf.b.ne;refine fh<|eT I hg rfl (gU (by show(zr a||false)=ã;rw[hb];rfl) ?_);refine bf (h A env s av hA I hf.b (λv jv u k1 r h1=>bf ?_ rfl) he)<|eD hb;refine uO (Ek (A:=A)<|r.rep I.gnd.avlt) λIY h2 h3 h4 h5 h6=>?_;have fin:∀{T:String} {b},mG t=à (.type T)->kU A jv v T b->Yd (λQ E=>i' (i_ O w) A (eval (.Name t p') env) (λc jy=>i' (i_ O w) A (call (.builtin "isinstance") [v,c]) Q E jy) E jv) (λv s' u=>Kp jv s'/\bC jv s'.heap av v u) (fz<|.bool b):=
  λhT hc Q E hq=>eT (I.k k1) ht hT<|hc _ _ λtk=>hq _ _ ⟨BK jv tk,.bool _⟩
 obtain key:Yd (λQ E=>i' (i_ O w) A (eval (.Name t p') env) (λc jy=>i' (i_ O w) A (call (.builtin "isinstance") [v,c]) Q E jy) E jv) (λv s' u=>Kp jv s'/\bC jv s'.heap av v u) (l0 t<|Zp u):=
  Yd.ER (λe=>fin (e▸rfl) IY) λ_=>Yd.ER (λe=>fin (e▸rfl) h2) λ_=>Yd.ER (λe=>fin (e▸rfl) h3) λ_=>Yd.ER (λe=>fin (e▸rfl) h4) λ_=>Yd.ER (λe=>fin (e▸rfl) h5) λ_=>Yd.ER (λe=>fin (e▸rfl) h6) λ_=>trivial
 exact aq (key.fin (Q:=Q) ⟨h1,hf.2⟩ λv s' u r e=>hq.step k1 r e) (λc jy kq=>cc kq) λ_ _ x=>x
theorem S1{p q1V:oi}(zv:∀e,zr e=â->rec e=.no)(hg:AL sc "len" = â)(hh:hd=ã)(h:∀e∈as,aJ n hd l sc σ e<|rec e):
  aJ n hd l sc σ (.Call (.Name "len" p) [.Call (.Name "set" p') as [] q1V] [] pos) (Cn rec sc as):=by
 intro A env s av hA I β k fin Q E hf hq he;cases as with
 |nil=>exact hf.no.elim
 |cons x r=>
  cases r with
  |cons=>exact hf.no.elim
  |nil=>refine zj (Fin.ite hf) λhc hf=>og rfl (eT I hg rfl (jS (.inl ⟨_,rfl⟩)<|PySem.Call_name1 (eD<|gR (zv x) hf.b.ne)<|eT I hc rfl (jS (.inr ⟨_,rfl⟩)<|h x ag A env s av hA I hf.b (λv jv u k1 r h1=>?_) he)));exact Yd.fin (Sm (hA.handled hh)<|r.rep I.gnd.avlt) ⟨h1,hf.2⟩ λv s' u r e=>hq.step k1 r e
end
section
open PyProof.Rows
section
theorem E5{o:b_}{vs:List b_}{l:List a_}(hm:m ="count" \/ m ="index")(ro:Zu s.heap av o<|.list l)(r:RL s.heap av vs ds):
  YV A s av (call (.builtin<|if m ="count" then "list.count" else "list.index")<|o::vs) (Ck m l ds):=by
 ext av A ds s m o vs l;cases ds with
 |nil=>exact trivial
 |cons d ds=>
  obtain⟨v,vs,rfl,rd,r⟩:=r.cons;cases ds with
  |cons=>exact trivial
  |nil=>
   replace r:=List.length_eq_zero_iff.mp r.1;subst r;cases d with
   |bool k=>
    replace rd:=rd.bool_inv;subst r rd;show YV A s av _ ((AT<|FY l).bind λbs=>if m ="count" then fz (.int<|bs.countP (·==k)) else (AT<|bs.findIdx? (·==k)).bind λj=>if j<a8 then fz (.int j) else .no);refine zn (FY l) (λhb=>?_) λbs hb=>?_
    ·rw[hb];exact trivial
    ·rw[hb];obtain⟨a,vs,zq,h1,⟨n,e⟩,h3,h4,h5⟩:=ro.DY;subst ro zq;replace h3:=Es h3 h5 hb;subst h4 h5 h3;have he:∀y,y∈(bs.map ou).toArray->v_ A.in1 s y (.bool k) (isBoolOf k y):=λy hy=>by
      refine aD (ba.mp<|List.mem_toArray.mp hy) λb _ zq=>?_;subst hy zq;exact SeqAt.EqAt.bool_bool b k
     show YV A s av _ (if m ="count" then fz (.int<|bs.countP (·==k)) else (AT<|bs.findIdx? (·==k)).bind λj=>if j<a8 then fz (.int j) else .no)
     by_cases RA:m ="count"
     ·rw[if_pos RA,if_pos RA];intro Q E hq;refine call_meets PySem.F.slot_list_count ⟨_,e,rfl⟩ PySem.F.entry_list_count (PySem.F.args_list_count_2 _ _) (SeqAt.list_countAt a (bs.map ou).toArray n á #[] (.bool k) (isBoolOf k)) ⟨e,he,?_⟩;rw[show(bs.map ou).toArray.toList=bs.map ou from rfl,List.countP_map,(rfl:(isBoolOf k∘ou)=(·==k))];exact hq _ _ ⟨BK s _,.int _ _⟩
     ·rw[if_neg RA,if_neg RA];refine zn (bs.findIdx? (·==k)) (λhj=>?_) λj hj=>?_
      ·rw[hj];exact trivial
      ·rw[hj];refine DB λhz Q E hq=>aD (List.findIdx?_eq_some_iff_getElem.mp hj) λj1 j2 j3=>?_;refine call_meets PySem.F.slot_list_index ⟨_,e,rfl⟩ PySem.F.entry_list_index (PySem.F.args_list_index_2 _ _) (SeqAt.list_indexAt a (bs.map ou).toArray n á #[] (.bool k) (isBoolOf k) j (by simpa using j1) (gg (ca.mpr hz) Zw) ?_ λi hi zw=>?_) ⟨e,he,?_⟩
       ·rw[te,zc];exact j2
       ·rw[te,zc];exact Bool.eq_false_iff.mpr<|j3 i zw
       ·exact hq _ _ ⟨BK s _,.int _ _⟩
   |_=>exact trivial
end
end
section
theorem Zu.getD{ds:List<|PyData×a_}{dv:b_}{dd:a_}(h5:ds.map (·.1)=kvs.map (λkv=>l_ kv.1))
  (h6:∀(i:Nat) (kv:d_×b_) (d:a_×a_),kvs[i]?=à kv->ds[i]?=à d->Zu h av kv.2 d.2) (hd:Zu h av dv dd):Zu h av ((valueAt kvs x).getD dv)<|(bV ds x).getD dd:=by
 rcases rV x h5 with ⟨e1,e2⟩|⟨i,v,d,e1,e2,e3,e4⟩
 ·rw[e1,e2];exact hd
 ·rw[e1,e2];exact h6 i _ _ e3 e4
theorem S2{o:b_}{l:List<|PyData×a_}{vs:List b_}{k:a_}(ro:Zu s.heap av o<|.dict l)(r:RL s.heap av vs<|k::ds):
  YV A s av (call (.builtin "dict.get")<|o::vs) (Ch l ds k):=by
 refine eG r.cons λv vs zq rk r1=>?_;subst zq;clear r;cases k with
 |str k=>
  obtain⟨t,zq,hk⟩:=rk.str_inv;subst rk zq;obtain⟨a,kvs,zq,_,h2,h3,h4,h5,h6⟩:=ro.FB;subst ro zq;cases ds with
  |nil=>replace r1:=r1.nil;subst r1;exact λQ E hq=>tf wo h2.typeIs F.entry_dict_get (F.args_dict_get_2 _ _) (meets_dict_get (mc O w) a (fL k t) h4) ⟨_,h2.mapOf,hq _ _ ⟨BK s _,Zu.getD h5 h6 .none⟩⟩
  |cons d ds=>
   refine eG r1.cons λu vs zq ru r2=>?_;subst r1 zq;cases ds with
   |cons=>exact trivial
   |nil=>replace r2:=r2.nil;subst r2;exact λQ E hq=>tf wo h2.typeIs F.entry_dict_get (F.args_dict_get_3 _ _ _) (meets_dict_get_default (mc O w) a (fL k t) h4 u) ⟨_,h2.mapOf,hq _ _ ⟨BK s _,Zu.getD h5 h6 ru⟩⟩
 |_=>exact trivial
theorem E6{ts:List vg}(e:ts.length=ss.length):strValues (ss.zip ts)=pf (λx t=>qa x t) ss ts/\(ss.zip ts).map (·.1)=ss:=
 ⟨by unfold strValues;rw[List.zip,List.map_zipWith],List.map_fst_zip<|bl e.symm⟩
theorem S3{tt:vg}{l:List<|Str×vg}{texts:List d_}(hl:∃o n,s.heap.get? D=à o/\o.cls=.type "tuple" /\ o.data=.seq (strValues l).toArray n)(ht:l.map (·.1)=texts)(hok:yu x texts=â)
  (hq:∀t' k,Q (.str (Txt.join x texts) t') {s with toks:=k}):i' (i_ O w) A (call (.builtin "str.join") [.str x tt,.ref D]) Q E s:=by
 subst ht;unfold yu at hok;rw[nu] at hok;exact call_meets F.slot_str_join (typeIs_str _ _ _) F.entry_str_join (F.args_str_join_2 _ _) (meets_str_join_tuple x tt D l hok) ⟨hl,post_join l ⟨joinFit_length hok,hq⟩⟩
theorem S4{o:b_}{vs:List b_}{k:a_}(ro:Zu s.heap av o<|.str x)(r:RL s.heap av vs<|k::ds):
  YV A s av (call (.builtin "str.join")<|o::vs) (Cj x ds k):=by
 obtain⟨t,zq,hx⟩:=ro.str_inv;subst ro zq;refine eG r.cons λv vs zq rk r1=>?_;subst zq;clear r;cases ds with
 |cons=>exact trivial
 |nil=>
  replace r1:=r1.nil;subst r1;cases k with
  |list l=>obtain⟨a,vl,zq,h1,h2,h3,h4,h5⟩:=rk.DY;subst rk zq;refine Yd.KG λss hs=>DB λhok=>bN (jR h3 h5 hs) λts e1 zq e3=>?_;subst h3 h4 h5 zq;exact zj (E6 e1) λz1 z2=>λQ E hq=>SC.join (l:=ss.zip ts) (by rw[z1];exact h2.isList) z2 hok λt' k=>hq _ _ ⟨BK s _,.str _ _<|joinOk_length hok⟩
  |tuple l=>obtain⟨a,vl,zq,h1,⟨nn,h2⟩,h3,h4,h5⟩:=rk.HM;subst rk zq;refine Yd.KG λss hs=>DB λhok=>bN (jR h3 h5 hs) λts e1 zq e3=>?_;subst h3 h4 h5 zq;exact zj (E6 e1) λz1 z2=>λQ E hq=>S3 (l:=ss.zip ts) (by rw[z1];exact⟨_,nn,h2,rfl,rfl⟩) z2 hok λt' k=>hq _ _ ⟨BK s _,.str _ _<|joinOk_length hok⟩
  |_=>exact trivial
theorem wZ(h2:s.heap.DictOf (mc O w) a kvs):∀b,mr a=.ref b->∃ob,s.heap.get? b=à ob/\ob.dict=á:=by intro b hb;cases hb;exact jF h2 λob es ep e c _=>⟨ob,e,c.2.1⟩
theorem S5{od:a_}(hm:VX m od=â){o:b_}(ro:Zu s.heap av o od):∃T id,PlainAttrs T/\Slot T m id/\typeOf (.builtin id)=pure (.type "method_descriptor") /\
  s.TypeIs o T/\(∀a,o=.ref a->∃ob,s.heap.get? a=à ob/\ob.dict=á) /\
  ∀(A:mz) (s':c_) (vs:List b_) (ds:List a_),Zu s'.heap av o od->RL s'.heap av vs ds->YV A s' av (call (.builtin id)<|o::vs) (uV m od ds):=by
 revert hm;ext av s m od o;cases od with
 |list l=>
  obtain⟨a,vs,rfl,h1,⟨n,e⟩,_⟩:=ro.DY;have MN:=(p_ _ _▸hm).imp of_decide_eq_true of_decide_eq_true
  by_cases hc:m ="count"
  ·subst hm hc;exact⟨"list","list.count",rz,F.slot_list_count,by kernel_rfl,⟨_,e,rfl⟩,λb hb=>by cases hb;exact⟨_,e,rfl⟩,λA s' vs ds ro r=>E5 MN ro r⟩
  ·replace hc:=MN.resolve_left hc;subst hm hc;exact⟨"list","list.index",rz,F.slot_list_index,by kernel_rfl,⟨_,e,rfl⟩,λb hb=>by cases hb;exact⟨_,e,rfl⟩,λA s' vs ds ro r=>E5 MN ro r⟩
 |dict l=>
  replace hm:=of_decide_eq_true hm;subst hm;obtain⟨a,kvs,rfl,_,h2,_⟩:=ro.FB;refine⟨"dict","dict.get",oz,wo,by kernel_rfl,h2.typeIs,wZ h2,λA s' vs ds ro r=>?_⟩;cases ds with
  |nil=>exact trivial
  |cons k ds=>exact S2 ro r
 |str x=>
  replace hm:=of_decide_eq_true hm;subst hm;obtain⟨t,rfl,_⟩:=ro.str_inv;refine⟨"str","str.join",F.plainAttrs_str,F.slot_str_join,by kernel_rfl,rfl,λa ha=>by (cases ha),λA s' vs ds ro r=>?_⟩;cases ds with
  |nil=>exact trivial
  |cons k ds=>exact S4 ro r
 |_=>exact zk hm
theorem sE{o:h_}(h:qZ o=â)(name:d_)(env:nt):attributeBase o name env (eval o env)=eval o env:=by
 cases o with
 |Call f as AD q=>
  cases f with
  |Name=>exact zk h
  |_=>rfl
 |_=>rfl
theorem mM(hs:as.any zr=ã)(hl:as.length<=3)(pos:oi)(env:nt):((xj pos<|starEach as env).all (λx=>!x.1)&&(backToKw pos<|keywordEach [] env).all (λx=>x.1.isSome)
   && decide (as.length+([]:List sk).length+(if ([]:List sk).isEmpty then 0 else 1)<30))=â:=by
 obtain h2:(xj pos<|starEach as env).all (λx=>!x.1)=â:=by rw[ak];intro x hx;simpa using (List.any_eq_false.mp (wX (env:=env) (pos:=pos) hs) x hx)
 rw[h2];rw[(rfl:(backToKw pos<|keywordEach [] env).all (λx=>x.1.isSome)=â)];simp;exact K5 hl
theorem S6(zv:∀e,zr e=â->rec e=.no){o:h_}(ho:aJ n hd l sc σ o<|rec o)
  (h:∀e∈as,aJ n hd l sc σ e<|rec e):aJ n hd l sc σ (.Call (.Attribute o m ap) as [] cp)<|oE rec o m ap as cp:=by
 intro A env s av hA I β k fin Q E hf hq he;unfold oE at hf
 by_cases hc:m ="items" \/ qZ o=ã\/(ap.endLine==cp.line)=ã\/as.any zr=â\/3<as.length
 ·rw[if_pos hc] at hf;exact hf.no.elim
 rw[if_neg hc] at hf;simp only[not_or,pq,rj,Nat.not_lt] at hc;refine dU hc λ_ c2 c3 c4 c5=>gt (sE c2 m env) (mM c4 c5 cp env) c3<|ho A env s av hA I hf.b (λov jv u k1 r h1=>?_) he;refine zj (Fin.ite ⟨h1,hf.2⟩) λhm BF=>?_;have ro:=r.rep I.gnd.avlt;obtain⟨T,id,t1,t2,t3,q1,q2,t5⟩:=S5 hm ro;refine⟨T,id,t1,t2,t3,q1,q2,gU c4<|mI zv hA h (I.k k1) BF.b (λvs jy us k2 r1 r2 e2=>?_)<|he.back k1⟩;exact Yd.fin (t5 A jy vs _ (ro.k I.gnd.fav k2) ⟨r1,r2⟩) ⟨e2,hf.2⟩ λv s' u r e=>hq.step (k1.tr k2) r e
theorem S7{o:h_}{p:oi}(hg:AL sc "list" = â)(hh:hd=ã)(h:aJ n hd l sc σ o<|rec o):
  aJ n hd l sc σ (.Call (.Name "list" p) [.Call (.Attribute o "items" ap) as [] cp] [] pos) (Co rec o ap cp as):=by
 intro A env s av hA I β k fin Q E hf hq he;cases as with
 |cons=>exact hf.no.elim
 |nil=>
  refine zj (Fin.ite hf) λhc hf=>og rfl (eT I hg rfl (jS (.inr ⟨_,rfl⟩)<|gt (sE hc.1 "items" env) (mM rfl (ay _) cp env) hc.2<|h A env s av hA I hf.b (λov jv u k1 r h1=>?_) he));have ro:=r.rep I.gnd.avlt;generalize Zp u=d at ro h1;cases d with
  |dict l=>obtain⟨a,kvs,rfl,_,h2,_⟩:=ro.FB;exact⟨"dict","dict.items",oz,F.slot_dict_items,by kernel_rfl,h2.typeIs,wZ h2,gU rfl (cc<|Yd.fin (Sj (hA.handled hh) (I.gnd.k k1).avlt ro) ⟨h1,hf.2⟩ λv s' u r e=>hq.step k1 r e)⟩
  |_=>exact(Fin.no ⟨h1,hf.2⟩).elim
theorem S8(zv:∀e,zr e=â->rec e=.no){a:h_}{p:oi}(hg:AL sc f=â)(hb:fY f=â)(h:aJ n hd l sc σ a<|rec a)
  (hsub:∀g as AD q,a=.Call g as AD q->(∀x∈as,aJ n hd l sc σ x<|rec x)/\∀o m ap,g=.Attribute o m ap->aJ n hd l sc σ o (rec o)) :
  aJ n hd l sc σ (.Call (.Name f p) [a] [] pos) (u7 rec hd sc f a):=by
 revert zv;ext hd rec l n pos sc f σ a p
 have B:=Sx (p:=p) (pos:=pos) zv hg hb h;unfold u7;cases hv:jI a with
 |some c=>
  obtain⟨g,as,AD,cp⟩:=c;have ea:=rS hv;refine zj (hsub g as AD cp ea) λs1 s2=>?_;show aJ n hd l sc σ _ (Cr rec hd sc f a as AD cp<|vw g);cases hw:vw g with
  |name g'=>
   refine Zs (dP hw) λgp eg=>?_;intro A env s av hA I β k fin Q E hf hq he;replace hf:Fin (if g' ="set" then Cp rec hd sc f as AD else jL rec hd f a) k fin:=hf
   by_cases e:g' ="set"
   ·rw[if_pos e] at hf;refine zj (Fin.ite hf) λc BF=>?_;clear hf;cases AD with
    |cons=>exact BF.no.elim
    |nil=>refine zj c λzq c2=>?_;subst hb B c zq;subst h hsub s2 hw hv e;subst eg;subst ea;exact S1 zv hg c2 s1 A env s av hA I BF hq he
   ·rw[if_neg e] at hf;exact B A env s av hA I hf hq he
  |attr o m ap=>
   obtain eg:g=_:=dP hw;intro A env s av hA I β k fin Q E hf hq he;replace hf:Fin (if m ="items" then Cq rec hd f o ap cp as AD else jL rec hd f a) k fin:=hf
   by_cases e:m ="items"
   ·rw[if_pos e] at hf;refine zj (Fin.ite hf) λc BF=>?_;clear hf;cases AD with
    |cons=>exact BF.no.elim
    |nil=>refine zj c λzq c2=>?_;subst hb B c zq;subst h hsub hw hv e;subst eg;subst ea;exact S7 hg c2 (s2 o _ ap rfl) A env s av hA I BF hq he
   ·rw[if_neg e] at hf;exact B A env s av hA I hf hq he
  |_=>exact B
 |none=>exact B
inductive SW{α β:Type}(p:P α)(f:α->P β)(b:β):Prop where
 |mk (a:α) (h:p=.ok a) (g:f a=.ok b):SW p f b
theorem P.q0L{p:P α}{f:α->P β}{b:β}(h:p.bind f=.ok b):SW p f b:=by
 cases p with
 |no=>exact zz h
 |ok a=>exact⟨a,rfl,h⟩
theorem S9(hK:DG n C){a:h_}{x:X}{t:d_}{p:oi}(hg:AL sc "isinstance" = â)(ht:AL sc t=â)(hx:gQ sc σ a=à x):
  aJ n hd l sc σ (.Call (.Name "isinstance" p) [a,.Name t p'] [] pos) (Zy<|RO C x.cls t):=by
 intro A env s av hA I β k fin Q E hf hq he;obtain⟨u,e0,e2⟩:=hf.p;refine eG (Eh hx) λy py zq hl hs=>?_;subst hx zq;obtain⟨b,h1,e1⟩:=P.q0L e0;have h1:fJ O.main.body x.cls t=à b:=by rw[<- hK.sub];cases CW:C.sub x.cls t with
  |none=>rw[CW] at h1;exact zz h1
  |some b'=>rw[CW] at h1;replace h1:=pi h1;subst e1 h1;rfl
 unfold fJ at h1
 by_cases hc:(((bO t O.main.body).isSome||t =="ValueError")&&(bO x.cls O.main.body).isSome)=â
 case neg=>rw[if_neg hc] at h1;exact ns h1
 rw[if_pos hc] at h1;refine zj (cm.mp hc) λAK CV=>Zs (gu.mp CV) λpc hpc=>?_;obtain⟨v,HB,e,rfl,na,ob,vs,Ca,g1,g2,g3,g4,g5⟩:=I.get y (.ex x) hl hs;refine eG (I.gnd.glo.cls x.cls pc hpc) λC' bm c1 c2 c3=>?_;rw[g4] at c1;replace c1:=nr<|si c1;subst c1;refine fh<|eT I hg rfl (gU rfl ?_);refine bf (dE I hl HB<|bf ?_ rfl) rfl
 by_cases hv:t ="ValueError"
 ·rw[if_pos hv] at e1
  by_cases hb:b=â
  case neg=>rw[if_neg hb] at e1;exact zz e1
  rw[if_pos hb] at e1;replace e1:=pi e1;subst e0 e1;subst hf h1 hc AK hv;refine eT I ht rfl (cc<|c2.isv A s e ob E Q I.gnd.stay g1 g3 λtk=>?_);exact hq _ _ (.fz<|.bool â) (K.of ⟨s.heap,tk,rfl,λ_ _ e=>e⟩) (.bool _) e2
 ·rw[if_neg hv] at e1;replace e1:=pi e1;subst e0 e1;obtain AK:(bO t O.main.body).isSome=â:=by
   rcases p_ _ _▸AK with h|h
   ·exact h
   ·exact absurd (eq_of_beq h) hv
  refine Zs (gu.mp AK) λpd ξ=>eG (I.gnd.glo.cls t pd ξ) λD GR d1 d2 d3=>iP I ht d1<|cc<|c2.isi A s e ob D GR b E Q I.gnd.stay g1 g3 d2.obj ((c3 t pd D ξ d1).trans (si h1)) λtk=>?_;exact hq _ _ (.fz<|.bool b) (K.of ⟨s.heap,tk,rfl,λ_ _ e=>e⟩) (.bool _) e2
theorem Ta(hK:DG n C)(zv:∀e,zr e=â->rec e=.no){p:oi}(hg:AL sc "isinstance" = â)(h:∀e∈as,aJ n hd l sc σ e<|rec e):
  aJ n hd l sc σ (.Call (.Name "isinstance" p) as [] pos) (Ct rec C sc σ as):=by
 intro A env s av hA I β k fin Q E hf hq he;cases as with
 |nil=>exact hf.no.elim
 |cons a r=>
  cases r with
  |nil=>exact hf.no.elim
  |cons b r=>
   replace hf:Fin (Cs rec C sc σ a r<|bT b) k fin:=hf;refine zn (bT b) (λhn=>?_) λt hn=>?_
   ·rw[hn] at hf;exact hf.no.elim
   ·rw[hn] at hf;cases r with
    |cons=>exact hf.no.elim
    |nil=>
     refine zj (Fin.ite hf) λht BF=>Zs (eJ hn) λq zq=>?_;subst hn zq;refine zn (gQ sc σ a) (λhx=>?_) λx hx=>?_
     ·rw[hx] at BF;exact S0 zv hg ht (h a ag) A env s av hA I BF hq he
     ·rw[hx] at BF;exact S9 hK hg ht hx A env s av hA I BF hq he
theorem Tc(hK:DG n C)(zv:∀e,zr e=â->rec e=.no){p:oi}
  (h:∀e∈as,aJ n C.hd l sc σ e<|rec e)
  (hsub:∀a∈as,∀g bs AD q,a=.Call g bs AD q->(∀x∈bs,aJ n C.hd l sc σ x<|rec x)/\∀o m ap,g=.Attribute o m ap->aJ n C.hd l sc σ o (rec o)):aJ n C.hd l sc σ (.Call (.Name f p) as [] pos)<|jM rec C sc σ f as:=by
 intro A env s av hA I β k fin Q E ZK hq he;refine zj (Fin.ite ZK) λhg hf=>?_;clear ZK
 by_cases e:f ="isinstance"
 ·rw[if_pos e] at hf;subst e;exact Ta hK zv hg h A env s av hA I hf hq he
 rw[if_neg e] at hf
 by_cases e:f ="min"
 ·rw[if_pos e] at hf
  by_cases c:as.any zr=â\/C.hd=â
  ·rw[if_pos c] at hf;exact hf.no.elim
  ·rw[if_neg c] at hf;simp only[not_or,pq] at c;subst e;exact Sz zv hg c.1 c.2 h A env s av hA I hf hq he
 rw[if_neg e] at hf
 by_cases hb:fY f=â
 ·rw[if_pos hb] at hf;cases as with
  |nil=>exact hf.no.elim
  |cons a r=>
   cases r with
   |cons=>exact hf.no.elim
   |nil=>exact S8 zv hg hb (h a ag) (hsub a ag) A env s av hA I hf hq he
 rw[if_neg hb] at hf
 by_cases c:as.any zr=â\/C.has f=ã
 ·rw[if_pos c] at hf;exact hf.no.elim
 ·rw[if_neg c] at hf;simp only[not_or,pq,rj] at c;exact Su hK zv hg c.1 c.2 h A env s av hA I hf hq he
end
section
def PR(h:mj)(av:f_->Prop):List (b_×b_)->List (a_×a_)->Prop
 | [],[]=>True
 |kv::r,d::t=>Zu h av kv.1 d.1/\Zu h av kv.2 d.2/\PR h av r t
 |_,_=>False
def sF(env:nt)(pos:oi):List (Option h_)->List h_->List (Sem b_×Sem b_)
 |some k::ks,e::es=>(eval k env,(do let x <- eval e env;standAt pos;pure x))::sF env pos ks es
 |_,_=>[]
theorem E7(env:nt)(pos:oi):∀{ks:List<|Option h_} {es:List h_},ks.all qk=â->ks.length=es.length ->
  (evalEachOpt ks env).zip ((evalEach es env).map λv=>do let x <- v;standAt pos;pure x)=(sF env pos ks es).map (λp=>(à p.1,p.2))/\(sF env pos ks es).length=es.length
 | [],[],_,_=>⟨rfl,rfl⟩
 | [],_::_,_,h=>by cases h
 |_::_,[],_,h=>by cases h
 |none::ks,e::es,h,_=>by exact zk h
 |some k::ks,e::es,h,h'=>by exact zj (E7 env pos (ks:=ks) (es:=es) h<|Nat.succ.inj h') λi1 i2=>⟨congrArg ((à<|eval k env,_)::·) i1,congrArg qh i2⟩
theorem Td(hA:AI n hd l A):∀{ks:List<|Option h_} {es:List h_} {s:c_},(∀k,à k∈ks->aJ n hd l sc σ k (rec k)) ->
  (∀e∈es,aJ n hd l sc σ e<|rec e)->AW l env sc σ av s ->
  ∀{β:Type} {k:List (a_×a_)->R β} {fin:R β} {Q:List (b_×b_)->c_->Prop} {E:b_->c_->Prop},Fin (qV rec ks es) k fin->(∀vs s' ds,K l s s'->PR s'.heap av vs ds->ds.length=es.length->k ds=fin->Q vs s')->EH l s av fin E ->
   i' (i_ O w) A (evalPairs<|sF env pos ks es) Q E s
 :=by
 intro ks;induction ks with
 |nil=>
  intro es s _ _ _ β k fin Q E hf hq _;cases es with
  |nil=>exact evalPairs_nil<|hq _ _ [] (K.rf l s) trivial rfl hf.ok
  |cons=>exact hf.no.elim
 |cons ko ks ih=>
  intro es s hk he I β k fin Q E hf hq hE;cases ko with
  |none=>
   cases es with
   |nil=>exact hf.no.elim
   |cons=>exact hf.no.elim
  |some kx=>
   cases es with
   |nil=>exact hf.no.elim
   |cons e es=>refine evalPairs_cons<|hk kx ag A env s av hA I (Fin.b hf) (λkv jv u k1 r h1=>?_) hE;have I1:=I.k k1;refine ac<|he e ag A env jv av hA I1 (Fin.b ⟨h1,hf.2⟩) (λvv jy u2 k2 r2 h2=>ac<|ck<|ae ?_)<|hE.back k1;refine ih (λx hx=>hk x<|af _ hx) (λx hx=>he x<|af _ hx) (I1.k k2) (Fin.b ⟨h2,hf.2⟩) (λvs kc ds k3 r3 hl h3=>?_)<|hE.back<|k1.tr k2;exact hq _ _ ((Zp u,Zp u2)::ds) ((k1.tr k2).tr k3) ⟨((r.rep I.gnd.avlt).k I.gnd.fav k2).k I.gnd.fav k3,(r2.rep I1.gnd.avlt).k I.gnd.fav k3,r3⟩ (congrArg qh hl) h3
theorem cM.mono(hk:∀b o,h.get? b=à o->h'.get? b=à o)(ha:∀b o,h.get? b=à o->av' b->av b)(r:cM l h av v u):cM l h' av' v u:=by
 cases u with
 |fz d=>exact(show Zu h av v d from r).mono (λb o _ e=>hk b o e) ha
 |own d=>refine bN r λa e f r=>?_;exact⟨a,e,f,r.mono (λb o _ e=>hk b o e) ha λo e=>hk _ o e⟩
 |dp d=>exact(show Zu h av v d from r).mono (λb o _ e=>hk b o e) ha
 |ex x=>refine aD r λe h r=>?_;exact⟨e,h,r.mono (λb o _ e=>hk b o e) ha⟩
theorem aW.keeps{u:b_}(v:aW env h x u)(hk:∀b o,h.get? b=à o->h'.get? b=à o):aW env h' x u:=by
 rcases v with ⟨k,m,hn,e⟩|⟨k,c,e,hc⟩
 ·exact .inl ⟨k,m,hn.keeps hk,e⟩
 ·exact .inr ⟨k,c,e,hc.keeps hk⟩
theorem CQ.apart(G:CQ l av s)(o:tg)(ho:o.isFreed=ã):CQ l (λb=>av b\/b=s.heap.objs.size) {s with heap:=s.heap.push o} where
 glo:=G.glo
 stay:=λb o e=>ah _ (G.stay b o e)
 ff:=(G.k<|K.of<|Kp.IL s o).ff
 fav:=λb f=>.inl (G.fav b f)
 avlt:=λb hb=>hb.elim (λhb=>by refine Zs (G.avlt b hb) λo e=>?_;exact⟨o,ah _ e⟩) λhb=>⟨o,hb▸dA _ _ ho⟩
 avS:=.inl G.avS
theorem AW.apart(I:AW l env sc σ av s)(o:tg)(ho:o.isFreed=ã):
  AW l env sc σ (λb=>av b\/b=s.heap.objs.size) {s with heap:=s.heap.push o}:=
 {I with
  gnd:=I.gnd.apart o ho
  get:=λx v hl e=>let ⟨u,h1,h2⟩:=I.get x v hl e
   ⟨u,h1.keeps λb o e=>ah _ e,h2.mono (λb o e=>ah _ e) λb o e hb=>hb.elim id λhb=>by (rw[hb,bU] at e;exact ns e)⟩}
theorem EU.less{N:f_->Prop}(ha:∀b,av' b->av b){e:f_}{x:X}(r:EU h av N e x):EU h av' N e x:=r.mono (λ_ _ _ e=>e) λb _ _ x=>ha b x
theorem EH.apart{fin:R β}(h:EH l s av fin E)(o:tg):EH l {s with heap:=s.heap.push o} (λb=>av b\/b=s.heap.objs.size) fin E:=
 λx v s'' e f=>h x v s'' e (by obtain⟨k',e,h1,h2,h3,h4⟩:=f;exact FL.back (K.of<|Kp.IL s o) ⟨k',e,h1,h2,h3.less λ_ x=>.inl x,h4⟩)
theorem Te:∀{vs:List<|Value×b_} {ds:List<|PyData×a_} {ps:List<|Str×a_},PR h av vs ds->DX ds=à ps->(∃kvs,Carries (mc O w) vs kvs/\PS h av kvs ps)/\ps.length=ds.length
 :=by
 intro vs;induction vs with
 |nil=>
  intro ds ps x e;cases ds with
  |nil=>replace e:=si e;subst e;exact⟨⟨[],trivial,trivial⟩,rfl⟩
  |cons=>exact x.elim
 |cons p vs ih=>
  obtain⟨key,v⟩:=p;intro ds ps x e;cases ds with
  |nil=>exact x.elim
  |cons q ds=>
   obtain⟨dk,d⟩:=q;refine bP x λx1 x2 x3=>?_;cases dk with
   |str k=>obtain⟨t,e1,hk⟩:=x1.str_inv;obtain rfl:=e1;refine aD (az.mp (e:(DX ds).map ((k,d)::·)=à ps)) λIK e' zq=>?_;subst e zq;refine zj (ih x3 e') λzt y3=>?_;obtain⟨kvs,y1,y2⟩:=zt;exact⟨⟨(k,v)::kvs,⟨fL k t,rfl,y1⟩,rfl,hk,x2,y2⟩,congrArg qh y3⟩
   |_=>exact ns e
theorem K.but{jv:c_}(k:K l {s with heap:=s.heap.push o} jv)(hs:mq s.heap.objs.size jv.heap h'):K l s {jv with heap:=h',toks:=tk}:=by
 obtain⟨hh,tt,rfl,kk,uu⟩:=k;have ne:∀b o',s.heap.get? b=à o'->b≠s.heap.objs.size:=λb o' e x=>by rw[x,bU] at e;exact ns e
 refine⟨h',tk,rfl,λb o' f e=>?_,λb o' e=>?_⟩
 ·rw[hs.2 b<|ne b o' e];exact kk b o' f<|ah _ e
 ·rw[hs.2 b<|ne b o' e];exact uu b o'<|ah _ e
theorem Tf(hs:mq D h h'):∀b o,¬(av b\/b=D)->h.get? b=à o->h'.get? b=à o:=λb o hb e=>by rw[hs.2 b λx=>hb<|.inr x];exact e
theorem Th{ks:List<|Option h_}(hk:∀k,à k∈ks->aJ n hd l sc σ k (rec k))(he:∀e∈es,aJ n hd l sc σ e<|rec e):
  aJ n hd l sc σ (.Dict ks es pos) (if ks.all qk=â/\ks.length=es.length/\es.length<=15 then rb (qV rec ks es) λl=>Zy (lW l) else .no):=by
 intro A env s av hA I β k fin Q E hf hq hE;refine zj (Fin.ite hf) λzt hf=>?_;obtain⟨c1,c2,c3⟩:=zt;refine zj (E7 env pos c1 c2) λg1 g2=>?_;cases es with
 |nil=>obtain rfl:=List.length_eq_zero_iff.mp c2;exact wpAny_Dict_empty<|hq.step (u:=.own<|.dict []) (K.rf l s) (Ez (kvs:=[]) (ps:=[]) (BE s) (Kp.IL s _) (bU _) (oS I.gnd) (re s.heap) (ay _) trivial) hf.1
 |cons e es=>
  refine wpAny_Dict_pairs (knd:=mc O w) g1 (λh=>by rw[h] at g2;cases g2) (g2.symm▸c3)<|Td hA hk he (I.apart _ rfl) hf.b (λvs jv ds k1 r hl h1=>?_)<|hE.apart _;obtain⟨v,e1,e2⟩:=Fin.p ⟨h1,hf.2⟩;unfold lW at e1;refine zn (DX ds) (λFG=>?_) λps FG=>?_
  ·rw[FG] at e1;exact zz e1
  ·rw[FG] at e1;replace e1:=pi e1;subst e1;refine zj (Te r FG) λzt q3=>?_;obtain⟨kvs,q1,q2⟩:=zt;obtain OH:jv.heap.DictOf (mc O w) s.heap.objs.size []:=by
    exact dN (re (knd:=mc O w) s.heap) λo es ep e r=>⟨o,es,ep,k1.at (λf=>by refine Zs (I.gnd.avlt _<|I.gnd.fav _ f) λo e=>?_;rw[bU] at e;exact ns e) e,r⟩
   refine⟨kvs,q1,OH,λh' hd hs=>hq _ _ (.own<|.dict<|eB ps []) (K.but k1 hs) ?_ e2⟩;refine zj (KV.R' q2 (acc:=[]) fg (show KV jv.heap _ [] [] from trivial) nofun) λy1 y2=>?_;have ED:=(y1.mono (h':=h') (av':=λb=>av b\/b=s.heap.objs.size) (Tf hs) λ_ _ _ x=>x).out;refine⟨s.heap.objs.size,rfl,bU _,merged [] kvs,hd,⟨aa (s_ [] kvs) ?_,y2⟩,oS I.gnd,ED.1,ED.2⟩;rw[q2.length,q3,hl];exact aa (by simpa using c3) (by decide:15<=g_)
end
section
structure JR(A:mz)(h0:mj)(GQ:f_->Prop)(target:h_)(it:b_)(wr:f_->Prop)(St:Nat->mj->Prop)(ds:List a_):Prop where
 live:∀i h,St i h->∀b,wr b->∃o,h.get? b=à o
 frame:∀i h h',St i h->(∀b o,wr b->h.get? b=à o->h'.get? b=à o)->(∀b o,h0.get? b=à o->¬GQ b->h'.get? b=à o)->St i h'
 item:∀i d (s:c_) (E:b_->c_->Prop) (Q:b_->c_->Prop),ds[i]?=à d->St i s.heap ->
  (∀v h' tk,(∀b o,¬wr b->s.heap.get? b=à o->h'.get? b=à o)->St (i+1) h' ->
   (∀CJ:f_->Prop,(∀b,CJ b->∃o,s.heap.get? b=à o)->(∀b o,h0.get? b=à o->CJ b->GQ b)->Zu h' CJ v d)->Q v {s with heap:=h',toks:=tk}) ->
  i' (i_ O w) A (pyNext it) (λr jv=>match r with | none=>False | some v=>i' (i_ O w) A (letOwnedTupleGo target it v) (λ_ jy=>Q v jy) E jv) E s
 done:∀(s:c_) (E:b_->c_->Prop) (Q:c_->Prop),St ds.length s.heap->(∀h' tk,(∀b o,¬wr b->s.heap.get? b=à o->h'.get? b=à o)->Q {s with heap:=h',toks:=tk}) ->
  i' (i_ O w) A (pyNext it) (λr jv=>match r with | none=>Q jv | some _=>False) E s
 self:∀i (s:c_) (Q:b_->c_->Prop) (E:b_->c_->Prop),St i s.heap->Q it s->i' (i_ O w) A (pyIter it) Q E s
def w0(n:String):Bool:=["enumerate","zip","dict_itemiterator","dict_reverseitemiterator","odict_iterator","itertools.zip_longest","itertools.pairwise"].contains n
theorem Ti{n:String}{Q:Unit->c_->Prop}(hI:s.heap.get? I=à o)(hc:o.cls=.type n)(hn:w0 n=ã)(h:Q () s):
  i' M A (letOwnedTupleGo target (.ref I) v) Q E s:=by
 have key:i' M A (match (mr I,v) with
  | (.ref r,.ref a)=>(do
   let o <- load r
   match o.cls,o.data with
   | .type n,.fields vs=>if ["enumerate","zip","dict_itemiterator","dict_reverseitemiterator","odict_iterator","itertools.zip_longest","itertools.pairwise"].contains n&&vs[0]?==à (rawInt a) then do
     rule "for.unpacks-the-owned-tuple"; updateField r 0 .none else pure ()
   |_,_=>pure ():Sem Unit)
  |_=>pure ()) Q E s:=by
  cases v with
  |ref a=>refine ac<|wpAny_load hI ?_;rw[hc];cases o.data<;>first | exact ae h | skip;have:["enumerate","zip","dict_itemiterator","dict_reverseitemiterator","odict_iterator","itertools.zip_longest","itertools.pairwise"].contains n=ã:=hn;simp only[this,Bool.false_and,Bool.false_eq_true,if_false];exact ae h
  |_=>exact ae h
 cases target with
 |Tuple=>exact key
 |List=>exact key
 |_=>exact ae h
theorem E8{ds:List α}{d:α}(h:ds[i]?=à d):i<ds.length:=(bw.mp h).1
theorem JR.ofWalks{h0:mj}{P:Nat->b_->Prop}(W:Walks O w A I fp [I] n P KO)(hn:n=ds.length)
  (MF:∀b∈fp,b=I\/((∃o,h0.get? b=à o)/\¬GQ b)) (ID:∀i h,KO i h->∃o T,h.get? I=à o/\o.cls=.type T/\w0 T=ã)
  (UE:h0.get? I=á) (hP:∀i v d,P i v->ds[i]?=à d->Zu h0 GQ v d) :
  JR A h0 GQ target (.ref I) (λb=>b=I) (λi h=>KO i h/\∀b o,h0.get? b=à o->¬GQ b->h.get? b=à o) ds where
 live:=λi h st b hb=>by refine cL (ID i h st.1) λo T e _=>?_;exact⟨o,(hb:b=I)▸e⟩
 frame:=λi h h' st hk LA=>⟨W.frame i h h' st.1 λb hb o e=>by
  rcases MF b hb with rfl|⟨⟨o',e'⟩,BY⟩
  ·exact hk b o rfl e
  ·have:=st.2 b o' e' BY;rw[e] at this;replace this:=si this;subst this;exact LA b o e' BY,LA⟩
 item:=λi d s E Q hd st hQ=>by refine W.item i s _ E (hn▸E8 hd) st.1 λv h' tk hPv AU hk=>eG (ID _ _ AU) λo T e1 e2 e3=>?_;have AX:∀b o,¬(b=I)->s.heap.get? b=à o->h'.get? b=à o:=λb o hb e=>hk b o (λh=>hb<|List.mem_singleton.mp h) e;have OP:∀b o,h0.get? b=à o->¬GQ b->h'.get? b=à o:=λb o e BY=>AX b o (λx=>by rw[x,UE] at e;exact ns e)<|st.2 b o e BY;refine Ti (s:={s with heap:=h',toks:=tk}) e1 e2 e3<|hQ v h' tk AX ⟨AU,OP⟩ λCJ RE hsub=>?_;exact(hP i v d hPv hd).mono (λb o hb e=>OP b o e hb) hsub
 done:=λs E Q st hQ=>W.done s _ E (hn▸st.1:KO n s.heap) λh' tk hk=>hQ h' tk λb o hb e=>hk b o (λh=>hb<|List.mem_singleton.mp h) e
 self:=λi s Q E st hQ=>W.self i s Q E st.1 hQ
inductive LO(A:mz)(l:List nt)(target:h_)(s:c_)(av:f_->Prop)(it:b_)(s':c_)(ds:List a_):Prop where
 |mk (jv wr St) (a:K l s jv) (b:JR A jv.heap av target it wr St ds) (c:St 0 s'.heap) (d:∀b,wr b->jv.heap.get? b=á/\∃o,s'.heap.get? b=à o) (e:Kp jv s') (f:ds.length<=g_):LO A l target s av it s' ds
theorem oV(e:h.get? a=à o):a≠h.objs.size:=λx=>by rw[x,bU] at e;exact ns e
theorem mO(k0:K l jw s)(ho:o.isFreed=ã){P:Nat->b_->Prop}
  (W:Walks O w A s.heap.objs.size fp [s.heap.objs.size] n P KO) (hn:n=ds.length) (hz:ds.length<=g_)
  (MF:∀b∈fp,b=s.heap.objs.size\/((∃o,s.heap.get? b=à o)/\¬av b)) (ID:∀i h,KO i h->∃o T,h.get? s.heap.objs.size=à o/\o.cls=.type T/\w0 T=ã)
  (hP:∀i v d,P i v->ds[i]?=à d->Zu s.heap av v d) (AP:KO 0<|s.heap.push o) :
  LO A l target jw av (.ref s.heap.objs.size) {s with heap:=s.heap.push o} ds:=
 ⟨s,_,_,k0,JR.ofWalks W hn MF ID (bU _) hP,⟨AP,λb o' e _=>ah _ e⟩,λb hb=>(hb:b=s.heap.objs.size)▸⟨bU _,o,dA _ _ ho⟩,Kp.IL s o,hz⟩
theorem TX(e:s.heap.get? a=à o)(h1:¬av a):∀b∈[s.heap.objs.size,a],b=s.heap.objs.size\/((∃o,s.heap.get? b=à o)/\¬av b):=λb hb=>by
 rcases List.mem_cons.mp hb with hb|hb
 ·exact .inl hb
 ·exact .inr<|List.mem_singleton.mp hb▸⟨⟨_,e⟩,h1⟩
theorem E9(k0:K l jw s)(hh:A.handled=á)(r:Zu s.heap av v d)(hi:items d=.ok ds)
  {Q:b_->c_->Prop} {E:b_->c_->Prop} (hq:∀it s',LO A l target jw av it s' ds->Q it s'):i' (i_ O w) A (pyIter v) Q E s:=by
 cases d with
 |list dl=>
  replace hi:=pi hi;subst hi;obtain⟨a,vs,zq,h1,⟨n,e⟩,h3,h4,h5⟩:=r.DY;subst r zq;exact iw ⟨_,e,rfl,_,rfl⟩ (hq _ _ (mO k0 rfl (vy hh s.heap.objs.size a (oV e) vs.toArray) (by simpa using h3) (h3▸h4) (TX e h1) (λi h st=>by refine zj st λzt _=>?_;obtain⟨o,e,c,_⟩:=zt;exact⟨o,_,e,c,by decide⟩)
   (λi v d hP hd=>h5 i v d (by simpa using hP) hd) ⟨⟨_,dA _ _ rfl,rfl,rfl⟩,⟨_,ah _ e,rfl,_,rfl⟩⟩))
 |tuple dl=>
  replace hi:=pi hi;subst hi;obtain⟨a,vs,zq,h1,⟨n,e⟩,h3,h4,h5⟩:=r.HM;subst r zq;exact wpAny_pyIter_tuple ⟨_,e,rfl,_,rfl⟩ (hq _ _ (mO k0 rfl (Walks.tuple hh s.heap.objs.size a (oV e) vs.toArray) (by simpa using h3) (h3▸h4) (TX e h1) (λi h st=>by refine zj st λzt _=>?_;obtain⟨o,e,c,_⟩:=zt;exact⟨o,_,e,c,by decide⟩)
   (λi v d hP hd=>h5 i v d (by simpa using hP) hd) ⟨⟨_,dA _ _ rfl,rfl,rfl⟩,⟨_,ah _ e,rfl,_,rfl⟩⟩))
 |dict dl=>
  replace hi:=pi hi;subst hi;obtain⟨a,kvs,zq,h1,⟨o,es,ep,e,hd⟩,h3,h4,h5,h6⟩:=r.FB;subst r zq;have hl:dl.length=kvs.length:=by simpa using congrArg nq h5
  refine wpAny_pyIter_dict (knd:=mc O w) (kvs:=kvs) (ep:=ep) h4 ⟨o,es,e,hd⟩ (hq _ _ (mO k0 rfl (Walks.dictKeys (knd:=mc O w) hh s.heap.objs.size a (oV e) kvs ep) (by simp[hl]) (by simpa[hl] using h3.1) (TX e h1) (λi h st=>by refine zj st λzt _=>?_;obtain⟨o,e,c,_⟩:=zt;exact⟨o,_,e,c,by decide⟩)
   (λi v d hP hd=>?_) ⟨⟨_,dA _ _ rfl,rfl,rfl⟩,⟨o,es,ah _ e,hd⟩⟩))
  refine cL hP λk x e3 e4=>Zs (qt e4) λt zq=>?_;subst hP e4 zq;rw[h5,lz,e3] at hd;replace hd:=si hd;subst hd;exact .str k t<|h3.2 _<|bq e3
 |str x=>
  replace hi:=pi hi;subst hi;obtain⟨t,zq,hx⟩:=r.str_inv;subst r zq;refine wpAny_pyIter_strU<|hq _ _ ?_;have hP:∀(i:Nat) (v:b_) (d:a_),SignAt x i v->(x.cps.toList.map cQ)[i]?=à d->Zu s.heap av v d:=λi v d hP hd=>by refine cL hP λc u e1 zq=>?_;subst hP zq;rw[lz,xf,e1] at hd;replace hd:=si hd;subst hd;exact .str _ u (by rw[nh];exact iq rfl)
  have MF:∀b∈[s.heap.objs.size],b=s.heap.objs.size\/((∃o,s.heap.get? b=à o)/\¬av b):=λb hb=>.inl<|List.mem_singleton.mp hb;have hz:(x.cps.toList.map cQ).length<=g_:=by simpa using (show x.cps.size<=g_ from hx)
  by_cases ha:x.cps.all (· < 128)=â
  ·rw[show strIterType x ="str_ascii_iterator" from if_pos ha];exact mO k0 rfl (Walks.strAscii hh s.heap.objs.size x t) (by simp) hz MF (λi h st=>by refine bN st λo e c _=>?_;exact⟨o,_,e,c,by decide⟩) hP ⟨_,dA _ _ rfl,rfl,rfl⟩
  ·rw[show strIterType x ="str_iterator" from if_neg ha];exact mO k0 rfl (Walks.strWide hh s.heap.objs.size x t) (by simp) hz MF (λi h st=>by refine bN st λo e c _=>?_;exact⟨o,_,e,c,by decide⟩) hP ⟨_,dA _ _ rfl,rfl,rfl⟩
 |_=>exact zz hi
end
section
theorem Fa:∀(n:Nat) (a:Int) (i:Nat) (d:a_),(fW a n)[i]?=à d->d=.int (a+i)
 |0,a,i,d,h=>by exact ns h
 |n+1,a,0,d,h=>by obtain rfl:=si h;rw[show a+((0:Nat):Int)=a from ux a]
 |n+1,a,i+1,d,h=>by rw[Fa n (a+1) i d h];congr 1;push_cast;exact A5
theorem Fb:∀(n:Nat) (a:Int),(fW a n).length=n:=by
 intro v0;induction v0 with
 |zero=>intro _;exact rfl
 |succ n ih=>intro a;exact congrArg qh<|ih<|a+1
theorem Tj{r:f_}{b:Int}{t u v:vg}(k0:K l jw s)(hh:A.handled=á)(hr:IsRange s.heap r 0 b 1 t u v)(h4:b<=4096)
  {Q:b_->c_->Prop} {E:b_->c_->Prop} (hq:∀it s',LO A l target jw av it s' (fW 0 b.toNat)->Q it s') (hb:-10000<=b):i' (i_ O w) A (pyIter<|.ref r) Q E s:=by
 have CL:Builtin.Range.rangeSize 0 b 1=(b.toNat:Int):=by
  rw[rangeSize_one]
  split<;>lia
 obtain hsm:vx 0 b 1=â:=by
  unfold vx;rw[CL];have f:∀i:Int,-10000<=i->i<=10000->tw i=â:=λi q1 q2=>by unfold tw;rw[ml,decide_eq_true_eq];lia
  rw[f 0 (by lia) (by lia),f b hb (by lia),f 1 (by lia) (by lia),f _ (by lia)<|by lia];simp only[(by lia:((1:Int) > 0)),if_true,Bool.and_self,Bool.true_and];rw[f (b+(1 - 1)) (by exact K6 hb)<|by exact K7 h4];simp
 refine wpAny_pyIter_range hr hsm<|hq _ _<|mO k0 rfl (Walks.range hh s.heap.objs.size 0 1 b.toNat) (by rw[Fb]) (by rw[Fb,nh];exact K8 h4) (λx hx=>.inl<|List.mem_singleton.mp hx) (λi h st=>⟨_,_,st,rfl,by decide⟩) (λi v d hP hd=>?_) ?_
 ·refine Zs hP λt zq=>?_;subst zq;rw[Fa _ _ _ _ hd,Int.mul_one];exact .int _ _
 ·show(s.heap.push _).get? _=_;rw[dA _ _ rfl,CL];simp
def oW(n:Nat)(hd:Bool)(l:List nt)(sc:mh)(σ:aA)(target e:h_)(r:R<|List a_):Prop:=
 ∀(A:mz) (env:nt) (s:c_) (av:f_->Prop),AI n hd l A->AW l env sc σ av s ->
  ∀{β:Type} {k:List a_->R β} {fin:R β} {Q:b_->c_->Prop} {E:b_->c_->Prop},Fin r k fin->(∀it s' ds,LO A l target s av it s' ds->k ds=fin->Q it s')->EH l s av fin E ->
   i' (i_ O w) A (eval e env) (λx jv=>i' (i_ O w) A (pyIter x) Q E jv) E s
theorem Tk(hh:hd=ã)(h:aJ n hd l sc σ e<|rec e):oW n hd l sc σ target e<|lY rec e:=by intro A env s av hA I β k fin Q E hf hq he;refine h A env s av hA I (Fin.b hf) (λv jv u k1 r h1=>?_) he;obtain⟨ds,e1,e2⟩:=Fin.p ⟨h1,hf.2⟩;exact E9 k1 (hA.handled hh) (r.rep I.gnd.avlt) e1 λit s' x=>hq _ _ _ x e2
theorem Tl{a:h_}{p q:oi}(zv:∀e,zr e=â->rec e=.no)(hh:hd=ã)(hg:AL sc "range" = â)(h:aJ n hd l sc σ a<|rec a):
  oW n hd l sc σ target (.Call (.Name "range" p) [a] [] q) (u0 rec a):=by
 intro A env s av hA I β k fin Q E hf hq he;refine og (eD<|gR (zv a) (Fin.b hf).ne)<|eT I hg rfl (jS (.inr ⟨_,rfl⟩)<|h A env s av hA I (Fin.b hf) (λv jv u k1 r h1=>?_) he);obtain⟨ds,e1,e2⟩:=Fin.p ⟨h1,hf.2⟩;refine RZ (kK u) (λhu=>?_) λd hu=>?_
 ·rw[hu] at e1;exact zz e1
 ·rw[hu] at e1;clear h1;cases wY hu;cases d with
  |int i=>
   refine Zs ((r:Zu jv.heap av v<|.int i).int_inv) λt zq=>?_;subst r zq;have e1:(if -4096<=i/\i<=4096 then P.ok (fW 0 i.toNat) else .no)=.ok ds:=e1
   by_cases hc:-4096<=i/\i<=4096
   ·rw[if_pos hc] at e1;replace e1:=pi e1;subst e1;refine call_range_1 ?_;exact Tj (k1.GP<|Kp.mk' λb o e=>ah _ e) (hA.handled hh) (dA _ _ rfl) hc.2 (λit s' x=>hq _ _ _ x e2) (by exact K9 hc)
   ·rw[if_neg hc] at e1;exact zz e1
  |_=>exact zz e1
theorem Fc:∀(l:List a_) (a:Int) (i:Nat) (d:a_),(eA a l)[i]?=à d->∃x,l[i]?=à x/\d=.tuple [.int<|a+i,x]
 | [],a,i,d,h=>by exact ns h
 |x::l,a,0,d,h=>by obtain rfl:=si h;exact⟨x,rfl,by rw[show a+((0:Nat):Int)=a from ux a]⟩
 |x::l,a,i+1,d,h=>by
  refine aD (Fc l (a+1) i d h) λy h1 h2=>⟨y,h1,?_⟩
  rw[h2,show a+1+(i:Int)=a+((i+1:Nat):Int) by push_cast;exact A5]
theorem xA:∀(l:List a_) (a:Int),(eA a l).length=l.length:=by
 intro v0;induction v0 with
 |nil=>intro _;exact rfl
 |cons x l ih=>intro a;exact congrArg qh<|ih<|a+1
theorem Tm{elts:List h_}{vs:List b_}{m:List a_}{old:b_}(k0:K l jw s)(hh:A.handled=á)(e:s.heap.get? ad=à {cls:=.type "list",data:=.seq vs.toArray nn})(h1:¬av ad)
  (h3:vs.length=m.length) (h4:vs.length<=g_) (h5:∀(i:Nat) (v:b_) (d:a_),vs[i]?=à v->m[i]?=à d->Zu s.heap av v d)
  (he:IsEnum h' (s.heap.objs.size+1) s.heap.objs.size 0 old) (CE:h'.IsListIter s.heap.objs.size ad 0) (hk:∀b o,s.heap.get? b=à o->h'.get? b=à o) :
  LO A l (.Tuple elts kk pos) jw av (.ref<|s.heap.objs.size+1) {s with heap:=h'} (eA 0 m):=by
 have ZD:=ci e;have ZJ:s.heap.objs.size+1≠s.heap.objs.size:=fe<|fk _;have hle:ad≠s.heap.objs.size+1:=cb<|iz ZD;have OQ:ad≠s.heap.objs.size:=cb ZD;have hn:∀b,(b=s.heap.objs.size+1\/b=s.heap.objs.size)->s.heap.get? b=á:=λb hb=>hb.elim (λx=>x▸dh (ao _)) λx=>x▸bU _;refine⟨s,λb=>b=s.heap.objs.size+1\/b=s.heap.objs.size,λi h=>(∃old,IsEnum h (s.heap.objs.size+1) s.heap.objs.size i old)/\h.IsListIter s.heap.objs.size ad i/\∀b o,s.heap.get? b=à o->¬av b->h.get? b=à o,k0,
  ⟨λi h st b hb=>?_,λi h g st AX LA=>?_,λi d jv E Q hd st hQ=>?_,λjv E Q st hQ=>?_,λi jv Q E st hQ=>?_⟩,⟨⟨old,he⟩,CE,λb o e _=>hk b o e⟩,λb hb=>⟨hn b hb,?_⟩,Kp.MX hk,by rw[xA,<- h3];exact h4⟩
 ·refine bP st λzt HP _=>?_;obtain⟨old,he⟩:=zt;obtain⟨o,CE,_⟩:=HP;rcases hb with rfl|rfl
  ·exact⟨_,he⟩
  ·exact⟨o,CE⟩
 ·refine bP st λzt CE hl=>?_;obtain⟨old,he⟩:=zt;exact⟨⟨old,AX _ _ (.inl rfl) he⟩,CE.at λo x=>AX _ o (.inr rfl) x,LA⟩
 ·refine bP st λzt CE hl=>?_;obtain⟨old,he⟩:=zt;have ZS:i<vs.length:=by have:=E8 hd;rw[xA] at this;rw[h3];exact this
  have hx:vs.toArray[i]?=à vs[i]:=by simp[ZS]
  refine wpAny_pyNext_enum_item he CE (⟨_,hl ad _ e h1,rfl,_,rfl⟩) hx ZJ λh2 ho q0Y hT CL BO=>wpAny_letOwnedTupleGo_enum ho λUC RD AZ=>?_;have kept:∀b o,¬(b=s.heap.objs.size+1\/b=s.heap.objs.size)->jv.heap.get? b=à o->UC.get? b=à o:=λb o hb e=>(AZ.2 b λx=>hb<|.inl x).trans (BO b o (λx=>hb<|.inl x) (λx=>hb<|.inr x) e);have Ξ:∀b o,s.heap.get? b=à o->¬av b->UC.get? b=à o:=λb o e BY=>kept b o (λhb=>by rw[hn b hb] at e;exact ns e)<|hl b o e BY;refine hQ (.ref jv.heap.objs.size) UC _ kept ⟨⟨_,by simpa using RD⟩,q0Y.at λo y=>(AZ.2 _ ZJ.symm).trans y,Ξ⟩ λCJ RE hsub=>aD (Fc _ _ _ _ hd) λy hy zq=>?_;subst hd hQ zq;refine Zu.tuple (vs:=[.int i jv.toks,vs[i]]) (λhx=>?_) ⟨_,(AZ.2 _<|fe<|ci he).trans hT⟩ rfl (by rw[nh];exact iq rfl) λj v e e2 e3=>?_
  ·refine Zs (RE _ hx) λo e=>?_;rw[bU] at e;exact ns e
  ·match j,e2,e3 with
   |0,e2,e3=>obtain rfl:=si e2;obtain rfl:=si e3;rw[Int.zero_add];exact .int _ _
   |1,e2,e3=>replace e2:=si e2;subst e2;replace e3:=si e3;subst e3;exact(h5 i _ _ (ai ZS) hy).mono (λb o hb e=>Ξ b o e hb) hsub
 ·refine bP st λzt CE hl=>?_;obtain⟨old,he⟩:=zt;rw[xA,<- h3] at he CE;exact wpAny_pyNext_enum_end hh he CE (⟨_,hl ad _ e h1,rfl,_,rfl⟩) (Array.getElem?_eq_none<|by simp) λIB hx=>hQ IB jv.toks λb o hb y=>hx b o (λe'=>hb<|.inr e') y
 ·refine bP st λzt _ _=>?_;obtain⟨old,he⟩:=zt;exact wpAny_pyIter_enum he hQ
 ·rcases hb with rfl|rfl
  ·exact⟨_,he⟩
  ·exact aD CE λo eo _=>⟨o,eo⟩
theorem Tn{a:h_}{p q:oi}(zv:∀e,zr e=â->rec e=.no)(hh:hd=ã)(hg:AL sc "enumerate" = â)(ht:n7 target=â)(h:aJ n hd l sc σ a<|rec a):
  oW n hd l sc σ target (.Call (.Name "enumerate" p) [a] [] q) (u5 rec a):=by
 intro A env s av hA I β k fin Q E hf hq he;refine og (eD<|gR (zv a) (Fin.b hf).ne)<|eT I hg rfl (jS (.inr ⟨_,rfl⟩)<|h A env s av hA I (Fin.b hf) (λv jv u k1 r h1=>?_) he);obtain⟨ds,e1,e2⟩:=Fin.p ⟨h1,hf.2⟩;have rd:=r.rep I.gnd.avlt;generalize Zp u=d at rd e1;cases d with
 |list m=>
  replace e1:=pi e1;subst e1;obtain⟨ad,vs,zq,h1,⟨nn,e⟩,h3,h4,h5⟩:=rd.DY;subst r rd zq;refine call_enumerate_list ⟨_,e,rfl,_,rfl⟩ λh' RD CE CL hk=>?_;unfold n7 at ht;generalize hv:vw target=tv at ht;cases tv with
  |tup elts=>refine bM (dP hv) λkk pos zq=>?_;subst hv zq;exact wpAny_pyIter_enum RD<|hq _ _ _ (Tm k1 (hA.handled hh) e h1 h3 h4 h5 RD CE hk) e2
  |_=>exact zk ht
 |_=>exact zz e1
theorem sG(zv:∀e,zr e=â->rec e=.no)(h:aJ n hd l sc σ e<|rec e)
  (hsub:∀f as AD q,e=.Call f as AD q->∀a∈as,aJ n hd l sc σ a<|rec a):oW n hd l sc σ target e<|fZ rec hd sc target e:=by
 ext hd e target rec l n sc σ
 unfold fZ;cases hd with
 |true=>exact λA env s av hA I _ _ _ _ _ hf _ _=>hf.no.elim
 |false=>
  rw[if_neg ja];have P:=Tk (target:=target) rfl h;refine zn (iO e) (λhc=>?_) λc hc=>?_
  ·rewrite[hc];exact P
  ·rewrite[hc];obtain⟨x,as⟩:=c;refine bM (wD hc) λp q zq=>?_;subst h hc zq;show oW n ã l sc σ target _ (if x ="range" \/ x ="enumerate" then _ else lY rec _)
   by_cases hx:x ="range" \/ x ="enumerate"
   ·rw[if_pos hx];intro A env s av hA I β k fin Q E hf hq he;refine zj (Fin.ite hf) λhg BF=>?_;clear hf;cases as with
    |nil=>exact BF.no.elim
    |cons a r=>
     cases r with
     |cons=>exact BF.no.elim
     |nil=>
      have ha:=hsub _ _ _ _ rfl a ag;replace BF:Fin (if x ="range" then u0 rec a else if x ="enumerate" /\ n7 target=â then u5 rec a else .no) k fin:=BF
      by_cases h1:x ="range"
      ·rw[if_pos h1] at BF;subst hx hsub P h1;exact Tl zv rfl hg ha A env s av hA I BF hq he
      rw[if_neg h1] at BF
      by_cases h2:x ="enumerate" /\ n7 target=â
      ·rw[if_pos h2] at BF;obtain⟨zq,h2⟩:=h2;subst hx hsub P h1 zq;exact Tn zv rfl hg h2 ha A env s av hA I BF hq he
      rw[if_neg h2] at BF;exact BF.no.elim
   ·rw[if_neg hx];exact P
end
section
theorem To:∀(names:List<|Str×oj) (acc:List<|Str×f_),(∀p∈names,p.2=.free->∃c,env.cells.lookup p.1=à c)->(∀q∈acc,env.cells.lookup q.1=à q.2) ->
  ∃cl,(forIn names acc (λ(x:d_×oj) (cs:List<|Str×f_)=>if (x.2==qi)=â then (do let c <- cellOf env x.1;pure (ForInStep.yield<|(x.1,c)::cs)) else pure (ForInStep.yield cs)):Sem<|List<|Str×f_)=pure cl /\
   (∀q∈cl,env.cells.lookup q.1=à q.2)/\(∀q∈acc,q∈cl)/\∀p∈names,p.2=.free->∃c,(p.1,c)∈cl:=by
 intro v0;induction v0 with
 |nil=>intro acc _ ha;exact⟨acc,by simp,ha,λ_ h=>h,λ_ h=>by simp at h⟩
 |cons pp r ih=>
  obtain⟨x,k⟩:=pp;intro acc hn ha;rw[List.forIn_cons]
  by_cases hk:k=.free
  ·subst hk;refine Zs (hn (x,.free) (by simp) rfl) λc hc=>gM (ih ((x,c)::acc) (λp hp=>hn p<|af _ hp) (λq hq=>by
    rcases List.mem_cons.mp hq with rfl|hq
    ·exact hc
    ·exact ha q hq)) λcl h1 h2 h3 h4=>?_
   refine⟨cl,?_,h2,λq hq=>h3 q<|af _ hq,λp hp RH=>?_⟩
   ·obtain e:cellOf env x=pure c:=by unfold cellOf;rw[hc]
    rw[e];exact h1
   ·rcases List.mem_cons.mp hp with rfl|hp
    ·exact⟨c,h3 _<|by simp⟩
    ·exact h4 p hp RH
  ·refine gM (ih acc (λp hp=>hn p<|af _ hp) ha) λcl h1 h2 h3 h4=>⟨cl,?_,h2,h3,λp hp RH=>?_⟩
   ·rw[(beq_eq_false_iff_ne.mpr hk)];exact h1
   ·rcases List.mem_cons.mp hp with rfl|hp
    ·exact absurd RH hk
    ·exact h4 p hp RH
theorem Fd:∀{l:List<|Str×α} {x:d_} {c:α},(x,c)∈l->∃c',l.lookup x=à c'/\(x,c')∈l
 | (y,d)::r,x,c,h=>by
  by_cases DW:x=y
  ·subst h DW;exact⟨d,by simp[qc],by simp⟩
  ·rcases List.mem_cons.mp h with h|h
   ·exact absurd (congrArg Prod.fst h) DW
   ·refine aD (Fd h) λc' h1 h2=>?_;exact⟨c',by rw[qc,(beq_eq_false_iff_ne.mpr DW)];exact h1,af _ h2⟩
theorem eK:∀{l:List<|Str×α} {x:d_} {c:α},l.lookup x=à c->(x,c)∈l
 | (y,d)::r,x,c,h=>by
  by_cases DW:x=y
  ·subst DW;simp[qc] at h;simp[h]
  ·simp only[qc,(beq_eq_false_iff_ne.mpr DW)] at h;exact af _<|eK h
theorem Fe(h:∀p∈scope.names,p.2=.free->∃c,env.cells.lookup p.1=à c):∃cl,closureFor scope env=pure cl/\∀x c,(x,qi)∈scope.names->env.cells.lookup x=à c->cl.lookup x=à c:=by
 refine gM (To (env:=env) scope.names [] h<|by simp) λcl h1 h2 _ h4=>⟨cl,?_,λx c hx hc=>?_⟩
 ·unfold closureFor;show(forIn scope.names [] _:Sem _) >>= _=_;rw[((h1):(forIn scope.names [] (λ(x:d_×oj) (cs:List<|Str×f_)=>_):Sem<|List<|Str×f_)=pure cl)];rfl
 ·refine Zs (h4 (x,.free) hx rfl) λc' FP=>aD (Fd FP) λc'' e1 e2=>?_;have:=h2 _ e2;rw[hc] at this;rw[e1];exact this.symm▸rfl
def ϯ(A:mz)(acc:b_)(G:c_->Prop)(X:b_->c_->Prop):b_->c_->Prop:=λx s=>i' (i_ O w) A (call (.builtin "list.append") [acc,x]) (λ_ s=>G s) X s
def ϱ(A:mz)(elt:h_)(env:nt)(acc:b_)(G:c_->Prop)(X:b_->c_->Prop):Bool->c_->Prop:=λok s=>if ok=â then i' (i_ O w) A (eval elt env) (ϯ A acc G X) X s else G s
def Ϯ(A:mz)(ifs:List h_)(elt:h_)(env:nt)(acc:b_)(G:c_->Prop)(X:b_->c_->Prop):Unit->c_->Prop:=λ_ s=>i' (i_ O w) A (forIn ifs â λc r=>if r=â then do let ok <- isTrue c env (eval c env);pure (ForInStep.yield ok) else pure (ForInStep.yield r)) (ϱ A elt env acc G X) X s
def ϰ(A:mz)(R:wi->c_->Prop)(target:h_)(it:b_)(ifs:List h_)(elt:h_)(env:nt)(acc:b_)(G:c_->Prop)(X:b_->c_->Prop):Option b_->c_->Prop:=λr s=>match r with
 |none=>R (.ok .next) s
 |some v=>i' (i_ O w) A (letOwnedTupleGo target it v) (λ_ s=>i' (i_ O w) A (assign target env v) (Ϯ A ifs elt env acc G X) X s) X s
theorem Ff{R:wi->c_->Prop}{acc:b_}(I:Nat->c_->Prop)
  (turn:∀n s,I n s->i' (i_ O w) A (pyNext it) (ϰ A R target it ifs elt env acc (λs=>∃m,m<n/\I m s)<|notedBy (i_ O w) A env λe s'=>R (.error e) s') (notedBy (i_ O w) A env λe s'=>R (.error e) s') s)
  (n:Nat) (h:I n s) :
  rg (i_ O w) A (.compLoop (.ListComp elt [⟨target,iter,ifs,0⟩] scope pos) 0 it acc env) R s:=by
 revert turn;ext A env target elt iter ifs pos scope s it R acc I n
 refine codeAny_loop rfl I (λn s hI=>?_) n h;show i' _ A ((compTurn (.ListComp elt [⟨target,iter,ifs,0⟩] scope pos) 0 it acc env).onRaise (λx=>do noteFrame x env;theTreesLotGoes x)) _ _ s;refine wpAny_noted ?_;rw[compTurn_list];refine ac<|ck<|ac<|aq (turn n s hI) (λr jv jz=>?_) λ_ _ h'=>h';cases r with
 |none=>exact ae jz
 |some v=>
  refine ac<|aq jz (λ_ jv jz=>?_) λ_ _ h'=>h';refine ac<|aq jz (λ_ jy kq=>ac<|aq kq (λok kc km=>?_) λ_ _ h'=>h') λ_ _ h'=>h';cases ok with
  |false=>exact ae ⟨rfl,km⟩
  |true=>replace km:=km;exact ac<|ac<|aq km (λx kf li=>ac<|aq li (λ_ lf lj=>ae<|ae ⟨rfl,lj⟩) λ_ _ h'=>h') λ_ _ h'=>h'
def kW(env:nt)(x:d_)(k:oj):oj:=if (k==qi&&env.scope.kind==ScopeKind.function&&env.kindOf x==à ng)=â then ng else k
theorem Tp(f:d_->oj->oj)(x:d_):∀(names:List<|Str×oj),(names.map λp=>(p.1,f p.1 p.2)).lookup x=(names.lookup x).map (f x):=by
 intro v0;induction v0 with
 |nil=>exact rfl
 |cons pp r ih=>
  obtain⟨y,k⟩:=pp
  by_cases DW:x=y
  ·subst DW;simp[qc]
  ·simp only[qp,qc,(beq_eq_false_iff_ne.mpr DW)];exact ih
theorem Tq(env:nt)(zo:mh):(relabel zo env).names=zo.names.map λp=>(p.1,kW env p.1 p.2):=by
 unfold relabel;refine tq λp _=>?_;obtain⟨n,k⟩:=p;show(if _ then (n,ng) else (n,k))=(n,kW env n k);unfold kW
 split<;>rfl
theorem mP{cl:List<|Str×f_}{C:f_}(x:d_):(compEnvC zo cl C env).kindOf x=(zo.names.lookup x).map (kW env x):=by show(relabel zo env).names.lookup x=_;rw[Tq];exact Tp (kW env) x zo.names
structure PZ(sc zo:mh)(t:Tg):Prop where
 kind:zo.kind=.function
 loc:∀p∈zo.names,p.2=.local->(p.1 =".0" \/ p.1∈t.ns)/\zo.names.lookup p.1=à .local
 cell:∀p∈zo.names,p.2≠.cell
 free:∀p∈zo.names,p.2=.free->qX (sc.names.lookup p.1)=â
 tgt:∀x∈t.ns,x ≠ ".0" /\ zo.names.lookup x=à .local
 two:t.apart=â
 dbg:zo.names.lookup (e_ "__debug__")=á
 cld:zo.names.lookup (e_ "__classdict__")=á
theorem Fg{t:Tg}(h:kN sc zo t=â):PZ sc zo t:=by
 ext sc zo t
 unfold kN at h;simp only[ml] at h;refine zj h λzt h6=>?_;obtain⟨⟨⟨⟨h1,h2⟩,h3⟩,h4⟩,h5⟩:=zt;have DU:=ak.mp h2;refine⟨eq_of_beq h1,λp hp hk=>?_,λp hp hk=>?_,λp hp hk=>?_,λx hx=>?_,h4,Option.isNone_iff_eq_none.mp h5,Option.isNone_iff_eq_none.mp h6⟩
 ·have:=DU p hp;rw[hk] at this;simp only[ml,p_,beq_iff_eq,xm] at this;exact this
 ·have:=DU p hp;rw[hk] at this;exact zk this
 ·have:=DU p hp;rw[hk] at this;exact this
 ·have:=(ak.mp h3) x hx;simp only[ml,bne_iff_ne,ne_eq,beq_iff_eq] at this;exact this
theorem aA.q2G{v:Option V}(h:x≠y):zm ((y,v)::σ) x=zm σ x:=by show(if x=y then à v else zm σ x)=_;rw[if_neg h]
open aA renaming q2G->DF
theorem aA.q2F{v:Option V}:zm ((x,v)::σ) x=à v:=by show(if x=x then à v else zm σ x)=_;rw[if_pos rfl]
open aA renaming q2F->FU
theorem Ts{t:Tg}(hb:jJ t d σ=à σ'):zm σ' ".0" = à á/\∀x:d_,x ≠ ".0" -> x∉t.ns->zm σ' x=zm σ x:=by
 cases t with
 |one z=>replace hb:=si hb;subst hb;exact⟨FU,λy h0 hy=>(DF h0).trans (DF λe=>hy<|List.mem_singleton.mpr e)⟩
 |pair z u=>refine aD (az.mp hb) λq _ zq=>?_;subst hb zq;exact⟨FU,λy h0 hy=>(DF h0).trans ((DF λe=>hy<|by rw[e];exact af _ ag).trans (DF λe=>hy<|by rw[e];exact ag))⟩
def Fh:List h_->List d_->Prop
 | [],[]=>True
 |e::es,x::xs=>(∃p,e=.Name x p)/\Fh es xs
 |_,_=>False
theorem Tt:∀{es:List h_} {xs:List d_},eY es=à xs->Fh es xs:=by
 intro es;induction es with
 |nil=>exact λh=>by obtain rfl:=si h;exact trivial
 |cons e es ih=>
  intro xs h;replace h:((bT e).bind λx=>(eY es).map (x::·))=à xs:=h;refine zn (bT e) (λhn=>?_) λx hn=>?_
  ·rw[hn] at h;exact ns h
  ·rw[hn] at h;refine aD (az.mp h) λys e1 zq=>?_;subst h zq;exact⟨eJ hn,ih e1⟩
inductive LV(target:h_):Tg->Prop where
 |one (x:d_) (p:oi) (e:target=.Name x p):LV target (.one x)
 |pair (x y:d_) (k:Nat) (p p1 p2:oi) (e:target=.Tuple [.Name x p1,.Name y p2] k p):LV target (.pair x y)
theorem Fi{t:Tg}(h:kL target=à t):LV target t:=by
 unfold kL at h;generalize hv:vw target=tv at h;cases tv with
 |name x=>replace h:=si h;subst h;refine Zs (dP hv) λp zq=>?_;subst hv zq;exact .one x p rfl
 |tup es=>
  refine bM (dP hv) λk p zq=>?_;subst hv zq;replace h:(eY es).bind ϡ=à t:=h;refine zn (eY es) (λhn=>by rw[hn] at h;exact ns h) λxs hn=>?_;rw[hn] at h;have N:=Tt hn;cases xs with
  |nil=>exact ns h
  |cons a xs=>
   cases xs with
   |nil=>exact ns h
   |cons b xs=>
    cases xs with
    |cons=>exact ns h
    |nil=>
     replace h:=si h;subst h;cases es with
     |nil=>exact N.elim
     |cons e es=>
      cases es with
      |nil=>exact N.2.elim
      |cons f es=>
       cases es with
       |cons=>exact N.2.2.elim
       |nil=>refine bP N λzt HP _=>?_;obtain⟨p1,zq⟩:=zt;subst hn N zq;obtain⟨p2,rfl⟩:=HP;exact .pair a b k p p1 p2 rfl
 |_=>exact ns h
theorem AW.comp{t:Tg}{cl:List<|Str×f_}{C:f_}{m:d_->Option b_}(I:AW l env sc σ av s)(hok:PZ sc zo t)(hb:jJ t d σ=à σ')
  (EO:∀x c,(x,qi)∈zo.names->env.cells.lookup x=à c->cl.lookup x=à c) (k:K l s s') (BY:∀b o,s.heap.get? b=à o->CJ b->av b) (HB:∀b,av b->CJ b)
  (RE:∀b,CJ b->∃o,s'.heap.get? b=à o) (AR:s'.heap.Ns C m) (hm:∀x v,x∈t.ns->zm σ' x=à (à v)->∃u,m x=à u/\cM l s'.heap CJ u v) :
  AW l (compEnvC zo cl C env) zo σ' CJ s' where
 gnd:={I.gnd.k k with fav:=λb f=>HB b<|I.gnd.fav b f,avlt:=RE,avS:=HB _ I.gnd.avS}
 kind:=hok.kind
 eg:=I.eg
 eb:=I.eb
 dbg:=hok.dbg
 cld:=hok.cld
 glob:=λx hx=>by unfold AL at hx;rw[mP,eq_of_beq hx];rfl
 kinds:=λx hx=>by
  refine zn (zo.names.lookup x) (λhl=>?_) λk hl=>?_
  ·rw[hl] at hx;exact zk hx
  ·rw[hl] at hx;have hmem:=eK hl;cases k with
   |free=>
    refine lU (I.kinds x<|hok.free _ hmem rfl) λh1 c h2=>?_;rw[mP,hl];refine⟨?_,c,EO x c hmem h2⟩;rw[r_];unfold kW
    split<;>rfl
   |cell=>exact absurd rfl (hok.cell _ hmem)
   |_=>exact zk hx
 get:=λx v hl hg=>by
  refine zj (Ts hb) λb1 b2=>?_;have PA:x ≠ ".0":=λe=>by rw[e,b1] at hg;cases hg
  unfold AV at hl;cases AX:zo.names.lookup x with
  |none=>rw[AX] at hl;exact zk hl
  |some kk=>
   rw[AX] at hl;have hmem:=eK AX;cases kk with
   | «local»=>exact aD (hm x v ((hok.loc _ hmem rfl).1.resolve_left PA) hg) λu h1 h2=>⟨u,.inl ⟨by rw[mP,AX];rfl,m,AR,h1⟩,h2⟩
   |cell=>exact absurd rfl (hok.cell _ hmem)
   |free=>
    have OG:=hok.free _ hmem rfl;obtain hnt:x∉t.ns:=λht=>by have:=(hok.tgt x ht).2;rw[AX] at this;cases this
    rw[b2 x PA hnt] at hg;obtain RJ:AV sc x=â:=by
     unfold AV;refine zn (sc.names.lookup x) (λh=>?_) λk h=>?_
     ·rewrite[h];rw[h] at OG;exact zk OG
     ·rewrite[h];cases k<;>first | rfl | (rw[h] at OG;cases OG)
    refine aD (I.get x v RJ hg) λu h1 h2=>lU (I.kinds x OG) λk1 c k2=>⟨u,?_,?_⟩
    ·rcases h1.k k with ⟨e,_⟩|⟨_,c',e1,e2⟩
     ·rw[e] at k1;exact zk k1
     ·refine .inr ⟨?_,c',EO x c' hmem e1,e2⟩;rw[mP,AX];rw[r_];unfold kW
      split
      ·exact .inl rfl
      ·exact .inr rfl
    ·exact(cM.mono (λ_ _ e=>e) BY h2).k (av:=CJ) (λb f=>HB b<|I.gnd.fav b f) k
   |_=>exact zk hl
theorem Fj{E:b_->c_->Prop}{t:Tg}{m:d_->Option b_}{Q:Unit->c_->Prop}(hh:A.handled=á)(ht:LV target t)
  (hb:jJ t d σ=à σ') (hv:Zu s.heap CJ v d) (hC:CJ env.locals) (hn:s.heap.Ns env.locals m) (hl:∀x∈t.ns,x ≠ ".0" /\ env.kindOf x=à .local) (h2:t.apart=â) (hf:env.scope.kind=.function)
  (h:∀h' tk m',h'.Ns env.locals m'->(∀b o,b≠env.locals->s.heap.get? b=à o->h'.get? b=à o)->(∀x v,x∈t.ns->zm σ' x=à (à v)->∃u,m' x=à u/\cM l h' CJ u v)->Q () {s with heap:=h',toks:=tk}) :
  i' (i_ O w) A (assign target env v) Q E s:=by
 ext CJ A env target l d s v σ σ' E t m Q
 have hp:(env.scope.kind==.class||(env.scope.kind==.module&&env.locals != env.globals))=ã:=by rw[hf];rfl
 have mono:∀{h1 h2:mj} {v:b_} {d:a_},mq env.locals h1 h2->Zu h1 CJ v d->Zu h2 CJ v d:=λhs r=>r.mono (λb o hb e=>by rw[hs.2 b λx=>hb<|x▸hC];exact e) λ_ _ _ x=>x;cases ht with
 |one x p et=>subst et;refine zj (hl x ag) λq1 q2=>?_;obtain rfl:=si hb;refine fi<|jo q2 hn (λh' BR AZ=>?_) hp;refine h h' _ _ BR (λb o hb e=>by rw[AZ.2 b hb];exact e) λy u hy hg=>?_;replace hy:=List.mem_singleton.mp hy;subst hl h2 q2 hb h BR hy;rw[QF,DF q1,FU] at hg;cases hg;exact⟨v,by simp,mono AZ hv⟩
 |pair x y k p p1 p2 et=>
  subst et;refine aD (az.mp hb) λq hd zq=>?_;subst zq;refine zj (hl x ag) λq1 q2=>zj (hl y<|af _ ag) λq3 q4=>?_;have DW:=bne_iff_ne.mp h2;refine lR (hv.two hd) λad v1 v2 zq g2 r1 r2=>?_;subst hv zq;refine wpAny_assign_Tuple hh g2.GK rfl rfl λh1 he=>?_;have k1:∀b o,s.heap.get? b=à o->h1.get? b=à o:=λb o e=>he b o (oV e) e;refine sm<|fi<|jo q2 (hn.keeps k1) (λh2 FR KC=>?_) hp;refine sm<|fi<|jo q4 FR (λh3 hn3 MQ=>?_) hp;refine xy ?_;refine h h3 _ _ hn3 (λb o hb e=>by rw[MQ.2 b hb,KC.2 b hb];exact k1 b o e) λz u hz hg=>?_;rcases List.mem_cons.mp hz with rfl|hz
  ·rw[DF q1,DF DW,FU] at hg;cases hg;exact⟨v1,by simp[DW],mono MQ<|mono KC<|r1.keeps k1⟩
  ·obtain rfl:=List.mem_singleton.mp hz;rw[DF q3,FU] at hg;cases hg;exact⟨v2,by simp,mono MQ<|mono KC<|r2.keeps k1⟩
end
open aA renaming q2G->DF
open aA renaming q2F->FU
section
inductive XO{α β:Type}(r:R α)(k:α->R β)(fin:R β):Prop where
 |mk (a:α) (h:r=.ok a) (g:k a=fin):XO r k fin
theorem Fin.nx{r:R α}{k:α->R β}{fin:R β}(h:Fin (nx r) k fin):XO r k fin:=by
 cases r with
 |ok a=>exact⟨a,rfl,h.1⟩
 |_=>exact(Fin.no h).elim
theorem EH.ok{b:β}:EH l s av (.ok b) E:=λ_ _ _ e=>nomatch e
def sH(n:Nat)(hd:Bool)(l:List nt)(sc:mh)(σ:aA)(ifs:List h_)(r:R Bool):Prop:=
 ∀(A:mz) (env:nt) (s:c_) (av:f_->Prop),AI n hd l A->AW l env sc σ av s->∀{b:Bool} {Q:Bool->c_->Prop} {E:b_->c_->Prop},r=.ok b->(∀s',K l s s'->Q b s') ->
  i' (i_ O w) A (forIn ifs â λc r=>if r=â then do let ok <- isTrue c env (eval c env);pure (ForInStep.yield ok) else pure (ForInStep.yield r)) Q E s
theorem aJ.val(h:aJ n hd l sc σ e r)(hA:AI n hd l A)(I:AW l env sc σ av s)(hr:r=.ok u)
  (hq:∀v s',K l s s'->bC s s'.heap av v u->Q v s'):i' (i_ O w) A (eval e env) Q E s:=
 h A env s av hA I (k:=.ok) (fin:=.ok u) ⟨by rw[hr];rfl,nofun⟩ (λv s' u' k r e=>by cases e;exact hq v s' k r) EH.ok
theorem Tu:sH n hd l sc σ []<|.ok â:=λA env s av _ _ _ _ _ hr hq=>by cases hr;exact wpAny_tests_nil<|hq _<|K.rf l s
theorem Tv{c:h_}(h:cD n hd l sc σ c r):sH n hd l sc σ [c]<|zu r:=λA env s av hA I b _ _ hr hq=>wpAny_tests_one (h A env s av hA I (k:=.ok) (fin:=.ok b) ⟨by rw[hr];rfl,nofun⟩ (λb' s' k e=>by cases e;exact hq s' k) EH.ok)
structure ND(l:List nt)(jv:c_)(CJ:f_->Prop)(D C:f_)(xs:List a_)(st:c_):Prop where
 k:K l jv st
 ns:∃m,st.heap.Ns C m
 lst:∃ys:List b_,st.heap.PlainList D ys.toArray/\ys.length=xs.length/\∀(j:Nat) (v:b_) (d:a_),ys[j]?=à v->xs[j]?=à d->Zu st.heap CJ v d
theorem K.on{c:f_}(k:K l s s')(hc:s.heap.get? c=á)(hk:∀b o,b≠c->s'.heap.get? b=à o->h'.get? b=à o):K l s {s' with heap:=h',toks:=tk}:=by
 obtain⟨h,t,rfl,k1,k2⟩:=k;have ne:∀b o,s.heap.get? b=à o->b≠c:=λb o e x=>by rw[x,hc] at e;exact ns e
 exact⟨h',tk,rfl,λb o n e=>hk b o (ne b o e)<|k1 b o n e,λb o e=>by refine Zs (k2 b o e) λsl e'=>?_;exact⟨sl,hk b _ (ne b o e) e'⟩⟩
theorem K.RX{c:f_->Prop}(k:K l s s')(hc:∀b,c b->s.heap.get? b=á)(hk:∀b o,¬c b->s'.heap.get? b=à o->h'.get? b=à o):K l s {s' with heap:=h',toks:=tk}:=by
 obtain⟨h,t,rfl,k1,k2⟩:=k;have ne:∀b o,s.heap.get? b=à o->¬c b:=λb o e x=>by rw[hc b x] at e;exact ns e
 exact⟨h',tk,rfl,λb o n e=>hk b o (ne b o e)<|k1 b o n e,λb o e=>by refine Zs (k2 b o e) λsl e'=>?_;exact⟨sl,hk b _ (ne b o e) e'⟩⟩
theorem Fk{xs:List a_}{x:a_}(hl:ys.length=xs.length)(hr:∀(j:Nat) (v:b_) (d:a_),ys[j]?=à v->xs[j]?=à d->Zu h av v d)(hx:Zu h av v x):
  ∀(j:Nat) (v':b_) (d:a_),(ys++[v])[j]?=à v'->(xs++[x])[j]?=à d->Zu h av v' d:=
 Dz hl (bs:=[x]) rfl hr λj v' d e1 e2=>by
  cases j with
  |zero=>obtain rfl:=si e1;replace e2:=si e2;subst e2;exact hx
  |succ j=>exact ns e1
theorem Fl(t:Tg)(d:a_)(σ:aA)(k:aA->R α):oA t d σ k=match jJ t d σ with | some σ'=>k σ' | none=>.no:=by
 cases t with
 |one x=>rfl
 |pair x y=>
  show(match two d with | some q=>k _ | none=>.no)=match (two d).map _ with | some σ'=>k σ' | none=>.no
  cases two d with
  |none=>rfl
  |some q=>rfl
inductive SK(l:List nt)(jv:c_)(av':f_->Prop)(D C:f_)(n:Nat)(St:Nat->mj->Prop)(P:Nat->List a_->Prop)(m:Nat)(st:c_):Prop where
 |mk (i:Nat) (xs:List a_) (hi:i+m=n) (hx:xs.length<=i) (F:ND l jv av' D C xs st) (hs:St i st.heap) (hp:P i xs):SK l jv av' D C n St P m st
theorem Tw{jv:c_}{z:Tg}{cl:List<|Str×f_}{wr:f_->Prop}{St:Nat->mj->Prop}{C:f_}
  {test:aA->R Bool} {eltF:aA->R V} (hA:AI n hd l A) (hh:A.handled=á) (RK:LV target z) (I:AW l env sc σ av jv) (hok:PZ sc zo z) (EO:∀x c,(x,qi)∈zo.names->env.cells.lookup x=à c->cl.lookup x=à c)
  (hT:∀σ',sH n hd l zo σ' ifs<|test σ') (hE:∀σ',aJ n hd l zo σ' elt<|eltF σ')
  (S:JR A jv.heap av target it wr St ds) (BA:∀b,wr b->jv.heap.get? b=á)
  (hD:jv.heap.get? D=á) (hC:jv.heap.get? C=á) (DA:D≠C) (hlen:ds.length<=g_) (JZ:¬wr D) (JY:¬wr C)
  {R:wi->c_->Prop} {β:Type} {k:List a_->Internal.R β} {fin:Internal.R β} (zh:fin≠.no) (hR:∀xs AU,xs.length<=g_->ND l jv (λb=>av b\/wr b\/b=D\/b=C) D C xs AU->k xs=fin->R (.ok .next) AU)
  {st:c_} (h:ND l jv (λb=>av b\/wr b\/b=D\/b=C) D C [] st) (AP:St 0 st.heap) (hf:rb (jK test eltF z σ ds) k=fin) :
  rg (i_ O w) A (.compLoop (.ListComp elt [⟨target,iter,ifs,0⟩] zo pos) 0 it (.ref D)<|compEnvC zo cl C env) R st:=by
 have nf:∀b,(wr b\/b=D\/b=C)->¬z_ l b:=λb hb f=>by
  refine Zs (I.gnd.avlt _<|I.gnd.fav _ f) λo e=>?_;rcases hb with hb|rfl|rfl
  ·rw[BA b hb] at e;exact ns e
  ·rw[hD] at e;exact ns e
  ·rw[hC] at e;exact ns e
 have new:∀b o,jv.heap.get? b=à o->(av b\/wr b\/b=D\/b=C)->av b:=λb o e hb=>by
  rcases hb with hb|hb|rfl|rfl
  ·exact hb
  ·rw[BA b hb] at e;exact ns e
  ·rw[hD] at e;exact ns e
  ·rw[hC] at e;exact ns e
 have YX:∀b,z_ l b->(av b\/wr b\/b=D\/b=C):=λb f=>.inl<|I.gnd.fav b f;obtain⟨P,hP⟩:∃P:Nat->List a_->Prop,∀i xs,P i xs↔rb (jK test eltF z σ<|ds.drop i) (λys=>k<|xs++ys)=fin:=⟨_,λ_ _=>Iff.rfl⟩
 refine Ff (I:=SK l jv (λb=>av b\/wr b\/b=D\/b=C) D C ds.length St P) ?_ ds.length ⟨0,[],im _,bv _,h,AP,(hP _ _).mpr hf⟩;clear h AP hf st
 rintro m st ⟨i,xs,hi,hx,F,AP,hp⟩
 replace hp:=(hP _ _).mp hp;obtain⟨kk,⟨mm,AR⟩,ys,DL,hyl,LI⟩:=F;have live:∀(AU:c_),K l jv AU->(∃m,AU.heap.Ns C m)->AU.heap.PlainList D ys.toArray->(∀b,wr b->∃o,AU.heap.get? b=à o)->∀b,(av b\/wr b\/b=D\/b=C)->∃o,AU.heap.get? b=à o:=λAU kk hn hp hw b hb=>by
  rcases hb with hb|hb|rfl|rfl
  ·exact Zs (I.gnd.avlt b hb) λo e=>Zs (kk.up e) λsl e'=>⟨_,e'⟩
  ·exact hw b hb
  ·exact Zs hp λnn e=>⟨_,e⟩
  ·exact eH hn λ_ o _ _ e _=>⟨o,e⟩
 by_cases DD:i=ds.length
 ·subst hi DD;rw[vh] at hp;have hp:k (xs++[])=fin:=hp;rw[List.append_nil] at hp;refine aq (S.done st _ (λs'=>R (.ok .next) s') AP λh' tk hk=>hR xs _ (aa hx hlen) ⟨kk.RX BA hk,⟨mm,AR.at' λo e=>hk C o JY e⟩,ys,DL.at λo e=>hk D o JZ e,hyl,λj v d e1 e2=>
   (LI j v d e1 e2).mono (λb o hb e=>hk b o (λhw=>hb<|.inr<|.inl hw) e) λ_ _ _ x=>x⟩ hp) (λr jv jz=>?_) λ_ _ x=>x
  cases r with
  |none=>exact jz
  |some v=>exact jz.elim
 ·have zw:i<ds.length:=by exact qM hi DD
  rw[wm zw] at hp;replace hp:Fin (rb (nx<|oA z ds[i] σ test) λb=>if b then rb (nx<|oA z ds[i] σ eltF) λv=>rb (jK test eltF z σ<|ds.drop<|i+1) λxs=>.ok (Zp v::xs) else jK test eltF z σ (ds.drop<|i+1)) (λys=>k<|xs++ys) fin:=⟨hp,zh⟩
  obtain⟨b,ht,hp⟩:=hp.b.nx;rw[Fl] at ht;simp only[Fl] at hp;refine zn (jJ z ds[i] σ) (λJ'=>by rw[J'] at ht;cases ht) λσ' J'=>?_;rw[J'] at ht hp;refine aq (S.item i ds[i] st _ ?QQ (ai zw) AP ?body) ?link λ_ _ x=>x
  case link=>
   intro r jv jz;cases r with
   |none=>exact jz.elim
   |some v=>exact jz
  intro v h1 DZ hk1 FK GI;refine Fj (l:=l) hh RK J' (GI (λb=>av b\/wr b\/b=D\/b=C) (live st kk ⟨mm,AR⟩ DL<|S.live i _ AP) new) (.inr<|.inr<|.inr rfl) (AR.at' λo e=>hk1 C o JY e) (λx hx=>⟨(hok.tgt x hx).1,by rw[mP,(hok.tgt x hx).2];rfl⟩) hok.two hok.kind λh2 JP m2 FR BO UV=>?_;have k2:K l jv {st with heap:=h2,toks:=JP}:=K.on (s':={st with heap:=h1,toks:=DZ}) (c:=C) (kk.RX (tk:=DZ) BA hk1) hC BO;have PV:=S.frame _ _ _ FK (λb o hb e=>BO b o (λx=>JY<|(show b=C from x)▸hb) e) λb o e BY=>k2.at (λf=>BY<|I.gnd.fav b f) e;have PQ:=DL.at λo e=>BO D o (λx=>DA x)<|hk1 D o JZ e;have I2:AW l (compEnvC zo cl C env) zo σ' (λb=>av b\/wr b\/b=D\/b=C) {st with heap:=h2,toks:=JP}:=
   I.comp hok J' EO k2 new (λ_ x=>.inl x) (live {st with heap:=h2,toks:=JP} k2 ⟨m2,FR⟩ PQ<|S.live _ _ PV) FR UV
  refine hT σ' A _ _ _ hA I2 ht λkc k3=>?_;have VS:=k2.tr k3;have Ϡ:=S.frame _ _ _ PV (λb o hb e=>k3.at (nf b<|.inl hb) e) λb o e BY=>VS.at (λf=>BY<|I.gnd.fav b f) e;have ϖ:=PQ.at λo e=>k3.at (nf D<|.inr<|.inl rfl) e;have ϐ:=FR.at' λo e=>k3.at (nf C<|.inr<|.inr rfl) e;have ys3:=λj v d e1 e2=>Zu.k YX k3<|(λj v d e1 e2=>(LI j v d e1 e2).mono (λb o hb e=>BO b o (λx=>hb<|.inr<|.inr<|.inr x)<|hk1 b o (λhw=>hb<|.inr<|.inl hw) e) λ_ _ _ x=>x) j v d e1 e2;cases b with
  |false=>exact(⟨m - 1,by exact nV hi DD,i+1,xs,by exact nW hi DD,by exact La hx,⟨VS,⟨m2,ϐ⟩,ys,ϖ,hyl,ys3⟩,Ϡ,(hP _ _).mpr hp⟩:∃m',m' < m/\SK l jv _ D C ds.length St P m' kc)
  |true=>
   replace hp:Fin (rb (nx<|eltF σ') λv=>rb (jK test eltF z σ<|ds.drop<|i+1) λxs=>.ok<|Zp v::xs) (λys=>k<|xs++ys) fin:=⟨hp,zh⟩
   obtain⟨u,hu,hp⟩:=hp.b.nx;have I3:=I2.k k3;refine(hE σ').val hA I3 hu λxv kf k4 r4=>?_;refine jp (ϖ.at λo e=>k4.at (nf D<|.inr<|.inl rfl) e) (λh5 WA VB=>?_) (by simp;exact Lb hlen hi hx hyl);have HH:∀b o,b≠D->kf.heap.get? b=à o->h5.get? b=à o:=λb o hb e=>by rw[VB.2 b hb];exact e
   have PG:K l jv {kf with heap:=h5}:=(VS.tr k4).on (tk:=kf.toks) hD HH;obtain hp:rb (jK test eltF z σ<|ds.drop<|i+1) (λys=>k<|(xs++[Zp u])++ys)=fin:=by rw[<- hp,wJ];congr 1;funext ys;rw[List.append_assoc];rfl
   refine⟨m - 1,by exact nV hi DD,i+1,xs++[Zp u],by exact nW hi DD,by simp;exact Lc hx,⟨PG,⟨m2,?_⟩,ys++[xv],by simpa using WA,by simp[hyl],Fk hyl (λj v d e1 e2=>?_) ?_⟩,?_,(hP _ _).mpr hp⟩
   ·exact ϐ.at' λo e=>HH C o (λx=>DA x.symm)<|k4.at (nf C<|.inr<|.inr rfl) e
   ·exact(Zu.k YX k4<|ys3 j v d e1 e2).mono (λb o hb e=>HH b o (λx=>hb<|.inr<|.inr<|.inl x) e) λ_ _ _ x=>x
   ·exact(r4.rep I3.gnd.avlt).mono (λb o hb e=>HH b o (λx=>hb<|.inr<|.inr<|.inl x) e) λ_ _ _ x=>x
   ·exact S.frame _ _ _ Ϡ (λb o hb e=>HH b o (λx=>JZ<|x▸hb)<|k4.at (nf b<|.inl hb) e) λb o e BY=>PG.at (λf=>BY<|I.gnd.fav b f) e
end
section
theorem Tx{jv:c_}{wr:f_->Prop}{C:f_}{xs:List a_}{st:c_}(k0:K l s jv)(hD:jv.heap.get? D=á)(hC:jv.heap.get? C=á)(DA:D≠C)
  (F:ND l jv (λb=>av b\/wr b\/b=D\/b=C) D C xs st) (hl:xs.length<=g_) (hs:mq C st.heap h'):K l s {st with heap:=h'}/\bC s h' av (.ref D) (.own<|.list xs):=by
 obtain⟨kk,_,ys,DL,hyl,LI⟩:=F;have hk:∀b o,b≠C->st.heap.get? b=à o->h'.get? b=à o:=λb o hb e=>by rw[hs.2 b hb];exact e
 refine⟨k0.tr<|kk.on (tk:=st.toks) hC hk,D,rfl,k0.CG hD,ys,DL.at λo e=>hk D o DA e,hyl,by rw[hyl];exact hl,λj v d e1 e2=>?_⟩;refine(LI j v d e1 e2).mono (λb o hb e=>hk b o (λx=>hb<|.inr<|.inr<|.inr x) e) λb o _ hb=>?_;rcases hb with hb|hb
 ·exact .inl hb
 ·exact .inr<|.inr<|.inl hb
theorem xB(zv:∀e,zr e=â->rec e=.no)(h:zr e=â):fZ rec hd sc target e=.no:=by
 ext hd e target rec sc
 obtain h0:lY rec e=.no:=by unfold lY;rw[zv e h];rfl
 unfold fZ
 split
 ·rfl
 ·unfold zr at h;unfold iO jI;generalize vw e=v at h;cases v<;>first | exact h0 | cases h
theorem Fm{rec:mh->aA->h_->R V}{g:vj}(zv:∀e,zr e=â->rec sc σ e=.no)
  (CE:aJ n hd l sc σ g.iter<|rec sc σ g.iter) (hsub:∀f as AD q,g.iter=.Call f as AD q->∀a∈as,aJ n hd l sc σ a<|rec sc σ a)
  (hT:∀c∈g.ifs,∀σ',cD n hd l zo σ' c<|rec zo σ' c) (hE:∀σ',aJ n hd l zo σ' elt<|rec zo σ' elt)
  {A:mz} {env:nt} {s:c_} {av:f_->Prop} (hA:AI n hd l A) (I:AW l env sc σ av s) {β:Type} {k:V->R β} {fin:R β} {Q:b_->c_->Prop} {E:b_->c_->Prop} {use:Option<|Value->Sem Unit}
  (hf:Fin (l8 rec hd sc σ elt g zo) k fin) (he:EH l s av fin E)
  (hq:∀(jv:c_) (wr:f_->Prop) (D C:f_) (xs:List a_) (AU:c_),K l s jv->jv.heap.get? D=á->jv.heap.get? C=á->D≠C->xs.length<=g_->ND l jv (λb=>av b\/wr b\/b=D\/b=C) D C xs AU->k (.own<|.list xs)=fin->compPost (i_ O w) A E use Q (.ref D) C (.ok .next) AU) :
  i' (i_ O w) A (comprehension (.ListComp elt [g] zo pos) zo env GU (newList []) (firstAsync [g]) (firstIter [g] env) use) Q E s:=by
 obtain⟨target,iter,ifs,as⟩:=g;unfold l8 at hf;replace hf:Fin (match kL target with
  |none=>.no
  |some x=>if (kN sc zo x&&as==0)=â then match u8 rec zo ifs with
   |none=>.no
   |some t=>rb (rb (fZ (rec sc σ) hd sc target iter) λl=>jK t (λσ'=>rec zo σ' elt) x σ l) λr=>Zy (own<|.list r)
  else .no) k fin:=hf
 cases hn:kL target with
 |none=>rw[hn] at hf;exact hf.no.elim
 |some z=>
  rw[hn] at hf;refine zj (Fin.ite hf) λhc BF=>?_;clear hf;simp only[ml,beq_iff_eq] at hc;refine zj hc λc1 zq=>?_;subst hc zq;have hok:=Fg c1;refine zn (u8 rec zo ifs) (λMR=>?_) λt MR=>?_
  ·rw[MR] at BF;exact BF.no.elim
  ·rw[MR] at BF;obtain hT':∀σ',sH n hd l zo σ' ifs (t σ'):=λσ'=>by
    cases ifs with
    |nil=>have zq:=si MR;subst BF zq;exact Tu
    |cons c r=>
     cases r with
     |nil=>have zq:=si MR;subst BF zq;exact Tv<|hT c ag _
     |cons=>cases MR
   have hb:=gR (λe=>xB zv e) BF.b.b.ne;refine aD (Fe (env:=env) (scope:=zo) λp hp hk=>(I.kinds p.1<|hok.free p hp hk).2) λcl UL EO=>?_;refine xx (g:=⟨target,iter,ifs,0⟩) (gs:=[]) rfl (wB hb) UL hok.kind (λp hp hk=>(hok.loc p hp hk).2) ?_;obtain hhd:hd=ã:=by
    cases hd with
    |false=>rfl
    |true=>exact BF.b.b.no.elim
   refine sG (target:=target) zv CE hsub A env s av hA I BF.b.b (λit jy ds x h1=>?_) he;obtain⟨jv,wr,St,k0,S,AP,BA,k2,hlen⟩:=x;refine gn<|wpAny_newFunctionEnv hok.cell (by intro y hy;simp at hy) (λjz LF JH=>?_) hok.kind;dsimp only at LF JH ⊢;generalize hH2:jy.heap.push {cls:=.type "list",dict:=á,data:=.seq ([]:List b_).toArray}=H2 at LF JH ⊢;have hC:H2.objs.size=jy.heap.objs.size+1:=by rw[<- hH2,gr]
   have DA:jy.heap.objs.size≠H2.objs.size:=by rw[hC];exact cb<|fk _
   obtain below:∀b,b<jy.heap.objs.size->b≠H2.objs.size:=λb hb=>by rw[hC];exact cb<|iz hb
   have old:∀b o,jy.heap.get? b=à o->jz.get? b=à o:=λb o e=>JH.extBut b o (below b<|ci e)<|ah _<|hH2▸ah _ e;have KW:jy.heap.get? jy.heap.objs.size=á:=bU _;have KU:jy.heap.get? H2.objs.size=á:=dh (by rw[hC];exact ao _);have HI:K l jv jy:=K.of k2;have OY:St 0 jz:=S.frame _ _ _ AP (λb o _ e=>old b o e) λb o e _=>old b o<|k2.heap b o e;have loop:∀kc:c_,kc={jy with heap:=jz,toks:=jy.toks+([]:List<|Str×b_).length} ->
     rg (i_ O w) A (.compLoop (.ListComp elt [⟨target,iter,ifs,0⟩] zo pos) 0 it (.ref jy.heap.objs.size)<|compEnvC zo cl H2.objs.size env) (compPost (i_ O w) A E use Q (.ref jy.heap.objs.size) H2.objs.size) kc:=by
    rintro kc rfl
    refine Tw (jv:=jv) (wr:=wr) hA (hA.handled hhd) (Fi hn) (I.k k0) hok EO hT' (λσ'=>hE σ') S (λb hb=>(BA b hb).1) (HI.CG KW) (HI.CG KU) DA hlen (λhw=>?_) (λhw=>?_) BF.2 (λxs AU hz F e=>?_) ⟨HI.GP<|Kp.mk' old,⟨_,LF⟩,[],(⟨_,JH.extBut _ _ DA<|ah _<|hH2▸ip _ rfl⟩),rfl,nofun⟩ OY h1
    ·refine Zs ((BA _ hw).2) λo e=>?_;rw[KW] at e;exact ns e
    ·refine Zs ((BA _ hw).2) λo e=>?_;rw[KU] at e;exact ns e
    ·exact hq jv wr _ _ xs AU k0 (HI.CG KW) (HI.CG KU) DA hz F e
   exact ym (loop _ rfl)<|S.self 0 _ _ _ OY<|loop _ rfl
theorem Ty{rec:mh->aA->h_->R V}{g:vj}(zv:∀e,zr e=â->rec sc σ e=.no)
  (CE:aJ n hd l sc σ g.iter<|rec sc σ g.iter) (hsub:∀f as AD q,g.iter=.Call f as AD q->∀a∈as,aJ n hd l sc σ a<|rec sc σ a)
  (hT:∀c∈g.ifs,∀σ',cD n hd l zo σ' c<|rec zo σ' c) (hE:∀σ',aJ n hd l zo σ' elt<|rec zo σ' elt) :
  aJ n hd l sc σ (.ListComp elt [g] zo pos) (l8 rec hd sc σ elt g zo):=by
 intro A env s av hA I β k fin Q E hf hq he;rw[eval_ListComp];exact Fm zv CE hsub hT hE hA I hf he λjv wr D C xs AU k0 hD hC DA hz F e=>Zs F.ns λm hn=>⟨m,hn,λh' hs=>by refine zj (Tx k0 hD hC DA F hz hs) λa b=>?_;exact hq _ _ (.own<|.list xs) a b e⟩
end
section
inductive XS(s:c_)(h:mj)(v:b_)(d:a_):Prop where
 |mk (t:f_) (k:d_) (tk:vg) (x:b_) (e:a_) (pn:f_->Prop) (hv:v=.ref t) (ht:s.heap.get? t=á) (hp:DH h t #[.str k tk,x]) (hd:d=.tuple [.str k,e]) (hk:k.length<=g_)
  (hn:∀b,pn b->s.heap.get? b=á) (hl:∀b,pn b->∃o,h.get? b=à o) (hr:Dp h pn x e):XS s h v d
inductive KM(h:mj)(av pn:f_->Prop)(v:b_)(d:a_):Prop where
 |mk (t:f_) (k:d_) (tk:vg) (x:b_) (e:a_) (hv:v=.ref t) (ht:¬av t) (hp:DH h t #[.str k tk,x]) (hd:d=.tuple [.str k,e]) (hk:k.length<=g_) (hr:Dp h pn x e):KM h av pn v d
structure P'(l:List nt)(jv:c_)(CJ:f_->Prop)(D C:f_)(xs:List a_)(pn:Nat->f_->Prop)(ys:List b_)(st:c_):Prop where
 k:K l jv st
 ns:∃m,st.heap.Ns C m
 pl:st.heap.PlainList D ys.toArray
 len:ys.length=xs.length
 pin:∀i b,pn i b->jv.heap.get? b=á/\(∃o,st.heap.get? b=à o)/\¬CJ b
 dis:∀i j b,pn i b->pn j b->i=j
 prs:∀(j:Nat) (v:b_) (d:a_),ys[j]?=à v->xs[j]?=à d->KM st.heap CJ (pn j) v d
theorem KM.mono(hk:∀b o,¬av b->h.get? b=à o->h'.get? b=à o)(hp:∀b,pn b->¬av b)(hu:∀b,pn b->pn' b)(r:KM h av pn v d):KM h' av pn' v d:=by obtain⟨t,k,tk,x,e,hv,ht,DL,hd,AX,hr⟩:=r;exact⟨t,k,tk,x,e,hv,ht,DL.at λo q=>hk t o ht q,hd,AX,(hr.mono λb o hb q=>hk b o (hp b hb) q).up hu⟩
def sI(n:Nat)(hd:Bool)(l:List nt)(sc:mh)(σ:aA)(e:h_)(d:a_):Prop:=
 ∀(A:mz) (env:nt) (s:c_) (av:f_->Prop),AI n hd l A->AW l env sc σ av s->∀{Q:b_->c_->Prop} {E:b_->c_->Prop},(∀v s',K l s s'->XS s s'.heap v d->Q v s')->i' (i_ O w) A (eval e env) Q E s
inductive WN(l:List nt)(jv:c_)(av':f_->Prop)(D C:f_)(fs:List a_)(n:Nat)(St:Nat->mj->Prop)(m:Nat)(st:c_):Prop where
 |mk (i:Nat) (pn:Nat->f_->Prop) (ys:List b_) (hi:i+m=n) (F:P' l jv av' D C (fs.take i) pn ys st) (hs:St i st.heap):WN l jv av' D C fs n St m st
theorem Tz{jv:c_}{z:Tg}{cl:List<|Str×f_}{wr:f_->Prop}{St:Nat->mj->Prop}{fs:List a_}{C:f_}
  (hA:AI n hd l A) (hh:A.handled=á) (RK:LV target z) (I:AW l env sc σ av jv) (hok:PZ sc zo z) (EO:∀x c,(x,qi)∈zo.names->env.cells.lookup x=à c->cl.lookup x=à c)
  (K_:fs.length=ds.length) (hE:∀(i:Nat) (d f:a_),ds[i]?=à d->fs[i]?=à f->∃σ',jJ z d σ=à σ'/\sI n hd l zo σ' elt f)
  (S:JR A jv.heap av target it wr St ds) (BA:∀b,wr b->jv.heap.get? b=á)
  (hD:jv.heap.get? D=á) (hC:jv.heap.get? C=á) (DA:D≠C) (hlen:ds.length<=g_) (JZ:¬wr D) (JY:¬wr C)
  {R:wi->c_->Prop} (hR:∀pn ys AU,P' l jv (λb=>av b\/wr b\/b=D\/b=C) D C fs pn ys AU->R (.ok .next) AU)
  {st:c_} (h:P' l jv (λb=>av b\/wr b\/b=D\/b=C) D C [] (λ_ _=>False) [] st) (AP:St 0 st.heap) :
  rg (i_ O w) A (.compLoop (.ListComp elt [⟨target,iter,[],0⟩] zo pos) 0 it (.ref D)<|compEnvC zo cl C env) R st:=by
 revert hA hh RK I hok EO K_ hE S BA hD hC DA hlen JZ JY hR;revert it wr St ds fs D C R st;ext av A hd env target elt iter l n pos sc zo σ jv z cl;ext D ds it wr St fs C R st
 have nf:∀b,(wr b\/b=D\/b=C)->¬z_ l b:=λb hb f=>by
  refine Zs (I.gnd.avlt _<|I.gnd.fav _ f) λo e=>?_;rcases hb with hb|rfl|rfl
  ·rw[BA b hb] at e;exact ns e
  ·rw[hD] at e;exact ns e
  ·rw[hC] at e;exact ns e
 have new:∀b o,jv.heap.get? b=à o->(av b\/wr b\/b=D\/b=C)->av b:=λb o e hb=>by
  rcases hb with hb|hb|rfl|rfl
  ·exact hb
  ·rw[BA b hb] at e;exact ns e
  ·rw[hD] at e;exact ns e
  ·rw[hC] at e;exact ns e
 refine Ff (I:=WN l jv (λb=>av b\/wr b\/b=D\/b=C) D C fs ds.length St) ?_ ds.length ⟨0,λ_ _=>False,[],im _,by rw[List.take_zero];exact h,AP⟩;clear h AP st
 rintro m st ⟨i,pn,ys,hi,F,AP⟩
 obtain⟨kk,⟨mm,AR⟩,DL,hyl,JF,RB,OW⟩:=F;have live:∀(AU:c_),K l jv AU->(∃m,AU.heap.Ns C m)->AU.heap.PlainList D ys.toArray->(∀b,wr b->∃o,AU.heap.get? b=à o)->∀b,(av b\/wr b\/b=D\/b=C)->∃o,AU.heap.get? b=à o:=λAU kk hn hp hw b hb=>by
  rcases hb with hb|hb|rfl|rfl
  ·exact Zs (I.gnd.avlt b hb) λo e=>Zs (kk.up e) λsl e'=>⟨_,e'⟩
  ·exact hw b hb
  ·exact Zs hp λnn e=>⟨_,e⟩
  ·exact eH hn λ_ o _ _ e _=>⟨o,e⟩
 by_cases DD:i=ds.length
 ·subst hi DD;rw[<- K_,jn] at hyl OW;obtain LA:∀h':mj,(∀b o,¬wr b->st.heap.get? b=à o->h'.get? b=à o)->∀b o,¬(av b\/wr b\/b=D\/b=C)->st.heap.get? b=à o->h'.get? b=à o:=λh' hk b o hb e=>hk b o (λhw=>hb<|.inr<|.inl hw) e;refine aq (S.done st _ (λs'=>R (.ok .next) s') AP λh' tk hk=>hR pn ys _ ⟨kk.RX BA hk,⟨mm,AR.at' λo e=>hk C o JY e⟩,DL.at λo e=>hk D o JZ e,hyl,λi b hb=>?_,RB,λj v d e1 e2=>(OW j v d e1 e2).mono (LA h' hk) (λb hb=>(JF j b hb).2.2) λ_ q=>q⟩) (λr jv jz=>?_) λ_ _ x=>x
  ·refine bP (JF i b hb) λh1 zt h3=>?_;obtain⟨o,h2⟩:=zt;exact⟨h1,⟨o,hk b o (λhw=>h3<|.inr<|.inl hw) h2⟩,h3⟩
  ·cases r with
   |none=>exact jz
   |some v=>exact jz.elim
 ·have zw:i<ds.length:=by exact qM hi DD
  have US:=K_▸zw;refine aD (hE i ds[i] fs[i] (ai zw) (ai US)) λσ' J' hEl=>?_;refine aq (S.item i ds[i] st _ ?QQ (ai zw) AP ?body) ?link λ_ _ x=>x
  case link=>
   intro r jv jz;cases r with
   |none=>exact jz.elim
   |some v=>exact jz
  intro v h1 DZ hk1 FK GI;refine Fj (l:=l) hh RK J' (GI (λb=>av b\/wr b\/b=D\/b=C) (live st kk ⟨mm,AR⟩ DL<|S.live i _ AP) new) (.inr<|.inr<|.inr rfl) (AR.at' λo e=>hk1 C o JY e) (λx hx=>⟨(hok.tgt x hx).1,by rw[mP,(hok.tgt x hx).2];rfl⟩) hok.two hok.kind λh2 JP m2 FR BO UV=>?_;have k2:K l jv {st with heap:=h2,toks:=JP}:=K.on (s':={st with heap:=h1,toks:=DZ}) (c:=C) (kk.RX (tk:=DZ) BA hk1) hC BO;have PV:=S.frame _ _ _ FK (λb o hb e=>BO b o (λx=>JY<|(show b=C from x)▸hb) e) λb o e BY=>k2.at (λf=>BY<|I.gnd.fav b f) e;have PQ:=DL.at λo e=>BO D o (λx=>DA x)<|hk1 D o JZ e;have k12:∀b o,¬(av b\/wr b\/b=D\/b=C)->st.heap.get? b=à o->h2.get? b=à o:=λb o hb e=>BO b o (λx=>hb<|.inr<|.inr<|.inr x)<|hk1 b o (λhw=>hb<|.inr<|.inl hw) e;have Φ:=live {st with heap:=h2,toks:=JP} k2 ⟨m2,FR⟩ PQ<|S.live _ _ PV;have Ϛ:∀i b,pn i b->∃o,h2.get? b=à o:=λi b hb=>by refine bP (JF i b hb) λ_ zt n=>?_;obtain⟨o,e⟩:=zt;exact⟨o,k12 b o n e⟩
  obtain I2:AW l (compEnvC zo cl C env) zo σ' (λb=>av b\/wr b\/b=D\/b=C) {st with heap:=h2,toks:=JP}:=
   I.comp hok J' EO k2 new (λ_ x=>.inl x) Φ FR UV
  refine wpAny_tests_nil ?_;refine hEl A _ _ _ hA I2 λxv kf k4 r4=>?_;obtain GB:∀b,¬(av b\/wr b\/b=D\/b=C)->¬z_ l b:=λb hb f=>hb<|.inl<|I.gnd.fav b f;refine jp (PQ.at λo e=>k4.at (nf D<|.inr<|.inl rfl) e) (λh5 WA VB=>?_) (by simp;exact O8 hlen hi<|by rw[hyl,oh,sy<|bu US]);have HH:∀b o,b≠D->kf.heap.get? b=à o->h5.get? b=à o:=λb o hb e=>by rw[VB.2 b hb];exact e
  have PG:K l jv {kf with heap:=h5}:=(k2.tr k4).on (tk:=kf.toks) hD HH;have tk:fs.take (i+1)=fs.take i++[fs[i]]:=by rw[yr,ai US];rfl
  have Η:∀b o,¬(av b\/wr b\/b=D\/b=C)->kf.heap.get? b=à o->h5.get? b=à o:=λb o hb e=>HH b o (λx=>hb<|.inr<|.inr<|.inl x) e;have Ζ:∀b o,¬(av b\/wr b\/b=D\/b=C)->st.heap.get? b=à o->h5.get? b=à o:=λb o hb e=>(λb o hb e=>HH b o (λx=>hb<|.inr<|.inr<|.inl x)<|k4.at (GB b hb) e) b o hb<|k12 b o hb e;obtain⟨tt,kk',EG,x,e,pn',hv,ht,hp,hd,EQ,BR,JE,hr⟩:=r4;have RV:∀b,h2.get? b=á->¬(av b\/wr b\/b=D\/b=C):=λb hb hx=>by refine Zs (Φ b hx) λo e=>?_;rw[hb] at e;exact ns e
  refine⟨m - 1,by exact nV hi DD,i+1,λj b=>pn j b\/(j=ys.length/\pn' b),ys++[xv],by exact nW hi DD,⟨PG,⟨m2,(FR.at' λo e=>HH C o (λx=>DA x.symm)<|k4.at (nf C<|.inr<|.inr rfl) e)⟩,by simpa using WA,by rw[tk,k_,k_,hyl];rfl,λj b hb=>?_,λj j' b h1 h2=>?_,λj v d e1 e2=>?_⟩,(S.frame _ _ _ PV (λb o hb e=>HH b o (λx=>JZ<|x▸hb)<|k4.at (nf b<|.inl hb) e) λb o e BY=>PG.at (λf=>BY<|I.gnd.fav b f) e)⟩
  ·rcases hb with hb|⟨_,hb⟩
   ·refine bP (JF j b hb) λq1 zt q3=>?_;obtain⟨o,q2⟩:=zt;exact⟨q1,⟨o,Ζ b o q3 q2⟩,q3⟩
   ·exact Zs (JE b hb) λo q=>⟨k2.CG<|BR b hb,⟨o,Η b o (RV b<|BR b hb) q⟩,RV b<|BR b hb⟩
  ·rcases h1 with h1|⟨h1,IY⟩
   ·rcases h2 with h2|⟨h2,DU⟩
    ·exact RB j j' b h1 h2
    ·refine Zs (Ϛ j b h1) λo q=>?_;rw[BR b DU] at q;exact Internal.ns q
   ·rcases h2 with h2|⟨h2,DU⟩
    ·refine Zs (Ϛ j' b h2) λo q=>?_;rw[BR b IY] at q;exact Internal.ns q
    ·rw[h1,h2]
  ·rw[tk] at e2;rcases za j ys.length with hj|hj|hj
   ·rw[gh hj] at e1;rw[gh<|hyl▸hj] at e2;exact(OW j v d e1 e2).mono Ζ (λb hb=>(JF j b hb).2.2) λ_ q=>.inl q
   ·subst hj;rw[gj<|bv _,uv] at e1;rw[gj<|bl hyl.symm,hyl,uv] at e2;obtain rfl:=si e1;replace e2:=si e2;subst e2;exact KM.mono Η (λb hb=>RV b<|BR b hb) (λ_ q=>.inr ⟨rfl,q⟩) ⟨tt,kk',EG,x,e,hv,RV tt ht,hp,hd,EQ,hr⟩
   ·rw[dg<|by rw[k_];exact hj] at e1;exact Internal.ns e1
end
section
theorem T0{vs:List b_}(hh:A.handled=á)(h2:s.heap.get? a=à {cls:=.type "list",data:=.seq vs.toArray nn})(g1:iR s.heap vs kvs)(hz:kvs.length<=g_)
  (hq:∀s',Kp s s'->s'.heap.DictOf (mc O w) s.heap.objs.size (merged [] kvs)->Q (.ref s.heap.objs.size) s'):i' (i_ O w) A (call (.type "dict") [.ref a]) Q E s:=by
 ext a A kvs nn s E Q vs
 refine callType_codes (Q₁:=λobj jv=>obj=.ref s.heap.objs.size/\jv={s with heap:=s.heap.push {cls:=.type "dict",data:=.dict #[]}}) F.kt_called_dict (yw _) F.entry_dict_init (kt_code_dict_new _ ⟨rfl,rfl⟩) ?_
 rintro obj jv ⟨rfl,rfl⟩
 have LD:(s.heap.push {cls:=.type "dict",data:=.dict #[]}).DictOf (mc O w) s.heap.objs.size []:=re s.heap;have DU:(s.heap.push {cls:=.type "dict",data:=.dict #[]}).get? a=à _:=ah _ h2;refine⟨LD.typeIs,F.args_dict_init_2 _ _,?_⟩;unfold px.«dict.__init__»;refine ac ?_;unfold uo;refine ac<|wpAny_notOrdered_dict LD.typeIs ?_;show i' _ _ (pure (s.heap.objs.size,[mr a])) _ _ _;refine ae ?_;show i' _ _ (pe "dict.__init__" s.heap.objs.size (.ref a) [] .none) _ _ _;unfold pe;refine ac<|iu (T:="list") ⟨_,DU,rfl⟩ ?_;rw[if_pos Zw];refine ac<|Ev DU hh λh' tk hk=>?_;rw[if_pos<|show(á:Option b_).isNone=â from rfl];refine ac<|wpAny_rule ?_;have hD:=LD.keep hk;have NZ:=hk _ _ DU;refine ac<|iw ⟨_,NZ,rfl,nn,rfl⟩<|ae ⟨vf oU _,?_⟩;have LJ:s.heap.objs.size<h'.objs.size:=(by refine dN hD λo _ _ e _=>?_;exact ci e)
 have PK:a<s.heap.objs.size:=ci h2;obtain old:∀b o,s.heap.get? b=à o->(h'.push {cls:=.type "list_iterator",data:=.fields #[mr a,rawInt 0]}).get? b=à o:=λb o e=>ah _<|hk _ _<|ah _ e;refine Ex (A:=A.in1) (I:=h'.objs.size) (l:=a) (D:=s.heap.objs.size) (vs:=vs) (kvs:=kvs) hh (cb<|cy PK LJ) (cb LJ) (fe PK) hz g1 (bU _) (dh<|bu LJ) kvs.length 0 _ rfl (ay _)
  ⟨⟨_,dA _ _ rfl,rfl,rfl⟩,⟨_,ah _ NZ,rfl,nn,rfl⟩⟩ old (hD.push _) λIB EG MJ KZ=>⟨rfl,hq _ (Kp.mk' MJ) KZ⟩
end
section
theorem T2{z:Tg}(zv:∀e,zr e=â->rec e=.no)
  (CE:aJ n ã l sc σ iter<|rec iter) (hsub:∀f as AD q,iter=.Call f as AD q->∀a∈as,aJ n ã l sc σ a<|rec a) (hn:kL target=à z) (c1:kN sc zo z=â) {ds fs:List a_} (FG:fZ rec ã sc target iter=.ok ds)
  (K_:fs.length=ds.length) (hE:∀(i:Nat) (d f:a_),ds[i]?=à d->fs[i]?=à f->∃σ',jJ z d σ=à σ'/\sI n ã l zo σ' elt f)
  {A:mz} {env:nt} {s:c_} {av:f_->Prop} (hA:AI n ã l A) (I:AW l env sc σ av s) {Q:b_->c_->Prop} {E:b_->c_->Prop} {use:Option<|Value->Sem Unit}
  (hq:∀(jv:c_) (wr:f_->Prop) (D C:f_) (pn:Nat->f_->Prop) (ys:List b_) (AU:c_),K l s jv->jv.heap.get? D=á->jv.heap.get? C=á->D≠C->P' l jv (λb=>av b\/wr b\/b=D\/b=C) D C fs pn ys AU->compPost (i_ O w) A E use Q (.ref D) C (.ok .next) AU) :
  i' (i_ O w) A (comprehension (.ListComp elt [⟨target,iter,[],0⟩] zo pos) zo env GU (newList []) (firstAsync [⟨target,iter,[],0⟩]) (firstIter [⟨target,iter,[],0⟩] env) use) Q E s:=by
 have hok:=Fg c1;have hb:zr iter=ã:=gR (λe=>xB zv e) (by rw[FG];nofun);refine aD (Fe (env:=env) (scope:=zo) λp hp hk=>(I.kinds p.1<|hok.free p hp hk).2) λcl UL EO=>?_;refine xx (g:=⟨target,iter,[],0⟩) (gs:=[]) rfl (wB hb) UL hok.kind (λp hp hk=>(hok.loc p hp hk).2) ?_;refine sG (target:=target) zv CE hsub A env s av hA I (k:=Zt) (fin:=.ok ds) ⟨by rw[FG];rfl,nofun⟩ (λit jy ds' x h1=>?_) EH.ok;obtain rfl:ds'=ds:=by cases h1;rfl
 obtain⟨jv,wr,St,k0,S,AP,BA,k2,hlen⟩:=x;refine gn<|wpAny_newFunctionEnv hok.cell (by intro y hy;simp at hy) (λjz LF JH=>?_) hok.kind;dsimp only at LF JH ⊢;generalize hH2:jy.heap.push {cls:=.type "list",dict:=á,data:=.seq ([]:List b_).toArray}=H2 at LF JH ⊢;have hC:H2.objs.size=jy.heap.objs.size+1:=by rw[<- hH2,gr]
 have DA:jy.heap.objs.size≠H2.objs.size:=by rw[hC];exact cb<|fk _
 obtain below:∀b,b<jy.heap.objs.size->b≠H2.objs.size:=λb hb=>by rw[hC];exact cb<|iz hb
 have old:∀b o,jy.heap.get? b=à o->jz.get? b=à o:=λb o e=>JH.extBut b o (below b<|ci e)<|ah _<|hH2▸ah _ e;have KW:jy.heap.get? jy.heap.objs.size=á:=bU _;have KU:jy.heap.get? H2.objs.size=á:=dh (by rw[hC];exact ao _);have HI:K l jv jy:=K.of k2;have OY:St 0 jz:=S.frame _ _ _ AP (λb o _ e=>old b o e) λb o e _=>old b o<|k2.heap b o e;have loop:∀kc:c_,kc={jy with heap:=jz,toks:=jy.toks+([]:List<|Str×b_).length} ->
   rg (i_ O w) A (.compLoop (.ListComp elt [⟨target,iter,[],0⟩] zo pos) 0 it (.ref jy.heap.objs.size)<|compEnvC zo cl H2.objs.size env) (compPost (i_ O w) A E use Q (.ref jy.heap.objs.size) H2.objs.size) kc:=by
  rintro kc rfl
  refine Tz (jv:=jv) (wr:=wr) hA (hA.handled rfl) (Fi hn) (I.k k0) hok EO K_ hE S (λb hb=>(BA b hb).1) (HI.CG KW) (HI.CG KU) DA hlen (λhw=>?_) (λhw=>?_) (λpn ys AU F=>hq jv wr _ _ pn ys AU k0 (HI.CG KW) (HI.CG KU) DA F) ⟨HI.GP<|Kp.mk' old,⟨_,LF⟩,(⟨_,JH.extBut _ _ DA<|ah _<|hH2▸ip _ rfl⟩),rfl,nofun,nofun,nofun⟩ OY
  ·refine Zs ((BA _ hw).2) λo e=>?_;rw[KW] at e;exact ns e
  ·refine Zs ((BA _ hw).2) λo e=>?_;rw[KU] at e;exact ns e
 exact ym (loop _ rfl)<|S.self 0 _ _ _ OY<|loop _ rfl
end
section
inductive XR(h:mj)(pn:Nat->f_->Prop)(ys:List b_)(fs:List a_):Prop where
 |mk (kvs:List<|Str×b_) (p:iR h ys kvs) (l:kvs.length=fs.length) (r:∀(j:Nat) (kv:d_×b_) (d:a_),kvs[j]?=à kv->fs[j]?=à d->∃e,d=.tuple [.str kv.1,e]/\kv.1.length<=g_/\Dp h (pn j) kv.2 e):XR h pn ys fs
theorem T3:∀{ys:List b_} {fs:List a_} {pn:Nat->f_->Prop},ys.length=fs.length->(∀(j:Nat) (v:b_) (d:a_),ys[j]?=à v->fs[j]?=à d->KM h av (pn j) v d)->XR h pn ys fs:=by
 intro ys;induction ys with
 |nil=>
  intro fs pn hl _;cases fs with
  |nil=>exact⟨[],trivial,rfl,λj kv d e1 _=>ns e1⟩
  |cons=>exact nomatch hl
 |cons y ys ih=>
  intro fs pn hl hp;cases fs with
  |nil=>exact nomatch hl
  |cons f fs=>
   obtain⟨kvs,p,JE,r⟩:=ih (fs:=fs) (pn:=λj=>pn<|j+1) (qb hl) λj v d e1 e2=>hp (j+1) v d e1 e2;obtain⟨t,k,tk,x,e,hv,ht,CK,hd,hk,hr⟩:=hp 0 y f rfl rfl;refine⟨(k,x)::kvs,⟨⟨t,tk,hv,CK⟩,p⟩,congrArg (·+1) JE,λj kv d e1 e2=>?_⟩;cases j with
   |zero=>obtain rfl:=si e1;obtain rfl:=si e2;exact⟨e,hd,hk,hr⟩
   |succ j=>exact r j kv d e1 e2
theorem T5:∀{ks:List d_} {kvs:List<|Str×b_},ks.map l_=kvs.map (λkv=>l_ kv.1)->ks=kvs.map (·.1):=by
 intro ks;induction ks with
 |nil=>
  intro kvs h;cases kvs with
  |nil=>rfl
  |cons=>exact nomatch h
 |cons k ks ih=>
  intro kvs h;cases kvs with
  |nil=>exact nomatch h
  |cons kv kvs=>
   injection h with h1 h2
   injection h1 with h1
   rw[h1,ih h2];rfl
theorem T7{z:Tg}{p:oi}(zv:∀e,zr e=â->rec e=.no)
  (CE:aJ n ã l sc σ iter<|rec iter) (hsub:∀f as AD q,iter=.Call f as AD q->∀a∈as,aJ n ã l sc σ a<|rec a) (hn:kL target=à z) (c1:kN sc zo z=â) (hg:AL sc "dict" = â) {m:List<|PyData×a_} {ks:List d_} (hks:m.map (·.1)=ks.map l_) (IF:ks.Nodup)
  (FG:fZ rec ã sc target iter=.ok (m.map (·.1))) (hE:∀(i:Nat) (d:a_×a_),m[i]?=à d->∃σ',jJ z d.1 σ=à σ'/\sI n ã l zo σ' elt (.tuple [d.1,d.2]))
  {A:mz} {env:nt} {s:c_} {av:f_->Prop} (hA:AI n ã l A) (I:AW l env sc σ av s) (hz:m.length<=g_) {Q:b_->c_->Prop} {E:b_->c_->Prop}
  (hq:∀a s',K l s s'->CO s s'.heap (.ref a) (.dict m)->Q (.ref a) s'):i' (i_ O w) A (eval (.Call (.Name "dict" p) [.ListComp elt [⟨target,iter,[],0⟩] zo pos] [] GU) env) Q E s:=by
 refine og rfl (eT I hg rfl (jS (.inr ⟨_,rfl⟩) ?_));rw[eval_ListComp];refine T2 zv CE hsub hn c1 FG (fs:=m.map λd=>.tuple [d.1,d.2]) (by rw[j_,j_]) (λi d f e1 e2=>?_) hA I λjv wr D C pn ys AU k0 hD hC DA F=>?_
 ·rw[lz] at e1 e2;refine aD (az.mp e1) λq MO zq=>?_;subst e1 zq;rw[MO] at e2;replace e2:=si e2;subst e2;exact hE i q MO
 ·obtain⟨kk,⟨mm,AR⟩,DL,hyl,JF,RB,OW⟩:=F;refine⟨mm,AR,λh' hs=>?_⟩;have hk:∀b o,b≠C->AU.heap.get? b=à o->h'.get? b=à o:=λb o hb e=>by rw[hs.2 b hb];exact e
  have AX:∀b o,¬(av b\/wr b\/b=D\/b=C)->AU.heap.get? b=à o->h'.get? b=à o:=λb o hb e=>hk b o (λx=>hb<|.inr<|.inr<|.inr x) e;obtain⟨kvs,hp,EQ,hr⟩:=T3 hyl λj v d e1 e2=>(OW j v d e1 e2).mono AX (λb hb=>(JF j b hb).2.2) λ_ q=>q;have hml:kvs.length=m.length:=by rw[EQ,j_]
  have K1:K l s {AU with heap:=h'}:=k0.tr<|kk.on (tk:=AU.toks) hC hk;have UQ:∀(j:Nat) (kv:d_×b_) (d:a_×a_),kvs[j]?=à kv->m[j]?=à d->d.1=.str kv.1/\kv.1.length<=g_/\Dp h' (pn j) kv.2 d.2:=λj kv d e1 e2=>by
   refine bN (hr j kv (.tuple [d.1,d.2]) e1<|by rw[lz,e2];rfl) λe he h1 h2=>?_;injection he with he
   injection he with he1 he
   injection he with he2 _
   exact⟨he1,h1,he2▸h2⟩
  have OP:m.map (·.1)=kvs.map λkv=>l_ kv.1:=by
   refine um λj=>?_;rw[lz,lz]
   by_cases hj:j<m.length
   ·have OO:=hml▸hj;rw[ai hj,ai OO];exact congrArg à (UQ j _ _ (ai OO)<|ai hj).1
   ·rw[dg<|Nat.not_lt.mp hj,dg<|hml▸Nat.not_lt.mp hj];rfl
  obtain hnk:(kvs.map (·.1)).Nodup:=by exact(T5<|hks.symm.trans OP)▸IF
  refine Zs (DL.at (h':=h') λo e=>hk D o DA e) λnn q1L=>T0 (hA.handled rfl) q1L hp (hml▸hz) λs' k1 EP=>?_;rw[merged_nil_of_nodup kvs hnk] at EP;have fr:h'.get? h'.objs.size=á:=bU _;have lv:∀i b,pn i b->∃o,h'.get? b=à o:=λi b hb=>by refine bP (JF i b hb) λ_ zt n=>?_;obtain⟨o,e⟩:=zt;exact⟨o,AX b o n e⟩
  refine hq _ s' (K1.GP k1) ⟨λb=>b=h'.objs.size\/∃j,pn j b,λb hb=>hb.elim (λe=>e▸K1.CG fr) λhb=>by refine Zs hb λj hb=>?_;exact k0.CG (JF j b hb).1,λb hb=>hb.elim (λe=>by refine dN EP λo es ep e' _=>?_;exact⟨o,e▸e'⟩) λhb=>by refine Zs hb λj hb=>?_;refine Zs (lv j b hb) λo e=>?_;exact⟨o,k1.heap b o e⟩,
   .dict pn (.inl rfl) EP ⟨hml▸hz,λkv ED=>?_⟩ (oS (s:={AU with heap:=h'})<|I.gnd.k K1) OP (λi b hb=>⟨.inr ⟨i,hb⟩,λe=>?_⟩) RB λi kv d e1 e2=>(UQ i kv d e1 e2).2.2.mono λb o _ e=>k1.heap b o e⟩
  ·obtain⟨j,hj,e⟩:=tu ED;exact(UQ j kv m[j] (by rw[ai hj,e]) (ai<|hml▸hj)).2.1
  ·refine Zs (lv i b hb) λo q=>?_;rw[e,fr] at q;exact ns q
end
section
theorem xC{rec:mh->aA->h_->R V}(h:zr e=â):kO rec C sc σ e=.no:=by cases e<;>first | rfl | cases h
theorem Zu.handed(r:Zu h av v d):handedOut v=pure v:=by cases r<;>rfl
theorem T9{o:Option α}{x:α}(h:AT o=.ok x):o=à x:=by
 cases o with
 |none=>exact zz h
 |some y=>replace h:=pi h;subst h;rfl
theorem xD{pz p:oi}{e dd:f_}{ob:tg}{vs:Array b_}{ps:List d_}{mm:d_->Option b_}(I:AW l env sc σ av s)(hl:AV sc z=â)(HB:aW env s.heap z<|.ref e)
  (c2:KJ O w base Ca bm CF) (GH:CF=à ps) (hm:m∈ps) (g1:s.heap.get? e=à ob) (g2:ob.data=.fields vs) (g3:ob.cls=.ref Ca) (ed:ob.dict=à dd) (AR:s.heap.Ns dd mm) (hv:mm m=à v) (hh:handedOut v=pure v) {Q:b_->c_->Prop} {E:b_->c_->Prop} (hq:∀tk,Q v {s with toks:=tk}):i' (i_ O w) A (eval (.Attribute (.Name z pz) m p) env) Q E s:=by
 rw[arm_eval_Attribute];refine ac ?_;refine dE I hl HB<|ac<|ck<|ac<|bk<|c2.fld ps GH m hm A s e dd ob vs mm v E _ I.gnd.stay g1 g3 g2 ed AR hv hh λtk=>?_;exact ac<|ae<|ae<|hq tk
theorem Ua(hK:DG n C){rec:mh->aA->h_->R V}(zv:∀sc σ e,zr e=â->rec sc σ e=.no)
  (ih:∀sc σ e,aJ n C.hd l sc σ e (rec sc σ e)/\cD n C.hd l sc σ e (rec sc σ e)) (sc:mh) (σ:aA) (e:h_) :
  aJ n C.hd l sc σ e (kO rec C sc σ e)/\cD n C.hd l sc σ e (kO rec C sc σ e):=by
 have hE:∀e,aJ n C.hd l sc σ e (rec sc σ e):=λe=>(ih sc σ e).1;have hT:∀e,cD n C.hd l sc σ e (rec sc σ e):=λe=>(ih sc σ e).2;have tv:∀{e p},aJ n C.hd l sc σ e p->(∀env whole,PySem.isTrue e env whole=(do let v <- whole;standAt e.pos;holding [v] (truthy v)))->aJ n C.hd l sc σ e p/\cD n C.hd l sc σ e p:=λh he=>⟨h,D6 h he⟩
 have tn:∀{e},aJ n C.hd l sc σ e .no/\cD n C.hd l sc σ e .no:=⟨λ_ _ _ _ _ _ _ _ _ _ _ hf=>hf.no.elim,λ_ _ _ _ _ _ _ _ _ _ _ hf=>(Fin.b hf).no.elim⟩;cases e with
 |Constant c k p=>exact tv Qt λ_ _=>rfl
 |Name x p=>exact tv (Qs hK.const) λ_ _=>rfl
 |BoolOp op vs p=>
  cases op with
  |And=>exact⟨λA env s av hA I _ _ _ _ _ hf hq he=>Q8 hA (λe _=>hE e) I hf hq he,λA env s av hA I _ _ _ _ _ hf hq he=>Ra hA (λe _=>hT e) I hf hq he⟩
  |Or=>exact⟨λA env s av hA I _ _ _ _ _ hf hq he=>Q9 hA (λe _=>hE e) I hf hq he,λA env s av hA I _ _ _ _ _ hf hq he=>Rb hA (λe _=>hT e) I hf hq he⟩
 |BinOp l op r p=>exact tv (Q4 (hE l)<|hE r) λ_ _=>rfl
 |UnaryOp op x p=>
  refine⟨D5<|hE x,?_⟩;cases op with
  |Not=>exact Q6<|hT x
  |_=>exact D6 (D5<|hE x) λ_ _=>rfl
 |IfExp t b o p=>exact⟨Q5 (hT t) (hE b)<|hE o,Q7 (hT t) (hT b)<|hT o⟩
 |Dict ks vs p=>exact tv (Th (λk _=>hE k) λe _=>hE e) λ_ _=>rfl
 |List es p=>exact tv (Rg (zv sc σ) λe _=>hE e) λ_ _=>rfl
 |Tuple es k p=>exact tv (Rh (zv sc σ) λe _=>hE e) λ_ _=>rfl
 |ListComp elt gens zo p=>
  cases gens with
  |nil=>exact tn
  |cons g gs=>
   cases gs with
   |nil=>exact tv (Ty (zv sc σ) (hE _) (λ_ _ _ _ _ a _=>hE a) (λc _ σ'=>(ih zo σ' c).2) λσ'=>(ih zo σ' elt).1) λ_ _=>rfl
   |cons=>exact tn
 |Compare l ops es p=>exact⟨Rc (zv sc σ) (hE l) λe _=>hE e,Rd (zv sc σ) (hE l) λe _=>hE e⟩
 |Subscript o i p=>exact tv (Rs (hE o) (hE i) λc _=>⟨λx _=>hE x,λx _=>hE x⟩) λ_ _=>rfl
 |Call f as AD p=>
  cases AD with
  |cons=>exact tn
  |nil=>
   show aJ n C.hd l sc σ _ (match vw f with | .attr o m ap=>oE (rec sc σ) o m ap as p | .name f=>jM (rec sc σ) C sc σ f as | _=>.no)/\cD n C.hd l sc σ _ (match vw f with | .attr o m ap=>oE (rec sc σ) o m ap as p | .name f=>jM (rec sc σ) C sc σ f as | _=>.no);cases hv:vw f with
   |attr o m ap=>obtain ef:f=_:=dP hv;subst hv ef;exact tv (S6 (zv sc σ) (hE o) λe _=>hE e) λ_ _=>rfl
   |name x=>refine Zs (dP hv) λq zq=>?_;subst hv zq;exact tv (Tc hK (zv sc σ) (λe _=>hE e) λ_ _ _ _ _ _ _=>⟨λx _=>hE x,λo _ _ _=>hE o⟩) λ_ _=>rfl
   |_=>exact tn
 |_=>exact tn
theorem fA(hK:DG n C):∀(k:Nat) (sc:mh) (σ:aA) (e:h_),aJ n C.hd l sc σ e (BC C k sc σ e)/\cD n C.hd l sc σ e (BC C k sc σ e):=by
 intro v0;induction v0 with
 |zero=>intro _ _ _;exact⟨λ_ _ _ _ _ _ _ _ _ _ _ hf=>hf.no.elim,λ_ _ _ _ _ _ _ _ _ _ _ hf=>(Fin.b hf).no.elim⟩
 |succ k ih=>intro sc σ e;exact Ua hK (rec:=BC C k) (λsc σ e hb=>by cases k with | zero=>rfl | succ k=>exact xC hb) (λsc σ e=>ih sc σ e) sc σ e
end
def QG(n:Nat)(d:a_):R V:=if bJ n d then .ok (.dp d) else .no
def C1(n:Nat)(f:d_):Ctx:=⟨λg vs=>if g=f then (match mF vs with | some d=>QG n d | none=>.no) else .no,λg=>g==f,jN O.main.body,ã,fJ O.main.body,λc=>(bO c O.main.body).map (·.2),λ_=>ã,0⟩
section
def sJ(ad:f_)(n:Nat):Prop:=
 ∀(A:mz) (l:List nt) (s:c_) (av:f_->Prop) (v:b_) (d:a_),AI n ã l A->CQ l av s->Zu s.heap av v d->bJ n d=â->∀{Q:b_->c_->Prop} {E:b_->c_->Prop},(∀v' s',K l s s'->CO s s'.heap v' d->Q v' s')->i' (i_ O w) A (call (.ref ad) [v]) Q E s
theorem Fn(h:mF us=à d):us=[.fz d]:=by
 cases us with
 |nil=>exact ns h
 |cons u r=>
  cases r with
  |cons=>exact ns h
  |nil=>
   cases u with
   |fz e=>obtain rfl:=si h;rfl
   |_=>exact ns h
theorem DG.c1{x:nb×List me×mh}(hf:cX f O.main.body=à x)(hm:mg f=à (.ref ad))(ih:sJ ad n):DG n (C1 n f) where
 const:=rfl
 init:=rfl
 sub:=rfl
 has:=λg hg=>by obtain rfl:g=f:=eq_of_beq hg;obtain⟨a,b,sc⟩:=x;exact⟨a,b,sc,hf⟩
 call:=λg us QE hg hh A l s av vs hA G CB β k fin Q E CC hq he=>by
  obtain rfl:=eq_of_beq hh;rw[hm] at hg;replace hg:=nr<|si hg;subst hg;replace CC:Fin (if g=g then (match mF us with|some d=>QG n d|none=>.no) else .no) k fin:=CC;rw[if_pos rfl] at CC;refine zn (mF us) (λhu=>?_) λd hu=>?_
  ·rw[hu] at CC;exact CC.no.elim
  rw[hu] at CC;replace hu:=Fn hu;subst hu;refine zj (Fin.ite (CC:Fin (if bJ n d=â then Zt (V.dp d) else .no) k fin)) λhc CC=>?_;cases vs with
  |nil=>exact CB.elim
  |cons v vs=>
   refine zj CB λhv VI=>?_;cases vs with
   |cons=>exact VI.elim
   |nil=>exact ih A l s av v d hA G hv.1 hc λv' s' kk r=>hq _ _ (.dp d) kk r CC.ok
end
section
theorem mQ{p:oi}(hl:AV sc x=â)(hg:zm σ x=à (à<|.fz d)):BC C (j+1) sc σ (.Name x p)=.ok (.fz d):=by show Zy (if AV sc x then (match zm σ x with | some o=>(match o with | some v=>zi v | none=>.no) | none=>.no) else _)=_;rw[if_pos hl,hg];rfl
theorem Ub{p:oi}(hg:zm σ x=à (à<|.fz d)):oB sc σ (.Name x p)=á:=by show kM sc σ x=á;unfold kM;rw[hg]
theorem Fo{p:oi}{m:List<|PyData×a_}{k:d_}{e:a_}(hx:AV sc x=â)(hy:AV sc y=â)(gx:zm σ x=à (à<|.fz<|.dict m))(gy:zm σ y=à (à<|.fz<|.str k))(hk:bV m k=à e):
  BC C (j+2) sc σ (.Subscript (.Name x p) (.Name y p') PO)=.ok (.fz e):=by
 show rb (lZ (BC C (j+1) sc σ) sc σ<|.Name x p) (λa=>vB (BC C (j+1) sc σ) a<|.Name y p')=_;unfold lZ vB;rw[Ub gx,mQ hx gx];rw[mQ hy gy];show Zy (frz<|bV m k)=_;rw[hk];rfl
theorem Uc{p q:oi}{m:List<|PyData×a_}{k:d_}{e:a_}(hg:AL sc f=â)(hf:f ≠ "isinstance" /\ f ≠ "min" /\ fY f=ã)(hx:AV sc x=â)(hy:AV sc y=â)(gx:zm σ x=à (à<|.fz<|.dict m))(gy:zm σ y=à (à<|.fz<|.str k))(hk:bV m k=à e):
  BC (C1 n f) (j+3) sc σ (.Call (.Name f q) [.Subscript (.Name x p) (.Name y p') PO] [] q')=QG n e:=by
 show jM (BC (C1 n f) (j+2) sc σ) (C1 n f) sc σ f [.Subscript (.Name x p) (.Name y p') PO]=_;unfold jM;rw[if_pos hg,if_neg hf.1,if_neg hf.2.1,if_neg (by rw[hf.2.2];exact ja),if_neg λh=>h.elim (λh=>ja h) λh=>by rw[show(C1 n f).has f=(f==f) from rfl,beq_self_eq_true] at h;exact FZ h];show rb (rb (BC (C1 n f) (j+2) sc σ<|.Subscript (.Name x p) (.Name y p') PO) λv=>.ok [v.cl]) (λvs=>(C1 n f).call f vs)=_;rw[Fo hx hy gx gy hk];show(if f=f then QG n e else .no)=_;rw[if_pos rfl]
inductive SM:a_->Prop where
 |dict (m:List<|PyData×a_):SM (.dict m)
 |int (i:Int):SM (.int i)
theorem xE{e:a_}(h:bJ n e=â):SM e:=by
 cases n with
 |zero=>exact zk h
 |succ n=>
  cases e with
  |dict m=>exact .dict m
  |int i=>exact .int i
  |_=>exact zk h
theorem Ud{P X:d_}{q1 q2 q3 q4 q5 q6:oi}{q7:Nat}{q8:oi}{m:List<|PyData×a_}{k:d_}{e:a_}(hK:DG n<|C1 n f)(hg:AL sc f=â)(hf:f ≠ "isinstance" /\ f ≠ "min" /\ fY f=ã)(hP:AV sc P=â)(hX:AV sc X=â)
  (gP:zm σ P=à (à<|.fz<|.dict m)) (gX:zm σ X=à (à<|.fz<|.str k)) (hk:bV m k=à e) (hc:bJ n e=â):sI n ã l sc σ (.Tuple [.Name X q1,.Call (.Name f q2) [.Subscript (.Name P q3) (.Name X q4) q5] [] q6] q7 q8)<|.tuple [.str k,e]:=by
 intro A env s av hA I Q E hq;refine wpAny_Tuple ?_;refine bf ((fA hK 1 sc σ<|.Name X q1).1.val hA I (mQ hX gX) λv1 s1 k1 r1=>bf ((fA hK 3 sc σ _).1.val hA (I.k k1) (u:=.dp e) ?_ λv2 s2 k2 r2=>cc ⟨by show 2<=g_;decide,?_⟩) rfl) rfl
 ·rw[Uc hg hf hP hX gP gX hk];show(if bJ n e=â then _ else _)=_;rw[if_pos hc]
 ·obtain⟨tk,zq,EQ⟩:=(r1:Zu s1.heap av v1<|.str k).str_inv;subst r1 zq;have k3:=k1.tr k2;have kp:∀b o,s2.heap.get? b=à o->(s2.heap.push {cls:=.type "tuple",data:=.seq [qa k tk,v2].toArray}).get? b=à o:=λb o q=>ah _ q;obtain⟨pn,hn,hl,hr⟩:=(r2:CO s1 s2.heap v2 e)
  exact hq _ _ (k3.GP<|Kp.MX kp) ⟨_,k,tk,v2,e,pn,rfl,k3.CG<|bU _,⟨0,dA _ _ rfl⟩,rfl,EQ,λb hb=>k1.CG<|hn b hb,λb hb=>by refine Zs (hl b hb) λo q=>?_;exact⟨o,kp b o q⟩,hr.mono λb o _ q=>kp b o q⟩
end
section
variable {ju:List nt}
theorem IsCell.uniq{c:f_}{v v':Option b_}(x:h.IsCell c v)(y:h.IsCell c v'):v=v':=by refine aD x λo e d=>aD y λo' e' d'=>?_;rw[e] at e';cases e';rw[d] at d';clear y;cases d';rfl
theorem aW.uniq{u u':b_}(a:aW env h x u)(b:aW env h x u'):u=u':=by
 ext env h x u u'
 rcases a with ⟨k,m,hn,e⟩|⟨k,c,e,hc⟩
 ·rcases b with ⟨k',m',BR,e'⟩|⟨k',c',e',FP⟩
  ·rw[hn.eq_nsMap] at e;rw[BR.eq_nsMap] at e';rw[e] at e';exact m_ e'
  ·rw[k] at k';rcases k' with k'|k'<;>cases k'
 ·rcases b with ⟨k',m',BR,e'⟩|⟨k',c',e',FP⟩
  ·rw[k'] at k;rcases k with k|k<;>cases k
  ·rw[e] at e';cases e';exact m_<|IsCell.uniq hc FP
def Mn(env:nt)(b:f_):Prop:=b=env.locals\/∃y,env.cells.lookup y=à b
def bY(env:nt)(σ:aA)(h:mj)(x:d_)(a:f_):Prop:=(∃d,zm σ x=à (à<|.own d))/\aW env h x (.ref a)
structure Act(ju:List nt)(env:nt)(sc:mh)(jx:f_->Prop)(jw:c_)(σ:aA)(av:f_->Prop)(s:c_):Prop where
 inv:AW (env::ju) env sc σ av s
 stay0:∀b o,base.get? b=à o->jw.heap.get? b=à o
 frm:env.frame=à env.locals
 fr0:∀b,z_ ju b->jx b/\∃o,jw.heap.get? b=à o
 k0:K ju jw s
 bas:∀b,jx b->av b
 ns:∃m,s.heap.Ns env.locals m
 cells:∀x c,env.cells.lookup x=à c->c≠env.locals/\∃v,s.heap.IsCell c v
 fresh:∀b,Mn env b->av b/\jw.heap.get? b=á/\¬jx b
 capart:∀x y c,env.cells.lookup x=à c->env.cells.lookup y=à c->x=y
 names:∀x v,zm σ x=à v->AV sc x=â/\(env.kindOf x=à .local\/(env.kindOf x=à .cell/\∃c,env.cells.lookup x=à c))
 ownA:∀x a,bY env σ s.heap x a->av a/\jw.heap.get? a=á/\¬jx a/\¬Mn env a
 ownI:∀x y a,bY env σ s.heap x a->bY env σ s.heap y a->x=y
 loc:∀x,sc.names.lookup x=à .local->env.kindOf x=à .local
theorem mR{b:f_}(hf:env.frame=à env.locals):z_ (env::ju) b↔b=env.locals\/z_ ju b:=by unfold z_;rw[fw,hf,mo]
theorem Act.VU(X:Act ju env sc jx jw σ av s){b:f_}(h:Mn env b):∃o,s.heap.get? b=à o:=by
 rcases h with rfl|⟨y,h⟩
 ·exact eH X.ns λm o es ep e _=>⟨o,e⟩
 ·exact lT (X.cells y b h) λ_ v o e _=>⟨o,e⟩
theorem Act.CY(X:Act ju env sc jx jw σ av s){b:f_}(h:s.heap.get? b=á):¬Mn env b/\¬av b/\¬jx b/\jw.heap.get? b=á/\¬z_ (env::ju) b:=
 have BY:¬av b:=λx=>by refine Zs (X.inv.gnd.avlt b x) λo e=>?_;rw[h] at e;cases e
 ⟨λx=>(by refine Zs (X.VU x) λo e=>?_;rw[h] at e;cases e),BY,λx=>BY<|X.bas b x,X.k0.CG h,λx=>BY<|X.inv.gnd.fav b x⟩
theorem cM.KF(hk:∀b o,¬av b->h.get? b=à o->h'.get? b=à o)(ha:∀b o,h.get? b=à o->av' b->av b){u:b_}{v:V}
  (hs:∀d a,v=.own d->u=.ref a->∀o,h.get? a=à o->h'.get? a=à o) (r:cM l h av u v):cM l h' av' u v:=by
 cases v with
 |fz d=>exact Zu.mono hk ha r
 |own d=>refine bN r λa e n r=>?_;exact⟨a,e,n,r.mono hk ha<|hs d a rfl e⟩
 |dp d=>exact Zu.mono hk ha r
 |ex x=>refine aD r λe h r=>?_;exact⟨e,h,r.mono hk ha⟩
theorem FunFrames.to{base:mj}:∀{l:List nt},h.FunFrames base l->(∀b o,z_ l b->h.get? b=à o->(∀vs,o.data≠.fields vs)->∃o',h'.get? b=à o'/\∀vs,o'.data≠.fields vs)->h'.FunFrames base l
 :=by
 intro l;induction l with
 |nil=>exact λ_ _=>trivial
 |cons env r ih=>intro f k;refine bP f λhk zt hr=>?_;obtain⟨L,o,hf,hn,ho,hd⟩:=zt;exact aD (k L o (by unfold z_;rw[fw,hf];exact ag) ho hd) λo' ho' EP=>⟨hk,⟨L,o',hf,hn,ho',EP⟩,ih hr λb o f=>k b o<|by unfold z_;rw[fw,hf];exact af _ f⟩
theorem aW.kept{u:b_}(v:aW env h x u)(hk:∀b o,Mn env b->h.get? b=à o->h'.get? b=à o):aW env h' x u:=by
 rcases v with ⟨k,m,hn,e⟩|⟨k,c,e,o,e1,e2⟩
 ·exact .inl ⟨k,m,hn.at' λo e=>hk _ o (.inl rfl) e,e⟩
 ·exact .inr ⟨k,c,e,o,hk c o (.inr ⟨x,e⟩) e1,e2⟩
theorem Act.SD(X:Act ju env sc jx jw σ av s){v:V}{u:b_}(hg:zm σ x=à (à v))(hk:∀u,aW env s.heap x u->aW env h' x u)(hv:aW env h' x u):aW env s.heap x u:=by refine aD (X.inv.get x v (X.names x _ hg).1 hg) λu' h1 _=>?_;exact(aW.uniq (hk _ h1) hv)▸h1
theorem Act.HK(X:Act ju env sc jx jw σ av s)(hk:∀u,aW env s.heap x u->aW env h' x u)(h:bY env σ h' x a):bY env σ s.heap x a:=
 let ⟨⟨d,hg⟩,hv⟩:=h;⟨⟨d,hg⟩,X.SD hg hk hv⟩
theorem K.drop(hf:env.frame=à env.locals)(h0:jw.heap.get? env.locals=á)(x:K ju jw s)(y:K (env::ju) s s'):K ju jw s':=by
 obtain⟨h,t,rfl,k,u⟩:=x;obtain⟨h',t',rfl,k',u'⟩:=y;refine⟨h',t',rfl,λb o n e=>k' b o (λf=>?_)<|k b o n e,λb o e=>by refine Zs (u b o e) λ_ e1=>?_;exact by refine Zs (u' b _ e1) λsl e2=>?_;exact⟨sl,e2⟩⟩;rcases(mR hf).mp f with f|f
 ·simp only[f,h0] at e;exact ns e
 ·exact n f
theorem Act.k(X:Act ju env sc jx jw σ av s)(k:K (env::ju) s s'):Act ju env sc jx jw σ av s':=
 {X with
  inv:=X.inv.k k
  k0:=X.k0.drop X.frm (X.fresh _<|.inl rfl).2.1 k
  ns:=by refine Zs X.ns λm hn=>?_;exact⟨m,k.upTo.ns hn⟩
  cells:=λx c e=>by refine lT (X.cells x c e) λh1 v o h2 h3=>?_;exact by refine Zs (k.up h2) λ_ e'=>?_;exact⟨h1,v,_,e',h3⟩
  ownA:=λx a h=>X.ownA x a (X.HK (λu h=>h.k k) h)
  ownI:=λx y a h1 h2=>X.ownI x y a (X.HK (λu h=>h.k k) h1) (X.HK (λu h=>h.k k) h2)}
theorem CQ.grow(G:CQ l av s)(hl:∀a,S a->∃o,s.heap.get? a=à o):CQ l (λb=>av b\/S b) s:=
 {G with fav:=λb h=>.inl<|G.fav b h,avlt:=λb h=>h.elim (G.avlt b)<|hl b,avS:=.inl G.avS}
theorem Act.T_(X:Act ju env sc jx jw σ av s)(k:K (env::ju) s s')(hn:∀a,S a->s.heap.get? a=á)(hl:∀a,S a->∃o,s'.heap.get? a=à o):
  Act ju env sc jx jw σ (λb=>av b\/S b) s':=by
 have Y:=X.k k;refine {Y with inv:={Y.inv with gnd:=Y.inv.gnd.grow hl,get:=λx v JE hg=>?_},bas:=λb hb=>.inl<|X.bas b hb,fresh:=λb h=>by refine zj (X.fresh b h) λh1 h2=>?_;exact⟨.inl h1,h2⟩,ownA:=λx a h=>by refine zj (Y.ownA x a h) λh1 h2=>?_;exact⟨.inl h1,h2⟩};refine aD (X.inv.get x v JE hg) λu h1 h2=>⟨u,h1.k k,?_⟩
 exact(h2.KF (λ_ _ _ e=>e) (λb o e hb=>hb.elim id λhb=>by rw[hn b hb] at e;cases e) λ_ _ _ _ _ e=>e).k (λb h=>.inl<|X.inv.gnd.fav b h) k
theorem aA.NY(xs:List d_)(x:d_):∀σ:aA,zm (AB σ xs) x=(zm σ x).map λv=>if xs.contains x then v.map Zr else v
 | []=>rfl
 | (y,v)::r=>by
  show(if x=y then à (if xs.contains y then v.map Zr else v) else zm (AB r xs) x)=(if x=y then à v else zm r x).map _
  by_cases h:x=y
  ·subst h;rw[if_pos rfl,if_pos rfl];rfl
  ·rw[if_neg h,if_neg h];exact aA.NY xs x r
theorem Fp{v:V}(h:zm (AB σ xs) x=à (à v)):∃v0,zm σ x=à (à v0)/\(v=v0/\(xs.contains x=â->∀d,v0≠.own d)\/xs.contains x=â/\(∃d,v0=.own d/\v=.fz d)\/∃d,v0=.dp d/\v=.fz d):=by
 ext xs x σ v
 rw[aA.NY] at h;refine zn (zm σ x) (λhg=>?_) λo hg=>?_
 ·rewrite[hg];rw[hg] at h;exact ns h
 ·rewrite[hg];rw[hg] at h;have h:=m_ h;cases o with
  |none=>revert h;cases xs.contains x<;>exact λh=>by exact ns h
  |some v0=>
   refine⟨v0,rfl,?_⟩
   revert h;cases xs.contains x with
   |false=>exact λh=>.inl ⟨(m_ h).symm,λh=>by exact zk h⟩
   |true=>
    intro h;have h:=m_ h;cases v0 with
    |own d=>exact .inr<|.inl ⟨rfl,d,rfl,h.symm⟩
    |dp d=>exact .inr<|.inr ⟨d,rfl,h.symm⟩
    |_=>exact .inl ⟨h.symm,λ_ _ h=>by cases h⟩
inductive WO(ju:List nt)(env:nt)(sc:mh)(jx:f_->Prop)(jw:c_)(σ:aA)(av:f_->Prop)(s:c_):Prop where
 |mk (zx:f_->Prop) (h:Act ju env sc jx jw σ zx s) (g:∀b,zx b->av b):WO ju env sc jx jw σ av s
theorem Act.cl(X:Act ju env sc jx jw σ av s)(xs:List d_):WO ju env sc jx jw (AB σ xs) av s:=by
 let Z:f_->Prop:=λb=>∃x,xs.contains x=â/\bY env σ s.heap x b
 have back:∀x a,bY env (AB σ xs) s.heap x a->xs.contains x=ã/\bY env σ s.heap x a:=λx a ⟨⟨d,h⟩,hv⟩=>by
  obtain⟨v0,hg,⟨e,hc⟩|⟨_,d',_,e⟩|⟨d',_,e⟩⟩:=Fp h
  ·exact⟨pq _▸λh=>hc h d e.symm,⟨d,e▸hg⟩,hv⟩
  ·cases e
  ·cases e
 have nZ:∀b,(jw.heap.get? b≠á\/jx b\/Mn env b)->¬Z b:=by
  rintro b hb ⟨x,_,h⟩
  refine fO (X.ownA x b h) λ_ h2 h3 h4=>?_;rcases hb with hb|hb|hb
  ·exact hb h2
  ·exact h3 hb
  ·exact h4 hb
 obtain q1C:jw.heap.get? mw≠á:=λe=>by refine eH X.inv.gnd.glo.mods λmm o es ep h _=>?_;rw[X.stay0 _ _ h] at e;exact sn e
 refine⟨λb=>av b/\¬Z b,{X with inv:=?_,bas:=λb hb=>⟨X.bas b hb,nZ b<|.inr<|.inl hb⟩,fresh:=λb h=>by refine zj (X.fresh b h) λh1 h2=>?_;exact⟨⟨h1,nZ b<|.inr<|.inr h⟩,h2⟩,names:=λx v h=>?_,ownA:=λx a h=>?_,ownI:=λx y a h1 h2=>X.ownI x y a (back x a h1).2 (back y a h2).2},λb h=>h.1⟩
 ·refine {X.inv with gnd:={X.inv.gnd with fav:=λb h=>?_,avlt:=λb hb=>X.inv.gnd.avlt b hb.1,avS:=⟨X.inv.gnd.avS,nZ _<|.inl q1C⟩},get:=λx v hl hg=>?_}
  ·refine⟨X.inv.gnd.fav b h,nZ b ?_⟩;rcases(mR X.frm).mp h with h|h
   ·exact .inr<|.inr<|.inl h
   ·exact .inr<|.inl (X.fr0 b h).1
  ·obtain⟨v0,DE,⟨rfl,hc⟩|⟨hc,d,rfl,rfl⟩|⟨d,rfl,rfl⟩⟩:=Fp hg
   ·exact aD (X.inv.get x v hl DE) λu h1 h2=>⟨u,h1,h2.KF (λ_ _ n e=>e) (λ_ _ _ h=>h.1) λ_ _ _ _ _ e=>e⟩
   ·refine lQ (X.inv.get x _ hl DE) λu h1 a zq _ r=>?_;subst zq;exact⟨_,h1,cC.rep (λh=>h.2 ⟨x,hc,⟨d,DE⟩,h1⟩)<|r.mono (λ_ _ _ e=>e) (λ_ _ _ h=>h.1) λ_ e=>e⟩
   ·exact aD (X.inv.get x _ hl DE) λu h1 r=>⟨u,h1,Zu.mono (λ_ _ _ e=>e) (λ_ _ _ h=>h.1) r⟩
 ·rw[aA.NY] at h;exact aD (az.mp h) λv0 hg _=>X.names x v0 hg
 ·exact zj (back x a h) λhc h=>zj (X.ownA x a h) λh1 h2=>⟨⟨h1,λhh=>by refine aD hh λy hcy hy=>?_;exact by rw[X.ownI x y a h hy,hcy] at hc;exact FZ hc⟩,h2⟩
theorem Act.weaken(X:Act ju env sc kg jw σ av s)(h:∀b,jx b->kg b)(hf:∀b,z_ ju b->jx b):Act ju env sc jx jw σ av s:=
 {X with fr0:=λb hb=>⟨hf b hb,(X.fr0 b hb).2⟩,bas:=λb hb=>X.bas b<|h b hb,fresh:=λb hb=>by refine bP (X.fresh b hb) λh1 h2 h3=>?_;exact⟨h1,h2,λx=>h3<|h b x⟩,ownA:=λx a hb=>by refine fO (X.ownA x a hb) λh1 h2 h3 h4=>?_;exact⟨h1,h2,λx=>h3<|h a x,h4⟩}
theorem Act.pin(X:Act ju env sc jx jw σ av s)(k:K (env::ju) s s')(hn:∀a,S a->s.heap.get? a=á)(hl:∀a,S a->∃o,s'.heap.get? a=à o):
  Act ju env sc (λb=>jx b\/S b) jw σ (λb=>av b\/S b) s':=by
 have Y:=X.T_ k hn hl;refine {Y with fr0:=λb h=>by refine zj (X.fr0 b h) λh1 h2=>?_;exact⟨.inl h1,h2⟩,bas:=λb hb=>hb.imp (X.bas b) id,fresh:=λb h=>by refine bP (Y.fresh b h) λh1 h2 h3=>?_;exact⟨h1,h2,λx=>x.elim h3 λx=>(X.CY<|hn b x).1 h⟩,ownA:=λx a h=>?_};exact fO (X.ownA x a<|X.HK (λu h=>h.k k) h) λh1 h2 h3 h4=>⟨.inl h1,h2,λx=>x.elim h3 λx=>(X.CY<|hn a x).2.1 h1,h4⟩
theorem Act.q0P(X:Act ju env sc jx jw σ av s)(h0:∀b,S b->jw.heap.get? b=á)(hs:∀b o,¬S b->s.heap.get? b=à o->h'.get? b=à o)
  (hL:∃m,h'.Ns env.locals m)
  (h1:∀b,av' b->av b) (h2:∀b,av b->¬S b->av' b) (h3:∀b,av' b->S b->∃o,h'.get? b=à o) (h4:∀b,z_ (env::ju) b->av' b):CQ (env::ju) av' {s with heap:=h',toks:=tk}/\K ju jw {s with heap:=h',toks:=tk}:=by
 have IC:∀b o,base.get? b=à o->¬S b:=λb o e h=>by have:=X.stay0 b o e;rw[h0 b h] at this;cases this
 refine⟨{X.inv.gnd with stay:=λb o e=>hs b o (IC b o e)<|X.inv.gnd.stay b o e,ff:=?_,fav:=h4,avlt:=λb hb=>?_,avS:=h2 _ X.inv.gnd.avS ?_},?_⟩
 ·refine FunFrames.to X.inv.gnd.ff λb o f e hd=>?_;rcases(mR X.frm).mp f with f|f
  ·obtain⟨m,o',es,ep,e',d',_⟩:=hL;exact⟨o',f▸e',λvs q=>by rw[d'] at q;cases q⟩
  ·exact⟨o,hs b o (λx=>by refine lU (X.fr0 b f) λ_ o' e'=>?_;rw[h0 b x] at e';cases e') e,hd⟩
 ·by_cases BN:S b
  ·exact h3 b hb BN
  ·exact Zs (X.inv.gnd.avlt b<|h1 b hb) λo e=>⟨o,hs b o BN e⟩
 ·exact eH X.inv.gnd.glo.mods λmm o es ep e _=>IC _ _ e
 ·obtain⟨h,t,zq,k,u⟩:=X.k0;subst X zq;exact⟨h',tk,rfl,λb o n e=>hs b o (λx=>by rw[h0 b x] at e;cases e)<|k b o n e,λb o e=>by refine Zs (u b o e) λsl e1=>?_;exact⟨sl,hs b _ (λx=>by rw[h0 b x] at e;cases e) e1⟩⟩
end
section
variable {ju:List nt}
theorem Act.upd(X:Act ju env sc jx jw σ av s)(h0:∀b,S b->jw.heap.get? b=á)(hs:∀b o,¬S b->s.heap.get? b=à o->h'.get? b=à o)
  (hL:∃m,h'.Ns env.locals m) (hC:∀x c,env.cells.lookup x=à c->∃v,h'.IsCell c v) (h1:∀b,av' b->av b) (h2:∀b,av b->¬S b->av' b) (h3:∀b,av' b->S b->∃o,h'.get? b=à o) (h4:∀b,jx b->av' b) (hM:∀b,Mn env b->av' b)
  (hN:∀x v,zm σ' x=à v->∃v0,zm σ x=à v0) (hG:∀x v,AV sc x=â->zm σ' x=à (à v)->∃u,aW env h' x u/\cM (env::ju) h' av' u v)
  (hA:∀x a,bY env σ' h' x a->av' a/\jw.heap.get? a=á/\¬jx a/\¬Mn env a) (hI:∀x y a,bY env σ' h' x a->bY env σ' h' y a->x=y):Act ju env sc jx jw σ' av' {s with heap:=h',toks:=tk}:=by
 have g:=X.q0P (tk:=tk) h0 hs hL h1 h2 h3 λb f=>((mR X.frm).mp f).elim (λf=>hM b<|.inl f) λf=>h4 b (X.fr0 b f).1;exact {X with inv:={X.inv with gnd:=g.1,get:=hG},k0:=g.2,bas:=h4,ns:=hL,cells:=λx c e=>⟨(X.cells x c e).1,hC x c e⟩,fresh:=λb h=>⟨hM b h,(X.fresh b h).2⟩,names:=λx v h=>by refine Zs (hN x v h) λv0 e=>?_;exact X.names x v0 e,ownA:=hA,ownI:=hI}
theorem Act.HN(X:Act ju env sc jx jw σ av s)(hS:∀b,S b->av b)(h0:∀b,S b->jw.heap.get? b=á)(hM:∀b,Mn env b->¬S b)
  (ho:∀x a,bY env σ s.heap x a->¬S a) (hs:∀b o,¬S b->s.heap.get? b=à o->h'.get? b=à o)
  (h1:∀b,av' b->av b) (h2:∀b,av b->¬S b->av' b) (h3:∀b,av' b->S b->∃o,h'.get? b=à o) (h4:∀b,jx b->av' b):Act ju env sc jx jw σ av' {s with heap:=h',toks:=tk}:=by
 have JJ:∀y u,aW env s.heap y u->aW env h' y u:=λy u h=>h.kept λb o m e=>hs b o (hM b m) e;refine X.upd h0 hs (by refine Zs X.ns λm hn=>?_;exact⟨m,hn.at' λo e=>hs _ o (hM _<|.inl rfl) e⟩) (λy c e=>by refine lT (X.cells y c e) λ_ v o e1 e2=>?_;exact⟨v,o,hs c o (hM c<|.inr ⟨y,e⟩) e1,e2⟩) h1 h2 h3 h4 (λb h=>h2 b (X.fresh b h).1<|hM b h) (λx v h=>⟨v,h⟩) (λx v hl hg=>?_)
  (λx a h=>?_) λx y a hx hy=>X.ownI x y a (X.HK (JJ x) hx)<|X.HK (JJ y) hy
 ·refine aD (X.inv.get x v hl hg) λu g1 g2=>⟨u,JJ _ _ g1,g2.KF (λb o n e=>hs b o (λh=>n<|hS b h) e) (λb _ _ h=>h1 b h) λd a e1 e2 o e=>hs a o (ho x a ⟨⟨d,e1▸hg⟩,e2▸g1⟩) e⟩
 ·have h:=X.HK (JJ x) h;exact zj (X.ownA x a h) λq1 q2=>⟨h2 a q1<|ho x a h,q2⟩
theorem aA.get_set(x:d_)(u:V)(y:d_):∀σ:aA,zm (BQ σ x u) y=if y=x then (zm σ x).map (λ_=>à u) else zm σ y
 | []=>by split<;>rfl
 | (z,v)::r=>by
  have ih:=aA.get_set x u y r
  by_cases GJ:x=z
  ·subst GJ;have e:BQ ((x,v)::r) x u=(x,à u)::r:=if_pos rfl;rw[e]
   by_cases hy:y=x
   ·subst ih e hy;rw[FU,if_pos rfl,FU];rfl
   ·rw[DF hy,if_neg hy,DF hy]
  ·have e:BQ ((z,v)::r) x u=(z,v)::BQ r x u:=if_neg GJ;rw[e,DF GJ]
   by_cases hy:y=z
   ·subst e hy;rw[FU,if_neg λh=>GJ h.symm,FU]
   ·rw[DF hy,ih,DF hy]
theorem jT{o:Option V}(hy:y≠x)(h:zm (BQ σ x u) y=à o):zm σ y=à o:=by rw[aA.get_set,if_neg hy] at h;exact h
theorem oX{w:V}(h:zm (BQ σ x u) x=à (à w)):w=u:=by
 rw[aA.get_set,if_pos rfl] at h;refine zn (zm σ x) (λhg=>?_) λo hg=>?_
 ·rw[hg] at h;exact ns h
 ·rw[hg] at h;cases h;rfl
theorem xF{o:Option V}(h:zm (BQ σ x u) y=à o):∃v0,zm σ y=à v0:=by
 by_cases hy:y=x
 ·subst hy;rw[aA.get_set,if_pos rfl] at h;refine zn (zm σ y) (λhg=>?_) λo hg=>?_
  ·rewrite[hg];rw[hg] at h;exact ns h
  ·rewrite[hg];exact⟨o,rfl⟩
 ·exact⟨o,jT hy h⟩
theorem Act.q1W{u:b_}{v:V}{p:f_}(X:Act ju env sc jx jw σ av s)(hv:cM (env::ju) s.heap av u v)
  (ho:∀d a,v=.own d->u=.ref a->av a/\jw.heap.get? a=á/\¬jx a/\¬Mn env a/\∀y,y≠x->¬bY env σ s.heap y a) (hp:Mn env p) (hs:mq p s.heap h') (AR:∃m,h'.Ns env.locals m) (JA:∀y c,env.cells.lookup y=à c->∃v,h'.IsCell c v)
  (JK:aW env h' x u) (DV:∀y w',y≠x->aW env s.heap y w'->aW env h' y w'):Act ju env sc jx jw (BQ σ x v) av {s with heap:=h',toks:=tk}:=by
 have kept:∀b o,¬b=p->s.heap.get? b=à o->h'.get? b=à o:=λb o hb e=>by rw[hs.2 b hb];exact e
 refine bP (X.fresh p hp) λp1 p2 p3=>?_;have back:∀y a,bY env (BQ σ x v) h' y a->(y=x/\(∃d,v=.own d)/\u=.ref a)\/(y≠x/\bY env σ s.heap y a):=λy a ⟨⟨d,hg⟩,MS⟩=>by
  by_cases hy:y=x
  ·subst ho DV hy;exact .inl ⟨rfl,⟨d,(oX hg).symm⟩,aW.uniq JK MS⟩
  ·have hg:=jT hy hg;exact .inr ⟨hy,⟨d,hg⟩,X.SD hg (λu=>DV y u hy) MS⟩
 refine X.upd (S:=λb=>b=p) (λb h=>h▸p2) kept AR JA (λ_ h=>h) (λ_ h _=>h) (λb _ h=>?_) X.bas (λb h=>(X.fresh b h).1) (λ_ _ h=>xF h) (λy w' hl h=>?_) (λy a h=>?_) λy z a h1 h2=>?_
 ·subst hs kept p1 p2 p3 h;rcases hp with rfl|⟨y,h⟩
  ·exact eH AR λm o es ep e _=>⟨o,e⟩
  ·exact cL (JA y b h) λv o e _=>⟨o,e⟩
 ·have hk:∀b o,¬av b->s.heap.get? b=à o->h'.get? b=à o:=λb o n e=>kept b o (λh=>n<|h▸p1) e
  by_cases hy:y=x
  ·subst DV back hy;cases oX h;exact⟨u,JK,hv.KF hk (λ_ _ _ h=>h) λd a e1 e2 o e=>kept a o (λh=>(ho d a e1 e2).2.2.2.1<|h▸hp) e⟩
  ·have h:=jT hy h;exact aD (X.inv.get y w' hl h) λu' h1 h2=>⟨u',DV y u' hy h1,h2.KF hk (λ_ _ _ h=>h) λd a e1 e2 o e=>kept a o (λh'=>(X.ownA y a ⟨⟨d,e1▸h⟩,e2▸h1⟩).2.2.2<|h'▸hp) e⟩
 ·rcases back y a h with ⟨_,⟨d,e1⟩,e2⟩|⟨_,h⟩
  ·exact dU (ho d a e1 e2) λq1 q2 q3 q4 _=>⟨q1,q2,q3,q4⟩
  ·exact X.ownA y a h
 ·rcases back y a h1 with ⟨ey,⟨d,e1⟩,e2⟩|⟨ny,h1⟩
  ·rcases back z a h2 with ⟨ez,_⟩|⟨nz,h2⟩
   ·rw[ey,ez]
   ·exact absurd h2<|(ho d a e1 e2).2.2.2.2 z nz
  ·rcases back z a h2 with ⟨ez,⟨d,e1⟩,e2⟩|⟨nz,h2⟩
   ·exact absurd h1<|(ho d a e1 e2).2.2.2.2 y ny
   ·exact X.ownI y z a h1 h2
theorem Act.store{u:b_}{Q:Unit->c_->Prop}(X:Act ju env sc jx jw σ av s)(hx:zm σ x=à v0)
  (fin:∀(p:f_) (h':mj) (tk:Nat),Mn env p->mq p s.heap h'->(∃m,h'.Ns env.locals m)->(∀y c,env.cells.lookup y=à c->∃v,h'.IsCell c v) ->
   aW env h' x u->(∀y w',y≠x->aW env s.heap y w'->aW env h' y w')->Q () {s with heap:=h',toks:=tk}):i' (i_ O w) A (storeName env x u) Q E s:=by
 ext av jx A env v0 sc s jw x E σ ju u Q
 refine zj (X.names x v0 hx) λMM hkx=>?_;obtain hp:(env.scope.kind==.class||(env.scope.kind==.module&&env.locals != env.globals))=ã:=by rw[X.inv.kind];rfl
 refine Zs X.ns λm hn=>?_;rcases hkx with hk|⟨hk,c,hc⟩
 ·refine jo hk hn (λh' BR AZ=>?_) hp;refine fin env.locals h' _ (.inl rfl) AZ ⟨_,BR⟩ (λy c e=>?_) (.inl ⟨hk,_,BR,by simp⟩) λy w' hy MS=>?_
  ·exact lT (X.cells y c e) λq3 v o e1 e2=>⟨v,o,by rw[AZ.2 c q3];exact e1,e2⟩
  ·rcases MS with ⟨k',m',FR,e⟩|⟨k',c',e,o,e1,e2⟩
   ·obtain this:=FR.eq_nsMap.trans hn.eq_nsMap.symm;subst hn this;exact .inl ⟨k',_,BR,by simp[hy,e]⟩
   ·exact .inr ⟨k',c',e,o,by rw[AZ.2 c' (X.cells y c' e).1];exact e1,e2⟩
 ·refine lU (X.cells x c hc) λq3 v1 q4=>wpAny_storeName_cell X.inv.kind hk hc q4 λh' FP AZ=>?_;have BR:=hn.at' λo e=>by rw[AZ.2 _ λh=>q3 h.symm];exact e
  refine fin c h' _ (.inr ⟨x,hc⟩) AZ ⟨m,BR⟩ (λy c' e=>?_) (.inr ⟨.inl hk,c,hc,FP⟩) λy w' hy MS=>?_
  ·by_cases DC:c'=c
   ·subst hc q3 q4 AZ DC;exact⟨_,FP⟩
   ·exact lT (X.cells y c' e) λ_ v o e1 e2=>⟨v,o,by rw[AZ.2 c' DC];exact e1,e2⟩
  ·rcases MS with ⟨k',m',FR,e⟩|⟨k',c',e,o,e1,e2⟩
   ·obtain this:=FR.eq_nsMap.trans hn.eq_nsMap.symm;subst hn this;exact .inl ⟨k',_,BR,e⟩
   ·exact .inr ⟨k',c',e,o,by rw[AZ.2 c' λh=>hy<|X.capart y x c (h▸e) hc];exact e1,e2⟩
theorem Act.put{u:b_}{v:V}{Q:Unit->c_->Prop}(X:Act ju env sc jx jw σ av s)(hx:zm σ x=à v0)(hv:cM (env::ju) s.heap av u v)
  (ho:∀d a,v=.own d->u=.ref a->av a/\jw.heap.get? a=á/\¬jx a/\¬Mn env a/\∀y,y≠x->¬bY env σ s.heap y a)
  (hq:∀s',Act ju env sc jx jw (BQ σ x v) av s'->(∀b o,¬Mn env b->s.heap.get? b=à o->s'.heap.get? b=à o)->aW env s'.heap x u->(∀y w',y≠x->aW env s.heap y w'->aW env s'.heap y w')->Q () s'):i' (i_ O w) A (storeName env x u) Q E s:=
 X.store hx λp h' tk m hs AR hc JK DV=>hq _ (X.q1W hv ho m hs AR hc JK DV) (λb o n e=>by show h'.get? b=_;rw[hs.2 b λh=>n<|h▸m];exact e) JK DV
theorem cC.live(r:cC h av a d):∃o,h.get? a=à o:=by
 cases d with
 |list ds=>obtain⟨vs,⟨n,e⟩,_⟩:=r;exact⟨_,e⟩
 |dict ds=>obtain⟨kvs,⟨o,es,ep,e,_⟩,_⟩:=r;exact⟨_,e⟩
 |_=>exact r.elim
theorem Act.mut{d':a_}(X:Act ju env sc jx jw σ av s)(hx:zm σ x=à (à<|.own d))(hv:aW env s.heap x<|.ref a)
  (hs:mq a s.heap h') (hb:cC h' av a d'):Act ju env sc jx jw (BQ σ x<|.own d') av {s with heap:=h',toks:=tk}:=by
 have RG:bY env σ s.heap x a:=⟨⟨d,hx⟩,hv⟩
 refine fO (X.ownA x a RG) λq1 q2 q3 q4=>?_;have kept:∀b o,¬b=a->s.heap.get? b=à o->h'.get? b=à o:=λb o hb e=>by rw[hs.2 b hb];exact e
 have nM:∀b,Mn env b->¬b=a:=λb m h=>q4<|h▸m;have JJ:∀y u,aW env s.heap y u->aW env h' y u:=λy u h=>h.kept λb o m e=>kept b o (nM b m) e;have back:∀y b,bY env (BQ σ x<|.own d') h' y b->bY env σ s.heap y b:=λy b ⟨⟨e,hg⟩,h⟩=>by
  by_cases hy:y=x
  ·subst hv RG hg hy;exact X.HK (JJ y) ⟨⟨d,hx⟩,h⟩
  ·exact X.HK (JJ y) ⟨⟨e,jT hy hg⟩,h⟩
 refine X.upd (S:=λb=>b=a) (λb h=>h▸q2) kept (by refine Zs X.ns λm hn=>?_;exact⟨m,hn.at' λo e=>kept _ o (nM _<|.inl rfl) e⟩) (λy c e=>by refine lT (X.cells y c e) λ_ v o e1 e2=>?_;exact⟨v,o,kept c o (nM c<|.inr ⟨y,e⟩) e1,e2⟩) (λ_ h=>h) (λ_ h _=>h) (λb _ h=>h▸hb.live) X.bas
  (λb h=>(X.fresh b h).1) (λ_ _ h=>xF h) (λy w' hl h=>?_) (λy b h=>X.ownA y b<|back y b h) λy z b h1 h2=>X.ownI y z b (back y b h1)<|back z b h2
 by_cases hy:y=x
 ·subst RG back hy;cases oX h;refine lQ (X.inv.get y _ hl hx) λu h1 a' e f _=>?_;cases e;cases aW.uniq h1 hv;exact⟨.ref a,JJ _ _ hv,a,rfl,f,hb⟩
 ·have h:=jT hy h;exact aD (X.inv.get y w' hl h) λu' h1 h2=>⟨u',JJ _ _ h1,h2.KF (λb o n e=>kept b o (λh=>n<|h▸q1) e) (λ_ _ _ h=>h) λe b e1 e2 o eo=>kept b o (λhba=>hy<|X.ownI y x a ⟨⟨e,e1▸h⟩,hba▸e2▸h1⟩ RG) eo⟩
end
section
variable {ju:List nt}
structure Fr(l:List nt)(jx:f_->Prop)(s:c_)(av:f_->Prop)(s':c_)(av':f_->Prop):Prop where
 keep:∀b o,s.heap.get? b=à o->¬av b->s'.heap.get? b=à o
 grow:∀b o,s.heap.get? b=à o->av' b->av b
 pins:∀b o,jx b->¬z_ l b->s.heap.get? b=à o->s'.heap.get? b=à o
theorem Fr.tr{JS:f_->Prop}(x:Fr l jx s av s' av')(y:Fr l jx s' av' s'' JS):Fr l jx s av s'' JS where
 keep:=λb o e hb=>y.keep b o (x.keep b o e hb) λh=>hb (x.grow b o e h)
 grow:=λb o e h=>Classical.byContradiction λhb=>hb (x.grow b o e<|y.grow b o (x.keep b o e hb) h)
 pins:=λb o hb n e=>y.pins b o hb n<|x.pins b o hb n e
theorem Fr.rf(l:List nt)(s:c_)(av:f_->Prop):Fr l jx s av s av:=⟨λ_ _ e _=>e,λ_ _ _ h=>h,λ_ _ _ _ e=>e⟩
theorem Fr.sub{zx:f_->Prop}(h:∀b,zx b->av b):Fr l jx s av s zx:=⟨λ_ _ e _=>e,λb _ _ x=>h b x,λ_ _ _ _ e=>e⟩
theorem Fr.weaken(h:∀b,jx b->kg b)(x:Fr l kg s av s' av'):Fr l jx s av s' av':=⟨x.keep,x.grow,λb o hb n e=>x.pins b o (h b hb) n e⟩
theorem Fr.ofK(fav:∀b,z_ l b->av b)(k:K l s s'):Fr l jx s av s' av:=⟨λb o e n=>k.at (λf=>n<|fav b f) e,λ_ _ _ h=>h,λb o _ n e=>k.at n e⟩
theorem Act.EC(X:Act ju env sc jx jw σ av s)(k:K (env::ju) s s'):Fr (env::ju) jx s av s' av:=Fr.ofK X.inv.gnd.fav k
theorem Act.NX(X:Act ju env sc jx jw σ av s)(f:∀b o,¬Mn env b->s.heap.get? b=à o->s'.heap.get? b=à o):Fr (env::ju) jx s av s' av:=
 ⟨λb o e n=>f b o (λm=>n (X.fresh b m).1) e,λ_ _ _ h=>h,λb o hb _ e=>f b o (λm=>(X.fresh b m).2.2 hb) e⟩
theorem Act.TY(X:Act ju env sc jx jw σ av s)(hx:zm σ x=à (à<|.own d))(hv:aW env s.heap x<|.ref a)(hs:mq a s.heap s'.heap):Fr (env::ju) jx s av s' av:=
 have hk:∀b o,b≠a->s.heap.get? b=à o->s'.heap.get? b=à o:=λb o hb e=>by rw[hs.2 b hb];exact e
 have q:=X.ownA x a ⟨⟨d,hx⟩,hv⟩
 ⟨λb o e hb=>hk b o (λh=>hb<|h▸q.1) e,λ_ _ _ h=>h,λb o hb _ e=>hk b o (λh=>q.2.2.1<|h▸hb) e⟩
def Mk(h:mj)(e:f_):Prop:=∃oe vs,h.get? e=à oe/\oe.data=.fields vs/\vs[1]?=à .none
inductive D_(ju:List nt)(env:nt)(jw:c_)(jx:f_->Prop)(x:X)(v:b_)(s':c_):Prop where
 |mk (k:K ju jw s') (ff:s'.heap.FunFrames base<|env::ju) (st:∀b o,base.get? b=à o->s'.heap.get? b=à o) (e:f_) (a:v=.ref e) (n:jw.heap.get? e=á) (xa:EU s'.heap (λb=>jx b\/z_ (env::ju) b) (Lv jw) e x) (t:Tb jw s'.heap e .none\/Mk s'.heap e):D_ ju env jw jx x v s'
theorem D_.weaken{x:X}(h:∀b,jx b->kg b)(u:D_ ju env jw kg x v s'):D_ ju env jw jx x v s':=
 by obtain⟨h1,h2,h3,e,h4,h5,h6,h7⟩:=u;exact⟨h1,h2,h3,e,h4,h5,h6.mono (λ_ _ _ e=>e) λb _ _ x=>x.imp (h b) id,h7⟩
theorem Act.up(X:Act ju env sc jx jw σ av s){x:Internal.X}(f:FL (env::ju) s av x v s'):D_ ju env jw jx x v s':=by obtain⟨k,e,h1,h2,h3,oe,vs,T,oT,ts,g1,g2,g3,g4,g5,g6,g7,g8⟩:=f;have Y:=X.k k;exact⟨Y.k0,Y.inv.gnd.ff,Y.inv.gnd.stay,e,h1,X.k0.CG h2,h3.RU (λ_ _ _ e=>e) (λb _ _ x=>x.elim (X.bas b)<|X.inv.gnd.fav b) (λb x=>by refine Zs x λo e=>?_;refine Zs (X.k0.up e) λ_ e=>?_;exact⟨_,e⟩),.inl ⟨oe,vs,T,oT,ts,g1,g2,g3,X.k0.CG g4,g5,g6,g7,g8⟩⟩
def bF(n:Nat)(hd:Bool)(ju:List nt)(env:nt)(sc:mh)(jw:c_)(σ:aA)(t:Sem uy)(r:KN->KR->R V):Prop:=
 ∀(jx:f_->Prop) (A:mz) (s:c_) (av:f_->Prop),AI n hd (env::ju) A->Act ju env sc jx jw σ av s ->
  ∀{kn:KN} {kr:KR} {fin:R V} {Q:uy->c_->Prop} {E:b_->c_->Prop},r kn kr=fin->fin≠.no->yg (i_ O w) A env E ->
  (∀s' σ' av',Act ju env sc jx jw σ' av' s'->Fr (env::ju) jx s av s' av'->kn σ'=fin->Q .next s') ->
  (∀v s' u,K ju jw s'->bC jw s'.heap jx v u->kr u=fin->Q (.ret v) s') ->
  (∀x v s',fin=.exc x->D_ ju env jw jx x v s'->E v s')->i' (i_ O w) A t Q E s
theorem bF.no{t:Sem uy}:bF n hd ju env sc jw σ t λ_ _=>.no:=λ_ _ _ _ _ _ _ _ _ _ _ hf zh _=>absurd hf.symm zh
theorem oY{rec:me->aA->KN->KR->R V}:∀{b:List me} {σ:aA},(∀st∈b,∀σ,bF n hd ju env sc jw σ (exec st env)<|rec st σ)->bF n hd ju env sc jw σ (execs b env) (IU rec b σ)
 | [],σ,_=>λjx A s av hA X _ _ _ _ _ hf zh hp hn hr he=>ce<|hn s σ av X (Fr.rf _ s av) hf
 |st::r,σ,h=>λjx A s av hA X kn kr fin Q E hf zh hp hn hr he=>by refine bb<|h st ag σ jx A s av hA X hf zh hp (λs' σ' av' Y fr e=>?_) (λv s' u k r e=>hr v s' u k r e) he;exact oY (b:=r) (λst AP=>h st<|af _ AP) jx A s' av' hA Y e zh hp (λs'' σ'' JS Z NW e'=>hn s'' σ'' JS Z (fr.tr NW) e') hr he
theorem bC.out(X:Act ju env sc jx jw σ av s)(r:bC s h av v u):bC jw h jx v u:=by
 have r':=r.back X.k0;cases u with
 |ex x=>exact r
 |fz d=>exact(r:Zu h av v d).mono (λ_ _ _ e=>e) λb _ _ x=>X.bas b x
 |dp d=>exact r'
 |own d=>exact bN r' λa e hn rb=>⟨a,e,hn,rb.mono (λ_ _ _ e=>e) (λb _ _ x=>x.imp (X.bas b) id) λ_ e=>e⟩
theorem aJ.st(h:aJ n hd (env::ju) sc σ e r)(hA:AI n hd (env::ju) A)(X:Act ju env sc jx jw σ av s){k:V->R V}{fin:R V}(hf:rb r k=fin)(zh:fin≠.no)
  (hq:∀v s' u,K (env::ju) s s'->bC s s'.heap av v u->k u=fin->Q v s') (he:∀x v s',fin=.exc x->D_ ju env jw jx x v s'->E v s'):i' (i_ O w) A (eval e env) Q E s:=
 h A env s av hA X.inv ⟨hf,zh⟩ hq λx v s' e f=>he x v s' e<|X.up f
theorem Fq{p:R V}(h:aJ n hd (env::ju) sc (AB σ xs) e p):bF n hd ju env sc jw σ (exec (.Return (à e) pos) env) λ_ kr=>rb p kr:=by intro jx A s av hA X kn kr fin Q E hf zh hp hn hr he;obtain⟨zx,Y,_⟩:=X.cl xs;exact fj<|h.st hA Y hf zh (λv s' u k r e=>hr v s' u (Y.k k).k0 (r.out Y) e) he
theorem Fs:∀σ:aA,AB σ []=σ
 | []=>rfl
 | (_,_)::r=>congrArg _<|Fs r
theorem Ue(h:∀σ,aJ n hd (env::ju) sc σ e<|ev σ e):bF n hd ju env sc jw σ (exec (.Return (à e) pos) env) λ_ kr=>vF ev F sc σ e kr:=by
 unfold vF;refine zn (bT e) (λhx=>?_) λx hx=>?_
 ·rewrite[hx];exact Fq<|h _
 ·rewrite[hx];refine Zs (eJ hx) λp zq=>?_;subst hx zq;show bF n hd ju env sc jw σ _ λ_ kr=>match kM sc σ x with
   |some d=>kr<|.own d
   |none=>rb (ev σ<|.Name x p) kr
  refine zn (kM sc σ x) (λho=>?_) λd ho=>?_
  ·rewrite[ho];exact Fq (xs:=[]) (p:=ev σ<|.Name x p)<|(Fs σ).symm▸h σ
  ·rewrite[ho];intro jx A s av hA X kn kr fin Q E hf zh hp hn hr he;refine zj (Eg ho) λhl hg=>lQ (X.inv.get x _ hl hg) λu h1 a zq _ h2=>?_;subst zq;exact bP (X.ownA x a ⟨⟨d,hg⟩,h1⟩) λq1 q2 _=>fj<|dE X.inv hl h1<|hr _ _ (.own d) X.k0 ⟨a,rfl,q2,h2.mono (λ_ _ _ e=>e) (λb _ _ h=>h.elim (X.bas b) λh=>h▸q1) λ_ e=>e⟩ hf
inductive XX(x:d_)(u:V)(σ σ':aA):Prop where
 |mk (v0:Option V) (h:zm σ x=à v0) (g:σ'=BQ σ x u):XX x u σ σ'
theorem gV(h:eI x u σ=.ok σ'):XX x u σ σ':=by
 unfold eI at h;refine zn (zm σ x) (λhg=>?_) λv0 hg=>?_
 ·rw[hg] at h;exact zz h
 ·rw[hg] at h;replace h:=pi h;subst h;exact⟨v0,hg,rfl⟩
theorem cR{p:P α}{k:α->R V}{fin:R V}(h:rb (Zy p) k=fin)(zh:fin≠.no):SU p k fin:=Fin.p ⟨h,zh⟩
theorem Act.q0M{jv:c_}{Q:Unit->c_->Prop}(X:Act ju env sc jx jw σ av s)(k:K (env::ju) s jv)(r:bC s jv.heap av v u)
  (hx:zm σ x=à v0) (hq:∀s' av',Act ju env sc jx jw (BQ σ x u) av' s'->Fr (env::ju) jx s av s' av'->Q () s'):i' (i_ O w) A (storeName env x v) Q E jv:=by
 cases u with
 |ex x=>exact r.elim
 |fz d=>exact(X.k k).put hx (show cM (env::ju) jv.heap av v (.fz d) from r) (λ_ _ e=>by cases e) λs' Y f _ _=>hq s' av Y<|(X.EC k).tr ((X.k k).NX f)
 |dp d=>exact(X.k k).put hx (show cM (env::ju) jv.heap av v (.dp d) from CO.rep X.inv.gnd.avlt r) (λ_ _ e=>by cases e) λs' Y f _ _=>hq s' av Y<|(X.EC k).tr ((X.k k).NX f)
 |own d=>refine bN r λa zq hn rb=>?_;subst r zq;have Y:=X.T_ (S:=λb=>b=a) k (λb h=>h▸hn) λb h=>h▸rb.live;refine dU (X.CY hn) λn1 n2 n3 n4 n5=>?_;refine Y.put hx (show cM (env::ju) jv.heap _ (.ref a) (.own d) from ⟨a,rfl,n5,rb⟩) (λd' a' e1 e2=>?_) λs' Z f _ _=>hq s' _ Z<|(⟨(X.EC k).keep,λb o e h=>h.elim id (λh=>by simp only[h,hn] at e;cases e),(X.EC k).pins⟩:Fr (env::ju) jx s av jv λb=>av b\/b=a).tr (Y.NX f);cases e2;exact⟨.inr rfl,n4,n3,n1,λy _ h=>n2 (X.ownA y a<|X.HK (λu h=>h.k k) h).1⟩
theorem bC.tpE(e:h_)(zw:∀b,av b->∃o,s.heap.get? b=à o)(r:bC s h av v u):bC s h av v<|tpE e u:=by
 unfold Internal.tpE;refine zn (iO e) (λhc=>by rw[hc];exact r) λc hc=>?_;rw[hc];show bC s h av v (if kQ c.1=â then JQ u else u)
 by_cases hd:kQ c.1=â
 ·rw[if_pos hd];exact r.tp zw
 ·rw[if_neg hd];exact r
theorem Uf{p:oi}{q:R V}(hs:qj e (à<|.Name x p) pos.line env=pure ã)(h:aJ n hd (env::ju) sc (AB σ xs) e q):
  bF n hd ju env sc jw σ (exec (.Assign [.Name x p] e pos) env) λkn _=>rb q λv=>rb (Zy<|eI x (tpE e v)<|AB σ xs) kn:=by
 intro jx A s av hA X kn kr fin Q E hf zh hp hn hr he;obtain⟨zx,Y,hsub⟩:=X.cl xs;refine wpAny_Assign_Name (h.st hA Y hf zh (λv s' u k r e=>?_) he) hs;obtain⟨σ',hσ,e⟩:=cR e zh;obtain⟨v0,hg,zq⟩:=gV hσ;subst hσ zq;exact Y.q0M k (r.tpE _ Y.inv.gnd.avlt) hg λs'' av' Z fr=>hn _ _ _ Z ((Fr.sub hsub).tr fr) e
theorem Ug{b o:List me}{q:R V}{kb ko:KN->KR->R V}(h:cD n hd (env::ju) sc (AB σ xs) t q)
  (hb:bF n hd ju env sc jw (AB σ xs) (execs b env) kb) (ho:bF n hd ju env sc jw (AB σ xs) (execs o env) ko) :
  bF n hd ju env sc jw σ (exec (.If t b o pos) env) λkn kr=>rb (zu q) λc=>if c then kb kn kr else ko kn kr:=by
 intro jx A s av hA X kn kr fin Q E hf zh hp hn hr he;obtain⟨zx,Y,hsub⟩:=X.cl xs;refine wpAny_If<|h A env s zx hA Y.inv ⟨hf,zh⟩ (λc s' k e=>?_) λx v s' e f=>he x v s' e<|Y.up f;have fr:=(Fr.sub hsub).tr (Y.EC k);cases c with
 |true=>exact hb jx A s' zx hA (Y.k k) e zh hp (λs'' σ' av' Z f e'=>hn s'' σ' av' Z (fr.tr f) e') hr he
 |false=>exact ho jx A s' zx hA (Y.k k) e zh hp (λs'' σ' av' Z f e'=>hn s'' σ' av' Z (fr.tr f) e') hr he
theorem Uh{q:R V}(hc:iN e=ã)(h:aJ n hd (env::ju) sc (AB σ xs) e q):
  bF n hd ju env sc jw σ (exec (.Expr e pos) env) λkn _=>rb q λ_=>kn (AB σ xs):=by
 intro jx A s av hA X kn kr fin Q E hf zh hp hn hr he;obtain⟨zx,Y,hsub⟩:=X.cl xs;obtain OZ:qj e á pos.line env=pure ã:=by unfold qj;clear h;cases e<;>first|rfl|cases hc
 exact gv (h.st hA Y hf zh (λv s' u k r e=>hn _ _ _ (Y.k k) ((Fr.sub hsub).tr (Y.EC k)) e) he) (by unfold sd;rw[X.inv.kind];rfl) OZ
end
section
variable {ju:List nt}
theorem xG(h:kP σ x=.ok d):zm σ x=à (à<|.own d):=by
 unfold kP at h;refine zn (zm σ x) (λhg=>?_) λo hg=>?_
 ·rewrite[hg];rw[hg] at h;exact zz h
 ·rewrite[hg];rw[hg] at h;cases o with
  |none=>exact zz h
  |some v=>
   cases v with
   |own d'=>obtain rfl:=pi h;rfl
   |_=>exact zz h
theorem Ui{r:List<|Str×b_}{k:d_}(hn:(((y,v)::r).map (·.1)).Nodup):without ((y,v)::r) k=if k=y then r else (y,v)::without r k:=by
 by_cases h:k=y
 ·subst h;rw[if_pos rfl];obtain q1H:=(bh.mp (hn:(k::r.map (·.1)).Nodup)).1;obtain this:without ((k,v)::r) k=without r k:=by
   unfold without;simp
  rw[this,without_of_not_mem r k q1H]
 ·rw[if_neg h];unfold without;obtain this:(decide ((y,v).1≠k))=â:=by simp;exact λe=>h e.symm
  rw[zd,if_pos this]
theorem KV.del{k:d_}:∀{kvs:List<|Str×b_} {ds:List<|PyData×a_},(kvs.map (·.1)).Nodup->KV h av kvs ds->KV h av (without kvs k) (eR ds k)
 | [],[],_,_=>trivial
 | (y,v0)::r,(dk,d0)::t,hn,x=>by
  refine bP x λx1 x2 x3=>?_;have x1:=x1;subst x x1;rw[Ui hn];show KV h av _ (if k=y then t else (.str y,d0)::eR t k)
  split
  ·exact x3
  ·exact⟨rfl,x2,KV.del (bh.mp (hn:(y::r.map (·.1)).Nodup)).2 x3⟩
 | [],_::_,_,x=>x.elim
 |_::_,[],_,x=>x.elim
theorem KV.ps:∀{kvs:List<|Str×b_} {ds:List<|PyData×a_} {ps:List<|Str×a_},KV h av kvs ds->(∀kv∈kvs,kv.1.length<=g_)->DX ds=à ps->PS h av kvs ps
 | [],[],_,_,_,e=>by obtain rfl:=si e;trivial
 | (y,v)::r,(dk,d)::t,ps,x,hz,e=>by refine bP x λx1 x2 x3=>?_;have x1:=x1;subst x x1;have e:=e;refine aD (az.mp e) λIK e1 zq=>?_;subst e zq;exact⟨rfl,hz _ ag,x2,KV.ps x3 (λkv h=>hz kv<|af _ h) e1⟩
 | [],_::_,_,x,_,_=>x.elim
 |_::_,[],_,x,_,_=>x.elim
theorem mS(x:h.DictOf (mc O w) a kvs):(kvs.map (·.1)).Nodup:=by obtain⟨o,es,ep,_,_,_,_,_,hn⟩:=x;exact hn
theorem iS(ha:av a)(hs:mq a h h')(b:f_)(o:tg)(hb:¬av b)(e:h.get? b=à o):h'.get? b=à o:=by rw[hs.2 b λh=>hb<|h▸ha];exact e
theorem xH{ds:List<|PyData×a_}(hd:h'.DictOf (mc O w) a kvs)(hz:kvs.length<=g_/\∀kv∈kvs,kv.1.length<=g_)(hm:(a==mw)=ã)(x:KV h' av kvs ds):cC h' av a (.dict ds):=
 by refine zj x.out λg1 g2=>?_;exact⟨kvs,hd,hz,hm,g1,g2⟩
theorem Ft{l:List<|PyData×a_}{k:d_}(ha:av a)(hb:cC s.heap av a<|.dict l)(r:Zu s.heap av v<|.str k)(hg:bV l k=à d)
  (hq:∀u h' tk,mq a s.heap h'->Zu h' av u d->cC h' av a (.dict<|eR l k)->Q u {s with heap:=h',toks:=tk}):i' (i_ O w) A (call (.builtin "dict.pop") [.ref a,v]) Q E s:=by
 obtain⟨kvs,h2,h3,h4,h5,h6⟩:=hb;obtain⟨t,zq,EQ⟩:=r.str_inv;subst r zq;rcases rV k h5 with ⟨_,KA⟩|⟨i,u,d',hu,EP,e1,e2⟩
 ·rw[KA] at hg;exact ns hg
 ·rw[EP] at hg;replace hg:=si hg;subst hg;refine tf wn h2.typeIs F.entry_dict_pop (F.args_dict_pop_2 _ _) (meets_dict_pop_there (mc O w) a (fL k t) [] (.inl rfl) rfl) ⟨kvs,u,h2,h3.1,hu,λh' UN hs=>?_⟩;refine hq u h' _ hs ((h6 i _ _ e1 e2).mono (iS ha hs) λ_ _ _ x=>x)<|xH UN ⟨aa (fx _ _) h3.1,λkv ED=>h3.2 kv (eq.mp ED).1⟩ h4<|(KV.del (k:=k) (mS h2)<|KV.of h5 h6).mono (iS ha hs) λ_ _ _ x=>x
theorem Uj{l:List a_}(ha:av a)(hb:cC s.heap av a<|.list l)(rv:Zu s.heap av v d)(hl:l.length<a8)
  (hq:∀h',mq a s.heap h'->cC h' av a (.list<|l++[d])->Q .none {s with heap:=h'}):i' (i_ O w) A (call (.builtin "list.append") [.ref a,v]) Q E s:=by
 obtain⟨xs,hp,MV,GJ,VJ⟩:=hb;refine jp hp (λh' OV hs=>hq h' hs ⟨xs++[v],by simpa using OV,by simp[MV],?_,Fk MV (λi u du e1 e2=>(VJ i u du e1 e2).mono (iS ha hs) λ_ _ _ x=>x)<|rv.mono (iS ha hs) λ_ _ _ x=>x⟩) (by simp;exact GJ);obtain this:a8=g_:=rfl;rw[k_,MV];exact this▸hl
theorem Uk{l m:List<|PyData×a_}{ps:List<|Str×a_}(ha:av a)(hb:cC s.heap av a<|.dict l)(rv:Zu s.heap av v<|.dict m)(hk:DX m=à ps)(hl:l.length+ps.length<4096)
  (hq:∀h',mq a s.heap h'->cC h' av a (.dict<|eB ps l)->Q .none {s with heap:=h'}):i' (i_ O w) A (call (.builtin "dict.update") [.ref a,v]) Q E s:=by
 obtain⟨kvs,h2,h3,h4,h5,h6⟩:=hb;obtain⟨o,VY,zq,g1,g2,g3,g4,g5,g6⟩:=rv.FB;subst rv zq;have IK:=KV.ps (KV.of g5 g6) g3.2 hk;obtain e1:kvs.length=l.length:=by have:=congrArg nq h5;simpa using this.symm
 have CL:kvs.length+VY.length<=g_:=by exact Ld hl e1 (IK.length)<|rfl
 refine tf F.slot_dict_update h2.typeIs F.entry_dict_update (F.args_dict_update_2 _ _) (meets_dict_update (mc O w) a o (λe=>g1<|e▸ha) g4) ⟨kvs,VY,h2,g2,CL,λh' UN _ hs=>hq h' hs ?_⟩;exact zj (KV.R' IK (mS h2) (KV.of h5 h6) h3.2) λq1 q2=>xH UN ⟨aa (s_ kvs VY) CL,q2⟩ h4<|q1.mono (iS ha hs) λ_ _ _ x=>x
inductive XI(m:d_)(od:a_):Prop where
 |mk (T id) (a:PlainAttrs T) (b:Slot T m id) (c:typeOf (.builtin id)=pure (.type "method_descriptor")) (d:∀(s:c_) (av:f_->Prop) (a:f_),cC s.heap av a od->s.TypeIs (.ref a) T/\∃ob,s.heap.get? a=à ob/\ob.dict=á)
  (e:∀(A:mz) (s:c_) (av:f_->Prop) (a:f_) (vs:List b_) (ds:List a_) (FJ:a_) (Q:b_->c_->Prop) (E:b_->c_->Prop),av a->cC s.heap av a od->RL s.heap av vs ds->eZ m od ds=.ok FJ ->
   (∀v h' tk,mq a s.heap h'->cC h' av a FJ->Q v {s with heap:=h',toks:=tk})->i' (i_ O w) A (call (.builtin id)<|.ref a::vs) Q E s):XI m od
theorem xI{l:List<|PyData×a_}(hb:cC s.heap av a<|.dict l):s.TypeIs (.ref a) "dict" /\ ∃ob,s.heap.get? a=à ob/\ob.dict=á:=by obtain⟨kvs,h2,_⟩:=hb;refine⟨h2.typeIs,?_⟩;exact jF h2 λob es ep e c _=>⟨ob,e,c.2.1⟩
theorem xJ{od:a_}{FJ:a_}(h:eZ m od ds=.ok FJ):∃d,ds=[d]:=by
 cases ds with
 |nil=>exact zz h
 |cons d r=>
  cases r with
  |nil=>exact⟨d,rfl⟩
  |cons=>exact zz h
theorem Ul{od:a_}(hm:mB m od=â):XI m od:=by
 cases od with
 |list l=>
  obtain rfl:=of_decide_eq_true hm;refine⟨"list","list.append",rz,F.slot_list_append,by kernel_rfl,λs av a hb=>?_,λA s av a vs ds FJ Q E ha hb r A_ hq=>?_⟩
  ·obtain⟨vs,⟨n,e⟩,_⟩:=hb;exact⟨⟨_,e,rfl⟩,_,e,rfl⟩
  ·refine Zs (xJ A_) λd zq=>?_;subst zq;obtain⟨v,vs,rfl,rv,r⟩:=r.cons;replace r:=r.nil;subst r;replace A_:(if l.length<a8 then P.ok (.list<|l++[d]) else .no)=.ok FJ:=A_
   by_cases hc:l.length<a8
   ·rw[if_pos hc] at A_;replace A_:=pi A_;subst A_;exact Uj ha hb rv hc λh' hs BN=>hq _ h' _ hs BN
   ·rw[if_neg hc] at A_;exact zz A_
 |dict l=>
  rcases Bool.or_eq_true_iff.mp hm with hm|hm
  ·obtain rfl:=of_decide_eq_true hm;refine⟨"dict","dict.pop",oz,wn,by kernel_rfl,λs av a hb=>xI hb,λA s av a vs ds FJ Q E ha hb r A_ hq=>?_⟩;refine Zs (xJ A_) λd zq=>?_;subst zq;obtain⟨v,vs,rfl,rv,r⟩:=r.cons;replace r:=r.nil;subst r;replace A_:=A_;cases d with
   |str k=>
    replace A_:(if (bV l k).isSome then P.ok (.dict<|eR l k) else .no)=.ok FJ:=A_;refine zn (bV l k) (λhg=>?_) λd hg=>?_
    ·rw[hg] at A_;exact zz A_
    ·rw[hg] at A_;replace A_:=pi A_;subst A_;exact Ft ha hb rv hg λu h' tk hs _ BN=>hq u h' tk hs BN
   |_=>exact zz A_
  ·obtain rfl:=of_decide_eq_true hm;refine⟨"dict","dict.update",oz,F.slot_dict_update,by kernel_rfl,λs av a hb=>xI hb,λA s av a vs ds FJ Q E ha hb r A_ hq=>?_⟩;refine Zs (xJ A_) λd zq=>?_;subst zq;obtain⟨v,vs,rfl,rv,r⟩:=r.cons;replace r:=r.nil;subst r;replace A_:=A_;cases d with
   |dict m=>
    replace A_:((AT<|DX m).bind λm=>if l.length+m.length<4096 then P.ok (.dict<|eB m l) else .no)=.ok FJ:=A_;refine zn (DX m) (λhk=>?_) λps hk=>?_
    ·rw[hk] at A_;exact zz A_
    ·rw[hk] at A_;replace A_:(if l.length+ps.length<4096 then P.ok (.dict<|eB ps l) else .no)=.ok FJ:=A_
     by_cases hc:l.length+ps.length<4096
     ·rw[if_pos hc] at A_;replace A_:=pi A_;subst A_;exact Uk ha hb rv hk hc λh' hs BN=>hq _ h' _ hs BN
     ·rw[if_neg hc] at A_;exact zz A_
   |_=>exact zz A_
 |_=>exact zk hm
theorem P.NM{p:P α}{f:α->P β}{b:β}(h:p.bind f=.ok b):SW p f b:=by
 cases p with
 |no=>exact zz h
 |ok a=>exact⟨a,rfl,h⟩
theorem Um(zv:∀σ e,zr e=â->ev σ e=.no)(h:∀e∈as,aJ n hd (env::ju) sc (AB σ xs) e<|ev (AB σ xs) e):
  bF n hd ju env sc jw σ (exec (.Expr (.Call (.Attribute (.Name x xp) m ap) as [] cp) pos) env) λkn _=>rC ev (AB σ xs) x m ap as cp kn:=by
 intro jx A s av hA X kn kr fin Q E hf zh hp hn hr he;obtain⟨zx,Y,hsub⟩:=X.cl xs;replace hf:rC ev (AB σ xs) x m ap as cp kn=fin:=hf;unfold rC at hf
 by_cases hc:(ap.endLine==cp.line)=ã\/as.any zr=â\/3<as.length
 ·rw[if_pos hc] at hf;exact absurd hf.symm zh
 rw[if_neg hc] at hf;simp only[not_or,pq,rj,Nat.not_lt] at hc;refine bP hc λc3 c4 c5=>?_;obtain⟨od,OT,hf⟩:=cR hf zh;have hg:=xG OT;refine zj (Y.names x _ hg) λMM _=>lQ (Y.inv.get x _ MM hg) λu hv a zq GB hb=>?_;subst zq;refine DO (mB m od) (λhm=>?_) λhm=>?_
 ·rw[hm] at hf;exact absurd hf.symm zh
 ·rw[hm] at hf;replace hf:=hf;obtain⟨T,id,t1,t2,t3,t4,t5⟩:=Ul hm;refine zj (t4 s zx a hb) λq1 q2=>gv ?_ (by unfold sd;rw[X.inv.kind];rfl) rfl;refine gt rfl (mM c4 c5 cp env) c3 (dE Y.inv MM hv ⟨T,id,t1,t2,t3,q1,λa' e=>by cases e;exact q2,gU c4<|mI (zv _) hA h Y.inv ⟨hf,zh⟩ (λvs jy us k2 r1 r2 e2=>?_) λx v s' e f=>he x v s' e<|Y.up f⟩);obtain⟨FJ,A_,e2⟩:=cR e2 zh;obtain⟨σ',hσ,e3⟩:=cR e2 zh;obtain⟨v0,_,zq⟩:=gV hσ;subst hσ zq;have Y2:=Y.k k2;exact t5 A jy zx a vs _ FJ _ E ((Y.ownA x a ⟨⟨od,hg⟩,hv⟩).1) (hb.k Y.inv.gnd.fav k2 GB) ⟨r1,r2⟩ A_ λv h' tk hs BN=>hn _ _ _ (Y2.mut (tk:=tk) hg (hv.k k2) hs BN) ((Fr.sub hsub).tr ((Y.EC k2).tr (Y2.TY (s':={jy with heap:=h',toks:=tk}) hg (hv.k k2) hs))) e3
end
section
variable {ju:List nt}
theorem Un(f:Array b_->Array b_)(Δ:Array b_)(n:Nat):∃n',Obj.mapSeq f {cls:=.type "list",data:=.seq Δ n}={cls:=.type "list",data:=.seq (f Δ) n'}:=⟨_,rfl⟩
theorem Uo{A:mz}{E:b_->c_->Prop}{l:f_}{items:Array b_}{k:Int}{t:vg}{Q:Unit->c_->Prop}(hp:s.heap.PlainList l items)
  (h0:0<=k) (ZM:k<2 ^ 63) (hn:k<items.size)
  (hQ:∀h',h'.PlainList l (items.setIfInBounds k.toNat v)->mq l s.heap h'->Q () {s with heap:=h'}) :
  i' (i_ O w) A (tm (.ref l) (.int k t) v) Q E s:=by
 ext s v A E l items k t Q
 have hl:=hp.isList;refine Zs hp λne ho=>?_;unfold tm
 try with_reducible refine bk ?_
 first | refine ac (ae ?_) | skip
 refine ac<|wpAny_sequenceKey hl.typeIs Zw ?_;refine ac (ye (name:=e_ "__setitem__") hl.typeIs slot_list_setitem
  (wpAny_call_entry slot_list_setitem hl.typeIs entry_list_setitem ?_<|args_list_setitem _ _ _))
 show i' _ _ (Builtin.List.listSubscript? (.int k t) >>= _) _ _ s;refine ac<|wpAny_listSubscript_int (fitsIndex_of h0 ZM) ?_;clear ZM;refine Zs (ik h0) λj zq=>?_;subst h0 zq;refine ac<|ac<|wpAny_seqItemAt ho rfl (ae ?_);rw[(q_<|by exact Le hn)];refine Zs (Un (·.setIfInBounds j v) items ne) λn' hm=>?_;have CC:(s.heap.update l<|Obj.mapSeq (·.setIfInBounds j v)).PlainList l (items.setIfInBounds j v):=
  ⟨n',by rw[sz _ ho (by rw[hm];rfl),hm]⟩
 refine ac<|wpAny_setSeqItemAt ho rfl ?_
 first
  |exact ac<|ae<|ae ⟨.none,rfl,ae<|hQ _ CC<|Heap.SameBut.update ..⟩
  |exact ae ⟨.none,rfl,ae<|hQ _ CC<|Heap.SameBut.update ..⟩
theorem Up(kvs:List<|Str×b_)(k:d_)(v:b_):(stored kvs k v).length<=kvs.length+1:=by
 unfold stored
 split
 ·simp
 ·simp
theorem Uq{o i o':a_}{Q:Unit->c_->Prop}(ha:av a)(hb:cC s.heap av a o)(ri:Zu s.heap av vi i)(rd:Zu s.heap av vd d)
  (hs:setItem o i d=.ok o') (hq:∀h' tk,mq a s.heap h'->cC h' av a o'->Q () {s with heap:=h',toks:=tk}):i' (i_ O w) A (tm (.ref a) vi vd) Q E s:=by
 cases o with
 |dict l=>
  replace hs:=hs;cases i with
  |str k=>
   replace hs:(if l.length<a8 then P.ok (.dict<|fP l k d) else .no)=.ok o':=hs
   by_cases hc:l.length<a8
   ·rw[if_pos hc] at hs;replace hs:=pi hs;subst hs;obtain⟨kvs,h2,h3,h4,h5,h6⟩:=hb;obtain⟨t,zq,EQ⟩:=ri.str_inv;subst ri zq;obtain hlen:kvs.length=l.length:=by
     simpa using (congrArg nq h5).symm
    refine wpAny_setItem_pairs (fL k t) h2 (λh' EP CW=>hq h' _ CW<|xH EP ⟨?_,Ey h3.2 EQ⟩ h4<|KV.set (k:=k) (rd.mono (iS ha CW) λ_ _ _ x=>x) (mS h2)<|(KV.of h5 h6).mono (iS ha CW) λ_ _ _ x=>x) h3.1;exact Lf hc hlen (Up kvs k vd)<|rfl
   ·rw[if_neg hc] at hs;exact zz hs
  |_=>exact zz hs
 |list l=>
  replace hs:=hs;cases i with
  |int k=>
   replace hs:(if 0<=k/\k<l.length then P.ok (.list<|l.set k.toNat d) else .no)=.ok o':=hs
   by_cases hc:0<=k/\k<l.length
   ·rw[if_pos hc] at hs;replace hs:=pi hs;subst hs;obtain⟨xs,hp,MV,GJ,VJ⟩:=hb;refine Zs ri.int_inv λt zq=>?_;subst ri zq;have hN:g_=16777216:=rfl;refine Uo hp hc.1 (by lia) (by simp;exact Lg hc MV) λh' OV CW=>hq h' _ CW ⟨xs.set k.toNat vd,?_,by simp[MV],by simpa using GJ,λi u du e1 e2=>?_⟩
    ·rw[(by simp:(xs.set k.toNat vd).toArray=xs.toArray.setIfInBounds k.toNat vd)];exact OV
    ·rw[ul] at e1 e2
     by_cases hj:k.toNat=i
     ·rw[if_pos hj] at e1 e2
      split at e1
      ·split at e2
       ·replace e1:=si e1;subst e1;replace e2:=si e2;subst e2;exact rd.mono (iS ha CW) λ_ _ _ x=>x
       ·exact ns e2
      ·exact ns e1
     ·rw[if_neg hj] at e1 e2;exact(VJ i u du e1 e2).mono (iS ha CW) λ_ _ _ x=>x
   ·rw[if_neg hc] at hs;exact zz hs
  |_=>exact zz hs
 |_=>exact zz hs
theorem Fu{i:h_}{ri:R V}(hi:aJ n hd (env::ju) sc σ i ri)(hA:AI n hd (env::ju) A)(X:Act ju env sc jx jw σ av s)(rd:Zu s.heap av vd d)
  {kn:KN} {fin:R V} {Q:uy->c_->Prop} {E:b_->c_->Prop} (hf:rb (Zy<|kP σ x) (λo=>rb ri λiv=>rb (Zy<|setItem o (Zp iv) d) λo=>rb (Zy<|eI x (.own o) σ) kn)=fin) (zh:fin≠.no)
  (hn:∀s' σ' av',Act ju env sc jx jw σ' av' s'->Fr (env::ju) jx s av s' av'->kn σ'=fin->Q .next s') (he:∀x v s',fin=.exc x->D_ ju env jw jx x v s'->E v s') :
  i' (i_ O w) A (eval (.Name x xp) env) (λov jy=>i' (i_ O w) A (eval i env) (λiv kc=>i' (i_ O w) A (tm ov iv vd) (λ_=>Q Flow.next) E kc) E jy) E s:=by
 obtain⟨od,OT,hf⟩:=cR hf zh;have hg:=xG OT;refine zj (X.names x _ hg) λMM _=>lQ (X.inv.get x _ MM hg) λu' hv a zq GB hb=>?_;subst zq;refine dE X.inv MM hv<|hi.st hA X hf zh (λiv jy ui k2 r2 e2=>?_) he;obtain⟨FJ,JI,e2⟩:=cR e2 zh;obtain⟨σ',hσ,e3⟩:=cR e2 zh;obtain⟨v0,_,zq⟩:=gV hσ;subst hσ zq;have X2:=X.k k2;exact Uq ((X.ownA x a ⟨⟨od,hg⟩,hv⟩).1) (hb.k X.inv.gnd.fav k2 GB) (r2.rep X.inv.gnd.avlt) (rd.k X.inv.gnd.fav k2) JI λh' tk hs BN=>hn _ _ _ (X2.mut (tk:=tk) hg (hv.k k2) hs BN) ((X.EC k2).tr (X2.TY (s':={jy with heap:=h',toks:=tk}) hg (hv.k k2) hs)) e3
theorem Fv[Decidable c]{r fin:R α}(h:(if c then .no else r)=fin)(zh:fin≠.no):¬c/\r=fin:=by
 by_cases hc:c
 ·rw[if_pos hc] at h;exact absurd h.symm zh
 ·rw[if_neg hc] at h;exact⟨hc,h⟩
theorem xK(e o i:h_)(p:oi)(line:Nat):qj e (à<|.Subscript o i p) line env=pure ã:=by
 ext env e o i p line
 unfold qj;cases e<;>rfl
theorem Fw{i:h_}{p:oi}(h:∀σ e,aJ n hd (env::ju) sc σ e<|ev σ e):
  bF n hd ju env sc jw σ (exec (.Assign [.Subscript (.Name x xp) i p] e pos) env) λkn _=>vG ev (AB σ xs) x i e kn:=by
 intro jx A s av hA X kn kr fin Q E hf zh hp hn hr he;obtain⟨zx,Y,hsub⟩:=X.cl xs;refine zj (Fv hf zh) λ_ hf=>yl ((h _ e).st hA Y hf zh (λv jv u k1 r e1=>?_) he)<|xK ..;exact Fu (h _ i) hA (Y.k k1) ((r.rep Y.inv.gnd.avlt)) e1 zh (λs' σ' av' Z f e=>hn s' σ' av' Z ((Fr.sub hsub).tr ((Y.EC k1).tr f)) e) he
theorem Ur{l:List<|PyData×a_}{k:a_}{q:a_×a_}(h:vH l k=.ok q):∃x,k=.str x/\bV l x=à q.1/\q.2=.dict (eR l x):=by
 cases k with
 |str x=>
  replace h:((AT<|bV l x).bind λd=>P.ok (d,.dict<|eR l x))=.ok q:=h;refine zn (bV l x) (λhg=>?_) λd hg=>?_
  ·rw[hg] at h;exact zz h
  ·rw[hg] at h;replace h:=pi h;subst h;exact⟨x,rfl,hg,rfl⟩
 |_=>exact zz h
theorem Us{l:List<|PyData×a_}(h:rB d=.ok l):d=.dict l:=by
 cases d with
 |dict l'=>obtain rfl:=pi h;rfl
 |_=>exact zz h
theorem Ut{i:h_}{yp p:oi}(h:∀σ e,aJ n hd (env::ju) sc σ e<|ev σ e):
  bF n hd ju env sc jw σ (exec (.Assign [.Subscript (.Name x xp) i p] (.Call (.Attribute (.Name y yp) "pop" ap) as [] cp) pos) env) λkn _=>Cy ev (AB σ xs) x i y ap as cp kn:=by
 intro jx A s av hA X kn kr fin Q E hf zh hp hn hr he
 revert h hA X;revert p pos xs jx A s av kn kr fin Q E;ext hd ev env as n ap cp xp sc jw x y σ ju i yp;ext xs pos p jx A s av kn kr fin Q E
 obtain⟨zx,Y,hsub⟩:=X.cl xs;refine zj (Fv hf zh) λhc hf=>?_;simp only[not_or,pq,rj] at hc;refine bP hc λc3 c4 _=>?_;cases as with
 |nil=>exact absurd hf.symm zh
 |cons k r=>
  cases r with
  |cons=>exact absurd hf.symm zh
  |nil=>obtain⟨l,hl,hf⟩:=cR hf zh;obtain⟨od,OT,hl⟩:=P.NM hl;cases Us hl;have hg:=xG OT;refine zj (Y.names y _ hg) λZ_ _=>lQ (Y.inv.get y _ Z_ hg) λu hv a zq GB hb=>?_;subst zq;refine zj (xI hb) λq1 q2=>yl (gt rfl (mM c4 (iq rfl) cp env) c3 (dE Y.inv Z_ hv ⟨"dict","dict.pop",oz,wn,by kernel_rfl,q1,λa' e=>by cases e;exact q2,gU c4<|bf ((h _ k).st hA Y hf zh (λkv jv ku k1 r1 e1=>cc ?_) he)<|eD (gk.mp c4).1⟩))<|xK ..;obtain⟨q',hp,e1⟩:=cR e1 zh;obtain⟨σ',hσ,e2⟩:=cR e1 zh;obtain⟨v0,_,zq⟩:=gV hσ;subst hσ zq;refine bN (Ur hp) λz hz g1 g2=>?_;have Y1:=Y.k k1;refine Ft ((Y.ownA y a ⟨⟨_,hg⟩,hv⟩).1) (hb.k Y.inv.gnd.fav k1 GB) (hz▸r1.rep Y.inv.gnd.avlt) g1 λu h' tk hs ru BN=>?_;exact Fu (h _ i) hA (Y1.mut (tk:=tk) hg (hv.k k1) hs<|g2.symm▸BN) ru e2 zh (λs' σ' av' Z f e=>hn s' σ' av' Z ((Fr.sub hsub).tr ((Y.EC k1).tr ((Y1.TY (s':={jv with heap:=h',toks:=tk}) hg (hv.k k1) hs).tr f))) e) he
end
section
variable {ju:List nt}
theorem Fx(e:h_)(x:d_)(p:oi)(line:Nat):∃b:Bool,qj e (à<|.Name x p) line env=pure b:=by
 ext env e x p line
 unfold qj;cases e<;>exact⟨_,rfl⟩
theorem Fy{p:oi}(h:qj e (à<|.Name x p) line env=pure â):iN e=â:=by
 cases e<;>first
  |rfl
  |exact absurd h (λh=>by cases h)
theorem Uu{g:vj}{p:oi}{rec:mh->aA->h_->R V}
  (hs:qj (.ListComp elt [g] zo GU) (à<|.Name x p) pos.line env=pure â) (zv:∀e,zr e=â->rec sc (AB σ xs) e=.no)
  (CE:aJ n hd (env::ju) sc (AB σ xs) g.iter<|rec sc (AB σ xs) g.iter) (hsub:∀f as AD q,g.iter=.Call f as AD q->∀a∈as,aJ n hd (env::ju) sc (AB σ xs) a<|rec sc (AB σ xs) a)
  (hT:∀c∈g.ifs,∀σ',cD n hd (env::ju) zo σ' c<|rec zo σ' c) (hE:∀σ',aJ n hd (env::ju) zo σ' elt<|rec zo σ' elt) :
  bF n hd ju env sc jw σ (exec (.Assign [.Name x p] (.ListComp elt [g] zo GU) pos) env) λkn _=>rb (l8 rec hd sc (AB σ xs) elt g zo) λv=>rb (Zy<|eI x v<|AB σ xs) kn:=by
 intro jx A s av hA X kn kr fin Q E hf zh hp hn hr he;obtain⟨zx,Y,CW⟩:=X.cl xs;rw[exec_Assign_Name_used _ _ _ _ hs];refine ac<|ck<|ac ?_;rw[arm_evalThenUse_ListComp];refine ac<|aq (Fm (Q:=λ_ s'=>Q .next s') zv CE hsub hT hE hA Y.inv ⟨hf,zh⟩ (λx v s' e f=>he x v s' e<|Y.up f) λjv wr D C zs AU k0 hD hC DA hz F e=>?_) (λ_ s' hq=>ae<|ae hq) λ_ _ e=>e;refine AN λ_ θ=>?_;obtain⟨σ',hσ,e⟩:=cR e zh;obtain⟨v0,hg,zq⟩:=gV hσ;subst hσ zq;obtain⟨kk,⟨mC,UW⟩,ys,DL,hyl,LI⟩:=F;have k:=k0.tr kk;have sD:=k0.CG hD;have sC:=k0.CG hC;refine dU (Y.CY sD) λd1 d2 d3 d4 d5=>dU (Y.CY sC) λc1 c2 c3 c4 c5=>θ ?_;have Z:=Y.T_ (S:=λb=>b=D\/b=C) k (λa ha=>ha.elim (λh=>h▸sD) λh=>h▸sC) (λa ha=>ha.elim (λh=>by refine Zs DL λn e=>?_;exact⟨_,h▸e⟩) λh=>by refine dN UW λo es ep e _=>?_;exact⟨o,h▸e⟩);have Ϗ:∀b,¬zx b->∀y,¬bY env (AB σ xs) AU.heap y b:=λb hb y h=>hb (Y.ownA y b<|Y.HK (λu h=>h.k k) h).1;have g:Fr (env::ju) jx s zx AU λb=>zx b\/b=D\/b=C:=⟨(Y.EC k).keep,λb o e h=>h.elim id (λh=>by
  rcases h with h|h
  ·rw[h,sD] at e;exact ns e
  ·rw[h,sC] at e;exact ns e),(Y.EC k).pins⟩
 refine fi<|Z.put hg (v:=.own<|.list zs) ⟨D,rfl,d5,ys,DL,hyl,by rw[hyl];exact hz,λj v d e1 e2=>?_⟩ (λd a e1 e2=>?_) λs' Z' f JK DV=>?_
 ·exact(LI j v d e1 e2).mono (λ_ _ _ e=>e) λb o _ hb=>hb.imp id .inr
 ·cases e2;exact⟨.inr<|.inl rfl,d4,d3,d1,λy _=>Ϗ D d2 y⟩
 ·obtain q1J:∀y a,bY env (BQ (AB σ xs) x<|.own<|.list zs) s'.heap y a->¬a=C:=λy a ⟨⟨d',ON⟩,hv⟩ ha=>by
   subst hC θ UW LI sC c1 c3 c4 c5 g Z' ha
   by_cases VK:y=x
   ·subst hs hf hg e DV ON VK;cases aW.uniq JK hv;exact DA rfl
   ·have ON:=jT VK ON;exact Ϗ a c2 y ⟨⟨d',ON⟩,Z.SD ON (λu=>DV y u VK) hv⟩
  refine⟨mC,UW.at' λo e=>f C o c1 e,λh' AZ=>?_⟩;have hkeep:∀b o,¬b=C->s'.heap.get? b=à o->h'.get? b=à o:=λb o hb e=>by rw[AZ.2 b hb];exact e
  obtain fr:Fr (env::ju) jx s' (λb=>zx b\/b=D\/b=C) {s' with heap:=h'} λb=>(zx b\/b=D\/b=C)/\b≠C:=⟨λb o e hb=>hkeep b o (λh=>hb<|.inr<|.inr h) e,λ_ _ _ h=>h.1,λb o hb _ e=>hkeep b o (λh=>c3<|h▸hb) e⟩
  exact hn _ _ _ (Z'.HN (S:=λb=>b=C) (av':=λb=>(zx b\/b=D\/b=C)/\b≠C) (h':=h') (tk:=s'.toks) (λb hb=>.inr<|.inr hb) (λb hb=>hb▸c4) (λb m h=>c1<|h▸m) q1J hkeep (λb hb=>hb.1) (λb hb BN=>⟨hb,BN⟩) (λb hb BN=>absurd BN hb.2) λb hb=>⟨.inl<|Y.bas b hb,λh=>c3<|h▸hb⟩) ((Fr.sub CW).tr (g.tr<|(Z.NX f).tr fr)) e
theorem Uv:∀{es:List h_} {xs:List d_},eY es=à xs->(assignEach es env).length=xs.length/\(assignEach es env).findIdx? (·.1)=á:=by
 intro v0;induction v0 with
 |nil=>intro xs h;replace h:=si h;subst h;exact⟨rfl,rfl⟩
 |cons e es ih=>
  intro xs h;replace h:((bT e).bind λx=>(eY es).map (x::·))=à xs:=h;refine zn (bT e) (λhx=>?_) λx hx=>?_
  ·rw[hx] at h;exact ns h
  ·rw[hx] at h;refine Zs (eJ hx) λp zq=>?_;subst hx zq;have h:=h;refine aD (az.mp h) λys h1 zq=>?_;subst h zq;refine zj (ih h1) λg1 g2=>?_;rw[(rfl:assignEach (.Name x p::es) env=(ã,assign (.Name x p) env)::assignEach es env)];refine⟨by simp[g1],?_⟩;rw[List.findIdx?_cons];simp[g2]
theorem Act.ϙ{u:b_}{Q:Unit->c_->Prop}(X:Act ju env sc jx jw σ av s)(hx:zm σ x=à v0)(hv:Zu s.heap av u d)
  (hq:∀s',Act ju env sc jx jw (BQ σ x<|.fz d) av s'->Fr (env::ju) jx s av s' av->Q () s'):i' (i_ O w) A (storeName env x u) Q E s:=
 X.put hx (show cM (env::ju) s.heap av u (.fz d) from hv) (λ_ _ e=>by cases e) λs' Y f _ _=>hq s' Y<|X.NX f
theorem Uw{Q:Unit->c_->Prop}:∀{es:List h_} {xs:List d_} {ds:List a_} {vs:List b_} {σ σ':aA} {s:c_},eY es=à xs->rA xs ds σ=.ok σ'->RL s.heap av vs ds ->
  Act ju env sc jx jw σ av s->(∀s',Act ju env sc jx jw σ' av s'->Fr (env::ju) jx s av s' av->Q () s')->i' (i_ O w) A (assignInOrder ((assignEach es env).map (·.2)) vs) Q E s:=by
 intro v0;induction v0 with
 |nil=>
  intro xs ds vs σ σ' s hn hs r X hq;replace hn:=si hn;subst hn;cases ds with
  |cons=>exact zz hs
  |nil=>replace hs:=pi hs;subst hs;replace r:=r.nil;subst r;exact xy<|hq s X<|Fr.rf _ s av
 |cons e es ih=>
  intro xs ds vs σ σ' s hn hs r X hq;replace hn:((bT e).bind λx=>(eY es).map (x::·))=à xs:=hn;refine zn (bT e) (λhx=>?_) λx hx=>?_
  ·rw[hx] at hn;exact ns hn
  ·rw[hx] at hn;refine Zs (eJ hx) λp zq=>?_;subst hx zq;have hn:=hn;refine aD (az.mp hn) λys h1 zq=>?_;subst hn zq;cases ds with
   |nil=>exact zz hs
   |cons d ds=>obtain⟨v,vs,rfl,rv,r⟩:=r.cons;obtain⟨σ1,h2,h3⟩:=P.NM hs;obtain⟨v0,hg,zq⟩:=gV h2;subst h2 zq;refine sm<|fi<|X.ϙ hg rv λs1 Y1 f1=>?_;exact ih h1 h3 ⟨r.1,λi v' d' e1 e2=>(r.2 i v' d' e1 e2).mono (λb o hb e=>f1.keep b o e hb) λ_ _ _ h=>h⟩ Y1 λs' Z fr=>hq s' Z<|f1.tr fr
theorem Fz:∀{xs:List d_} {ds:List a_} {σ σ':aA},rA xs ds σ=.ok σ'->xs.length=ds.length
 | [],[],_,_,_=>rfl
 | [],_::_,_,_,h=>by exact zz h
 |_::_,[],_,_,h=>by exact zz h
 |x::xs,d::ds,σ,σ',h=>by obtain⟨σ1,_,h2⟩:=P.NM h;simp[(Fz h2)]
theorem Ux{l:List a_}(h:Cm d=.ok l):d=.tuple l:=by
 cases d with
 |tuple l'=>obtain rfl:=pi h;rfl
 |_=>exact zz h
theorem F0{Q:Unit->c_->Prop}(hh:A.handled=á)(X:Act ju env sc jx jw σ av s)(r:Zu s.heap av v d)(ha:a9 target d σ=.ok σ')
  (hq:∀s',Act ju env sc jx jw σ' av s'->Fr (env::ju) jx s av s' av->Q () s'):i' (i_ O w) A (assign target env v) Q E s:=by
 unfold a9 at ha;cases hv:vw target with
 |name x=>rw[hv] at ha;refine Zs (dP hv) λp zq=>?_;subst hv zq;obtain⟨v0,hg,zq⟩:=gV ha;subst ha zq;exact fi<|X.ϙ hg r hq
 |tup es=>
  rw[hv] at ha;refine bM (dP hv) λk p zq=>?_;subst hv zq;obtain⟨ds,h1,ZC⟩:=P.NM ha;clear ha;cases Ux h1;obtain⟨xs,h2,ha⟩:=P.NM ZC;clear ZC;refine zn (eY es) (λhn=>?_) λys hn=>?_
  ·rw[hn] at h2;exact zz h2
  ·rw[hn] at h2;replace h2:=pi h2;subst h2;obtain⟨ad,vs,zq,g1,g2,g3,g4,g5⟩:=r.HM;subst r zq;refine zj (Uv (env:=env) hn) λe1 e2=>wpAny_assign_Tuple hh g2.GK (by rw[e1,Fz ha,<- g3];simp) e2 λh1 he=>?_;have k1:∀b o,s.heap.get? b=à o->h1.get? b=à o:=λb o e=>he b o (oV e) e;have kk:K (env::ju) s {s with heap:=h1}:=K.of ⟨h1,s.toks,rfl,k1⟩;exact Uw hn ha ⟨g3,λi v d q1 q2=>(g5 i v d q1 q2).keeps k1⟩ (X.k kk) λs' Z fr=>hq s' Z<|(X.EC kk).tr fr
 |_=>rw[hv] at ha;exact zz ha
theorem Uy(h:uW e=â):∃f as AD q,e=.Call f as AD q:=by
 unfold uW at h;cases hv:vw e with
 |call f as AD q=>exact⟨f,as,AD,q,dP hv⟩
 |_=>rw[hv] at h;exact zk h
theorem fR[Decidable c]{r fin:R α}(h:(if c then r else .no)=fin)(zh:fin≠.no):c/\r=fin:=by
 by_cases hc:c
 ·rw[if_pos hc] at h;exact⟨hc,h⟩
 ·rw[if_neg hc] at h;exact absurd h.symm zh
theorem Uz{k:Nat}{p:oi}(h:aJ n hd (env::ju) sc (AB σ xs) e<|ev (AB σ xs) e):
  bF n hd ju env sc jw σ (exec (.Assign [.Tuple es k p] e pos) env) λkn _=>Cx ev hd (AB σ xs) (.Tuple es k p) e kn:=by
 intro jx A s av hA X kn kr fin Q E hf zh hp hn hr he;obtain⟨zx,Y,hsub⟩:=X.cl xs;refine zj (fR hf zh) λhc hf=>uN (Uy hc.1) λf as AD q zq=>?_;subst zq;refine wpAny_Assign_stores (h.st hA Y hf zh (λv jv u k1 r e1=>?_) he) rfl rfl;obtain⟨σ',hσ,e2⟩:=cR e1 zh;exact F0 (hA.handled hc.2) (Y.k k1) (r.rep Y.inv.gnd.avlt) hσ λs' Z fr=>hn _ _ _ Z ((Fr.sub hsub).tr ((Y.EC k1).tr fr)) e2
theorem U0{rec:mh->aA->h_->R V}(zv:∀sc σ e,zr e=â->rec sc σ e=.no)(hc:C.hd=hd)
  (BU:∀sc σ e,aJ n hd (env::ju) sc σ e (rec sc σ e)/\cD n hd (env::ju) sc σ e (rec sc σ e))
  (h:∀σ e,aJ n hd (env::ju) sc σ e<|kO rec C sc σ e) {t e:h_} {pos:oi}:bF n hd ju env sc jw σ (exec (.Assign [t] e pos) env) λkn _=>vJ (kO rec C sc) F hd σ t e kn:=by
 revert zv hc BU h;revert t e pos;ext hd C env n F sc jw σ ju rec;ext t e pos
 unfold vJ;cases hv:vw t with
 |name x=>
  refine Zs (dP hv) λp zq=>?_;subst hv zq;refine Zs (Fx (env:=env) e x p pos.line) λb OZ=>?_;cases b with
  |false=>exact Uf OZ<|h _ e
  |true=>
   cases e with
   |ListComp elt gens zo GU=>
    cases gens with
    |nil=>exact bF.no
    |cons g gs=>
     cases gs with
     |cons=>exact bF.no
     |nil=>show bF n hd ju env sc jw σ _ λkn _=>rb (l8 rec C.hd sc _ elt g zo) λv=>rb (Zy<|eI x v _) kn;rw[hc];exact Uu OZ (zv sc _) (BU _ _ _).1 (λ_ _ _ _ _ a _=>(BU _ _ a).1) (λc _ σ'=>(BU _ _ c).2) λσ'=>(BU _ _ elt).1
   |SetComp=>exact bF.no
   |DictComp=>exact bF.no
   |_=>exact zk<|Fy OZ
 |sub o i=>
  refine Zs (dP hv) λp zq=>?_;subst hv zq;show bF n hd ju env sc jw σ _ λkn _=>match bT o with | some x=>vI (kO rec C sc) F σ x i e kn | none=>.no
  cases hn:bT o with
  |none=>exact bF.no
  |some x=>
   refine Zs (eJ hn) λq zq=>?_;subst hn zq;unfold vI;cases hm:oF e with
   |none=>exact Fw h
   |some c=>
    obtain⟨y,m,ap,as,cp⟩:=c
    by_cases hp:m ="pop"
    ·subst hp;simp only[if_true];refine Zs (Dk hm) λyp zq=>?_;subst hm zq;exact Ut h
    ·simp only[if_neg hp];exact Fw h
 |tup es=>refine bM (dP hv) λk p zq=>?_;subst hv zq;exact Uz<|h _ e
 |_=>exact bF.no
theorem U2(zv:∀σ e,zr e=â->ev σ e=.no)(h:∀σ e,aJ n hd (env::ju) sc σ e<|ev σ e):bF n hd ju env sc jw σ (exec (.Expr e pos) env) λkn _=>vK ev F σ e kn:=by
 revert e pos;ext hd ev env n F sc jw σ ju;ext e pos
 unfold vK;cases hm:oF e with
 |some c=>obtain⟨x,m,ap,as,cp⟩:=c;refine Zs (Dk hm) λxp zq=>?_;subst hm zq;exact Um zv λe _=>h _ e
 |none=>
  cases hc:iN e with
  |true=>exact bF.no
  |false=>exact Uh hc<|h _ e
end
theorem kX(x y:d_)(σ:aA):zm (hide σ x) y=(zm σ y).map λo=>if x=y then á else o:=by
 induction σ with
 |nil=>rfl
 |cons p r ih=>
  obtain⟨z,v⟩:=p;show zm ((if x=z then (z,á) else (z,v))::hide r x) y=(if y=z then à v else zm r y).map _
  by_cases h:x=z
  ·subst h;rw[if_pos rfl];show(if y=x then à á else zm (hide r x) y)=_
   by_cases h2:y=x
   ·subst ih h2;rw[if_pos rfl,if_pos rfl];simp
   ·rw[if_neg h2,if_neg h2];exact ih
  ·rw[if_neg h];show(if y=z then à v else zm (hide r x) y)=_
   by_cases h2:y=z
   ·subst h2;rw[if_pos rfl,if_pos rfl];simp[h]
   ·rw[if_neg h2,if_neg h2];exact ih
theorem F1{v:V}(h:zm (hide σ x) y=à (à v)):zm σ y=à (à v):=by
 rw[kX] at h;refine aD (az.mp h) λo h1 h=>?_
 by_cases e:x=y
 ·rw[if_pos e] at h;exact ns h
 ·rw[if_neg e] at h;rw[h1,h]
theorem U4(h:(zm σ y).isSome=â):(zm (hide σ x) y).isSome=â:=by rw[kX,ub];exact h
theorem F2(h:(zm σ x).isSome=â):zm (hide σ x) x=à á:=by rw[kX];refine Zs (gu.mp h) λo e=>?_;rw[e];simp
theorem U6(h:zm σ x=à á):zm (hide σ y) x=à á:=by rw[kX,h];show à (if y=x then á else á)=_;rw[ite_self]
section
variable {ju:List nt}
theorem Act.hide(X:Act ju env sc jx jw σ av s)(x:d_):Act ju env sc jx jw (hide σ x) av s:=by
 have back:∀y c,bY env (Internal.hide σ x) s.heap y c->bY env σ s.heap y c:=λy c h=>by refine zj h λzt hv=>?_;obtain⟨d,hg⟩:=zt;exact⟨⟨d,F1 hg⟩,hv⟩
 refine {X with inv:={X.inv with get:=λy v hl hg=>X.inv.get y v hl (F1 hg)},names:=λy v h=>?_,ownA:=λy c h=>X.ownA y c<|back y c h,ownI:=λy z c h1 h2=>X.ownI y z c (back y c h1) (back z c h2)};rw[kX] at h;exact aD (az.mp h) λo h _=>X.names y o h
theorem Act.WD{u:b_}{Q:Unit->c_->Prop}(X:Act ju env sc jx jw σ av s)(hx:zm σ x=à á)
  (hq:∀s',Act ju env sc jx jw σ av s'->(∀b o,¬Mn env b->s.heap.get? b=à o->s'.heap.get? b=à o)->aW env s'.heap x u->(∀y w',y≠x->aW env s.heap y w'->aW env s'.heap y w')->Q () s'):i' (i_ O w) A (storeName env x u) Q E s:=by
 refine X.store hx λp h' tk hp hs AR JA JK DV=>?_;have kept:∀b o,¬b=p->s.heap.get? b=à o->h'.get? b=à o:=λb o hb e=>by rw[hs.2 b hb];exact e
 refine bP (X.fresh p hp) λp1 p2 p3=>?_;have ne:∀y v,zm σ y=à (à v)->y≠x:=λy v h e=>by rw[e,hx] at h;exact Internal.ns<|Option.some.inj h
 have back:∀y a,bY env σ h' y a->bY env σ s.heap y a:=λy a h=>by refine zj h λzt hv=>?_;obtain⟨d,hg⟩:=zt;exact⟨⟨d,hg⟩,X.SD hg (λu=>DV y u<|ne y _ hg) hv⟩
 refine hq _ (X.upd (S:=λb=>b=p) (λb h=>h▸p2) kept AR JA (λ_ h=>h) (λ_ h _=>h) (λb _ h=>?_) X.bas (λb h=>(X.fresh b h).1) (λ_ v h=>⟨v,h⟩) (λy w' hl h=>?_) (λy a h=>X.ownA y a<|back y a h) λy z a h1 h2=>X.ownI y z a (back y a h1)<|back z a h2) (λb o n e=>kept b o (λh=>n<|h▸hp) e) JK DV
 ·subst hs kept p1 p2 p3 h;rcases hp with rfl|⟨y,h⟩
  ·exact eH AR λm o es ep e _=>⟨o,e⟩
  ·exact cL (JA y b h) λv o e _=>⟨o,e⟩
 ·exact aD (X.inv.get y w' hl h) λu' h1 h2=>⟨u',DV y u' (ne y _ h) h1,h2.KF (λb o n e=>kept b o (λh=>n<|h▸p1) e) (λ_ _ _ h=>h) λd a e1 e2 o e=>kept a o (λh'=>(X.ownA y a ⟨⟨d,e1▸h⟩,e2▸h1⟩).2.2.2<|h'▸hp) e⟩
theorem Act.one(H:Act ju env sc jx jw σ av' s)(sub:∀b,av b->av' b)(bas:∀b,jx b->av b)(fav:∀b,z_ (env::ju) b->av b)(mn:∀b,Mn env b->av b)(avS:av mw)
  (hy:zm σ y=à v0) (hv:aW env s.heap y v) (r:Zu s.heap av v d):Act ju env sc jx jw [(y,à<|.fz d)] av s:=by
 have one:∀z u,zm [(y,à<|V.fz d)] z=à u->z=y/\u=à (.fz d):=λz u h=>by
  by_cases e:z=y
  ·subst hy hv e;rw[FU] at h;exact⟨rfl,(m_ h).symm⟩
  ·rw[DF e] at h;exact Internal.ns h
 have IJ:∀z a,¬bY env [(y,à<|.fz d)] s.heap z a:=λz a h=>by refine zj h λzt _=>?_;obtain⟨e,hg⟩:=zt;cases (one z _ hg).2
 refine {H with inv:={H.inv with gnd:={H.inv.gnd with fav:=fav,avlt:=λb h=>H.inv.gnd.avlt b<|sub b h,avS:=avS},get:=λz u hl hg=>?_},bas:=bas,fresh:=λb h=>⟨mn b h,(H.fresh b h).2⟩,names:=λz u h=>?_,ownA:=λz a h=>(IJ z a h).elim,ownI:=λz _ a h _=>(IJ z a h).elim}
 ·refine zj (one z _ hg) λzq e=>?_;subst hy one IJ hg zq;cases e;exact⟨v,hv,r⟩
 ·refine zj (one z _ h) λzq _=>?_;subst hv one IJ h zq;exact H.names z v0 hy
end
section
variable {ju:List nt}
theorem bC.weaken(hw:∀b,jx b->kg b)(r:bC jw h kg v u):bC jw h jx v u:=by
 cases u with
 |ex x=>exact r
 |fz d=>exact(r:Zu h kg v d).mono (λ_ _ _ e=>e) λb _ _ x=>hw b x
 |own d=>refine bN r λa e hn rb=>?_;exact⟨a,e,hn,rb.mono (λ_ _ _ e=>e) (λb _ _ x=>x.imp (hw b) id) λ_ e=>e⟩
 |dp d=>exact r
theorem U8{jy:c_}{b:List me}{wr:f_->Prop}{St:Nat->mj->Prop}{body:aA->KN->KR->R V}
  (hA:AI n hd (env::ju) A) (hh:A.handled=á) (Y:Act ju env sc jx jw σ av s) (hb:∀σ,bF n hd ju env sc jw σ (execs b env)<|body σ)
  (k:Kp s jy) (S:JR A s.heap av t it wr St ds) (AP:St 0 jy.heap) (BA:∀b,wr b->s.heap.get? b=á/\∃o,jy.heap.get? b=à o)
  {kn:KN} {kr:KR} {fin:R V} {Q:uy->c_->Prop} {E:b_->c_->Prop} (hf:aX body t ds σ kn kr=fin) (zh:fin≠.no) (hp:yg (i_ O w) A env E)
  (hn:∀s' σ' av',Act ju env sc jx jw σ' av' s'->Fr (env::ju) jx s av s' av'->kn σ'=fin->Q .next s') (hr:∀v s' u,K ju jw s'->bC jw s'.heap jx v u->kr u=fin->Q (.ret v) s')
  (he:∀x v s',fin=.exc x->D_ ju env jw jx x v s'->E v s') :
  rg (i_ O w) A (.forLoop t it b [] env) (λr s'=>match r with | .ok f=>Q f s' | .error e=>cameBackBy (i_ O w) A env E e s') jy:=by
 revert hA hh Y hb k S AP BA;revert St ds body kn kr fin Q E;ext av jx A hd env t n sc s jw it σ ju jy b wr;ext ds St body kn kr fin Q E
 have kk:K (env::ju) s jy:=K.of k;have nw:∀b,wr b->¬Mn env b/\¬av b/\¬jx b/\jw.heap.get? b=á/\¬z_ (env::ju) b:=λb h=>Y.CY (BA b h).1;have hM:∀b,Mn env b->¬wr b:=λb m h=>(nw b h).1 m;have VZ:∀b,jx b->¬wr b:=λb x h=>(nw b h).2.2.1 x;refine codeAny_forLoop_any (λk st=>∃(i:Nat) (σi:aA) (IS:f_->Prop),i+k=ds.length/\Act ju env sc (λb=>jx b\/wr b) jw σi IS st/\Fr (env::ju) jx s av st IS/\St i st.heap/\aX body t (ds.drop i) σi kn kr=fin) ?_ ds.length
  ⟨0,σ,_,im _,(Y.pin (S:=wr) kk (λa ha=>(BA a ha).1) λa ha=>(BA a ha).2),(⟨(Y.EC kk).keep,λb o e h=>h.elim id (λh=>by rw[(BA b h).1] at e;exact ns e),(Y.EC kk).pins⟩),AP,hf⟩
 rintro k' st ⟨i,σi,IS,hi,X,fr,sti,ME⟩
 by_cases DD:i=ds.length
 ·subst hi DD;rw[vh] at ME;refine aq (S.done st _ (λs'=>Q .next s') sti λh' tk hk=>hn _ σi (λb=>IS b/\¬wr b) ?_ (fr.tr ⟨λb o e hb=>hk b o (λhw=>hb<|X.bas b<|.inr hw) e,λ_ _ _ h=>h.1,λb o hb _ e=>hk b o (VZ b hb) e⟩) ME) (λr jv jz=>?_) λ_ _ x=>x
  ·exact(X.weaken (λb hb=>.inl hb) λb h=>(Y.fr0 b h).1).HN (S:=wr) (λb hb=>X.bas b<|.inr hb) (λb h=>(nw b h).2.2.2.1) hM (λx a h hw=>(X.ownA x a h).2.2.1<|.inr hw) hk (λb hb=>hb.1) (λb hb hw=>⟨hb,hw⟩) (λb hb hw=>absurd hw hb.2) (λb hb=>⟨X.bas b<|.inl hb,VZ b hb⟩)
  ·cases r with
   |none=>exact ce jz
   |some v=>exact jz.elim
 ·have zw:i<ds.length:=by exact qM hi DD
  rw[wm zw] at ME;obtain⟨σ1,q0S,ME⟩:=cR (ME:rb (Zy<|a9 t ds[i] σi) (λσ=>body σ (λσ=>aX body t (ds.drop<|i+1) σ kn kr) kr)=fin) zh;refine aq (S.item i ds[i] st _ ?QQ (ai zw) sti ?body) ?link λ_ _ x=>x
  case link=>
   intro r jv jz;cases r with
   |none=>exact jz.elim
   |some v=>exact jz
  intro v h1 DZ hk1 FK GI;obtain X1:Act ju env sc (λb=>jx b\/wr b) jw σi IS {st with heap:=h1,toks:=DZ}:=
   X.HN (S:=wr) (λb hb=>X.bas b<|.inr hb) (λb h=>(nw b h).2.2.2.1) hM (λx a h hw=>(X.ownA x a h).2.2.1<|.inr hw) hk1 (λb hb=>hb) (λb hb _=>hb) (λb _ hw=>S.live _ _ FK b hw) X.bas
  obtain fr1:Fr (env::ju) jx st IS {st with heap:=h1,toks:=DZ} IS:=⟨λb o e hb=>hk1 b o (λhw=>hb<|X.bas b<|.inr hw) e,λ_ _ _ h=>h,λb o hb _ e=>hk1 b o (VZ b hb) e⟩
  refine F0 hh X1 (GI IS X.inv.gnd.avlt fr.grow) q0S λs2 Y2 fr2=>wpAny_passesOwn hp ?_;refine hb σ1 _ A s2 IS hA Y2 ME zh hp (λs3 σ3 av3 Y3 YU e3=>?_) (λv s' u k r e=>hr v s' u k (r.weaken λ_ h=>.inl h) e) λx v s' e u=>he x v s' e<|u.weaken λ_ h=>.inl h;have YW:=fr1.tr<|(fr2.weaken λb hb=>.inl hb).tr (YU.weaken λb hb=>.inl hb);refine⟨k' - 1,by exact nV hi DD,i+1,σ3,av3,by exact nW hi DD,Y3,fr.tr YW,S.frame _ _ _ FK (λb o hw e=>YU.pins b o (.inr hw) (nw b hw).2.2.2.2<|fr2.pins b o (.inr hw) (nw b hw).2.2.2.2 e) (fr.tr YW).keep,e3⟩
theorem U9{it:h_}{k:List a_->R V}{fin:R V}(h:rb (fZ rec hd sc t it) k=fin)(zh:fin≠.no):hd=ã:=by
 cases hd with
 |false=>rfl
 |true=>exact absurd h.symm zh
theorem Va(zv:∀σ e,zr e=â->ev σ e=.no)(h:∀σ e,aJ n hd (env::ju) sc σ e<|ev σ e){it:h_}{b:List me}{body:aA->KN->KR->R V}
  (hb:∀σ,bF n hd ju env sc jw σ (execs b env)<|body σ) :
  bF n hd ju env sc jw σ (exec (.For t it b [] pos) env) λkn kr=>rb (fZ (ev<|AB σ xs) hd sc t it) λl=>aX body t l (AB σ xs) kn kr:=by
 intro jx A s av hA X kn kr fin Q E hf zh hp hn hr he;obtain⟨zx,Y,CW⟩:=X.cl xs;refine wpAny_For (sG (target:=t) (zv _) (h _ it) (λ_ _ _ _ _ a _=>h _ a) A env s zx hA Y.inv ⟨hf,zh⟩ (λΕ jy ds x e=>?_) λx v s' e f=>he x v s' e<|Y.up f)<|wB<|gR (λe=>xB (zv _) e)<|Fin.ne ⟨hf,zh⟩;obtain⟨jv,wr,St,k0,S,AP,BA,k2,_⟩:=x;exact U8 hA (hA.handled<|U9 hf zh) (Y.k k0) hb k2 S AP BA e zh hp (λs' σ' av' Z f e=>hn s' σ' av' Z ((Fr.sub CW).tr ((Y.EC k0).tr f)) e) hr he
end
section
variable {nm q:d_}{C N:f_}{bs:List b_}{hdct:Bool}{sn:List d_}{sub:List b_}{ab:Bool}{col:Option Bool}{dd:Option f_}{k0 k1 k2 k3 k5:Option b_}{newId:String}
theorem Vb{x:Sem b_}{Q:uy->c_->Prop}(IC:bm.contains (.type "BaseException")=â)(hh:A.handled=á)
  (h:i' M A x (λv jv=>∃(e:f_) (dx:Option f_) (t:f_),v=.ref e/\jv.heap.get? C=à (mi nm q C N bs bm hdct sn sub ab col dd k0 k1 k2 k3 k5 newId)/\jv.heap.get? e=à {cls:=.ref C,dict:=dx,data:=.fields #[.ref t,.none,.none,.none,.bool ã,.none]}/\E (.ref e) jv) E s) :
  i' M A (raiseStmt env (à x) á) Q E s:=by
 unfold raiseStmt;refine ac<|aq h (λv jv jz=>?_) λ_ _ x=>x;refine lR jz λe dx t zq hC he hE=>?_;subst jz zq;obtain⟨hp,g,d,tk,os⟩:=jv
 repeat (first | with_reducible refine bc he ?_ | with_reducible refine bc hC ?_ | (with_reducible refine dj hC ?_;rw[(by rw[ec,IC,gz]:(mr C::bm).contains (.type "BaseException")=â)]) | wp_step)
 exact wpAny_raiseNew_none hh hE
theorem Vc{np pos:oi}{args:List h_}{Q:uy->c_->Prop}(IC:bm.contains (.type "BaseException")=â)(hh:A.handled=á)(hs:args.any zr=ã)
  (h:i' M A (eval (.Name x np) env) (λf jv=>f=.ref C/\i' M A (spliced<|backTo GU<|starEach args env) (λvs jy=>jy.heap.get? C=à (mi nm q C N bs bm hdct sn sub ab col dd k0 k1 k2 k3 k5 newId) /\
   i' M A (call (.ref C) vs) (λv kc=>∃(e:f_) (dx:Option f_) (t:f_),v=.ref e/\kc.heap.get? C=à (mi nm q C N bs bm hdct sn sub ab col dd k0 k1 k2 k3 k5 newId)/\kc.heap.get? e=à {cls:=.ref C,dict:=dx,data:=.fields #[.ref t,.none,.none,.none,.bool ã,.none]}/\E (.ref e) kc) E jy) E jv) E s) :
  i' M A (exec (.Raise (à<|.Call (.Name x np) args [] GU) á pos) env) Q E s:=by
 revert k0 k1 k2 k3 k5 newId s x np GU pos args Q;ext A env bm M E nm q C N bs hdct sn sub ab col dd;revert pos args Q;ext GU s x k0 k1 k2 k3 k5 newId np;ext pos args Q
 rw[arm_exec_Raise];refine ac<|ck<|Vb (C:=C) (nm:=nm) (q:=q) (N:=N) (bs:=bs) (bm:=bm) (hdct:=hdct) (sn:=sn) (sub:=sub) (ab:=ab) (col:=col) (dd:=dd) (k0:=k0) (k1:=k1) (k2:=k2) (k3:=k3) (k5:=k5) (newId:=newId) IC hh ?_;refine ac<|aq (wpAny_Call_ofName<|aq h (λf jv jz=>?_) λ_ _ x=>x) (λv kc km=>ac<|ck<|ae km) λ_ _ x=>x;obtain⟨rfl,jz⟩:=jz;unfold callWith;refine ac<|bk<|mK hs<|aq jz (λa jy kq=>ac<|ck ?_) λ_ _ x=>x;refine zj kq λhC kq=>?_;rw[(wX (env:=env) (pos:=GU) hs)];obtain⟨hp,g,d,tk,os⟩:=jy;refine ac<|wpAny_keeperOf_exc hC ?_;exact ac<|aq kq (λv kc km=>ac<|bk<|wpAny_point<|ae km) λ_ _ x=>x
end
section
variable {O:nj}{w:om}{g:Array ug}{d:Drawn}{t:Nat}{os:qo}
variable {nm q:d_}{C N:f_}{bs:List b_}{hdct:Bool}{sn:List d_}{sub:List b_}{ab:Bool}{col:Option Bool}{dd:Option f_}{k0 k1 k2 k3 k5:Option b_}{B newId VM:String}
theorem Vd(F:ExcBaseFacts B newId VM B_)(T:OwnTail h B_ bm){mN:d_->Option b_}{rest:List b_}{fI:f_}{oI:tg}
  (hC:h.get? C=à (mi nm q C N bs bm hdct sn sub ab col dd k0 k1 k2 k3 k5 newId)) (hn:h.Ns N mN) (hi:mN "__init__" = à (.ref fI)) (hfI:h.get? fI=à oI) (OK:oI.cls=.type "function") (OX:rest.length<=g_)
  (hq:∀h' e,Heap.MadeExcOf h h' e (.ref C) rest ->
   i' (i_ O w) (A.under<|.builtin "type.__call__" ⟨.ref C::rest,[]⟩) (call (.ref fI)<|.ref e::rest) (λr s'=>r=.none/\Q (.ref e) s') E ⟨h',g,d,t,os⟩) :
  i' (i_ O w) A (call (.ref C) rest) Q E ⟨h,g,d,t,os⟩:=by
 revert F T;revert hdct sn sub ab col dd k0 k1 k2 k3 k5 B newId VM mN rest fI oI Q;ext A h bm B_ E O w g d t os nm q C N bs;revert fI oI Q;ext hdct sn sub ab col dd k0 k1 k2 k3 k5 B newId VM mN rest;ext Q fI oI
 have f1:=tc_lookup;have f2:=tc_bind<|.ref C;have hT:(⟨h,g,d,t,os⟩:c_).TypeIs (.ref C) "type":=⟨_,hC,rfl⟩
 refine vk (codeAny_of_tree ?_)
 repeat (any_goals (first | assumption | with_reducible refine bc hC ?_ | wp_step))
 refine⟨rfl,?_⟩;refine codeAny_call_builtin_at (qz _<|by decide +kernel) entry_typeCall (wpAny_check_type_call_sub hC ?_)
 repeat (first | with_reducible refine bc hC ?_ | with_reducible refine wpAny_madeBy_exc hC ?_ | wp_step)
 refine codeAny_call_builtin_code (qz _ F.quiet)<|wpAny_check_new_subT F T hC<|codeAny_exc_new_subT F T hC ?_ OX;show i' _ _ _ _ _ ⟨(h.push {cls:=.type "tuple",data:=.seq rest.toArray}).push {cls:=.ref C,data:=.fields #[.ref h.objs.size,.none,.none,.none,.bool ã,.none]},g,d,t,os⟩;generalize hH:(h.push {cls:=.type "tuple",data:=.seq rest.toArray}).push {cls:=.ref C,data:=.fields #[.ref h.objs.size,.none,.none,.none,.bool ã,.none]}=H;have up:∀b o,h.get? b=à o->H.get? b=à o:=λb o e=>hH▸ah _ (ah _ e);have ZP:H.get? (h.objs.size+1)=à {cls:=.ref C,data:=.fields #[.ref h.objs.size,.none,.none,.none,.bool ã,.none]}:=by subst hH;heap_get
 obtain q1P:H.get? h.objs.size=à {cls:=.type "tuple",data:=.seq rest.toArray}:=by subst hH;exact ah _<|Heap.get?_push_at rfl rfl
 have Y':=up _ _ hC;unfold isInstance
 repeat (first | with_reducible refine bc ZP ?_ | (with_reducible refine dj Y' ?_;rw[(by simp:(mr C::bm).contains (.ref C)=â)]) | wp_step)
 show i' _ _ (ni (.ref C) _) _ _ _;refine wpAny_typeLookup_tail Y' (hn.keeps up) (T.keeps up) F.mroIs F.init.lookup ?_;rw[hi];refine bk<|ac ?_;unfold bindSpecial;refine ac<|iu (T:="function") ⟨_,up _ _ hfI,OK⟩ ?_;rw[if_pos Zw];refine ae<|ac<|aq (hq H (h.objs.size+1) ⟨up,dh<|ao _,h.objs.size,ZP,dh<|bv _,q1P⟩) (λr s' hr=>?_) λ_ _ x=>x;refine zj hr λzq hQ=>?_;subst hr zq
 wp_walk
 exact hQ
end
section
open Builtin Builtin.ObjectAttr
inductive BW(h:mj)(B_:List b_)(ns:List d_):List b_->Prop
 |base:BW h B_ ns B_
 |own {A:f_} {c0:b_} {dd:Option f_} {cd:un} {sl:Array<|Option b_} {mA:d_->Option b_} {tl:List b_} :
   h.get? A=à {cls:=c0,dict:=dd,data:=.cls cd,slots:=sl}->h.Ns cd.ns mA->(∀n∈ns,mA n=á)->BW h B_ ns tl->BW h B_ ns (.ref A::tl)
theorem BW.tail{tl:List b_}{ns:List d_}(hi:e_ "__init__" ∈ ns)(T:BW h B_ ns tl):OwnTail h B_ tl:=by
 induction T with
 |base=>exact .base
 |own h1 h2 h3 _ ih=>exact .own h1 h2 (h3 _ hi) ih
theorem BW.keeps{tl:List b_}{ns:List d_}(hk:∀b o,h.get? b=à o->h'.get? b=à o)(T:BW h B_ ns tl):BW h' B_ ns tl:=by
 induction T with
 |base=>exact .base
 |own h1 h2 h3 _ ih=>exact .own (hk _ _ h1) (h2.keeps hk) h3 ih
theorem BW.less{tl:List b_}{ns ns':List d_}(hs:∀n∈ns',n∈ns)(T:BW h B_ ns tl):BW h B_ ns' tl:=by
 induction T with
 |base=>exact .base
 |own h1 h2 h3 _ ih=>exact .own h1 h2 (λn hn=>h3 n<|hs n hn) ih
theorem BW.q1Y{tl:List b_}{ns:List d_}(T:BW h B_ ns tl){self:b_}{Ϧ:d_}(hp:refuseLoop self Ϧ B_=pure ()):refuseLoop self Ϧ tl=pure ():=by
 induction T with
 |base=>exact hp
 |own _ _ _ _ ih=>rw[refuseLoop_ref];exact ih
section
variable {g:Array ug}{d:Drawn}{t:Nat}{os:qo}
variable {nm q:d_}{C N:f_}{bs:List b_}{hdct:Bool}{sn:List d_}{sub:List b_}{ab:Bool}{col:Option Bool}{dd:Option f_}{k0 k1 k2 k3 k5:Option b_}{B newId:String}{mN:d_->Option b_}{ns:List d_}
theorem Ve{tl:List b_}{n:d_}{y:Option b_}{Q:Option b_->c_->Prop}(T:BW h B_ ns tl)(hn:n∈ns)(OX:lookupAlong B_ n=pure y)(hq:Q y ⟨h,g,d,t,os⟩):i' M A (lookupAlong tl n) Q E ⟨h,g,d,t,os⟩:=by
 induction T with
 |base=>rw[OX];exact ae hq
 |own h1 h2 h3 _ ih=>rw[lookupAlong_cons];refine ac<|wpAny_classOwn_cls h1 h2 ?_;rw[h3 n hn];exact ih
theorem jU{n:d_}{y:Option b_}{Q:Option b_->c_->Prop}(hC:h.get? C=à (mi nm q C N bs bm hdct sn sub ab col dd k0 k1 k2 k3 k5 newId))(hN:h.Ns N mN)(T:BW h B_ ns bm)(FO:mroOf (.type B)=pure B_)(hn:n∈ns)(h0:mN n=á)
  (hB:ni (.type B) n=pure y) (hq:Q y ⟨h,g,d,t,os⟩):i' M A (ni (.ref C) n) Q E ⟨h,g,d,t,os⟩:=by
 obtain OX:lookupAlong B_ n=pure y:=by rw[typeLookup_eq,FO] at hB;exact hB
 rw[typeLookup_eq];refine ac<|wpAny_mroOf_exc hC ?_;rw[lookupAlong_cons];refine ac<|wpAny_classOwn_exc hC hN ?_;rw[h0];exact Ve T hn OX hq
end
inductive XD(G:f_->Prop)(h:mj)(e:f_)(ns:List d_)(m:d_->Option b_)(dx:Option f_):Prop where
 |mk (d:f_) (e1:dx=à d) (n:d≠e) (g:¬G d) (hn:h.Ns1 d m) (w:Within m ns):XD G h e ns m dx
inductive NG(G:f_->Prop)(h:mj)(e C t:f_)(ns:List d_)(m:d_->Option b_):Prop where
 |mk (dx:Option f_) (he:h.get? e=à {cls:=.ref C,dict:=dx,data:=.fields #[.ref t,.none,.none,.none,.bool ã,.none]}) (hd:(dx=á/\∀y,m y=á)\/XD G h e ns m dx):NG G h e C t ns m
section
variable {O:nj}{w:om}{g:Array ug}{d:Drawn}{t:Nat}{os:qo}
variable {nm q:d_}{C N e tt:f_}{bs:List b_}{sn:List d_}{sub:List b_}{ab:Bool}{col:Option Bool}{dd:Option f_}{k0 k1 k2 k3 k5:Option b_}{B newId sa owner:String}{mN:d_->Option b_}{ns vs:List d_}{name:d_}
theorem Vf{Q:Unit->c_->Prop}(SF:StoreFacts B B_ sa owner)(hb:bm.contains (.type owner)=â)
  (hC:h.get? C=à (mi nm q C N bs bm â sn sub ab col dd k0 k1 k2 k3 k5 newId)) (hx:h.get? e=à o) (hc:o.cls=.ref C) (hq:Q () ⟨h,g,d,t,os⟩) :
  i' M A (checkBuiltinCall sa ⟨[.ref e,PL,v],[]⟩) Q E ⟨h,g,d,t,os⟩:=by
 obtain hcB:(mr C::bm).contains (.type owner)=â:=by rw[ec,hb,gz]
 have ha:=SF.args (.ref e) PL v;rw[checkBuiltinCall,SF.kind,SF.split];refine ac ?_;unfold isInstance
 repeat (first | (with_reducible refine bc hx ?_;rw[hc]) | (with_reducible refine dj hC ?_;rw[hcB]) | wp_step)
 cases q1O:Manifest.signature? sa with
 |none=>exact ae hq
 |some sig=>simp only[argsOk,q1O] at ha;show i' M A (Bind.checkArgs sa sig ⟨[.ref e,PL,v],[]⟩) Q E _;rw[(ha)];exact ae hq
theorem F3{dx:f_}{m:d_->Option b_}{tk:vg}{Q:td->c_->Prop}(hn:h.Ns1 dx m)(hw:Within m vs)(hl:vs.length<100)
  (hq:∀h' EG,h'.Ns1 dx (λy=>if y=name then à v else m y)->mq dx h h'->Q (.done<|.ret .none) ⟨h',g,d,EG,os⟩):i' (i_ O w) A (storeInDict dx (.str name tk) name v) Q E ⟨h,g,d,t,os⟩:=by
 unfold storeInDict newKeyGuard;refine ac<|ae<|ac<|wpAny_nsSet1 hn λh' BR hs=>?_;refine AN λΘ θ=>jF (BR.count<|Within.cons name v hw) λoD esD epD hoD hdD OF=>θ ?_;refine ac (wpAny_lookBehind hoD (by rw[hdD];exact pastItsLine_dict<|aa OF<|by rw[pg,nh];exact Lh hl) ?_)
 wp_walk
 exact hq h' _ BR hs
theorem Vg{G:f_->Prop}{m:d_->Option b_}{Q:Unit->c_->Prop}(SF:StoreFacts B B_ sa owner)(hb:bm.contains (.type owner)=â)(hC:h.get? C=à (mi nm q C N bs bm â sn sub ab col dd k0 k1 k2 k3 k5 newId))(hN:h.Ns N mN)(T:BW h B_ ns bm)
  (FI:e_ "__setattr__" ∈ ns) (MP:mN "__setattr__" = á) (DP:name∈ns) (DQ:mN name=á) (hB:ni (.type B) name=pure á) (I:NG G h e C tt vs m) (hG:∀b,G b->b≠e/\∃o,h.get? b=à o) (hl:vs.length<100)
  (hq:∀h' tk,NG G h' e C tt (name::vs) (λy=>if y=name then à v else m y)->(∀b o,G b->h.get? b=à o->h'.get? b=à o)->Q () ⟨h',g,d,tk,os⟩):i' (i_ O w) A (setAttr (.ref e) name v) Q E ⟨h,g,d,t,os⟩:=by
 revert bm B_ sn sub ab col dd k0 k1 k2 k3 k5 B newId sa owner mN ns vs name v G m Q;ext A h E O w g d t os nm q C N e tt bs;revert mN ns vs name v G m Q;ext bm B_ sn sub ab col dd k0 k1 k2 k3 k5 B newId sa owner;ext v mN ns vs name G m Q
 obtain⟨dx,hx,hd⟩:=I;have f3:=SF.slot.bind<|.ref e;have hZ:g_=16777216:=rfl;unfold setAttr callSpecial? specialOf
 repeat (any_goals (first | assumption | with_reducible refine bc hx ?_ | with_reducible refine jU hC hN T SF.mro FI MP SF.slot.lookup ?_ | wp_step))
 refine oa SF.slot.plain SF.entry<|Vf SF hb hC hx rfl ?_;unfold px.«object.__setattr__»
 repeat (first | rw[refuse_eq] | (rw[refuseLoop_ref,(T.q1Y<|SF.passes<|.ref e)]) | with_reducible refine bc hx ?_ | with_reducible refine wpAny_mroOf_exc hC ?_ | with_reducible refine jU hC hN T SF.mro DP DQ hB ?_ | wp_step)
 rcases hd with ⟨rfl,hm0⟩|⟨dx,rfl,zh,ZA,AR,hw⟩
 ·have HC:=cb<|ci hx;have lg:(h.push {cls:=.type "dict",data:=.dict #[]}).get? e=_:=ah _ hx;rw[if_neg<|by simp[typeHasDict]];refine ac<|wpAny_alloc'<|ac<|wpAny_update' lg<|ae ?_;generalize hH:((h.push {cls:=.type "dict",data:=.dict #[]}).update e λo=>{cls:=o.cls,dict:=à h.objs.size,data:=o.data,slots:=o.slots})=H;obtain hgd:H.get? h.objs.size=à {cls:=.type "dict",data:=.dict #[]}:=by subst hH;exact(yd _ _ _ _ HC.symm).trans (Heap.get?_push_at rfl rfl)
  obtain hge:H.get? e=à {cls:=.ref C,dict:=à h.objs.size,data:=.fields #[.ref tt,.none,.none,.none,.bool ã,.none]}:=by subst hH;exact sz _ lg rfl
  obtain hgo:∀b o,b≠e->h.get? b=à o->H.get? b=à o:=λb o hb e=>by subst hH;exact(yd _ _ _ _ hb).trans (ah _ e)
  obtain rfl:=funext hm0;refine F3 (vs:=vs) (Heap.Ns1.of_empty<|⟨_,#[],_,hgd,rfl,λe he=>absurd he (by simp),λ_=>rfl⟩) (λ_ h=>absurd rfl h) hl λh' EG BR hs=>ae<|ae<|hq h' _ ⟨à h.objs.size,(hs.2 e HC).trans hge,.inr ⟨_,rfl,HC.symm,λx=>?_,BR,Within.cons name v λ_ h=>absurd rfl h⟩⟩ λb o hb eb=>?_
  ·refine lU (hG _ x) λ_ o ho=>?_;rw[bU] at ho;cases ho
  ·exact(hs.2 b<|cb<|ci eb).trans (hgo b o (hG b hb).1 eb)
 ·refine ae<|F3 AR hw hl λh' EG BR hs=>ae<|ae<|hq h' _ ⟨à dx,(hs.2 e zh.symm).trans hx,.inr ⟨_,rfl,zh,ZA,BR,Within.cons name v hw⟩⟩ λb o hb eb=>(hs.2 b λx=>ZA<|x▸hb).trans eb
end
end
theorem xL:∀{ps:List d_} {us:List α} {x:d_} {v:α},(ps.zip us).lookup x=à v->∃i:Nat,ps[i]?=à x/\us[i]?=à v
 | [],_,_,_,h=>by simp at h
 |_::_,[],_,_,h=>by simp at h
 |p::ps,u::us,x,v,h=>by
  rw[uc,ic] at h;refine DO (x==p) (λhb=>?_) λhb=>?_
  ·rw[hb] at h;exact aD (xL h) λi h1 h2=>⟨i+1,by simpa using h1,by simpa using h2⟩
  ·rw[hb] at h;replace h:=si h;subst h;exact⟨0,by simp[beq_iff_eq.mp hb],rfl⟩
theorem xM:∀{ps:List d_} {us:List α} {x:d_} {v:α} {i:Nat},ps.Nodup->ps[i]?=à x->us[i]?=à v->(ps.zip us).lookup x=à v
 | [],_,_,_,_,_,h,_=>by simp at h
 |_::_,[],_,_,_,_,_,h=>by simp at h
 |p::ps,u::us,x,v,i,hn,h1,h2=>by
  rw[uc,ic];cases i with
  |zero=>simp at h1 h2;subst h1;subst h2;simp
  |succ i=>
   simp at h1 h2;obtain zh:(x==p)=ã:=by rw[beq_eq_false_iff_ne];intro e;subst e;exact(bh.mp hn).1<|bq h1
   rw[zh];exact xM (bh.mp hn).2 h1 h2
theorem F4:∀(ps:List d_) (vs:List b_) (f:d_->Option b_),ps.length=vs.length->(∀(i:Nat) x v,ps[i]?=à x->vs[i]?=à v->f x=à v)->(ps.filterMap λn=>(f n).map (n,·))=ps.zip vs
 | [],[],_,_,_=>rfl
 | [],_::_,_,h,_=>by simp at h
 |_::_,[],_,h,_=>by simp at h
 |p::ps,v::vs,f,hl,h=>by rw[fw,(h 0 p v rfl rfl),uc];rw[r_];rw[F4 ps vs f (by simpa using hl) λi x v' h1 h2=>h (i+1) x v' (by simpa using h1)<|by simpa using h2]
theorem F5{c:Bool}{x y z:α}(h:c=ã)(e:y=z):(if c=â then x else y)=z:=by rw[h];exact e
theorem xN{fd:xq}{as:List Arg}{JN:List<|Option h_}{IW:List h_}(hp:fd.params=⟨[],as,á,[],JN,á,IW⟩)(hd:fd.defaults=.none)(hl:as.length=vals.length)(hn:(as.map (·.arg)).Nodup):
  bindArgs fd ⟨vals,[]⟩=pure ((as.map (·.arg)).zip vals):=by
 ext vals fd as JN IW
 obtain hf:((as.map (·.arg)).filterMap λn=>(((as.map (·.arg)).zip vals).lookup n).map (n,·))=(as.map (·.arg)).zip vals:=
  F4 _ _ _ (by simpa using hl) λi x v h1 h2=>xM hn h1 h2
 obtain hm:((as.map (·.arg)).filter λn=>(((as.map (·.arg)).zip vals).lookup n).isNone)=[]:=by
  rw[jq];intro x hx;refine Zs (List.mem_iff_getElem?.mp hx) λi hi=>?_;obtain zw:i<vals.length:=by have:=(bw.mp hi).1;simp at this;exact Lj hl this
  rw[xM hn hi<|ai zw];simp
 obtain⟨nm,qn,pr,bd,sc,gl,cl,df,kd,dc,pm,an,cd,ct,bt⟩:=fd;obtain rfl:=hp;obtain rfl:=hd;refine F5 (c:=decide (vals.length > (as.map (·.arg)).length)&&â) (by simp[hl]) ?_;dsimp only [List.map_nil,su,Option.getD_none,Array.toList_empty,List.length_nil,List.append_nil];simp only[List.drop_nil];refine F5 (c:=!(List.filter (λn=>(((as.map (·.arg)).zip vals).lookup n).isNone)<|List.take ((as.map (·.arg)).length - 0)<|as.map (·.arg)).isEmpty) ?_ ?_
 ·rw[xl,jn];exact congrArg (λl=>!List.isEmpty l) hm
 ·dsimp only [List.length_nil,xl];rw[vh];exact congrArg (pure (f:=Sem))<|(congrArg (List.filterMap _)<|List.append_nil _).trans hf
theorem F6:∀{ps:List d_} {vs:List b_} {m:d_->Option b_} {x:d_},x∉ps->bindL kindOf (ps.zip vs) m x=m x
 | [],_,_,_,_=>rfl
 |_::_,[],_,_,_=>rfl
 |p::ps,v::vs,m,x,h=>by
  show bindL kindOf (ps.zip vs) _ x=m x;simp at h;rw[F6 h.2]
  split
  ·exact if_neg h.1
  ·rfl
theorem sK:∀{ps:List d_} {vs:List b_} {m:d_->Option b_} {x:d_} {v:b_} {i:Nat},ps.Nodup->ps[i]?=à x->vs[i]?=à v->kindOf x=à .local->bindL kindOf (ps.zip vs) m x=à v
 | [],_,_,_,_,_,_,h,_,_=>by simp at h
 |_::_,[],_,_,_,_,_,_,h,_=>by simp at h
 |p::ps,u::vs,m,x,v,i,hn,h1,h2,hk=>by
  show bindL kindOf (ps.zip vs) _ x=à v;refine zj (bh.mp hn) λn1 n2=>?_;cases i with
  |zero=>simp at h1 h2;subst h1;subst h2;rw[F6 n1,if_pos hk];exact if_pos rfl
  |succ i=>exact sK n2 (by simpa using h1) (by simpa using h2) hk
theorem Vh{st:me}{c:d_×d_×d_}(h:rK st=à c):∃p1 p2 p3 pos,st=.Assign [.Attribute (.Name c.1 p1) c.2.1 p2] (.Name c.2.2 p3) pos:=by
 ext st c;cases st with
 |Assign ts e pos=>
  cases ts with
  |nil=>exact ns h
  |cons t r=>
   cases r with
   |cons=>exact ns h
   |nil=>obtain⟨a,h1,h⟩:=ob h;obtain⟨x,h2,h⟩:=ob h;obtain⟨y,h3,h⟩:=ob h;replace h:=si h;subst h;refine Zs (eJ h2) λp1 e1=>Zs (eJ h3) λp3 zq=>?_;subst h3 h zq;exact⟨p1,a.2.2,p3,pos,by rw[rT h1,e1]⟩
 |_=>exact ns h
structure SR(fd:xq)(sf:d_)(ps:List d_):Prop where
 params:∃as JN IW,fd.params=⟨[],as,á,[],JN,á,IW⟩/\as.map (·.arg)=sf::ps
 body:∃b,fd.body=.stmts b/\b.map rK=ps.map λp=>à (sf,p,p)
 closure:fd.closure=[]
 defaults:fd.defaults=.none
 kind:fd.scope.kind=.function
 gen:fd.scope.isGenerator=ã
 cor:fd.scope.isCoroutine=ã
 nodup:(sf::ps).Nodup
 loc:∀x∈sf::ps,fd.scope.names.lookup x=à .local/\(x==("__debug__" : d_))=ã
 few:ps.length<50
section
variable {O:nj}{w:om}
variable {nm q:d_}{C N e tt:f_}{bs:List b_}{sn:List d_}{sub:List b_}{ab:Bool}{col:Option Bool}{dd:Option f_}{k0 k1 k2 k3 k5:Option b_}{B newId sa owner:String}{mN:d_->Option b_}
theorem Vi{m:d_->Option b_}{ns:List d_}{h0 h1:mj}(SF:StoreFacts B B_ sa owner)(hb:bm.contains (.type owner)=â)(hk:env.scope.kind=.function)
  (hC:h0.get? C=à (mi nm q C N bs bm â sn sub ab col dd k0 k1 k2 k3 k5 newId)) (hN:h0.Ns N mN) (T:BW h0 B_ ns bm) (h01:∀b o,h0.get? b=à o->h1.get? b=à o) (he:h0.get? e=á) (hL:h1.Ns env.locals m) (UH:env.locals≠e)
  (FI:e_ "__setattr__" ∈ ns) (MP:mN "__setattr__" = á) (q1N:m self=à (.ref e)) (RJ:env.kindOf self=à .local/\(self==("__debug__" : d_))=ã) :
  ∀{ps:List d_} {b:List me} {vs:List d_} {F:d_->Option b_} {s:c_} {Q:uy->c_->Prop},b.map rK=(ps.map λp=>à (self,p,p))->(∀p∈ps,p∈ns/\mN p=á/\ni (.type B) p=pure á/\env.kindOf p=à .local/\(p==("__debug__" : d_))=ã/\∃v,m p=à v) ->
   vs.length+ps.length<100->NG (λb=>b≠e/\∃o,h1.get? b=à o) s.heap e C tt vs F->(∀y∈vs,F y=m y)->(∀b o,b≠e->h1.get? b=à o->s.heap.get? b=à o) ->
   (∀s' BZ F',(∃h tk,s'={s with heap:=h,toks:=tk})->NG (λb=>b≠e/\∃o,h1.get? b=à o) s'.heap e C tt BZ F'->(∀y,y∈ps\/y∈vs->F' y=m y)->(∀b o,b≠e->h1.get? b=à o->s'.heap.get? b=à o)->Q .next s')->i' (i_ O w) A (execs b env) Q E s:=by
 intro ps;induction ps with
 |nil=>
  intro b vs F s Q BN _ _ I hF AX hq;cases b with
  |nil=>exact ce<|hq s vs F ⟨_,_,rfl⟩ I (λy hy=>hF y<|hy.elim (λh=>cB h) id) AX
  |cons=>cases BN
 |cons p ps ih=>
  intro b vs F s Q BN hp hl I hF AX hq;cases b with
  |nil=>cases BN
  |cons st r=>
   injection BN with ZE hb2
   refine uN (Vh ZE) λp1 p2 p3 pos zq=>?_;subst ZE zq;obtain⟨q1,q2,q3,q4,q5,v,q6⟩:=hp p ag;have up:∀b o,h0.get? b=à o->s.heap.get? b=à o:=λb o eo=>AX b o (λx=>by rw[x,he] at eo;cases eo)<|h01 b o eo;have AR:=hL.at' λo eo=>AX _ o UH eo;refine bb<|plainObj_wpAny_Assign_Attribute (wpAny_Name (uf hk q4 AR q6<|wpAny_Name (uf hk RJ.1 AR q1N ?_) RJ.2) q5) rfl;obtain⟨hh,g,dr,tk,os⟩:=s;refine Vg SF hb (up _ _ hC) (hN.keeps up) (T.keeps up) FI MP q1 q2 q3 I (λb hb=>⟨hb.1,by refine Zs hb.2 λo eo=>?_;exact⟨o,AX b o hb.1 eo⟩⟩) (by simp at hl;exact Lk hl) λh' EG I' kp=>?_;refine ih hb2 (λp m=>hp p<|af _ m) (by simp at hl ⊢;exact Ll hl) I' (λy hy=>?_) (λb o hb eo=>kp b o ⟨hb,o,eo⟩<|AX b o hb eo) λs' BZ F' AZ XC hF' MJ=>hq s' BZ F' ?_ XC (λy hy=>hF' y ?_) MJ
   ·by_cases e:y=p
    ·rw[if_pos e,e,q6]
    ·rw[if_neg e];exact hF y<|(List.mem_cons.mp hy).resolve_left e
   ·refine bM AZ λh2 t2 zq=>?_;subst AZ XC MJ zq;exact⟨h2,t2,rfl⟩
   ·rcases hy with hy|hy
    ·rcases List.mem_cons.mp hy with rfl|hy
     ·exact .inr ag
     ·exact .inl hy
    ·exact .inr<|af _ hy
end
section
open Builtin Builtin.ObjectAttr
section
variable {O:nj}{w:om}{g:Array ug}{d:Drawn}{t:Nat}{os:qo}{dx:f_}{vs:Array b_}
 {nm q:d_} {C N:f_} {bs bm:List b_} {hdct:Bool} {sn:List d_} {sub:List b_} {ab:Bool} {col:Option Bool} {dd:Option f_} {k0 k1 k2 k3 k5:Option b_} {newId:String} {mN m:d_->Option b_} {ns:List d_} {name:d_} {v:b_}
theorem Vj{tk:vg}{Q:td->c_->Prop}(hC:h.get? C=à (mi nm q C N bs bm â sn sub ab col dd k0 k1 k2 k3 k5 newId))(hN:h.Ns N mN)(T:BW h EY ns bm)(DP:name∈ns)(DQ:mN name=á)(hB:ni (.type "ValueError") name=pure á)
  (hx:h.get? a=à o) (hc:o.cls=.ref C) (hd:o.data=.fields vs) (IE:o.dict=à dx) (AR:h.Ns dx m) (hv:m name=à v) (hq:Q (.done<|.ret v) ⟨h,g,d,t,os⟩) :
  i' (i_ O w) A (px.«object.__getattribute__» ⟨[.ref a,.str name tk],[]⟩) Q E ⟨h,g,d,t,os⟩:=by
 revert N bs bm sn sub ab col dd k0 k1 k2 k3 k5 newId mN m ns name v tk Q;ext a A h o E O w g d t os dx vs nm q C;revert ns name v tk Q;ext N bs bm sn sub ab col dd k0 k1 k2 k3 k5 newId mN m;ext ns name v tk Q
 unfold px.«object.__getattribute__»
 repeat (any_goals (first | assumption | (with_reducible refine bc hx ?_;rw[hc]) | with_reducible refine jU hC hN T F.excBase_ValueError.mroIs DP DQ hB ?_ | wp_step))
 rw[hd];unfold instanceDict
 repeat (any_goals (first | assumption | (with_reducible refine bc hx ?_;rw[hc]) | with_reducible refine bc hC ?_ | wp_step))
 rw[IE]
 repeat (any_goals (first | assumption | (with_reducible refine wpAny_nsGet AR ?_;rw[hv]) | wp_step))
theorem F7{Q:Unit->c_->Prop}(hC:h.get? C=à (mi nm q C N bs bm hdct sn sub ab col dd k0 k1 k2 k3 k5 newId))(FO:bm.contains (.type "BaseException")=â)
  (hx:h.get? a=à o) (hc:o.cls=.ref C) (hq:Q () ⟨h,g,d,t,os⟩):i' M A (checkBuiltinCall "BaseException.__getattribute__" ⟨[.ref a,PL],[]⟩) Q E ⟨h,g,d,t,os⟩:=by
 have ha:=F.args_bexc_ga (.ref a) PL;rw[checkBuiltinCall,(by decide +kernel:builtinKind "BaseException.__getattribute__" = à .slot),(by decide +kernel:splitId "BaseException.__getattribute__" = à ("BaseException","__getattribute__"))];refine ac ?_;unfold isInstance
 repeat (first | (with_reducible refine bc hx ?_;rw[hc]) | (with_reducible refine dj hC ?_;rw[(by rw[ec,FO,gz]:(mr C::bm).contains (.type "BaseException")=â)]) | wp_step)
 exact hq
theorem Vk{expr:Bool}(hC:h.get? C=à (mi nm q C N bs bm â sn sub ab col dd k0 k1 k2 k3 k5 newId))(hN:h.Ns N mN)(T:BW h EY ns bm)(FO:bm.contains (.type "BaseException")=â)
  (DE:e_ "__getattribute__" ∈ ns) (JB:mN "__getattribute__" = á) (G_:e_ "__getattr__" ∈ ns) (JC:mN "__getattr__" = á) (DP:name∈ns) (DQ:mN name=á) (hB:ni (.type "ValueError") name=pure á)
  (hx:h.get? a=à o) (hc:o.cls=.ref C) (hd:o.data=.fields vs) (IE:o.dict=à dx) (AR:h.Ns dx m) (hv:m name=à v) (LG:handedOut v=pure v) (hq:Q v ⟨h,g,d,t+1,os⟩) :
  i' (i_ O w) A (getAttr (.ref a) name expr) Q E ⟨h,g,d,t,os⟩:=by
 have f3:=F.attrBase_ValueError.ga.bind<|.ref a;have PA:(expr&&onTheHeap (n_ "BaseException.__getattribute__"))=ã:=by cases expr<;>rfl
 have ω:(onTheHeap (mr C)&&n_ "BaseException.__getattribute__" == n_ "object.__getattribute__")=ã:=by rw[(by decide +kernel:(n_ "BaseException.__getattribute__" == n_ "object.__getattribute__")=ã)];rfl
 unfold getAttr
 repeat (any_goals (first | assumption | (with_reducible refine bc hx ?_;rw[hc]) | with_reducible refine jU hC hN T F.excBase_ValueError.mroIs DE JB F.attrBase_ValueError.ga.lookup ?_ | with_reducible refine jU hC hN T F.excBase_ValueError.mroIs G_ JC F.attrBase_ValueError.noGetattr ?_ | wp_step))
 refine oa F.attrBase_ValueError.ga.plain F.entry_bexc_ga<|F7 hC FO hx hc<|Vj hC hN T DP DQ hB hx hc hd IE AR hv ?_;show i' (i_ O w) A (handedOut v) Q E _;rw[LG];exact ae hq
end
section
variable {O:nj}{w:om}{g:Array ug}{d:Drawn}{t:Nat}{os:qo}{vs:Array b_}
 {nm q:d_} {C N:f_} {bs bm:List b_} {hdct:Bool} {sn:List d_} {sub:List b_} {ab:Bool} {col:Option Bool} {dd:Option f_} {k0 k1 k2 k3 k5:Option b_} {newId:String} {mN:d_->Option b_} {ns:List d_}
theorem Vl:ni (.type "ValueError") "__class__" = pure (à<|.builtin "object.__class__"):=by rw[tj,qr];kernel_rfl
theorem Vm{R:wi->c_->Prop}(hC:h.get? C=à (mi nm q C N bs bm hdct sn sub ab col dd k0 k1 k2 k3 k5 newId))(G':bm.contains (.type "object")=â)
  (hx:h.get? a=à o) (hc:o.cls=.ref C) (hq:R (.ok<|.ret<|.ref C) ⟨h,g,d,t,os⟩) :
  rg (i_ O w) A (.call (.builtin "getset_descriptor.__get__") ⟨[.builtin "object.__class__",.ref a,.ref C],[]⟩) R ⟨h,g,d,t,os⟩:=by
 revert hdct sn sub ab col dd k0 k1 k2 k3 k5 newId R;ext a A h o O w g d t os nm q C N bs bm;revert k5 newId R;ext hdct sn sub ab col dd k0 k1 k2 k3;ext k5 newId R
 refine oa F.slot_gs_get.plain F.entry_gs_get (F.slot_gs_get.check _ _ _ _ _ _ _ _ (ti) (F.args_gs_get _ _ _) ?_)
 repeat (any_goals (first | assumption | (with_reducible refine bc hx ?_;rw[hc]) | (with_reducible refine dj hC ?_;rw[(by rw[F.owner_object_class,ec,G',gz]:(mr C::bm).contains (.type<|".".intercalate ("object.__class__".cutAt '.').dropLast)=â)]) | wp_step))
 refine⟨qz _ (by decide +kernel),qf F.entry_object_class ?_⟩
 repeat (any_goals (first | assumption | (with_reducible refine bc hx ?_;rw[hc]) | wp_step))
theorem Vn{tk:vg}{Q:td->c_->Prop}(hC:h.get? C=à (mi nm q C N bs bm hdct sn sub ab col dd k0 k1 k2 k3 k5 newId))(hN:h.Ns N mN)(T:BW h EY ns bm)(DP:e_ "__class__" ∈ ns)(DQ:mN "__class__" = á)(G':bm.contains (.type "object")=â)
  (hx:h.get? a=à o) (hc:o.cls=.ref C) (hq:Q (.done<|.ret<|.ref C) ⟨h,g,d,t,os⟩) :
  i' (i_ O w) A (px.«object.__getattribute__» ⟨[.ref a,.str "__class__" tk],[]⟩) Q E ⟨h,g,d,t,os⟩:=by
 have hT5:=ti;have f5:=ti;have f6:=F.slot_gs_get.lookup;have f7:=F.slot_gs_set.lookup;unfold px.«object.__getattribute__»
 repeat (any_goals (first | assumption | (with_reducible refine bc hx ?_;rw[hc]) | with_reducible refine jU hC hN T F.excBase_ValueError.mroIs DP DQ Vl ?_ | wp_step))
 refine Vm hC G' hx hc ?_
 repeat (any_goals (first | assumption | wp_step))
theorem Vo{tk:vg}(hC:h.get? C=à (mi nm q C N bs bm hdct sn sub ab col dd k0 k1 k2 k3 k5 newId))(hN:h.Ns N mN)(T:BW h EY ns bm)(FO:bm.contains (.type "BaseException")=â)(DE:e_ "__getattribute__" ∈ ns)(JB:mN "__getattribute__" = á)(G_:e_ "__getattr__" ∈ ns)(JC:mN "__getattr__" = á)(DP:e_ "__class__" ∈ ns)(DQ:mN "__class__" = á)(G':bm.contains (.type "object")=â)
  (hx:h.get? a=à o) (hc:o.cls=.ref C) (hq:Q (.ref C) ⟨h,g,d,t,os⟩):i' (i_ O w) A (getAttrBy (.ref a) (.str "__class__" tk) ã) Q E ⟨h,g,d,t,os⟩:=by
 have f3:=F.attrBase_ValueError.ga.bind<|.ref a;obtain ω:(onTheHeap (mr C)&&n_ "BaseException.__getattribute__" == n_ "object.__getattribute__")=ã:=by rw[(by decide +kernel:(n_ "BaseException.__getattribute__" == n_ "object.__getattribute__")=ã)];rfl
 repeat (any_goals (first | assumption | (with_reducible refine bc hx ?_;rw[hc]) | with_reducible refine jU hC hN T F.excBase_ValueError.mroIs DE JB F.attrBase_ValueError.ga.lookup ?_ | with_reducible refine jU hC hN T F.excBase_ValueError.mroIs G_ JC F.attrBase_ValueError.noGetattr ?_ | (rw[if_neg<|by rw[ω];exact ja]) | wp_step))
 refine oa F.attrBase_ValueError.ga.plain F.entry_bexc_ga (F7 hC FO hx hc<|Vn hC hN T DP DQ G' hx hc ?_)
 repeat (any_goals (first | assumption | wp_step))
theorem Vp{Q:Option b_->c_->Prop}(hC:h.get? C=à (mi nm q C N bs bm hdct sn sub ab col dd k0 k1 k2 k3 k5 newId))(hN:h.Ns N mN)(T:BW h EY ns bm)(FO:bm.contains (.type "BaseException")=â)(DE:e_ "__getattribute__" ∈ ns)(JB:mN "__getattribute__" = á)(G_:e_ "__getattr__" ∈ ns)(JC:mN "__getattr__" = á)(DP:e_ "__class__" ∈ ns)(DQ:mN "__class__" = á)(G':bm.contains (.type "object")=â)
  (hx:h.get? a=à o) (hc:o.cls=.ref C) (hq:Q (à<|.ref C) ⟨h,g,d,t+1,os⟩):i' (i_ O w) A (getAttr? (.ref a) "__class__") Q E ⟨h,g,d,t,os⟩:=by
 unfold getAttr? getAttrBy?
 repeat (any_goals (first | assumption | with_reducible apply Vo hC hN T FO DE JB G_ JC DP DQ G' hx hc | wp_step))
theorem Vq{od:tg}{LX:un}{tk:vg}{b:Bool}{Q:td->c_->Prop}(hC:h.get? C=à (mi nm q C N bs bm hdct sn sub ab col dd k0 k1 k2 k3 k5 newId))(hN:h.Ns N mN)(T:BW h EY ns bm)(FO:bm.contains (.type "BaseException")=â)(DE:e_ "__getattribute__" ∈ ns)(JB:mN "__getattribute__" = á)(G_:e_ "__getattr__" ∈ ns)(JC:mN "__getattr__" = á)(DP:e_ "__class__" ∈ ns)(DQ:mN "__class__" = á)(G':bm.contains (.type "object")=â)
  (hx:h.get? a=à o) (hc:o.cls=.ref C) (hD:h.get? D=à od) (QZ:od.cls=.type "type") (Q':od.data=.cls LX) (hsub:(mr C::bm).contains (.ref D)=b) (hq:∀tk,Q (.done<|.ret<|.bool b) ⟨h,g,d,tk,os⟩) :
  i' (i_ O w) A (px.«isinstance.nested» ⟨[.ref a,.ref D,.int NP tk],[]⟩) Q E ⟨h,g,d,t,os⟩:=by
 revert bm hdct sn sub ab col dd k0 k1 k2 k3 k5 newId mN ns D od LX NP tk b Q;ext a A h o E O w g d t os nm q C N bs;revert od LX NP tk b Q;ext D bm hdct sn sub ab col dd k0 k1 k2 k3 k5 newId mN ns;ext NP od LX tk b Q
 have U':=hq t;have MO:=hq<|t+1
 by_cases he:C=D
 ·subst he;obtain hb:b=â:=by rw[<- hsub,ec,beq_self_eq_true,Bool.true_or]
  subst hb
  repeat (any_goals (first | assumption | (with_reducible refine bc hx ?_;rw[hc]) | wp_step))
 ·have zh:=beq_false_of_ne λe=>he<|Value.ref.inj e;cases b with
  |true=>repeat (any_goals (first | assumption | (with_reducible refine bc hx ?_;rw[hc]) | (with_reducible refine bc hD ?_;rw[QZ]) | (with_reducible refine bc hD ?_;rw[Q']) | (with_reducible refine dj hC ?_;rw[hsub]) | wp_step))
  |false=>repeat (any_goals (first | assumption | (with_reducible refine bc hx ?_;rw[hc]) | (with_reducible refine bc hD ?_;rw[QZ]) | (with_reducible refine bc hD ?_;rw[Q']) | (with_reducible refine dj hC ?_;rw[hsub]) | with_reducible refine Vp hC hN T FO DE JB G_ JC DP DQ G' hx hc ?_ | wp_step))
theorem Vr{tk:vg}{Q:td->c_->Prop}(hC:h.get? C=à (mi nm q C N bs bm hdct sn sub ab col dd k0 k1 k2 k3 k5 newId))(hx:h.get? a=à o)(hc:o.cls=.ref C)(UJ:bm.contains (.type "ValueError")=â)(hq:Q (.done<|.ret<|.bool â) ⟨h,g,d,t,os⟩):
  i' (i_ O w) A (px.«isinstance.nested» ⟨[.ref a,.type "ValueError",.int NP tk],[]⟩) Q E ⟨h,g,d,t,os⟩:=by
 have hty:typeOf (.type "ValueError")=pure (.type "type"):=by kernel_rfl
 have zh:(mr C==xz "ValueError")=ã:=rfl
 repeat (any_goals (first | assumption | (with_reducible refine bc hx ?_;rw[hc]) | (with_reducible refine dj hC ?_;rw[(by rw[ec,UJ,gz]:(mr C::bm).contains (.type "ValueError")=â)]) | wp_step))
end
section
variable {O:nj}{w:om}{C N:f_}{od:tg}{LX:un}
 {nm q:d_} {bs bm:List b_} {hdct:Bool} {sn:List d_} {sub:List b_} {ab:Bool} {col:Option Bool} {dd:Option f_} {k0 k1 k2 k3 k5:Option b_} {newId:String} {mN:d_->Option b_} {ns:List d_} {b:Bool}
theorem F8(hC:s.heap.get? C=à (mi nm q C N bs bm hdct sn sub ab col dd k0 k1 k2 k3 k5 newId))(hN:s.heap.Ns N mN)(T:BW s.heap EY ns bm)(FO:bm.contains (.type "BaseException")=â)(DE:e_ "__getattribute__" ∈ ns)(JB:mN "__getattribute__" = á)(G_:e_ "__getattr__" ∈ ns)(JC:mN "__getattr__" = á)(DP:e_ "__class__" ∈ ns)(DQ:mN "__class__" = á)(G':bm.contains (.type "object")=â)
  (hx:s.heap.get? a=à o) (hc:o.cls=.ref C) (hD:s.heap.get? D=à od) (QZ:od.cls=.type "type") (Q':od.data=.cls LX) (hsub:(mr C::bm).contains (.ref D)=b) (hq:∀tk,Q (.bool b) {s with toks:=tk}):i' (i_ O w) A (call (.builtin "isinstance") [.ref a,.ref D]) Q E s:=by
 obtain⟨h,g,d,t,os⟩:=s;refine call_isinstance (S:=λ_ R s=>(∃tk,s=⟨h,g,d,tk,os⟩)/\∀tk,R (.ok<|.ret<|.bool b) ⟨h,g,d,tk,os⟩) (λ_ _ _ _ s hs=>?_) ⟨⟨t,rfl⟩,λtk=>hq tk⟩;obtain⟨⟨tk,rfl⟩,hs⟩:=hs;exact isinstance_outer (Vq hC hN T FO DE JB G_ JC DP DQ G' hx hc hD QZ Q' hsub λtk=>hs tk) (by intro q;cases q)
theorem F9(hC:s.heap.get? C=à (mi nm q C N bs bm hdct sn sub ab col dd k0 k1 k2 k3 k5 newId))(hx:s.heap.get? a=à o)(hc:o.cls=.ref C)(UJ:bm.contains (.type "ValueError")=â)(hq:∀tk,Q (.bool â) {s with toks:=tk}):i' (i_ O w) A (call (.builtin "isinstance") [.ref a,.type "ValueError"]) Q E s:=by obtain⟨h,g,d,t,os⟩:=s;refine call_isinstance (S:=λ_ R s=>(∃tk,s=⟨h,g,d,tk,os⟩)/\∀tk,R (.ok<|.ret<|.bool â) ⟨h,g,d,tk,os⟩) (λ_ _ _ _ s hs=>?_) ⟨⟨t,rfl⟩,λtk=>hq tk⟩;obtain⟨⟨tk,rfl⟩,hs⟩:=hs;exact isinstance_outer (Vr hC hx hc UJ<|hs tk) (by intro q;cases q)
end
end
section
variable {O:nj}{w:om}
theorem Vs{C N e t:f_}{bs:List b_}{nm q:d_}{sn:List d_}{sub:List b_}{ab:Bool}{col:Option Bool}{dd:Option f_}{k0 k1 k2 k3 k5:Option b_}{newId:String}{mN:d_->Option b_}{fI:f_}{oI:tg}{fd:xq}{ps:List d_}{h0:mj}{Q:b_->c_->Prop}
  (hb:bm.contains (.type "object")=â) (hC:h0.get? C=à (mi nm q C N bs bm â sn sub ab col dd k0 k1 k2 k3 k5 newId)) (hN:h0.Ns N mN) (T:BW h0 EY (e_ "__init__" :: e_ "__setattr__" :: ps) bm) (hn:∀n∈e_ "__setattr__" :: ps,mN n=á)
  (ho:h0.get? fI=à oI) (CN:oI.data=.func fd) (FF:h0.CodeRec fd.code fd.qualname) (I:SR fd self ps) (hB:∀p∈ps,ni (.type "ValueError") p=pure á) (hl:h0.NoLimit) (U_:A.depth<xi) (hv:vals.length=ps.length)
  (h01:∀b o,h0.get? b=à o->s.heap.get? b=à o) (he0:h0.get? e=á) (he:s.heap.get? e=à {cls:=.ref C,data:=.fields #[.ref t,.none,.none,.none,.bool ã,.none]})
  (hq:∀s' dx,(∃h tk,s'={s with heap:=h,toks:=tk})->s'.heap.get? e=à {cls:=.ref C,dict:=dx,data:=.fields #[.ref t,.none,.none,.none,.bool ã,.none]}->(∀b o,b≠e->s.heap.get? b=à o->s'.heap.get? b=à o)->(ps=[]\/QA s s' dx ps vals)->Q .none s'):i' (i_ O w) A (call (.ref fI)<|.ref e::vals) Q E s:=by
 refine dN I.params λas JN IW hp has=>aD I.body λb q0T AP=>?_;obtain hlen:as.length=(mr e::vals).length:=by have:=congrArg nq has;simp at this;simp[hv,this]
 refine vk<|codeAny_call_cells (binds:=(self::ps).zip (.ref e::vals)) U_ (h01 _ _ ho) CN (hl.keeps h01) (FF.keeps h01) q0T (has▸xN hp I.defaults hlen (has▸I.nodup)) I.closure (λx hx=>.inl (I.loc x.1 (vp hx).1).1) (λjv AO=>?_) I.cor I.gen I.kind;have TF:∀{i:Nat} {x:d_} {v:b_},(self::ps)[i]?=à x->(mr e::vals)[i]?=à v->bindL (callEnvC fd s.heap.objs.size fI).kindOf ((self::ps).zip (.ref e::vals)) (λ_=>á) x=à v:=λh1 h2=>sK I.nodup h1 h2 (I.loc _<|bq h1).1
 have keep:=AO.toInCall.keep;obtain UH:(callEnvC fd s.heap.objs.size fI).locals≠e:=λx=>by have:=AO.toInCall.fresh;rw[x] at this;exact absurd (ci he)<|Nat.not_lt.mpr this
 refine Vi (tt:=t) (h1:=jv.heap) (vs:=[]) F.store_ValueError hb I.kind hC hN T (λb o eo=>keep b o<|h01 b o eo) he0 AO.toInCall.ns UH (.tail _<|.head _) (hn _<|.head _) (TF (i:=0) rfl rfl) (I.loc self<|.head _) AP (λp hp=>?_) (by have:=I.few;simp;exact Lm this) ⟨á,keep _ _ he,.inl ⟨rfl,λ_=>rfl⟩⟩ (λy hy=>cB hy) (λb o _ eo=>eo) λs' BZ F' AZ I' hF hk=>?_
 ·refine Zs (List.mem_iff_getElem?.mp hp) λi hi=>?_;obtain zw:i<vals.length:=by rw[hv];exact(bw.mp hi).1
  exact⟨.tail _<|.tail _ hp,hn p<|.tail _ hp,hB p hp,(I.loc p<|.tail _ hp).1,(I.loc p<|.tail _ hp).2,vals[i],TF (i:=i+1) hi<|ai zw⟩
 ·refine bM AZ λh1 t1 zq=>?_;subst AZ zq;refine bM AO.toInCall.same λh2 t2 zq=>?_;subst AO zq;obtain⟨dx,hx,hdd⟩:=I';refine hq _ dx ⟨h1,t1,rfl⟩ hx (λb o hb eo=>hk b o hb<|keep b o eo) ?_;have val:∀(i:Nat) p v,ps[i]?=à p->vals[i]?=à v->F' p=à v:=λi p v h1 h2=>(hF p<|.inl<|bq h1).trans (TF (i:=i+1) h1 h2);rcases hdd with ⟨_,h0⟩|⟨d,rfl,zh,hg,AR,_⟩
  ·cases GH:ps with
   |nil=>exact .inl rfl
   |cons p r=>
    obtain zw:0<vals.length:=by rw[hv,GH];exact xk _
    have:=val 0 p vals[0] (by rw[GH];rfl) (ai zw);rw[h0] at this;exact ns this
  ·refine .inr ⟨d,F',rfl,?_,AR.ns,val⟩;exact zn (s.heap.get? d) id λo ho=>absurd ⟨zh,o,keep d o ho⟩ hg
inductive NA(h:mj)(C:f_)(bm:List b_)(ps:List d_):Prop where
 |mk (N nm q bs sn sub ab col dd k0 k1 k2 k3 k5 mN fI oI fd sf) (a:h.get? C=à (mi nm q C N bs bm â sn sub ab col dd k0 k1 k2 k3 k5 "ValueError.__new__")) (b:h.Ns N mN) (c:mN "__init__" = à (.ref fI)) (d:∀n∈e_ "__setattr__" :: (ps++JD),mN n=á)
  (e:BW h EY (e_ "__init__" :: e_ "__setattr__" :: (ps++JD)) bm) (f:h.get? fI=à oI) (g:oI.cls=.type "function") (i:oI.data=.func fd) (j:h.CodeRec fd.code fd.qualname) (k:SR fd sf ps) (l:∀p∈ps,ni (.type "ValueError") p=pure á):NA h C bm ps
inductive NC(h:mj)(C:f_)(bm:List b_):Prop where
 |mk (N nm q bs hdct sn sub ab col dd k0 k1 k2 k3 k5 mN) (a:h.get? C=à (mi nm q C N bs bm hdct sn sub ab col dd k0 k1 k2 k3 k5 "ValueError.__new__")) (b:h.Ns N mN) (c:mN "__init__" = á) (d:∀n∈JD,mN n=á) (e:BW h EY (e_ "__init__" :: JD) bm):NC h C bm
theorem OwnTail.has(T:OwnTail h EY bm){X:String}(hx:EY.contains (.type X)=â):bm.contains (.type X)=â:=T.hasType hx
theorem NA.ok{base:mj}{C:f_}{ps:List d_}(hl:base.NoLimit)(x:NA base C bm ps):KJ O w base C bm<|some ps:=by
 obtain⟨N,nm,q,bs,sn,sub,ab,col,dd,k0,k1,k2,k3,k5,mN,fI,oI,fd,sf,hC,hN,hi,hn,T,ho,OK,CN,FF,I,hB⟩:=x;have T':=T.tail<|.head _;have s1:∀n∈e_ "__setattr__" :: ps,n∈e_ "__setattr__" :: (ps++JD):=λn h=>(List.mem_cons.mp h).elim (λe=>e▸.head _) λh=>.tail _<|List.mem_append_left _ h;refine⟨⟨nm,q,N,bs,â,sn,sub,ab,col,dd,k0,k1,k2,k3,k5,_,hC⟩,OwnTail.has T' (by decide +kernel),OwnTail.has T' (by decide +kernel),λA vals s E Q hd hb ha hq=>?_,λIK ep p hp A s e dx o vs m v E Q hb hx hc hd IE AR hv LG hq=>by
  replace ep:=si ep;subst ep;obtain⟨h,g,d,t,os⟩:=s;exact Vk (hb _ _ hC) (hN.keeps hb) (T.keeps hb) (OwnTail.has T'<|by decide +kernel) (.tail _<|.tail _<|dq _<|.head _) (hn _<|.tail _<|dq _<|.head _) (.tail _<|.tail _<|dq _<|.tail _<|.head _) (hn _<|.tail _<|dq _<|.tail _<|.head _) (.tail _<|.tail _<|List.mem_append_left _ hp) (hn p<|.tail _<|List.mem_append_left _ hp) (hB p hp) hx hc hd IE AR hv LG<|hq _,λA s e o D GR b E Q hb hx hc hD hs hq=>by
  obtain⟨_,_,_,_,_,_,_,_,_,_,_,_,_,_,_,_,hD⟩:=hD;exact F8 (hb _ _ hC) (hN.keeps hb) (T.keeps hb) (OwnTail.has T'<|by decide +kernel) (.tail _<|.tail _<|dq _<|.head _) (hn _<|.tail _<|dq _<|.head _) (.tail _<|.tail _<|dq _<|.tail _<|.head _) (hn _<|.tail _<|dq _<|.tail _<|.head _) (.tail _<|.tail _<|dq _<|.tail _<|.tail _<|.head _) (hn _<|.tail _<|dq _<|.tail _<|.tail _<|.head _) (OwnTail.has T'<|by decide +kernel) hx hc (hb _ _ hD) rfl rfl hs hq,
  λA s e o E Q hb hx hc hq=>F9 (hb _ _ hC) hx hc (OwnTail.has T'<|by decide +kernel) hq⟩
 have ha:=ha;obtain CL:vals.length<=g_:=by exact Ln ha (I.few)<|rfl
 obtain⟨h,g,d,t,os⟩:=s;refine Vd yx (T'.keeps hb) (hb _ _ hC) (hN.keeps hb) hi (hb _ _ ho) OK CL λh' e m=>bN m.there λtt he _ _=>?_;refine Vs (h0:=h) (OwnTail.has T'<|by decide +kernel) (hb _ _ hC) (hN.keeps hb) ((T.less (ns':=e_ "__init__" :: e_ "__setattr__" :: ps) λn h=>(List.mem_cons.mp h).elim (λe=>e▸.head _) λh=>.tail _<|s1 n h).keeps hb) (λn h=>hn n<|s1 n h) (hb _ _ ho) CN (FF.keeps hb) I hB (hl.keeps hb) (hd) ha.symm m.keeps m.new he λs' dx AZ hx hk hf=>⟨rfl,hq _ _ ?_⟩
 refine bM AZ λh2 t2 zq=>?_;subst AZ zq;refine⟨⟨h2,t2,rfl,λb o eo=>hk b o (λx=>by simp only[x,m.new] at eo;exact ns eo)<|m.keeps b o eo⟩,e,dx,tt,rfl,m.new,hx,λIK ep=>?_⟩;replace ep:=si ep;subst ep;rcases hf with hf|⟨d1,F',e1,n1,DQ,r1⟩
 ·exact .inl hf
 ·refine .inr ⟨d1,F',e1,?_,DQ,r1⟩;exact zn (h.get? d1) id λo ho=>ns<|n1.symm.trans<|m.keeps d1 o ho
theorem NC.ok{base:mj}{C:f_}(x:NC base C bm):KJ O w base C bm á:=by
 obtain⟨N,nm,q,bs,hdct,sn,sub,ab,col,dd,k0,k1,k2,k3,k5,mN,hC,hN,OR,hn,TT⟩:=x;have T:=TT.tail<|.head _;refine⟨⟨nm,q,N,bs,hdct,sn,sub,ab,col,dd,k0,k1,k2,k3,k5,_,hC⟩,OwnTail.has T (by decide +kernel),OwnTail.has T (by decide +kernel),λA vals s E Q hd hb ha hq=>?_,λIK ep=>ns ep,λA s e o D GR b E Q hb hx hc hD hs hq=>by
  obtain⟨_,_,_,_,_,_,_,_,_,_,_,_,_,_,_,_,hD⟩:=hD;exact F8 (hb _ _ hC) (hN.keeps hb) (TT.keeps hb) (OwnTail.has T<|by decide +kernel) (.tail _<|.head _) (hn _<|.head _) (.tail _<|.tail _<|.head _) (hn _<|.tail _<|.head _) (.tail _<|.tail _<|.tail _<|.head _) (hn _<|.tail _<|.tail _<|.head _) (OwnTail.has T<|by decide +kernel) hx hc (hb _ _ hD) rfl rfl hs hq,
  λA s e o E Q hb hx hc hq=>F9 (hb _ _ hC) hx hc (OwnTail.has T<|by decide +kernel) hq⟩
 obtain⟨h,g,d,t,os⟩:=s;refine wpAny_call_exc_subT yx (T.keeps hb) (hb _ _ hC) (hN.keeps hb) OR (λh' e m=>?_) (by have hZ:g_=16777216:=rfl;exact Lo (ha) hZ);exact bN m.there λtt he _ _=>hq _ _ ⟨⟨h',t,rfl,m.keeps⟩,e,á,tt,rfl,m.new,he,λIK ep=>ns ep⟩
end
section
open PyProof.Rows.TI
section
variable {ju:List nt}
def fB(h:mj)(l:List nt)(e T:f_):mj:=gone h<|e::T::l.filterMap (·.frame)
theorem sL{e T:f_}:(fB h l e T).StaysIn h:=λ_ _ x=>(gone_some x).2
theorem xO{e T:f_}:(fB h l e T).get? e=á:=gone_none ag
theorem xP{e T:f_}:(fB h l e T).get? T=á:=gone_none<|af _ ag
theorem sM{e T b:f_}(f:z_ l b):(fB h l e T).get? b=á:=gone_none<|af _<|af _ f
theorem xQ{e T b:f_}(h1:b≠e)(h2:b≠T)(h3:¬z_ l b)(x:h.get? b=à o):(fB h l e T).get? b=à o:=
 (gone_get λm=>by
  rcases List.mem_cons.mp m with m|m
  ·exact h1 m
  ·rcases List.mem_cons.mp m with m|m
   ·exact h2 m
   ·exact h3 m).trans x
theorem sN:∀{l:List nt},h.FunFrames base l->(∀b,z_ l b->B.get? b=á)->h.FunFrames B l
 :=by
 intro l;induction l with
 |nil=>exact λ_ _=>trivial
 |cons env r ih=>intro f k;refine bP f λhk zt hr=>?_;obtain⟨L,o,hf,_,ho,hd⟩:=zt;exact⟨hk,⟨L,o,hf,k L (by unfold z_;rw[fw,hf];exact ag),ho,hd⟩,ih hr λb f=>k b<|by unfold z_;rw[fw,hf];exact af _ f⟩
theorem Zu.q1S(hk:∀b o,¬av b->(∀vs,o.data≠.fields vs)->h.get? b=à o->h'.get? b=à o)(r:Zu h av v d):Zu h' av v d:=by
 induction r with
 |none=>exact .none
 |bool b=>exact .bool b
 |int i t=>exact .int i t
 |str x t hx=>exact .str x t hx
 |list h1 h2 h3 h4 _ ih=>refine Zs h2 λk e=>?_;exact .list h1 ⟨k,hk _ _ h1 nofun e⟩ h3 h4 ih
 |tuple h1 h2 h3 h4 _ ih=>refine Zs h2 λk e=>?_;exact .tuple h1 ⟨k,hk _ _ h1 nofun e⟩ h3 h4 ih
 |dict h1 h2 h3 h4 h5 _ ih=>exact lR h2 λo es ep e x hd r=>.dict h1 ⟨o,es,ep,hk _ o h1 (λvs q=>by rw[hd] at q;cases q) e,x,hd,r⟩ h3 h4 h5 ih
theorem gS.MC{N:f_->Prop}{e T:f_}(f:gS h av N od fs)(st:(fB h l e T).StaysIn h')(fav:∀b,z_ l b->av b)
  (hE:∀o,h.get? e=à o->∃vs,o.data=.fields vs) (hT:∀o,h.get? T=à o->∃vs,o.data=.fields vs):gS h' av N od fs:=by
 have hk:∀b o,¬av b->(∀vs,o.data≠.fields vs)->h.get? b=à o->h'.get? b=à o:=λb o n hd e'=>st b o<|xQ (λx=>by refine Zs (hE o<|x▸e') λvs q=>?_;exact hd vs q) (λx=>by refine Zs (hT o<|x▸e') λvs q=>?_;exact hd vs q) (λf=>n<|fav b f) e';rcases f with f|⟨d,m,e1,n,hn,r,z⟩
 ·exact .inl f
 ·refine jF hn λo es ep ho hd hr=>.inr ⟨d,m,e1,n,⟨o,es,ep,hk d o n (λvs q=>by rw[hd] at q;cases q) ho,hd,hr⟩,λp x hp=>?_,λp x hp=>?_⟩
  ·exact aD (r p x hp) λv g1 g2=>⟨v,g1,g2.q1S hk⟩
  ·obtain⟨v,g1,pn,mm,c,nn,lv,g2⟩:=z p x hp;have AX:∀b o,pn b->h.get? b=à o->h'.get? b=à o:=λb o hb e=>by
    obtain⟨kvs,o',es,ep,e',_,dd,_⟩:=lv b hb;rw[e] at e';replace e':=si e';subst e';exact hk b o (nn b hb).1 (λvs q=>by rw[dd] at q;cases q) e
   exact⟨v,g1,pn,mm,c,nn,λb hb=>by refine eH (lv b hb) λkvs o es ep e r=>?_;exact⟨kvs,o,es,ep,AX b o hb e,r⟩,g2.mono AX⟩
theorem Vt{e T C:f_}{a0:b_}(k:K l s s')(ff:s'.heap.FunFrames base l)(se:s.heap.get? e=á)(sT:s.heap.get? T=á)
  (st:(fB s'.heap l e T).StaysIn h') (up:s'.heap.UpToSlots h') (tr:h'.TracedAtW (fB s'.heap l e T) e (.ref C) a0 fl) :
  K l s {s' with heap:=h'}/\Tb s h' e fl/\∃oe vs,h'.get? e=à oe/\oe.cls=.ref C/\oe.data=.fields vs:=by
 ext h' l s s' fl e T C a0
 have ne:∀{b:f_} {o:tg},s.heap.get? b=à o->b≠e/\b≠T:=λx=>⟨λy=>(by rw[y,se] at x;exact ns x),λy=>(by rw[y,sT] at x;exact ns x)⟩
 have TG:∀b o,¬z_ l b->s.heap.get? b=à o->h'.get? b=à o:=λb o n x=>st b o<|xQ (ne x).1 (ne x).2 n<|k.at n x;have YG:∀b o,z_ l b->s.heap.get? b=à o->∃sl,h'.get? b=à {o with slots:=sl}/\∀vs,o.data≠.fields vs:=λb o f x=>by refine Zs (k.up x) λsl x'=>iK (ff.mem f) λ_ o' e1 e2=>?_;rw[x'] at e1;replace e1:=si e1;subst e1;exact Zs (up b _ x' e2) λsl' x''=>⟨sl',x'',e2⟩
 obtain⟨oe,vs,T',oT,ts,g1,⟨g2,g3⟩,g4,g5,g6,g7,g8,g9,g10⟩:=tr;refine⟨?_,⟨oe,vs,T',oT,ts,g1,g4,g5,?_,g7,g8,g9,g10⟩,oe,vs,g1,g2,g4⟩
 ·obtain⟨h,t,zq,_,_⟩:=k;subst ff st up g6 zq;refine⟨h',t,rfl,TG,λb o x=>?_⟩
  by_cases f:z_ l b
  ·exact aD (YG b o f x) λsl h _=>⟨sl,h⟩
  ·exact⟨o.slots,TG b o f x⟩
 ·refine zn (s.heap.get? T') (λx=>?_) λo x=>?_
  ·rewrite[x];rfl
  ·rewrite[x]
   by_cases f:z_ l T'
   ·refine aD (YG T' o f x) λsl y z=>?_;rw[g8] at y;replace y:=si y;subst g8 y;exact absurd g9<|z ts
   ·have:=TG T' o f x;rw[xQ (ne x).1 (ne x).2 f<|k.at f x] at g6;exact sn g6
theorem Tb.tr{e C:f_}{oe:tg}(x:Tb s h e fl)(he:h.get? e=à oe)(hc:oe.cls=.ref C)(hB:∀T,(∃vs,oe.data=.fields vs/\vs[1]?=à (.ref T))->B.get? T=á):∃a0,h.TracedAtW B e (.ref C) a0 fl:=by obtain⟨PN,vs,T,oT,ts,g1,g2,g3,g4,g5,g6,g7,g8⟩:=x;rw[he] at g1;replace g1:=si g1;subst g1;have hs:=(Array.getElem?_eq_some_iff.mp g3).1;exact⟨vs[0],oe,vs,T,oT,ts,he,⟨hc,q_<|by omega⟩,g2,g3,hB T ⟨vs,g2,g3⟩,g5,g6,g7,g8⟩
theorem Tb.place{e:f_}{oe:tg}(x:Tb s h e fl)(he:h.get? e=à oe):∃T,s.heap.get? T=á/\∀T',(∃vs,oe.data=.fields vs/\vs[1]?=à (.ref T'))->T'=T:=by obtain⟨PN,vs,T,oT,ts,g1,g2,g3,g4,_⟩:=x;rw[he] at g1;replace g1:=si g1;subst g1;refine⟨T,g4,λT' ⟨BZ,h1,h2⟩=>?_⟩;rw[g2] at h1;cases h1;rw[g3] at h2;cases h2;rfl
end
end
inductive AA{α:Type}:Sem α->Prop where
 |pure (a:α):AA (.pure a)
 |raise (e:b_):AA (.raise e)
 |unsup (w:String):AA (.unsupported w)
 |reg (a:f_) (k:Unit->Sem α):AA (.register a k)
 |load {a:f_} {p:Option b_} {k:tg->Sem α} (h:∀o,AA<|k o):AA (.load a p k)
 |upd {a:f_} {p:Option b_} {f:tg->tg} {k:Unit->Sem α} (hf:∀o:tg,(f o).dict=o.dict/\(f o).isFreed=o.isFreed) (h:AA<|k ()):AA (.update a p f k)
 |alloc {o:tg} {k:f_->Sem α} (h:∀a,AA<|k a):AA (.alloc o k)
 |stack {k:List (Code×oi)->Sem α} (h:∀l,AA<|k l):AA (.stack k)
def DK(s s':c_):Prop:=∀b o,s.heap.get? b=à o->∃o',s'.heap.get? b=à o'/\o'.dict=o.dict
theorem DK.rf(s:c_):DK s s:=λ_ o e=>⟨o,e,rfl⟩
theorem DK.tr(x:DK s s')(y:DK s' s''):DK s s'':=λb o e=>by exact aD (x b o e) λo1 e1 d1=>aD (y b o1 e1) λo2 e2 d2=>⟨o2,e2,d2.trans d1⟩
theorem AA.bind{t:Sem α}{f:α->Sem β}(c:AA t)(h:∀a,AA<|f a):AA<|t.bind f:=by
 induction c with
 |pure a=>exact h a
 |raise e=>exact .raise e
 |unsup w=>exact .unsup w
 |reg a k=>exact .reg a _
 |load _ ih=>exact .load λo=>ih o
 |upd hf _ ih=>exact .upd hf ih
 |alloc _ ih=>exact .alloc λa=>ih a
 |stack _ ih=>exact .stack λl=>ih l
theorem DK.push(s:c_)(o:tg):DK s {s with heap:=s.heap.push o}:=λ_ x e=>⟨x,ah o e,rfl⟩
theorem DK.upd(s:c_){f:tg->tg}(hf:∀o:tg,(f o).dict=o.dict/\(f o).isFreed=o.isFreed):DK s {s with heap:=s.heap.update a f}:=λb x e=>by
 by_cases h:a=b
 ·subst h;exact⟨f x,sz f e<|(hf x).2.trans (Heap.get?_some_iff.mp e).2,(hf x).1⟩
 ·exact⟨x,(Heap.get?_update_other s.heap f h).trans e,rfl⟩
theorem AA.keeps{Γ:PySem.Ctx}{t:Sem α}(c:AA t):∀{Q:α->oi->c_->Prop} {E:b_->oi->c_->Prop} {p:oi} {s s0:c_},DK s0 s->Sem.wp M Γ t Q E p s->Sem.wp M Γ t (λa p s'=>Q a p s'/\DK s0 s') (λe p s'=>E e p s'/\DK s0 s') p s:=by
 induction c with
 |pure a=>intro Q E p s s0 d h;exact⟨h,d⟩
 |raise e=>intro Q E p s s0 d h;exact⟨h,d⟩
 |unsup w=>intro Q E p s s0 d h;exact h.elim
 |reg a k=>intro Q E p s s0 d h;exact h.elim
 |load _ ih=>intro Q E p s s0 d h;refine aD h λo e h=>?_;exact⟨o,e,ih o d h⟩
 |upd hf _ ih=>intro Q E p s s0 d h;exact⟨h.1,ih (d.tr<|DK.upd s hf) h.2⟩
 |alloc _ ih=>intro Q E p s s0 d h;exact ih _ (d.tr<|DK.push s _) h
 |stack _ ih=>intro Q E p s s0 d h;exact ih _ d h
theorem AA.any{t:Sem α}(c:AA t){Q:α->c_->Prop}(h:i' M A t Q E s):i' M A t (λa s'=>Q a s'/\DK s s') (λe s'=>E e s'/\DK s s') s:=
 λΓ p hΓ=>c.keeps (DK.rf s)<|h Γ p hΓ
theorem iT[Decidable c]{a b:Sem α}(h1:AA a)(h2:AA b):AA<|if c then a else b:=by
 by_cases h:c
 ·rw[if_pos h];exact h1
 ·rw[if_neg h];exact h2
theorem sO(v:b_)(i:Nat):AA<|field v i:=by
 refine AA.bind ?_ λvs=>?_
 ·cases v with
  |ref a=>
   refine .load λo=>?_;show AA (match o.data with | .fields vs=>pure vs | _=>unsupported "internal:no-fields");cases o.data with
   |fields vs=>exact .pure _
   |_=>exact .unsup _
  |_=>exact .unsup _
 ·cases vs[i]? with
  |none=>exact .unsup _
  |some x=>exact .pure _
theorem Vu(f:Array b_->Array b_)(o:tg):(wx f o).dict=o.dict/\(wx f o).isFreed=o.isFreed:=by obtain⟨c,d,dt,sl⟩:=o;cases dt<;>exact⟨rfl,rfl⟩
theorem Ga(a:f_){f:tg->tg}(hf:∀o:tg,(f o).dict=o.dict/\(f o).isFreed=o.isFreed):AA<|update a f:=.upd hf<|.pure _
theorem xR(v:b_)(i:Nat)(x:b_):AA<|setField v i x:=by
 cases v with
 |ref a=>
  refine .load λo=>?_;show AA (match o.data with | .fields vs=>if i<vs.size then update a (wx (·.setIfInBounds i x)) else unsupported "internal:no-such-field" | _=>unsupported "internal:write-to-non-record");cases o.data with
  |fields vs=>exact iT (Ga a<|Vu _)<|.unsup _
  |_=>exact .unsup _
 |_=>exact .unsup _
theorem xS(v:b_)(f:Option f_):AA (setFlight v f):=
 AA.bind (sO v 1) λ_=>iT (xR ..)<|.pure _
theorem Vv(ty:String)(vs:List b_):AA<|newFields ty vs:=by unfold newFields newObj;exact iT (.unsup _)<|.alloc λ_=>.pure _
theorem Vx(env:nt)(outer:List nt):AA (behindIsImport env outer):=
 iT (.pure _) (iT (.pure _)<|AA.bind (sO _ _) λ_=>.pure _)
theorem Vy(env:nt)(b:Bool)(outer:List nt):AA<|keptBack env b outer:=by
 cases outer with
 |nil=>exact iT (.pure _)<|AA.bind (AA.bind (.stack λ_=>.pure _) λ_=>.pure _) λ_=>.pure _
 |cons=>exact .pure _
theorem Vz(l:List nt):AA<|readyFrames l:=by
 induction l with
 |nil=>exact .pure _
 |cons env outer ih=>
  unfold readyFrames;cases env.frame with
  |none=>exact .unsup _
  |some f=>refine .load λo=>iT (.pure _)<|AA.bind (Vx ..) λb=>AA.bind (Vy ..) λv=>AA.bind (Ga f λo=>⟨rfl,by obtain⟨c,d,dt,sl⟩:=o;cases dt<;>rfl⟩) λ_=>ih
theorem V0(env:nt):AA<|frameOf env:=by
 refine AA.bind (AA.bind (.stack λ_=>.pure _) λl=>.pure _) λl=>AA.bind ?_ λo=>?_
 ·cases l.dropWhile (·.frame != env.frame) with
  |nil=>exact .pure _
  |cons e r=>exact AA.bind (Vz _) λ_=>.pure _
 ·cases o with
  |none=>exact .unsup _
  |some f=>exact .pure _
theorem V1(f:f_)(b:Bool):AA<|entryPlaceOf f b:=by
 refine .stack λYF=>?_;show AA (match YF.find? λ(c,_)=>c.env?.bind (·.frame)==à f with | some (_,pos)=>_ | none=>_);cases YF.find? λ(c,_)=>c.env?.bind (·.frame)==à f with
 |none=>exact .pure _
 |some x=>exact .pure _
theorem Gb(e:b_)(env:nt):AA<|noteFrame e env:=by
 have last:∀(f:f_) (head:b_),AA (do PySem.setField e 1 (<- EntryCells.newEntry head (<- frameOf env) .none (rawInt f) .none (<- entryPlaceOf f (head != .none)))):=λf head=>AA.bind (V0 env) λ_=>AA.bind (V1 ..) λ_=>AA.bind (Vv ..) λ_=>xR ..
 unfold noteFrame;cases env.frame with
 |none=>exact .unsup _
 |some f=>refine AA.bind (sO e 1) λhead=>iT (AA.bind (sO head 3) λx=>iT (.pure _)<|AA.bind (xR ..) λ_=>last f head)<|last f head
theorem V2(env:nt)(e:b_):AA<|leaving env e:=AA.bind (Gb e env) λ_=>xS ..
section
open PyProof.Rows.TI
section
variable {ju:List nt}
theorem K.wide(k:K ju s s'):K (env::ju) s s':=by
 obtain⟨h,t,rfl,k,u⟩:=k;refine⟨h,t,rfl,λb o n e=>k b o (λf=>n ?_) e,u⟩;unfold z_ at f ⊢;rw[fw];cases env.frame with
 |none=>exact f
 |some L=>exact af _ f
inductive LU(jw:c_)(l:List nt)(e C:f_)(s' s'':c_):Prop where
 |mk (T:f_) (h':mj) (a0:b_) (sT:jw.heap.get? T=á) (hT:∀o,s'.heap.get? T=à o->∃vs,o.data=.fields vs) (es:s''={s' with heap:=h'}) (st:(fB s'.heap l e T).StaysIn h') (up:s'.heap.UpToSlots h') (tr:h'.TracedW (fB s'.heap l e T) e (.ref C) a0):LU jw l e C s' s''
theorem Tb.WB{e:f_}{oe:tg}(x:Tb s h e fl)(he:h.get? e=à oe):∃T,s.heap.get? T=á/\(∀T',(∃vs,oe.data=.fields vs/\vs[1]?=à (.ref T'))->T'=T)/\∀o,h.get? T=à o->∃vs,o.data=.fields vs:=by
 obtain⟨PN,vs,T,oT,ts,g1,g2,g3,g4,g5,g6,g7,g8⟩:=x;rw[he] at g1;replace g1:=si g1;subst g1;refine⟨T,g4,λT' h=>?_,λo ho=>?_⟩
 ·refine aD h λBZ h1 h2=>?_;rw[g2] at h1;replace h1:=Data.fields.inj h1;subst h1;rw[g3] at h2;exact(nr<|si h2).symm
 ·rw[g6] at ho;replace ho:=si ho;subst ho;exact⟨ts,g7⟩
theorem LU.on{N:f_->Prop}{e C:f_}{x:X}{oe:tg}{vs:Array b_}(S:LU jw l e C s' s'')(dk:DK s' s'')(k:K l jw s')(ff:s'.heap.FunFrames base l)(se:jw.heap.get? e=á)(fav:∀b,z_ l b->av b)
  (na:¬av e) (he:s'.heap.get? e=à oe) (hd:oe.data=.fields vs) (hm:mg x.cls=à (.ref C)) (hx:gS s'.heap av N oe.dict x.fields):K l jw s''/\Tb jw s''.heap e .none/\EU s''.heap av N e x:=by
 refine AN λ_ θ=>?_;obtain⟨T,h',a0,sT,hT,rfl,st,up,tr⟩:=S;obtain⟨k',t',PN,BZ,e1,e2,e3⟩:=Vt k ff se sT st up tr.at;refine aD (dk e oe he) λo2 f1 f2=>θ ?_;replace f1:=f1;rw[e1] at f1;replace f1:=si f1;subst f1;exact⟨k',t',na,PN,BZ,C,e1,e3,e2,hm,f2.symm▸hx.MC st fav (λo ho=>by rw[he] at ho;replace ho:=si ho;subst ho;exact⟨vs,hd⟩) hT⟩
theorem V3{x:X}{Q:Unit->c_->Prop}(GB:A.frames=à (env::ju))(hf:env.frame=à env.locals)(hL:jw.heap.get? env.locals=á)(u:D_ ju env jw jx x v s')
  (hq:∀s'',FL ju jw jx x v s''->Q () s''):i' (i_ O w) A (leaving env v) Q E s':=by
 obtain⟨k,ff,st,e,rfl,se,⟨na,oe,vs,C,he,hd,hc,hm,hx⟩,ht⟩:=u;obtain key:i' (i_ O w) A (leaving env<|.ref e) (λ_ s''=>LU jw (env::ju) e C s' s'') E s':=by
  rcases ht with ht|⟨PN,BZ,e1,e2,e3⟩
  ·exact bN (ht.WB he) λT sT hT OD=>Zs (ht.tr (B:=fB s'.heap (env::ju) e T) he hc λT' h=>hT T' h▸xP) λa0 tr=>wpAny_leaves_onW GB hf ⟨sL,xO,sN ff λb f=>sM f,tr⟩ λh' fl up=>⟨T,h',a0,sT,OD,rfl,fl.1,up,fl.2.2.2⟩
  ·rw[he] at e1;replace e1:=si e1;subst e1;obtain hs:=(Array.getElem?_eq_some_iff.mp e3).1;exact wpAny_leaving_firstW (base:=fB s'.heap (env::ju) e e) (a0:=BZ[0]) GB (sN ff λb f=>sM f) hf he sL xO e2 e3 (q_<|by exact Lp hs) λh' h=>⟨e,h',_,se,λo ho=>by rw[he] at ho;replace ho:=si ho;subst ho;exact⟨_,hd⟩,rfl,h.1,h.2.2.2,hc▸h.2.2.1⟩
 refine aq ((V2 env<|.ref e).any key) (λ_ s'' y=>?_) λ_ _ y=>y.1;exact bP (y.1.on y.2 k.wide ff se (λb f=>.inr f) na he hd hm hx) λk' t' xa=>hq _ ⟨K.drop hf hL (K.rf ju jw) k',e,rfl,se,xa.mono (λ_ _ _ e=>e) λb _ _ h=>.inl h,t'⟩
theorem V4{x:X}{Q:Unit->c_->Prop}(GB:A.frames=à (env::ju))(hf:env.frame=à env.locals)(G:CQ (env::ju) av s)(u:FL (env::ju) s av x v s')
  (hq:∀s'',FL (env::ju) s av x v s''->Q () s''):i' (i_ O w) A (noteFrame v env) (λ_ jy=>i' (i_ O w) A (setFlight v á) Q E jy) E s':=by
 obtain⟨k,e,rfl,se,⟨na,oe,vs,C,he,hd,hc,hm,hx⟩,ht⟩:=u;have ff:=(G.k k).ff;refine bN (ht.WB he) λT sT hT OD=>Zs (ht.tr (B:=fB s'.heap (env::ju) e T) he hc λT' h=>hT T' h▸xP) λa0 tr=>?_;obtain key:i' (i_ O w) A (noteFrame (.ref e) env) (λ_ jy=>i' (i_ O w) A (setFlight (.ref e) á) (λ_ kc=>LU s (env::ju) e C s' kc) (λ_ _=>False) jy) (λ_ _=>False) s':=by exact wpAny_looks_onW GB hf ⟨sL,xO,sN ff λb f=>sM f,tr⟩ λh' hh up=>wpAny_landsW (s:={s' with heap:=h'}) hh λIB fl up'=>⟨T,IB,a0,sT,OD,rfl,fl.1,up.trans up',fl.2.2.2⟩
 refine aq ((Gb (.ref e) env).any key) (λ_ jy y=>?_) λ_ _ y=>y.1.elim;refine aq ((xS (.ref e) á).any y.1) (λ_ kc z=>?_) λ_ _ z=>z.1.elim;exact bP (z.1.on (y.2.tr z.2) k ff se G.fav na he hd hm hx) λk' t' xa=>hq _ ⟨k',e,rfl,se,xa,t'⟩
theorem V5{x:X}{Q:Unit->c_->Prop}(G:CQ (env::ju) av s)(u:FL (env::ju) s av x v s')
  (hq:∀s'',FL (env::ju) s av x v s''->Q () s''):i' (i_ O w) A (setFlight v á) Q E s':=by
 obtain⟨k,e,rfl,se,⟨na,oe,vs,C,he,hd,hc,hm,hx⟩,ht⟩:=u;have ff:=(G.k k).ff;refine bN (ht.WB he) λT sT hT OD=>Zs (ht.tr (B:=fB s'.heap (env::ju) e T) he hc λT' h=>hT T' h▸xP) λa0 tr=>?_;obtain key:i' (i_ O w) A (setFlight (.ref e) á) (λ_ kc=>LU s (env::ju) e C s' kc) (λ_ _=>False) s':=
  wpAny_setFlight_noneW (sL (l:=env::ju) (e:=e) (T:=T)) (sN ff λb f=>sM f) tr λh' h1 h2 h3 h4=>⟨T,h',a0,sT,OD,rfl,h1,λb o e hn=>⟨o.slots,h4 b o e hn⟩,h3⟩
 refine aq ((xS (.ref e) á).any key) (λ_ kc z=>?_) λ_ _ z=>z.1.elim;exact bP (z.1.on z.2 k ff se G.fav na he hd hm hx) λk' t' xa=>hq _ ⟨k',e,rfl,se,xa,t'⟩
theorem CO.dpA{m:Nat}(X:Act ju env sc jx jw σ av s)(hc:bJ m d=â)(r:CO s h v d):KK h (λb=>jx b\/z_ (env::ju) b) (Lv jw) v d:=by obtain⟨pn,hn,_,r⟩:=r;exact⟨_,m,hc,λb hb=>⟨λq=>q.elim (X.CY<|hn b hb.1).2.2.1 (X.CY<|hn b hb.1).2.2.2.2,λq=>by refine Zs q λo e=>?_;rw[(X.CY<|hn b hb.1).2.2.2.1] at e;exact ns e⟩,λb hb=>hb.2,r.q2D hc⟩
inductive SZ(C:f_)(E:b_->c_->Prop)(v:b_)(s:c_):Prop where
 |mk (e:f_) (dx:Option f_) (t:f_) (h1:v=.ref e) (h2:∀b o,base.get? b=à o->s.heap.get? b=à o) (h3:s.heap.get? e=à {cls:=.ref C,dict:=dx,data:=.fields #[.ref t,.none,.none,.none,.bool ã,.none]}) (h4:E (.ref e) s):SZ C E v s
theorem Gc{Q:uy->c_->Prop}{c:d_}{p q:oi}(g2:KJ O w base Ca bm CF)(hh:A.handled=á)(hs:as.any zr=ã)
  (h:i' (i_ O w) A (eval (.Name c p) env) (λf jv=>f=.ref Ca/\i' (i_ O w) A (spliced<|backTo q<|starEach as env) (λvs jy=>(∀b o,base.get? b=à o->jy.heap.get? b=à o)/\i' (i_ O w) A (call (.ref Ca) vs) (SZ Ca E) E jy) E jv) E s) :
  i' (i_ O w) A (exec (.Raise (à<|.Call (.Name c p) as [] q) á pos) env) Q E s:=by
 obtain⟨nm,qn,N,bs,hdct,sn,sub,ab,col,dd,k0,k1,k2,k3,k5,newId,hC⟩:=g2.obj;refine Vc (C:=Ca) (bm:=bm) g2.exc hh hs<|aq h (λf jv x=>⟨x.1,aq x.2 (λvs jy y=>⟨y.1 _ _ hC,aq y.2 (λv kc z=>?_) λ_ _ z=>z⟩) λ_ _ z=>z⟩) λ_ _ z=>z;obtain⟨e,dx,t,h1,h2,h3,h4⟩:=z;exact⟨e,dx,t,h1,h2 _ _ hC,h3,h4⟩
theorem Gd{c:d_}{vs:List b_}(hA:AI n hd (env::ju) A)(Y:Act ju env sc jx jw σ av s)(g1:mg c=à (.ref Ca))(g2:KJ O w base Ca bm CF)(ha:Dr CF vs.length)
  (K_:∀s' dx,Kp s s'->(∀ps,CF=à ps->ps=[]\/QA s s' dx ps vs)->gS s'.heap (λb=>jx b\/z_ (env::ju) b) (Lv jw) dx fs) (he:∀v s',D_ ju env jw jx ⟨c,fs⟩ v s'->E v s') :
  i' (i_ O w) A (call (.ref Ca) vs) (SZ Ca E) E s:=by
 refine g2.make A vs s E _ (by have:=hA.depth;exact Lq this) Y.inv.gnd.stay ha λv kc m=>?_;obtain⟨HG,e,dx,t,rfl,en,et,mf⟩:=m;have Y3:=Y.k<|K.of HG;exact⟨e,dx,t,rfl,Y3.inv.gnd.stay,et,he _ _ ⟨Y3.k0,Y3.inv.gnd.ff,Y3.inv.gnd.stay,e,rfl,(Y.CY en).2.2.2.1,⟨λx=>x.elim (Y.CY en).2.2.1 (Y.CY en).2.2.2.2,_,_,Ca,et,rfl,rfl,g1,K_ kc dx HG mf⟩,.inr ⟨_,_,et,rfl,rfl⟩⟩⟩
theorem V6{N:f_->Prop}{d:f_}{m:d_->Option b_}{pb:d_}{x1 x2 x3:a_}(e:od=à d)(n:¬av d)(hn:h.Ns d m)(m1:m pa=à v1)(m2:m pb=à v2)(m3:m pc=à v3)(q1:Zu h av v1 x1)(q2:Zu h av v2 x2)(q3:Zu h av v3 x3)(q4:KK h av N v3 x3):gS h av N od [(pa,x1),(pb,x2),(pc,x3)]:=by
 refine .inr ⟨d,m,e,n,hn,λp x hp=>?_,λp x hp=>?_⟩
 ·rcases List.mem_cons.mp hp with hp|hp
  ·cases hp;exact⟨v1,m1,q1⟩
  ·rcases List.mem_cons.mp hp with hp|hp
   ·cases hp;exact⟨v2,m2,q2⟩
   ·cases List.mem_singleton.mp hp;exact⟨v3,m3,q3⟩
 ·cases hp;exact⟨v3,m3,q4⟩
theorem V7{Q:uy->c_->Prop}{c:d_}{a1 a2 a3:h_}{pb:d_}{p q:oi}{fu:Nat}{fin:R V}(h:∀σ e,aJ n hd (env::ju) sc σ e<|ev σ e)(hA:AI n hd (env::ju) A)(Y:Act ju env sc jx jw σ av s)(hh:A.handled=á)(c1:AL sc c=â)(b1:zr a1=ã)(b2:zr a2=ã)(b3:zr a3=ã)(g1:mg c=à (.ref Ca))(g2:KJ O w base Ca bm<|some [pa,pb,pc])
  (hf:rb (ev σ a1) (λv1=>rb (ev σ a2) λv2=>rb (ev σ a3) λv3=>rb (Zy<|EA v3) λd=>if bJ fu d=â then .exc ⟨c,[(pa,Zp v1),(pb,Zp v2),(pc,d)]⟩ else .no)=fin) (zh:fin≠.no) (he:∀x v s',fin=.exc x->D_ ju env jw jx x v s'->E v s') :
  i' (i_ O w) A (exec (.Raise (à<|.Call (.Name c p) [a1,a2,a3] [] q) á pos) env) Q E s:=by
 refine Gc g2 hh (by show(zr a1||(zr a2||(zr a3||false)))=ã;rw[b1,b2,b3];rfl)<|iP Y.inv c1 g1 ⟨rfl,bf ((h σ a1).st hA Y hf zh (λv1 s1 u1 MW r1 e1=>bf ((h σ a2).st hA (Y.k MW) e1 zh (λv2 s2 u2 HF r2 e2=>bf ((h σ a3).st hA ((Y.k MW).k HF) e2 zh (λv3 s3 u3 HG r3 e3=>cc ⟨(((Y.k MW).k HF).inv.gnd.k HG).stay,?_⟩) he)<|eD b3) he)<|eD b2) he)<|eD b1⟩;obtain⟨d,OI,e4⟩:=cR e3 zh;replace OI:=oR OI;subst e3 OI;refine zj (fR e4 zh) λKY e5=>?_;have Y1:=Y.k MW;have Y2:=Y1.k HF;refine Gd hA (Y2.k HG) g1 g2 (show 3=3 from rfl) (λs4 dx k4 mf=>?_) λv s' u=>he _ v s' e5.symm u;have fv:=Y.inv.gnd.fav;have down:∀{v x},Zu s4.heap av v x->Zu s4.heap (λb=>jx b\/z_ (env::ju) b) v x:=λr=>r.mono (λ_ _ _ e=>e) λb _ _ h=>h.elim (Y.bas b)<|fv b;rcases mf _ rfl with q|⟨YQ,m,LZ,n1,DQ,r⟩
 ·exact nomatch q
 ·exact V6 LZ (λx=>x.elim ((Y2.k HG).CY n1).2.2.1 ((Y2.k HG).CY n1).2.2.2.2) DQ (r 0 _ _ rfl rfl) (r 1 _ _ rfl rfl) (r 2 _ _ rfl rfl) (down<|Zu.k (l:=env::ju) fv (K.of k4)<|Zu.k fv HG<|Zu.k fv HF<|r1.rep Y.inv.gnd.avlt) (down<|Zu.k (l:=env::ju) fv (K.of k4)<|Zu.k fv HG<|r2.rep Y1.inv.gnd.avlt) (down<|Zu.k (l:=env::ju) fv (K.of k4)<|bC.rep (u:=.dp d) Y2.inv.gnd.avlt r3)<|(CO.dpA Y2 KY r3).mono (λb o _ e=>k4.heap b o e) (λ_ _ _ x=>x) λ_ x=>x
theorem V8(hK:DG n C)(hh:C.hd=hd)(zv:∀σ e,zr e=â->ev σ e=.no)(h:∀σ e,aJ n hd (env::ju) sc σ e<|ev σ e):
  bF n hd ju env sc jw σ (exec (.Raise (à e) á pos) env) λ_ _=>vM ev F C sc σ e:=by
 intro jx A s av hA X kn kr fin Q E hf zh hp hn hr he
 revert hK hh zv h hA X;revert kn kr fin Q E;ext hd C ev env e n F pos sc jw σ ju jx A s av;ext kn kr fin Q E
 replace hf:=hf;unfold vM at hf;refine zn (iO e) (λhc=>?_) λc hc=>?_
 ·rw[hc] at hf;exact absurd hf.symm zh
 ·obtain⟨c,as⟩:=c;rw[hc] at hf;refine bM (wD hc) λp q zq=>?_;subst zq;refine zj (fR hf zh) λzt hf=>?_;obtain⟨c1,c2,c3⟩:=zt;have ZT:C.init c=(bO c O.main.body).map (·.2):=by rw[hK.init]
  rw[ZT] at hf;refine zn (bO c O.main.body) (λEO=>?_) λpc EO=>?_
  ·rw[EO] at hf;exact absurd hf.symm zh
  ·rw[EO] at hf;obtain⟨zx,Y,hsub⟩:=X.cl<|as.flatMap<|AJ F;refine eG (Y.inv.gnd.glo.cls c pc EO) λCa bm g1 g2 _=>?_;obtain⟨b0,CF⟩:=pc;generalize AB σ (as.flatMap<|AJ F)=σ1 at hf Y;cases CF with
   |none=>replace hf:=hf;refine Gc g2 (hA.handled<|hh▸c3) c2<|iP Y.inv c1 g1 ⟨rfl,mI (zv _) hA (λe _=>h _ e) Y.inv ⟨hf,zh⟩ (λvs jy us HF r1 r2 e2=>⟨(Y.inv.gnd.k HF).stay,?_⟩) λx v s' e f=>he x v s' e<|Y.up f⟩;exact zj (fR e2 zh) λa b=>Gd hA (Y.k HF) g1 g2 (show vs.length=1 by rw[r1,cW,j_];exact a) (λ_ _ _ _=>.inl rfl) λv s' u=>he _ v s' b.symm u
   |some ps=>
    replace hf:=hf;refine zn (gB as) (λht=>?_) λt ht=>?_
    ·rw[ht] at hf;exact absurd hf.symm zh
    ·rw[ht] at hf;refine zj (fR hf zh) λzt hg=>?_;obtain⟨t1,t2⟩:=zt;have has:=kS ht;obtain⟨a1,a2,a3,a4⟩:=t;rw[(List.isEmpty_iff.mp t1)] at has;cases ps with
     |nil=>exact nomatch t2
     |cons pa ps=>
     cases ps with
     |nil=>exact nomatch t2
     |cons pb ps=>
     cases ps with
     |nil=>exact nomatch t2
     |cons pc ps=>
     cases ps with
     |cons=>exact nomatch t2
     |nil=>
      clear hf hc ht ZT;have has:=has;subst hf has;have hb:zr a1=ã/\zr a2=ã/\zr a3=ã:=by simpa[gk] using (c2)
      exact V7 h hA Y (hA.handled<|hh▸c3) c1 hb.1 hb.2.1 hb.2.2 g1 g2 hg zh he
end
end
section
variable {nm q nm' q':d_}{C N N':f_}{bs YM GR:List b_}{hdct q0V:Bool}{sn sn':List d_}{sub q2C:List b_}{ab ab':Bool}{col q0N:Option Bool}{dd YQ:Option f_}{k0 k1 k2 k3 k5 k0' MW HF HG k5':Option b_}{newId q1T:String}
theorem V9{g:Array ug}{d:Drawn}{t:Nat}{os:qo}{e:f_}{oe:tg}{Q:Bool->c_->Prop}
  (hC:h.get? C=à (mi nm q C N bs bm hdct sn sub ab col dd k0 k1 k2 k3 k5 newId)) (hD:h.get? D=à (mi nm' q' D N' YM GR q0V sn' q2C ab' q0N YQ k0' MW HF HG k5' q1T)) (he:h.get? e=à oe) (ID:oe.cls=.ref C) (IC:GR.contains (.type "BaseException")=â)
  (OF:(mr C::bm).contains (.ref D)=â) (hq:Q â ⟨h,g,d,t,os⟩):i' M A (excMatches (.ref e)<|.ref D) Q E ⟨h,g,d,t,os⟩:=by
 have f:=tc_notTuple;unfold excMatches
 repeat (first | (with_reducible refine bc he ?_;rw[ID]) | with_reducible refine bc hD ?_ | (with_reducible refine dj hD ?_;rw[(by rw[ec,IC,gz]:(mr D::GR).contains (.type "BaseException")=â)]) | (with_reducible refine dj hC ?_;rw[OF]) | wp_step)
 exact hq
theorem Wa{base:mj}{e:f_}{oe:tg}{Q:Bool->c_->Prop}(c2:NB base C bm)(d2:NB base D GR)(st:∀a o,base.get? a=à o->s.heap.get? a=à o)
  (he:s.heap.get? e=à oe) (ID:oe.cls=.ref C) (IC:GR.contains (.type "BaseException")=â) (OF:(mr C::bm).contains (.ref D)=â) (hq:Q â s):i' M A (excMatches (.ref e)<|.ref D) Q E s:=by
 obtain⟨_,_,_,_,_,_,_,_,_,_,_,_,_,_,_,_,hC⟩:=c2;obtain⟨_,_,_,_,_,_,_,_,_,_,_,_,_,_,_,_,hD⟩:=d2;exact V9 (st _ _ hC) (st _ _ hD) he ID IC OF hq
end
section
variable {ju:List nt}
theorem AI.mark(h:AI n hd l A)(e:Option b_):AI n â l<|A.mark e:=⟨h.depth,h.units,nofun,h.guards,h.frames⟩
theorem bC.same{L:f_}(hL:av L)(zw:∃o,s.heap.get? L=à o)(hs:mq L h h')(r:bC s h av v u):bC s h' av v u:=by
 have hk:∀b o,¬av b->h.get? b=à o->h'.get? b=à o:=λb o n e=>(hs.2 b λx=>n<|x▸hL).trans e;cases u with
 |ex x=>exact r
 |fz d=>exact(r:Zu h av v d).mono hk λ_ _ _ x=>x
 |dp d=>obtain⟨pn,hn,hl,r⟩:=r;have AX:∀b o,pn b->h.get? b=à o->h'.get? b=à o:=λb o hb e=>(hs.2 b λx=>by refine Zs zw λo ho=>?_;rw[<- x,hn b hb] at ho;exact ns ho).trans e;exact⟨pn,hn,λb hb=>by refine Zs (hl b hb) λo e=>?_;exact⟨o,AX b o hb e⟩,r.mono AX⟩
 |own d=>
  refine bN r λa e hn rb=>⟨a,e,hn,rb.mono (λb o n e=>hk b o (λx=>n<|.inl x) e) (λ_ _ _ x=>x) λo e=>(hs.2 a λx=>?_).trans e⟩
  refine Zs zw λo ho=>?_;simp only[x,ho] at hn;exact sn hn
def Ls(h:mj)(b:f_):Prop:=∃vs,h.PlainList b vs
theorem Zu.noL(r:Zu h av v d):∀{n:Nat},noL n d=â->Zu h (λb=>av b\/Ls h b) v d:=by
 induction r with
 |none=>intro n hc;cases n<;>exact zk hc
 |bool b=>intro n hc;cases n<;>exact zk hc
 |int i t=>exact λ_=>.int i t
 |str x t hx=>exact λ_=>.str x t hx
 |list h1 h2 h3 h4 _ ih=>intro n hc;cases n<;>exact zk hc
 |tuple h1 h2 h3 h4 _ ih=>
  intro n hc;cases n with
  |zero=>exact zk hc
  |succ n=>refine .tuple (λq=>q.elim h1 λq=>?_) h2 h3 h4 λi v d e1 e2=>ih i v d e1 e2<|ak.mp (hc:List.all _ (Internal.noL n)=â) _<|bq e2;refine bM q λvs k e=>Zs h2 λk' e'=>?_;rw[e'] at e;exact absurd (Value.type.inj<|congrArg Obj.cls<|si e) Zw
 |dict h1 h2 h3 h4 h5 _ ih=>
  intro n hc;cases n with
  |zero=>exact zk hc
  |succ n=>refine .dict (λq=>q.elim h1 λq=>?_) h2 h3 h4 h5 λi v d e1 e2=>ih i v d e1 e2<|ak.mp (hc:List.all (α:=a_×a_) _ (λp=>Internal.noL n p.2)=â) _<|bq e2;refine bM q λvs k e=>lR h2 λo es ep e' _ dd _=>?_;rw[e'] at e;replace e:=si e;subst e' e;exact nomatch dd
theorem Wb{o:Option V}(h:zm σ x=à o):(x,o)∈σ:=by
 induction σ with
 |nil=>exact ns h
 |cons p r ih=>
  obtain⟨y,v⟩:=p
  by_cases hx:x=y
  ·subst hx;rw[FU] at h;replace h:=si h;subst ih h;exact ag
  ·rw[DF hx] at h;exact af _<|ih h
theorem Ge{v:V}(hc:(σ.all λp=>LY n p.2)=â)(h:zm σ x=à (à v)):∃d,v=.fz d/\noL n d=â:=by
 have:=ak.mp hc _<|Wb h;cases v with
 |fz d=>exact⟨d,rfl,this⟩
 |_=>exact zk this
theorem Act.LY(X:Act ju env sc jx jw σ av s)(hc:(σ.all λp=>LY n p.2)=â):Act ju env sc jx jw σ (λb=>av b\/Ls s.heap b) s:=by
 have IJ:∀{P:Prop} z a,bY env σ s.heap z a->P:=λz a h=>by refine zj h λzt _=>?_;obtain⟨d,hg⟩:=zt;exact aD (Ge hc hg) λ_ e _=>nomatch e
 refine {X with inv:={X.inv with gnd:=X.inv.gnd.grow λb hb=>by refine bM hb λ_ _ e=>?_;exact⟨_,e⟩,get:=λx v hl hg=>?_},bas:=λb hb=>.inl<|X.bas b hb,fresh:=λb hb=>⟨.inl (X.fresh b hb).1,(X.fresh b hb).2⟩,ownA:=λx a h=>IJ x a h,ownI:=λx y a h=>IJ x a h};refine aD (Ge hc hg) λd zq hd=>?_;subst zq;exact aD (X.inv.get x _ hl hg) λu h1 h2=>⟨u,h1,Zu.noL h2 hd⟩
theorem Gf{sb jv:c_}{vs:List b_}(f:Nat->f_->Prop)(hb:∀b,Lv sb b->Lv jv b)(hl:vs.length=ds.length)(hz:vs.length<=g_)(hn:∀i b,f i b->sb.heap.get? b=á)(RF:∀i b,f i b->Lv jv b)(hd:∀i j b,f i b->f j b->i=j)(hr:∀(i:Nat) (v:b_) (d:a_),vs[i]?=à v->ds[i]?=à d->Dp jv.heap (f i) v d):
  CO sb (jv.heap.push {cls:=.type "tuple",data:=.seq vs.toArray}) (.ref jv.heap.objs.size) (.tuple ds):=by
 have up:∀b o,jv.heap.get? b=à o->(jv.heap.push {cls:=.type "tuple",data:=.seq vs.toArray}).get? b=à o:=λb o e=>ah _ e;refine⟨λb=>b=jv.heap.objs.size\/∃i,f i b,λb h=>?_,λb h=>?_,.tuple f (.inl rfl) ⟨0,dA _ _ rfl⟩ hl hz (λi b h=>⟨.inr ⟨i,h⟩,λe=>?_⟩) hd λi v d e1 e2=>(hr i v d e1 e2).mono λb o _ e=>up b o e⟩
 ·rcases h with rfl|⟨i,h⟩
  ·refine zn (sb.heap.get? jv.heap.objs.size) id λo e=>Zs (hb _ ⟨o,e⟩) λ_ e=>?_;rw[bU] at e;exact ns e
  ·exact hn i b h
 ·rcases h with rfl|⟨i,h⟩
  ·exact⟨_,dA _ _ rfl⟩
  ·exact Zs (RF i b h) λo e=>⟨o,up b o e⟩
 ·refine Zs (RF i b h) λo e'=>?_;rw[e,bU] at e';exact ns e'
theorem Wc(h:GZ d=â):∃l,d=.list l/\∀x∈l,oH x=â:=by
 cases d with
 |list l=>exact⟨l,rfl,λx hx=>ak.mp h x hx⟩
 |_=>exact zk h
theorem Zu.flat(r:Zu h av v d)(hf:oH d=â):Dp h pn v d:=by
 cases r with
 |int i t=>exact .int i t
 |str x t hx=>exact .str x t hx
 |_=>exact zk hf
theorem Zu.GZ(r:Zu h av v d)(hf:GZ d=â):∃a,v=.ref a/\¬av a/\Ls h a/\Dp h (λb=>b=a) v d:=by
 refine aD (Wc hf) λl zq hg=>?_;subst hf zq;cases r with
 |list h1 h2 h3 h4 h5=>exact⟨_,rfl,h1,⟨_,h2⟩,.list (λ_ _=>False) rfl h2 h3 h4 (λ_ _ h=>h.elim) (λ_ _ _ h=>h.elim) λi v d e1 e2=>(h5 i v d e1 e2).flat (hg d<|bq e2)⟩
theorem Wd{q:HR}{y:X}{v:V}(h:rH C q y=.ok v):∃w k d,y.fields=[(q.m1,w),(q.m2,k),(q.m3,d)]/\C.init y.cls=à (à [q.m1,q.m2,q.m3])/\GZ w=â/\fX k=â/\v=.dp (.tuple [.str q.t,w,k,d]):=by
 ext C q y v
 unfold rH at h;refine zn (gB y.fields) (λe=>?_) λp e=>?_
 ·rw[e] at h;exact zz h
 ·rw[e] at h;refine AN λ_ θ=>?_;obtain⟨⟨a,w⟩,⟨b,k⟩,⟨c,d⟩,r⟩:=p;apply θ;replace h:(if a=q.m1/\b=q.m2/\c=q.m3/\r.isEmpty=â/\C.init y.cls=à (à [q.m1,q.m2,q.m3])/\GZ w=â/\fX k=â then P.ok (V.dp<|.tuple [.str q.t,w,k,d]) else .no)=.ok v:=h
  by_cases hc:a=q.m1/\b=q.m2/\c=q.m3/\r.isEmpty=â/\C.init y.cls=à (à [q.m1,q.m2,q.m3])/\GZ w=â/\fX k=â
  ·rw[if_pos hc] at h;refine AN λ_ θ=>?_;obtain⟨rfl,rfl,rfl,hr,h5,h6,h7⟩:=hc;apply θ;exact⟨w,k,d,by rw[kS e,List.isEmpty_iff.mp hr],h5,h6,h7,(pi h).symm⟩
  ·rw[if_neg hc] at h;exact zz h
theorem We(h:fX d=â):∃x,d=.str x:=by
 cases d with
 |str x=>exact⟨x,rfl⟩
 |_=>exact zk h
theorem Wf{q:HR}{y:X}{sb:c_}{e:f_}{pc:d_×Option (List d_)}{k:a_}{k3:Nat}(hK:DG n C)(I:AW (env::ju) env sc σ av s)(UU:AV sc q.z=â)(hv:aW env s.heap q.z<|.ref e)(xa:EU s.heap av (Lv sb) e y)(DC:bO y.cls O.main.body=à pc)(hq:q.t.length<=a8)
  (MG:y.fields=[(q.m1,w'),(q.m2,k),(q.m3,d)]) (AO:C.init y.cls=à (à [q.m1,q.m2,q.m3])) (hw:GZ w'=â) (hk:fX k=â) (RF:∀b,Lv sb b->Lv s b) (hls:∀b,¬av b->Ls s.heap b->sb.heap.get? b=á)
  (hQ:∀v s',Kp s s'->CO sb s'.heap v (.tuple [.str q.t,w',k,d])->Q v s') :
  i' (i_ O w) A (eval (.Tuple [.Constant (.str q.t) kk r1,.Attribute (.Name q.z r2) q.m1 r3,.Attribute (.Name q.z r4) q.m2 r5,.Attribute (.Name q.z r6) q.m3 r7] k3 r8) env) Q E s:=by
 refine AN λΘ θ=>eG (I.gnd.glo.cls y.cls pc DC) λCa bm c1 c2 _=>?_;have GH:pc.2=à [q.m1,q.m2,q.m3]:=by rw[hK.init] at AO;replace AO:(bO y.cls O.main.body).map (·.2)=_:=AO;rw[DC] at AO;exact si AO
 obtain⟨na,ob,vs,C',g1,g2,g3,g4,g5⟩:=xa;apply θ;replace g4:=nr<|si<|c1.symm.trans g4;subst g4;rw[MG] at g5;rcases g5 with g5|⟨dd,mm,ed,nn,AR,r,z⟩
 ·exact nomatch g5
 refine AN λΘ θ=>aD (r q.m1 w' ag) λv1 a1 b1=>aD (r q.m2 k<|af _ ag) λv2 a2 b2=>?_;obtain⟨v3,a3,pn,m,_,b3,l3,D3⟩:=z q.m3 d rfl;refine gM (b1.GZ hw) λa zq n1 VV D1=>?_;subst zq;refine Zs (We hk) λkx zq=>?_;subst MG hk r z zq;obtain⟨t2,rfl,hx2⟩:=b2.str_inv;apply θ;have I1:∀tk,AW (env::ju) env sc σ av {s with toks:=tk}:=λtk=>I.k<|K.of<|BK s tk;refine wpAny_Tuple<|bf (vm<|bf (xD (s:={s with toks:=s.toks+1}) (I1 _) UU hv c2 GH ag g1 g2 g3 ed AR a1 b1.handed λDZ=>bf (xD (s:={s with toks:=DZ}) (I1 _) UU hv c2 GH (af _ ag) g1 g2 g3 ed AR a2 b2.handed λJP=>bf (xD (s:={s with toks:=JP}) (I1 _) UU hv c2 GH (af _<|af _ ag) g1 g2 g3 ed AR a3 (D3.rep λ_ _ h=>h).handed λR_=>cc ⟨by show 4<=g_;decide,?_⟩) rfl) rfl) rfl) rfl;refine hQ _ _ ((BK s R_).tr (Kp.IL _ _))<|Gf (jv:={s with toks:=R_}) (λi b=>(i=1/\b=a)\/(i=3/\pn b)) RF rfl (by show 4<=g_;decide) (λi b h=>?_) (λi b h=>?_) (λi j b h h'=>?_) λi v d e1 e2=>?_
 ·rcases h with ⟨_,rfl⟩|⟨_,h⟩
  ·exact hls _ n1 VV
  ·refine zn (sb.heap.get? b) id λo e=>absurd ⟨o,e⟩ (b3 b h).2
 ·rcases h with ⟨_,rfl⟩|⟨_,h⟩
  ·exact bM VV λ_ _ e=>⟨_,e⟩
  ·exact eH (l3 b h) λ_ o _ _ e _=>⟨o,e⟩
 ·have no:∀b,b=a->pn b->False:=λb hb hp=>by
   refine AN λ_ θ=>?_;obtain⟨_,o,_,_,e,_,dd,_⟩:=l3 b hp;rw[hb] at e;refine bM VV λ_ _ e'=>θ ?_;rw[e] at e';replace e':=si e';subst e e';exact nomatch dd
  rcases h with ⟨rfl,h⟩|⟨rfl,h⟩<;>rcases h' with ⟨rfl,h'⟩|⟨rfl,h'⟩
  ·rfl
  ·exact(no b h h').elim
  ·exact(no b h' h).elim
  ·rfl
 ·cases i with
  |zero=>obtain rfl:=si e1;obtain rfl:=si e2;exact .str _ _ hq
  |succ i=>
  cases i with
  |zero=>obtain rfl:=si e1;obtain rfl:=si e2;exact D1.up λb h=>.inl ⟨rfl,h⟩
  |succ i=>
  cases i with
  |zero=>obtain rfl:=si e1;obtain rfl:=si e2;exact .str _ _ hx2
  |succ i=>
  cases i with
  |zero=>obtain rfl:=si e1;obtain rfl:=si e2;exact D3.up λb h=>.inr ⟨rfl,h⟩
  |succ i=>exact ns e1
theorem Wg(hK:DG n C)(O':∀σ e,cD n â (env::ju) sc σ e<|EL σ e){q:HR}{k3:Nat}{p p6 p7 p8 p9:oi}{Q:uy->c_->Prop}{y:X}{pd pc:d_×Option (List d_)}{k:a_}
  (hA:AI n hd (env::ju) A) (Y:Act ju env sc jx jw σ av s) (BY:∀b,Ls s.heap b->av b) (hg:AL sc q.c=â) (FF:bO q.c O.main.body=à pd) (DC:bO y.cls O.main.body=à pc) (CW:jO O.main.body 4 y.cls q.c=â) (hqt:q.t.length<=a8)
  (hz:sc.names.lookup q.z=à .local) (DE:σ.get q.z=à v0) (hu:zu (EL (σ.set q.z<|.ex y) q.q)=.ok ã) (MG:y.fields=[(q.m1,w'),(q.m2,k),(q.m3,d)]) (AO:C.init y.cls=à (à [q.m1,q.m2,q.m3])) (hw:GZ w'=â) (hk:fX k=â)
  (hr:∀v s',K ju jw s'->bC jw s'.heap jx v (.dp<|.tuple [.str q.t,w',k,d])->Q (.ret v) s') (MC:FL (env::ju) s av y v s') :
  i' (i_ O w) A (noteFrame v env) (λ_ jy=>i' (i_ O w) A (setFlight v á) (λ_ kc=>i' (i_ O w) A (handleBy v env [.ExceptHandler (à<|.Name q.c p) (à q.z) [.If q.q [.Return (à q.e1) p6] [] p7,.Return (à<|.Tuple [.Constant (.str q.t) kk r1,.Attribute (.Name q.z r2) q.m1 r3,.Attribute (.Name q.z r4) q.m2 r5,.Attribute (.Name q.z r6) q.m3 r7] k3 r8) p8] p9]) Q E kc) E jy) E s':=by
 revert hK O';revert p6 p7 p8 p9 r1 r2 r3 r4 r5 r6 r7 r8 A Q E y v s' pd pc v0 w' k d;ext av jx hd C EL env n kk sc s jw σ ju q k3 p;revert v s' pd pc v0 w' k d;ext A r1 r2 r3 r4 r5 r6 r7 r8 E p6 p7 p8 p9 Q y;ext v0 d w' s' v pd pc k
 refine AN λΘ θ=>eG (Y.inv.gnd.glo.cls q.c pd FF) λD bmD d1 d2 _=>eG (Y.inv.gnd.glo.cls y.cls pc DC) λCa bmC c1 c2 c3=>θ ?_;have ZH:=(c3 q.c pd D FF d1).trans CW;refine V4 hA.frames Y.frm Y.inv.gnd MC λjy YT=>?_;obtain⟨HF,e2,zq,se,⟨na,oe,vs,C',o1,o2,o3,o4,o5⟩,tb⟩:=id YT;subst MC θ zq;replace o4:=nr<|si<|c1.symm.trans o4;subst o4;have Y2:=Y.k HF;refine wpAny_handleBy_cons (codeAny_handlers_test<|iP Y2.inv hg d1 ?_) (by intro q;cases q);refine Wa c2.obj d2.obj (λa o h=>Y2.inv.gnd.stay _ _ h) o1 o3 d2.exc ZH ?_;clear o1 o2 o3 o5 ZH c1 c2 c3 d1 d2;refine codeAny_handlers_suite_as<|V5 Y.inv.gnd YT λkc q0O=>?_;obtain⟨VN,e3,ee,_,xa,_⟩:=id q0O;replace ee:=nr ee;subst ee;refine(Y.k VN).put DE (v:=.ex y) ⟨_,rfl,xa.RU (λ_ _ _ e=>e) (λ_ _ _ x=>x) λ_ x=>x.elim⟩ (λ_ _ q=>by cases q) λs4 Z f4 hvz _=>?_;have mn:∀b,Mn env b->av b:=λb h=>(Y.fresh b h).1;refine bb<|wpAny_If<|O' _ q.q _ env s4 av (hA.mark _) Z.inv (k:=Zt) (fin:=.ok ã) ⟨by rw[hu];rfl,nofun⟩ (λb s5 k5 e=>?_) EH.ok;obtain rfl:b=ã:=by injection e
 refine ce<|bb<|fj ?_;have Z5:=Z.k k5;obtain lv5:∀b,Lv s b->Lv s5 b:=λb h=>by
  obtain h3:Lv kc b:=by refine Zs h λo e=>?_;exact Zs (VN.up e) λ_ e=>⟨_,e⟩
  obtain h4:Lv s4 b:=by
   by_cases hm:Mn env b
   ·exact Z.VU hm
   ·exact Zs h3 λo e=>⟨o,f4 b o hm e⟩
  exact Zs h4 λo e=>Zs (k5.up e) λ_ e=>⟨_,e⟩
 refine Wf hK Z5.inv (Z.names q.z _<|by rw[aA.get_set,if_pos rfl,DE];rfl).1 (hvz.k k5) ((xa.mono (h':=s4.heap) (av':=av) (λb o hb e=>f4 b o (λm=>hb<|mn b m) e) λ_ _ _ x=>x).mono (h':=s5.heap) (av':=av) (λb o hb e=>k5.at (λf=>hb<|Y.inv.gnd.fav b f) e) λ_ _ _ x=>x) DC hqt MG AO hw hk lv5 (λb hb hl=>?_) λv s6 k6 r=>?_
 ·refine zn (s.heap.get? b) id λo e=>?_;obtain e5:=(λb o hb e=>k5.at (λf=>hb<|Y.inv.gnd.fav b f) (f4 b o (λm=>hb<|mn b m)<|VN.at (λf=>hb<|Y.inv.gnd.fav b f) e):∀b o,¬av b->s.heap.get? b=à o->s5.heap.get? b=à o) b o hb e;refine bM hl λBZ nn e'=>?_;rw[e5] at e';exact absurd (BY b ⟨BZ,nn,e.trans e'⟩) hb
 ·have Z6:=Z5.k<|K.of k6;exact Zs Z6.ns λmL hnL=>wpAny_nameGoes (Z6.loc q.z hz) hnL (by rw[Z6.inv.kind];rfl) λIB m' _ hs=>bP (Z6.fresh env.locals<|.inl rfl) λf1 f2 _=>hr v _ (Z6.k0.on f2 λb o hb eb=>(hs.2 b hb).trans eb)<|bC.out Y<|bC.same (u:=.dp _) f1 (Y.VU<|.inl rfl) hs r
theorem Wh(hK:DG n C)(h:∀σ e,aJ n hd (env::ju) sc σ e<|ev σ e)(O':∀σ e,cD n â (env::ju) sc σ e<|EL σ e){b:List me}{hs:List qv}{q:HR}(hb:TB b hs q):
  bF n hd ju env sc jw σ (exec (.Try b hs [] [] pos) env) λ_ kr=>vT ev EL C sc σ q kr:=by
 intro jx A s av hA X kn kr fin Q E hf zh hp hn hr he
 revert hK h O' hb hA X;revert s av kn kr fin Q E;ext hd C ev EL env n pos sc jw σ ju b hs q jx A;ext s av kn kr fin Q E
 refine AN λΘ θ=>zj (fR (hf:(if AL sc q.c=â/\(C.init q.c).isSome=â/\q.s.length<=a8/\q.t.length<=a8/\zr q.cl=ã/\sc.names.lookup q.z=à .local then _ else R.no)=fin) zh) λzt hf=>?_;obtain⟨c1,c2,c3,c4,c5,c6⟩:=zt;refine zj (fR hf zh) λc7 hf=>?_;obtain⟨k,k',k2,k3,p1,p2,p3,p4,p5,p6,p7,p8,r1,r2,r3,r4,r5,r6,r7,r8,p9,rfl,rfl⟩:=hb;apply θ;refine wpAny_Try_except<|bb<|fj<|wpAny_Tuple<|bf (vm ?_) rfl;have Y:=(X.k<|K.of<|BK s<|s.toks+1).LY c7;have hE:=h σ q.cl;cases OJ:ev σ q.cl with
 |no=>rw[OJ] at hf;exact absurd hf.symm zh
 |ok v0=>
  rw[OJ] at hf;refine AN λ_ θ=>?_;obtain⟨d,OH,hf⟩:=cR (hf:rb (Zy<|EA v0) _=fin) zh;apply θ;replace OH:=oR OH;subst OH;refine bf (hE.val hA Y.inv OJ λv s' k r=>cc ⟨by show 2<=g_;decide,?_⟩)<|eD c5;refine AN λ_ θ=>?_;obtain⟨pn,pn1,pn2,D⟩:=(r:CO _ s'.heap v d)
  apply θ;refine hr _ _ (.dp<|.tuple [.str q.s,d]) ((Y.k k).k (K.of<|Kp.IL _ _)).k0 (bC.out Y (Gf (λi b=>i=1/\pn b) (λb h=>by refine Zs h λo e=>?_;refine Zs (k.up e) λ_ e=>?_;exact⟨_,e⟩) rfl (by show 2<=g_;decide) (λi b h=>pn1 b h.2) (λi b h=>pn2 b h.2) (λi j b h h'=>h.1.trans h'.1.symm) λi v d e1 e2=>?_:CO _ _ _ _)) hf;cases i with
  |zero=>obtain rfl:=si e1;obtain rfl:=si e2;exact .str _ _ c3
  |succ i=>
  cases i with
  |zero=>obtain rfl:=si e1;obtain rfl:=si e2;exact D.up λb h=>⟨rfl,h⟩
  |succ i=>exact ns e1
 |exc y=>
  rw[OJ] at hf;refine bf (hE A env _ _ hA Y.inv (k:=Zt) (fin:=R.exc y) ⟨by rw[OJ];rfl,nofun⟩ (λv s' u _ _ e=>by cases e) λy' v s' ey MC=>?_)<|eD c5;cases ey;replace hf:vS EL C σ q y kr=fin:=hf;unfold vS at hf;rw[show C.sub y.cls q.c=fJ O.main.body y.cls q.c by rw[hK.sub]] at hf;rw[(by rw[hK.init]:C.init q.c=(bO q.c O.main.body).map (·.2))] at c2;cases FF:bO q.c O.main.body with
  |none=>rw[FF] at c2;exact zk c2
  |some pd=>
   refine zn (bO y.cls O.main.body) (λDC=>?_) λpc DC=>?_
   ·obtain this:fJ O.main.body y.cls q.c=á:=by unfold fJ;rw[DC,Option.isSome_none,Bool.and_false];rfl
    rw[this] at hf;exact absurd hf.symm zh
   ·obtain JI:fJ O.main.body y.cls q.c=à (jO O.main.body 4 y.cls q.c):=by unfold fJ;rw[DC,FF];rfl
    rw[JI] at hf;refine AN λΘ θ=>zj (fR (hf:(if jO O.main.body 4 y.cls q.c=â then _ else R.no)=fin) zh) λCW hf=>?_;obtain⟨σ1,MP,hf⟩:=cR hf zh;obtain⟨v0,DE,zq⟩:=gV MP;subst MP zq;obtain⟨b,hu,hf⟩:=Fin.nx ⟨hf,zh⟩;apply θ;cases b with
    |true=>exact absurd (hf:R.no=fin).symm zh
    |false=>refine AN λ_ θ=>?_;obtain⟨va,ha,hf⟩:=cR (hf:rb (Zy<|rH C q y) kr=fin) zh;obtain⟨w',k,d,MG,AO,hw,hk,zq⟩:=Wd ha;subst ha zq;apply θ;exact Wg hK O' hA Y (λb h=>.inr h) c1 FF DC CW c4 c6 DE hu MG AO hw hk (λv s' k r=>hr v s' _ k r hf) MC
end
theorem Gg:∀{ps:List d_} {vs:List b_} {m:d_->Option b_} {x:d_},x∉ps->bindC kindOf (ps.zip vs) m x=m x
 | [],_,_,_,_=>rfl
 |_::_,[],_,_,_=>rfl
 |p::ps,v::vs,m,x,h=>by
  show bindC kindOf (ps.zip vs) _ x=m x;simp at h;rw[Gg h.2]
  split
  ·rfl
  ·exact if_neg h.1
theorem xT:∀{ps:List d_} {vs:List b_} {m:d_->Option b_} {x:d_} {v:b_} {i:Nat},ps.Nodup->ps[i]?=à x->vs[i]?=à v->kindOf x≠à .local->bindC kindOf (ps.zip vs) m x=à v
 | [],_,_,_,_,_,_,h,_,_=>by simp at h
 |_::_,[],_,_,_,_,_,_,h,_=>by simp at h
 |p::ps,u::vs,m,x,v,i,hn,h1,h2,hk=>by
  show bindC kindOf (ps.zip vs) _ x=à v;refine zj (bh.mp hn) λn1 n2=>?_;cases i with
  |zero=>simp at h1 h2;subst h1;subst h2;rw[Gg n1,if_neg hk];exact if_pos rfl
  |succ i=>exact xT n2 (by simpa using h1) (by simpa using h2) hk
theorem Wi:∀(names:List<|Str×oj) (k:Nat) (acc:List<|Str×f_) (x:d_),(acc.lookup x).isSome=â->((cellsFrom k names acc).lookup x).isSome=â:=by
 intro v0;induction v0 with
 |nil=>intro _ _ _ h;exact h
 |cons pp r ih=>
  obtain⟨y,kd⟩:=pp;intro k acc x h;unfold cellsFrom
  split
  ·refine ih _ _ x ?_;rw[ic]
   split
   ·rfl
   ·exact h
  ·exact ih _ _ x h
theorem mT:∀(names:List<|Str×oj) (k:Nat) (acc:List<|Str×f_) (x:d_),(x,ng)∈names->((cellsFrom k names acc).lookup x).isSome=â
 | (y,kd)::r,k,acc,x,h=>by
  unfold cellsFrom;rcases List.mem_cons.mp h with e|h
  ·clear h;cases e;rw[if_pos<|by rfl];refine Wi r _ _ _ ?_;rw[ic];simp
  ·split
   ·exact mT r _ _ x h
   ·exact mT r _ _ x h
theorem sP{ps:List d_}:∀{names:List<|Str×oj} {x:d_} {v:Option V},zm (e8 ps us names) x=à v->v=(ps.zip us).lookup x/\((x,oq)∈names\/(x,ng)∈names):=by
 intro v0;induction v0 with
 |nil=>intro _ _ h;exact ns h
 |cons pp r ih=>
  obtain⟨y,k⟩:=pp;intro x v h;have step:∀{k'},(k'=oq\/k'=ng)->zm ((y,(ps.zip us).lookup y)::e8 ps us r) x=à v->v=(ps.zip us).lookup x/\((x,oq)∈(y,k')::r\/(x,ng)∈(y,k')::r):=λAX h=>by
   by_cases DW:x=y
   ·subst DW;rw[FU] at h;replace h:=si h;subst h;refine⟨rfl,?_⟩;rcases AX with rfl|rfl
    ·exact .inl ag
    ·exact .inr ag
   ·rw[DF DW] at h;exact zj (ih h) λh1 h2=>⟨h1,h2.imp (af _)<|af _⟩
  obtain skip:∀{k'},zm (e8 ps us r) x=à v->v=(ps.zip us).lookup x/\((x,oq)∈(y,k')::r\/(x,ng)∈(y,k')::r):=λh=>by exact zj (ih h) λh1 h2=>⟨h1,h2.imp (af _)<|af _⟩
  cases k with
  | «local»=>exact step (.inl rfl) h
  |cell=>exact step (.inr rfl) h
  |_=>exact skip h
theorem xU:∀{l:List d_},mE l=â->l.Nodup:=by
 intro v0;induction v0 with
 |nil=>intro _;exact fg
 |cons x r ih=>intro h;have h:(!r.contains x&&mE r)=â:=h;simp only[ml,nu,qg] at h;exact bh.mpr ⟨by simpa using h.1,ih h.2⟩
theorem oZ:∀{l:List<|Str×α} {x:d_} {k:α},(l.map (·.1)).Nodup->(x,k)∈l->l.lookup x=à k
 | (y,d)::r,x,k,hn,h=>by
  refine zj (bh.mp (hn:(y::r.map (·.1)).Nodup)) λn1 n2=>?_;rcases List.mem_cons.mp h with e|h
  ·clear h;cases e;simp[qc]
  ·obtain zh:(x==y)=ã:=by
    rw[beq_eq_false_iff_ne];intro e;exact n1 (by rw[<- e];exact ba.mpr ⟨(x,k),h,rfl⟩)
   rw[ic,zh];exact oZ n2 h
structure SQ(a:nb)(sc:mh):Prop where
 params:∃JN IW,a=⟨[],a.args,á,[],JN,á,IW⟩
 kind:sc.kind=.function
 gen:sc.isGenerator=ã
 cor:sc.isCoroutine=ã
 nodup:(sc.names.map (·.1)).Nodup
 anodup:(a.args.map (·.arg)).Nodup
 nofree:∀p∈sc.names,p.2≠.free
 akind:∀x∈a.args,sc.names.lookup x.arg=à .local\/sc.names.lookup x.arg=à .cell
 dbg:sc.names.lookup (e_ "__debug__")=á
 cld:sc.names.lookup (e_ "__classdict__")=á
theorem Gh{a:nb}(h:jQ a sc=â):SQ a sc:=by
 ext sc a
 unfold jQ at h;simp only[ml] at h;refine zj h λzt h15=>?_;obtain⟨⟨⟨⟨⟨⟨⟨⟨⟨⟨⟨⟨⟨h1,h2⟩,h3⟩,h4⟩,h5⟩,h6⟩,h7⟩,h8⟩,h9⟩,JX⟩,QX⟩,UA⟩,QY⟩,UB⟩:=zt;refine⟨?_,by simpa using h7,by simpa using h8,by simpa using h9,xU JX,xU QX,λp hp=>by simpa using ak.mp UA p hp,λx hx=>?_,by simpa using UB,by simpa using h15⟩
 ·obtain⟨po,as,va,ko,kd,kw,df⟩:=a;simp only[ph,wb] at h1 h2 h3 h4;subst h QY QX h6 h5 h1;subst h2;subst h3;subst h4;exact⟨kd,df,rfl⟩
 ·have:=ak.mp QY x hx
  split at this
  ·rename_i e;exact .inl e
  ·rename_i e;exact .inr e
  ·exact zk this
section
theorem Gi{jv:c_}{a:nb}{b:List me}{vs:List b_}(hE:env=callEnvC (o_ f a b sc pm cd doc) s.heap.objs.size ad)(G:CQ l av s)
  (CB:gT (CA l av) s vs us) (hok:SQ a sc) (AO:InCallC s env.locals (bindL env.kindOf ((a.args.map (·.arg)).zip vs) λ_=>á) env.cells (bindC env.kindOf ((a.args.map (·.arg)).zip vs) λ_=>á) jv) :
  ∃zx,Act l env sc av s (e8 (a.args.map (·.arg)) us sc.names) zx jv:=by
 revert vs us env;ext ad av l sc s f pm cd doc jv a b;ext env us vs
 have FH:∀x,env.kindOf x=sc.names.lookup x:=λ_=>by rw[hE];rfl
 have hL:env.locals=s.heap.objs.size:=by rw[hE];rfl
 obtain JA:env.cells=cellsFrom (s.heap.objs.size+1) sc.names []:=by rw[hE];rfl
 have ek:env.scope.kind=.function:=by rw[hE];exact hok.kind
 have eg:env.globals=mu:=by rw[hE];rfl
 have eb:env.builtins=builtinsNs:=by rw[hE];rfl
 have UO:env.frame=à env.locals:=by rw[hE];rfl
 clear hE;have dead:∀b,Mn env b->s.heap.get? b=á:=λb h=>by
  rcases h with h|⟨x,h⟩
  ·rw[h,hL];exact bU _
  ·exact dh (by
    have:=AO.above x b<|eK h;rw[hL] at this;exact bu this)
 obtain q1U:∀b,Mn env b->¬av b:=λb h x=>by refine Zs (G.avlt b x) λo e=>?_;rw[dead b h] at e;exact ns e
 obtain notown:∀x d,zm (e8 (a.args.map (·.arg)) us sc.names) x≠à (à<|.own d):=λx d h=>by
  refine zj (sP h) λh1 _=>aD (xL h1.symm) λi _ h3=>?_;obtain UT:i<vs.length:=by rw[CB.len];exact((bw.mp h3).1)
  exact(CB.at i _ _ (ai UT) h3).2 d rfl
 have TJ:∀x,sc.names.lookup x=à .cell->∃c,env.cells.lookup x=à c:=λx hx=>by have:=mT sc.names (s.heap.objs.size+1) [] x<|eK hx;rw[<- JA] at this;exact gu.mp this
 have keep:=AO.toInCall.keep;have k0:Kp s jv:=by refine bM AO.toInCall.same λh t e=>?_;subst e;exact⟨h,t,rfl,keep⟩
 have back:∀b o,s.heap.get? b=à o->(av b\/Mn env b)->av b:=λb o e h=>h.elim id λh=>by rw[dead b h] at e;exact ns e
 obtain bfr:base.get? env.locals=á:=by
  refine zn (base.get? env.locals) (λe=>?_) λo e=>?_
  ·rewrite[e];rfl
  ·rewrite[e];have:=G.stay _ _ e;rw[dead _<|.inl rfl] at this;exact ns this
 refine jF (id AO.toInCall.ns) λoL esL epL e1 e2 e3=>?_;have ώ:∀{P:Prop} x a',bY env (e8 (a.args.map (·.arg)) us sc.names) jv.heap x a'->P:=λx a' ⟨⟨d,e⟩,_⟩=>absurd e<|notown x d;refine⟨λb=>av b\/Mn env b,{inv:=?_,stay0:=G.stay,frm:=UO,fr0:=λb h=>(λb h=>⟨G.fav b h,by refine iK (G.ff.mem h) λ_ o e _=>?_;exact⟨o,e⟩⟩:∀b,z_ l b->av b/\∃o,s.heap.get? b=à o) b h,k0:=K.of k0,bas:=λb h=>Or.inl h,ns:=⟨_,AO.toInCall.ns⟩,cells:=λx c e=>⟨(λx c e=>fe (AO.above x c<|eK e):∀x c,env.cells.lookup x=à c->c≠env.locals) x c e,_,AO.cell x c e⟩,fresh:=λb h=>⟨.inr h,dead b h,q1U b h⟩,capart:=λx y c hx hy=>name_of_addr AO.apart (eK hx)<|eK hy,names:=λx v h=>?_,ownA:=λx a h=>ώ x a h,ownI:=λx y a h=>ώ x a h,loc:=λx h=>(FH x).trans h}⟩
 ·refine {gnd:={G.k (K.of k0) with ff:=⟨by rw[ek];nofun,⟨env.locals,oL,UO,bfr,e1,λvs q=>by rw[e2] at q;cases q⟩,(G.k<|K.of k0).ff⟩,fav:=λb h=>((mR UO).mp h).elim (λh=>.inr<|.inl h) λh=>.inl<|G.fav b h,avlt:=λb h=>?_,avS:=.inl G.avS},kind:=ek,eg:=eg,eb:=eb,dbg:=hok.dbg,cld:=hok.cld,glob:=λx hx=>?_,kinds:=λx hx=>?_,get:=λx v hl hg=>?_}
  ·rcases h with h|h|⟨x,h⟩
   ·exact(G.k<|K.of k0).avlt b h
   ·exact⟨oL,h▸e1⟩
   ·exact aD (AO.cell x b h) λo e _=>⟨o,e⟩
  ·unfold AL at hx;rw[FH];exact eq_of_beq hx
  ·rw[FH];refine⟨hx,?_⟩;refine zn (sc.names.lookup x) (λhk=>?_) λk hk=>?_
   ·rw[hk] at hx;exact zk hx
   ·rw[hk] at hx;cases k with
    |cell=>exact TJ x hk
    |free=>exact absurd rfl (hok.nofree _<|eK hk)
    |_=>exact zk hx
  ·refine zj (sP hg) λh1 h2=>aD (xL h1.symm) λi h3 h4=>?_;obtain UT:i<vs.length:=by
    rw[CB.len];exact((bw.mp h4).1)
   have h5:=ai UT;refine zj (CB.at i _ _ h5 h4) λr KA=>⟨vs[i],?_,?_⟩
   ·rcases h2 with h2|h2
    ·have hk:=oZ hok.nodup h2;exact .inl ⟨by rw[FH];exact hk,_,AO.toInCall.ns,sK hok.anodup h3 h5<|by rw[FH];exact hk⟩
    ·have hk:=oZ hok.nodup h2;refine Zs (TJ x hk) λc hc=>.inr ⟨.inl (by rw[FH];exact hk),c,hc,?_⟩;obtain this:=AO.cell x c hc
     rwa [xT hok.anodup h3 h5<|by rw[FH,hk];intro e;cases e] at this
   ·cases v with
    |fz d=>exact(show Zu s.heap av _ d from r).mono (λb o _ e=>keep b o e) back
    |own d=>exact absurd rfl (KA d)
    |dp d=>exact(show Zu s.heap av _ d from r).mono (λb o _ e=>keep b o e) back
    |ex x=>refine aD r λe h r=>?_;exact⟨e,h,r.mono (λb o _ e=>keep b o e) back⟩
 ·refine zj (sP h) λ_ h2=>?_;rcases h2 with h2|h2
  ·have hk:=oZ hok.nodup h2;exact⟨by unfold AV;rw[hk],.inl<|by rw[FH];exact hk⟩
  ·have hk:=oZ hok.nodup h2;exact⟨by unfold AV;rw[hk],.inr ⟨by rw[FH];exact hk,TJ x hk⟩⟩
end
section
theorem Gj{p q:oi}(h1:AL sc "isinstance" = â)(h2:AL sc "dict" = â)(hx:AV sc x=â)(gx:zm σ x=à (à<|.fz d)):BC C (j+2) sc σ (.Call (.Name "isinstance" p) [.Name x q,.Name "dict" q'] [] p')=.ok (.fz<|.bool<|b7 d):=by show jM (BC C (j+1) sc σ) C sc σ "isinstance" [.Name x q,.Name "dict" q']=_;unfold jM;rw[if_pos h1,if_pos rfl];show(if AL sc "dict" then (match gQ sc σ (.Name x q) with | some x=>Zy (RO C x.cls "dict") | none=>rb (BC C (j+1) sc σ<|.Name x q) λv=>Zy<|l0 "dict"<|Zp v) else .no)=_;rw[if_pos h2,show gQ sc σ (.Name x q)=á from by show qW sc σ x=á;unfold qW;rw[gx],mQ hx gx];rfl
theorem Gk{k:d_}{e:a_}:∀{m:List<|PyData×a_} {ks:List d_} {i:Nat},m.map (·.1)=ks.map l_->ks.Nodup->m[i]?=à (.str k,e)->bV m k=à e:=by
 intro m;induction m with
 |nil=>intro ks i _ _ h;exact ns h
 |cons p m ih=>
  intro ks i hk hn h;cases ks with
  |nil=>exact nomatch hk
  |cons x ks=>
   obtain⟨p1,p2⟩:=p;injection hk with hk1 BO
   replace hk1:=hk1;subst hk1;refine zj (bh.mp hn) λn1 n2=>?_;show(if k=x then à p2 else bV m k)=_;cases i with
   |zero=>injection h with h;injection h with h1 h2;injection h1 with h1;rw[if_pos h1.symm,h2]
   |succ i=>have hm:l_ k∈m.map (·.1):=ba.mpr ⟨(.str k,e),bq h,rfl⟩;rw[if_neg λq=>n1<|by subst hn n1 h q;rw[BO] at hm;refine aD (ba.mp hm) λy hy e=>?_;injection e with e;exact e▸hy];exact ih BO n2 h
theorem Gl{ps:List d_}:∀{names:List<|Str×oj},(x,oq)∈names\/(x,ng)∈names->zm (e8 ps us names) x=à ((ps.zip us).lookup x):=by
 intro names;induction names with
 |nil=>exact λh=>h.elim (λh=>cB h) λh=>cB h
 |cons p r ih=>
  obtain⟨y,k⟩:=p;intro h;have step:zm ((y,(ps.zip us).lookup y)::e8 ps us r) x=à ((ps.zip us).lookup x)\/x≠y:=by
   by_cases DW:x=y
   ·subst h DW;exact .inl FU
   ·exact .inr DW
  have tl:x≠y->(x,oq)∈r\/(x,ng)∈r:=λzh=>h.imp (λh=>(List.mem_cons.mp h).elim (λe=>absurd (congrArg Prod.fst e) zh) id) λh=>(List.mem_cons.mp h).elim (λe=>absurd (congrArg Prod.fst e) zh) id;cases k with
  | «local»=>exact step.elim id λs=>(DF s).trans (ih<|tl s)
  |cell=>exact step.elim id λs=>(DF s).trans (ih<|tl s)
  |_=>refine ih (h.imp (λh=>?_) λh=>?_)<;>exact(List.mem_cons.mp h).elim (λe=>nomatch e) id
theorem Gm{k:Nat}(h:zr e=â):BC C k sc σ e=.no:=by
 cases k with
 |zero=>rfl
 |succ k=>exact xC h
theorem AI.deeper(h:AI (n+1) hd l A)(env:nt):AI n hd (env::l) (A.deeper env) where
 depth:=by have:=h.depth;show A.depth+1+n+1<_;exact Lr this
 units:=by have:=h.units;show A.units+3+16*n+300<_;exact Lu this
 handled:=h.handled
 guards:=h.guards
 frames:=xh h.frames
theorem sQ(h:PJ sc x=â):AV sc x=â/\((x,oq)∈sc.names\/(x,ng)∈sc.names):=by
 rcases(p_ _ _).mp h with h|h
 ·have e:=eq_of_beq h;exact⟨by unfold AV;rw[e],.inl<|eK e⟩
 ·have e:=eq_of_beq h;exact⟨by unfold AV;rw[e],.inr<|eK e⟩
theorem Wj(h:sc.names.lookup x=à .local\/sc.names.lookup x=à .cell):AV sc x=â:=by rcases h with h|h<;>(unfold AV;rw[h])
theorem Wk{jv:c_}{a:nb}{b:List me}{vs:List b_}(hE:env=callEnvC (o_ f a b sc pm cd doc) s.heap.objs.size ad)(hok:SQ a sc)
  (AO:InCallC s env.locals (bindL env.kindOf ((a.args.map (·.arg)).zip vs) λ_=>á) env.cells (bindC env.kindOf ((a.args.map (·.arg)).zip vs) λ_=>á) jv) {i:Nat} {x:d_} {v:b_} (h3:(a.args.map (·.arg))[i]?=à x) (h5:vs[i]?=à v) (hk:sc.names.lookup x=à .local\/sc.names.lookup x=à .cell):aW env jv.heap x v:=by
 have FH:∀x,env.kindOf x=sc.names.lookup x:=λ_=>by rw[hE];rfl
 obtain JA:env.cells=cellsFrom (s.heap.objs.size+1) sc.names []:=by rw[hE];rfl
 rcases hk with hk|hk
 ·exact .inl ⟨by rw[FH];exact hk,_,AO.toInCall.ns,sK hok.anodup h3 h5<|by rw[FH];exact hk⟩
 ·have:=mT sc.names (s.heap.objs.size+1) [] x<|eK hk;rw[<- JA] at this;refine Zs (gu.mp this) λc hc=>.inr ⟨.inl (by rw[FH];exact hk),c,hc,?_⟩;obtain this:=AO.cell x c hc
  rwa [xT hok.anodup h3 h5<|by rw[FH,hk];intro e;cases e] at this
theorem xV{a:nb}{b:List me}(CN:cX f O.main.body=à (a,b,sc))(hm:mg f=à (.ref ad))(FQ:jQ a sc=â){P:d_}(CB:a.args.map (·.arg)=[P])(hA:AI (n+1) ã l A)(G:CQ l av s)(r:Zu s.heap av v d)
  (h:∀(env:nt) (jv:c_) (zx:f_->Prop) (σ:aA) (EE:b_->c_->Prop),Act l env sc av s σ zx jv->Kp s jv->aW env jv.heap P v->AV sc P=â->zm σ P=à (à<|.fz d)->(∀x,P≠x->PJ sc x=â->zm σ x=à á)->(∀x u,P≠x->zm σ x≠à (à u))->yg (i_ O w) (A.deeper env) env EE ->
   i' (i_ O w) (A.deeper env) (execs b env) (λf s'=>Q (match f with | .ret v=>v | _=>.none) s') EE jv):i' (i_ O w) A (call (.ref ad) [v]) Q E s:=by
 refine kG (G.glo.fn f a b sc CN) λQE o pm JT doc g1 g2 g3 g4=>?_;rw[hm] at g1;replace g1:=nr<|si g1;subst g1;have hok:=Gh FQ;refine bM hok.params λJN IW UY=>?_;obtain hal:a.args.length=1:=by have:=congrArg nq CB;rwa [j_] at this
 refine vk<|codeAny_call_cells (binds:=(a.args.map (·.arg)).zip [v]) (by have:=hA.depth;exact A6 this) (G.stay _ _ g2) g3 (G.glo.nolimit.keeps G.stay) (g4.keeps G.stay) rfl (xN UY rfl (by rw[hal];rfl) hok.anodup) rfl (λx hx=>?_) (λjv AO=>?_) hok.cor hok.gen hok.kind
 ·refine aD (ba.mp (vp hx).1) λar KX e=>?_;rw[<- e];rcases hok.akind ar KX with h|h
  ·exact .inl h
  ·exact .inr ⟨h,mT _ _ _ _<|eK h⟩
 ·refine Zs (Gi (vs:=[v]) (us:=[.fz d]) rfl G (⟨⟨r,λd h=>nomatch h⟩,trivial⟩:gT (CA l av) s [v] [.fz d]) hok AO) λzx Y=>aD (ba.mp<|show P∈a.args.map (·.arg) by rw[CB];exact List.mem_singleton.mpr rfl) λar KX eP=>?_;obtain FS:Kp s jv:=by refine bM AO.toInCall.same λh t e=>?_;exact e▸⟨h,t,rfl,λb o e'=>by have:=AO.toInCall.keep b o e';rw[e] at this;exact this⟩
  refine h _ jv zx _ _ Y FS (Wk rfl hok AO (i:=0) (x:=P) (v:=v) (by rw[CB];rfl) rfl (eP▸hok.akind ar KX)) (eP▸Wj (hok.akind ar KX)) ?_ (λx hx lx=>?_) (λx u hx hg=>?_) xd
  ·rw[Gl (x:=P),CB]
   ·simp
   ·rw[<- eP];exact(hok.akind ar KX).imp eK eK
  ·rw[Gl (x:=x) (sQ lx).2,CB];simp[hx.symm]
  ·have:=(sP hg).1;rw[CB] at this;simp[qc,(beq_false_of_ne λe=>hx e.symm)] at this
theorem Wl{a:nb}{b:List me}(CN:cX f O.main.body=à (a,b,sc))(cd:SN f a b sc)(hm:mg f=à (.ref ad)):∀n,sJ ad n:=by
 intro n;induction n with
 |zero=>exact λA l s av v d _ _ _ hc=>zk hc
 |succ n ih=>
  intro A l s av v d hA G r hc Q E hq;have hK:=DG.c1 CN hm ih;obtain⟨P,X,zo,p1,p2,p3,p4,p5,p6,p7,p8,p9,CT,q1,q2,q3,q4,q5,q6,q7,q8,q9,EF,IM,CB,FQ,gi,gd,lP,YO,gf,Τ,lX,ne,nf,eb⟩:=cd;refine xV CN hm FQ CB hA G r λenv jv zx σ EE Y _ _ _ hP _ _ _=>?_;have EN:=hA.deeper env;rw[eb];refine bb<|wpAny_If<|(fA hK 2 sc σ _).2 (A.deeper env) env jv zx EN Y.inv (k:=Zt) (fin:=.ok<|b7 d) ⟨by rw[Gj gi gd lP hP];rfl,nofun⟩ (λc jy k2 e=>?_) EH.ok;obtain rfl:c=b7 d:=by injection e
  have Y2:=Y.k k2;cases xE hc with
  |dict m=>
   refine aD (Y2.inv.get P (.fz<|.dict m) lP hP) λvP LH rP=>?_;obtain⟨aP,RS,zq,h1,h2,h3,h4,h5,h6⟩:=(rP:Zu jy.heap zx vP<|.dict m).FB;subst LH rP zq;have hks:m.map (·.1)=(RS.map (·.1)).map l_:=by rw[h5,qu];rfl
   have IF:=mS h2;obtain hml:m.length<=g_:=by have:=congrArg nq h5;rw[j_,j_] at this;rw[this];exact h3.1
   refine bb<|fj<|T7 (rec:=BC (C1 n f) 2 sc σ) (λe hb=>Gm hb) (fA hK 2 sc σ _).1 (λ_ _ _ _ q=>by cases q) (z:=.one X) rfl YO gd hks IF ?_ (λj q hj=>?_) EN Y2.inv hml λa' s' kk o=>?_
   ·show rb (BC (C1 n f) 2 sc σ<|.Name P EF) (λv=>Zy<|items<|Zp v)=_;rw[mQ lP hP];rfl
   ·have MO:q.1∈m.map (·.1):=ba.mpr ⟨q,bq hj,rfl⟩;rw[hks] at MO;refine aD (ba.mp MO) λk _ hk=>?_;obtain⟨ϛ,qe⟩:=q;obtain rfl:=hk;refine⟨QF X (.str k) σ,rfl,Ud hK gf nf Τ lX ?_ ?_ (Gk hks IF hj)<|ak.mp (hc:(m.all λp=>bJ n p.2)=â) _<|bq hj⟩
    ·exact(DF ne.2.1).trans ((DF ne.1).trans hP)
    ·exact(DF ne.2.2).trans FU
   ·exact hq _ _ (Y2.k kk).k0 (bC.back (u:=.dp<|.dict m) (av:=zx) Y2.k0 o)
  |int i=>refine ce ?_;refine aD (Y2.inv.get P (.fz<|.int i) lP hP) λvP LH rP=>Zs ((rP:Zu jy.heap zx vP<|.int i).int_inv) λt zq=>?_;subst rP zq;exact bb<|fj<|dE Y2.inv lP LH<|hq _ _ Y2.k0 ⟨λ_=>False,λ_ h=>h.elim,λ_ h=>h.elim,.int i t⟩
end
section
theorem Gn{h0:mj}{wr:f_->Prop}{b:List me}{St:Nat->mj->Prop}(S:JR A h0 GQ t it wr St ds){Q:uy->c_->Prop}(hp:yg (i_ O w) A env E)
  (J:Nat->c_->Prop) (AP:∀i st,J i st->St i st.heap)
  (hd:∀st h' tk,J ds.length st->(∀b o,¬wr b->st.heap.get? b=à o->h'.get? b=à o)->Q .next {st with heap:=h',toks:=tk})
  (ht:∀i st d,ds[i]?=à d->J i st->∀v h1 DZ,(∀b o,¬wr b->st.heap.get? b=à o->h1.get? b=à o)->St (i+1) h1->(∀CJ:f_->Prop,(∀b,CJ b->∃o,st.heap.get? b=à o)->(∀b o,h0.get? b=à o->CJ b->GQ b)->Zu h1 CJ v d) ->
   ∀E':b_->c_->Prop,i' (i_ O w) A (assign t env v) (λ_ s2=>i' (i_ O w) A (execs b env) (λf s3=>match f with | .next=>J (i+1) s3 | _=>False) E s2) E' {st with heap:=h1,toks:=DZ})
  {jy:c_} (h:J 0 jy):rg (i_ O w) A (.forLoop t it b [] env) (λr s'=>match r with | .ok f=>Q f s' | .error e=>cameBackBy (i_ O w) A env E e s') jy:=by
 revert S hp AP hd ht;ext GQ A env t ds it E h0 wr b St Q J jy
 refine codeAny_forLoop_any (λk st=>∃i,i+k=ds.length/\J i st) ?_ ds.length ⟨0,im _,h⟩
 rintro k' st ⟨i,hi,hj⟩
 by_cases DD:i=ds.length
 ·subst hi DD;refine aq (S.done st _ (λs'=>Q .next s') (AP _ _ hj) λh' tk hk=>hd st h' tk hj hk) (λr jv jz=>?_) λ_ _ x=>x;cases r with
  |none=>exact ce jz
  |some v=>exact jz.elim
 ·have zw:i<ds.length:=by exact qM hi DD
  refine aq (S.item i ds[i] st _ ?QQ (ai zw) (AP _ _ hj) ?body) ?link λ_ _ x=>x
  case link=>
   intro r jv jz;cases r with
   |none=>exact jz.elim
   |some v=>exact jz
  intro v h1 DZ hk1 FK GI;refine aq (ht i st ds[i] (ai zw) hj v h1 DZ hk1 FK GI _) (λ_ s2 h2=>wpAny_passesOwn hp<|aq h2 (λf s3 h3=>?_) λ_ _ x=>x) λ_ _ x=>x;cases f with
  |next=>exact⟨k' - 1,by exact nV hi DD,i+1,by exact nW hi DD,h3⟩
  |_=>exact h3.elim
theorem Wm{k:d_}:∀{kvs:List<|Str×b_},k∉kvs.map (·.1)->stored kvs k v=kvs++[(k,v)]:=by intro kvs h;unfold stored;rw[if_neg];intro hc;exact aD (List.any_eq_true.mp hc) λp hp e=>h<|ba.mpr ⟨p,hp,of_decide_eq_true e⟩
theorem DictOf.at'(p:h.DictOf (mc O w) a kvs)(hs:∀o,h.get? a=à o->h'.get? a=à o):h'.DictOf (mc O w) a kvs:=by exact dN p λo es ep e r=>⟨o,es,ep,hs _ e,r⟩
structure ϭ(l:List nt)(env:nt)(sc:mh)(av:f_->Prop)(s:c_)(P X F:d_)(m:List<|PyData×a_)(a:f_)(wr zx:f_->Prop)(h1:mj)(St:Nat->mj->Prop)(i:Nat)(σ:aA)(kvs:List<|Str×b_)(pn:Nat->f_->Prop)(st:c_):Prop where
 act:Act l env sc (λb=>(av b\/b=a)\/wr b) s σ (λb=>(zx b\/b=a)\/wr b) st
 gP:zm σ P=à (à<|.fz<|.dict m)
 gX:∃v0,zm σ X=à v0
 gF:zm σ F=à á
 var:aW env st.heap F (.ref a)
 sti:St i st.heap
 old:∀b o,h1.get? b=à o->¬(zx b\/b=a)->st.heap.get? b=à o
 dic:st.heap.DictOf (mc O w) a kvs
 len:kvs.length=i
 pin:∀j b,pn j b->(s.heap.get? b=á/\∃o,st.heap.get? b=à o)/\¬Mn env b/\¬z_ (env::l) b/\b≠a/\¬wr b
 dis:∀i j b,pn i b->pn j b->i=j
 kv:∀(j:Nat) (kv:d_×b_) (d:a_×a_),kvs[j]?=à kv->m[j]?=à d->d.1=.str kv.1/\kv.1.length<=g_/\Dp st.heap (pn j) kv.2 d.2
theorem Wn{p q:oi}(h1:AL sc "isinstance" = â)(h2:AL sc "dict" = â)(hx:AV sc x=â)(gx:zm σ x=à (à<|.fz d)):BC C (j+3) sc σ (.UnaryOp .Not (.Call (.Name "isinstance" p) [.Name x q,.Name "dict" q'] [] p') PO)=.ok (.fz<|.bool (!b7 d)):=by show rb (BC C (j+2) sc σ<|.Call (.Name "isinstance" p) [.Name x q,.Name "dict" q'] [] p') (λv=>Zy<|gA .Not v)=_;rw[Gj h1 h2 hx gx];rfl
theorem Wo{a:nb}{b:List me}(CN:cX f O.main.body=à (a,b,sc))(cd:SL f a b sc)(hm:mg f=à (.ref ad)):∀n,sJ ad n:=by
 intro n;induction n with
 |zero=>exact λA l s av v d _ _ _ hc=>zk hc
 |succ n ih=>
  intro A l s av v d hA G r hc Q E hq;have hK:=DG.c1 CN hm ih;refine kG (G.glo.fn f a b sc CN) λQE o pm JT doc g1 g2 g3 g4=>?_;rw[hm] at g1;replace g1:=nr<|si g1;subst g1;obtain⟨P,X,F,p1,p2,p3,p4,p5,p6,p7,p8,p9,CT,GO,q1,q2,q3,q4,q5,q6,q7,q8,q9,EF,IM,IN,LL,PT,CB,FQ,gi,gd,gf,lX,lF,ne,nf,eb⟩:=cd;refine xV CN hm FQ CB hA G r λenv jv zx σ EE Y _ _ lP hP KA _ UZ=>?_
  revert CN hm ih hA G r hc hq hK g3 g4 g2 CB FQ gi gd gf lX lF ne nf eb;revert JT doc P X F p1 p2 p3 p4 p5 p6 p7 p8 p9 CT GO q1 q2 q3 q4 q5 q6 q7 q8 q9 EF IM IN LL PT env jv zx σ EE;ext ad sc f a b n A l s av v d Q E o pm;revert q1 q2 q3 q4 q5 q6 q7 q8 q9 EF IM IN LL PT env jv zx σ EE;ext JT doc P X F p1 p2 p3 p4 p5 p6 p7 p8 p9 CT GO;revert zx σ EE;ext q1 q2 q3 q4 q5 q6 q7 q8 q9 EF IM IN LL PT env jv;ext zx σ EE
  have hF:=KA F ne.2.1 lF;have EN:=hA.deeper env;rw[eb];refine bb<|wpAny_If<|(fA hK 3 sc σ _).2 (A.deeper env) env jv zx EN Y.inv (k:=Zt) (fin:=.ok (!b7 d)) ⟨by rw[Wn gi gd lP hP];rfl,nofun⟩ (λc jy k2 e=>?_) EH.ok;obtain rfl:c=!b7 d:=by injection e
  have Y2:=Y.k k2;cases xE hc with
  |int i=>refine aD (Y2.inv.get P (.fz<|.int i) lP hP) λvP LH rP=>Zs ((rP:Zu jy.heap zx vP<|.int i).int_inv) λt zq=>?_;subst rP zq;exact bb<|fj<|dE Y2.inv lP LH<|hq _ _ Y2.k0 ⟨λ_=>False,λ_ h=>h.elim,λ_ h=>h.elim,.int i t⟩
  |dict m=>
   refine ce ?_;refine bb<|wpAny_Assign_Name ((fA hK 1 sc σ<|.Dict [] [] CT).1.val EN Y2.inv (u:=.own<|.dict []) rfl λva kc k3 r3=>?_) rfl;refine bN r3 λda zq dn db=>?_;subst zq
   revert k2 Y2 r hc hq hP e k3;ext jy m kc da
   obtain⟨Ο,d1,d2,d3,d4,_⟩:=(db:SI kc.heap _ da [])
   obtain rfl:Ο=[]:=by cases Ο with|nil=>rfl|cons=>exact nomatch d4
   refine AN λΘ θ=>dU (Y2.CY dn) λnM nv nv0 n0 nF=>θ ?_;obtain Z:=Y2.pin (S:=λb=>b=da) k3 (λb hb=>hb▸dn) λb hb=>by refine dN d1 λo es ep e' _=>?_;exact⟨o,hb▸e'⟩
   refine Z.WD hF λkf W fs hvF _=>?_;obtain d1':=DictOf.at' d1 λo e=>fs da o nM e;refine AN λΘ θ=>aD (W.inv.get P (.fz<|.dict m) lP hP) λvP LH rP=>?_;obtain⟨aP,RS,zq,h1,h2,h3,h4,h5,h6⟩:=(rP:Zu kf.heap _ vP<|.dict m).FB;subst LH rP zq;apply θ;have hks:m.map (·.1)=(RS.map (·.1)).map l_:=by rw[h5,qu];rfl
   have IF:=mS h2;have hml:m.length<=g_:=by have:=congrArg nq h5;rw[j_,j_] at this;rw[this];exact h3.1
   obtain hsI:∀x,foldedSetIterable (.Name P q2) env x=pure x:=λx=>rfl;refine bb<|wpAny_For (sG (target:=.Name X q1) (rec:=BC (C1 n f) 2 sc σ) (λe hb=>Gm hb) (fA hK 2 sc σ<|.Name P q2).1 (λ_ _ _ _ q=>by cases q) (A.deeper env) env kf _ EN W.inv (k:=Zt) (fin:=.ok<|m.map (·.1)) ⟨?_,nofun⟩ (λΕ lf ds x e=>?_) EH.ok) hsI
   ·show rb (rb (BC (C1 n f) 2 sc σ<|.Name P q2) λv=>Zy<|items<|Zp v) Zt=_;rw[mQ lP hP];rfl
   obtain rfl:ds=m.map (·.1):=by injection e
   obtain⟨kt,wr,St,k6,S,AP,BA,k7,_⟩:=x;have W1:=W.k k6;have nw:∀b,wr b->¬Mn env b/\¬z_ (env::l) b/\s.heap.get? b=á/\b≠da:=λb h=>by exact dU (W1.CY (BA b h).1) λw1 w2 w3 w4 w5=>⟨w1,w5,w4,λe=>w2<|.inr e⟩
   have Υ:=(sQ lX).1;have Ρ:=(sQ lF).1;refine Gn S UZ (λi st=>∃σ kvs pn,ϭ l env sc av s P X F m da wr zx kt.heap St i σ kvs pn st) (λi st h=>by refine lO h λ_ _ _ h=>?_;exact h.sti) (λst h' tk h hk=>?_) (λi st dk K' h v IY DZ hk1 FK GI E'=>?_)
    ⟨σ,[],λ_ _=>False,(W1.pin (S:=wr) (K.of k7) (λb hb=>(BA b hb).1) λb hb=>(BA b hb).2),hP,⟨_,(KA X ne.1 lX)⟩,hF,((hvF.k k6).k (K.of (l:=env::l) k7)),AP,λb o e n=>k7.heap b o e,DictOf.at' d1' λo e=>k7.heap _ o<|k6.at nF e,rfl,λ_ _ h=>h.elim,λ_ _ _ h=>h.elim,λj kv d e1 _=>ns e1⟩
   ·refine lO h λσ' kvs pn H=>?_;have hlen:kvs.length=m.length:=by rw[H.len,j_]
    have kp:=hk;have V:=(H.act.weaken (jx:=av) (λb hb=>.inl<|.inl hb) λb hb=>(Y.fr0 b hb).1).HN (S:=wr) (av':=λb=>((zx b\/b=da)\/wr b)/\¬wr b) (h':=h') (tk:=tk) (λb hb=>.inr hb) (λb hb=>(nw b hb).2.2.1) (λb hb hw=>(nw b hw).1 hb) (λz c o hw=>(H.act.ownA z c o).2.2.1<|.inr hw) kp (λb hb=>hb.1) (λb hb hw=>⟨hb,hw⟩) (λb hb hw=>absurd hw hb.2) (λb hb=>⟨.inl<|.inl<|Y.bas b hb,λhw=>?_⟩)
    ·refine bb<|fj<|dE V.inv Ρ (H.var.kept λb o hb e=>kp b o (λhw=>(nw b hw).1 hb) e)<|hq _ _ V.k0 ⟨λb=>b=da\/∃j,pn j b,λb hb=>hb.elim (λe=>e▸n0) λhb=>by refine Zs hb λj hb=>?_;exact(H.pin j b hb).1.1,λb hb=>hb.elim (λe=>?_) λhb=>?_,.dict pn (.inl rfl) (DictOf.at' H.dic λo e=>kp da o (λhw=>(nw da hw).2.2.2 rfl) e) ⟨?_,λkv ED=>?_⟩ d3 ?_ (λi b hb=>⟨.inr ⟨i,hb⟩,(H.pin i b hb).2.2.2.1⟩) H.dis λi kv d e1 e2=>(H.kv i kv d e1 e2).2.2.mono λb o hb e=>kp b o (H.pin i b hb).2.2.2.2 e⟩
     ·exact dN H.dic λo es ep e' _=>⟨o,e▸kp da o (λhw=>(nw da hw).2.2.2 rfl) e'⟩
     ·refine Zs hb λj hb=>zj (H.pin j b hb) λzt q=>?_;obtain⟨_,o,e⟩:=zt;exact⟨o,kp b o q.2.2.2 e⟩
     ·exact hlen▸hml
     ·obtain⟨j,hj,e⟩:=tu ED;exact(H.kv j kv m[j] (by rw[ai hj,e]) (ai<|hlen▸hj)).2.1
     ·refine um λj=>?_;rw[lz,lz]
      by_cases hj:j<m.length
      ·have OO:=hlen▸hj;rw[ai hj,ai OO];exact congrArg à (H.kv j _ _ (ai OO)<|ai hj).1
      ·rw[dg<|Nat.not_lt.mp hj,dg<|hlen▸Nat.not_lt.mp hj];rfl
    ·exact dU (W1.CY (BA b hw).1) λ_ _ w3 _ _=>w3<|.inl hb
   ·refine lO h λσ' kvs pn H=>?_;rw[lz] at K';refine AN λΘ θ=>aD (az.mp K') λmd GD zq=>?_;subst K' zq;refine aD (ba.mp<|show md.1∈(RS.map (·.1)).map l_ by rw[<- hks];exact ba.mpr ⟨md,bq GD,rfl⟩) λk LA UP=>?_;obtain⟨mk,e⟩:=md;apply θ;obtain rfl:=UP;obtain X1:Act l env sc (λb=>(av b\/b=da)\/wr b) s σ' (λb=>(zx b\/b=da)\/wr b) {st with heap:=IY,toks:=DZ}:=
     H.act.HN (S:=wr) (λb hb=>.inr hb) (λb hb=>(nw b hb).2.2.1) (λb hb hw=>(nw b hw).1 hb) (λz c o hw=>(H.act.ownA z c o).2.2.1<|.inr hw) hk1 (λb hb=>hb) (λb hb _=>hb) (λb _ hw=>S.live _ _ FK b hw) H.act.bas
    obtain rv:=GI (λb=>(zx b\/b=da)\/wr b) H.act.inv.gnd.avlt λb o e hb=>hb.elim id λhb=>by rw[(BA b hb).1] at e;exact ns e
    obtain⟨t,rfl,EQ⟩:=rv.str_inv;refine Zs H.gX λv0 gX=>fi<|X1.put gX (show cM (env::l) IY _ (.str k t) (.fz<|.str k) from .str k t EQ) (λ_ _ e=>nomatch e) λs2 Y2 f2 VE DV=>?_;have YY:zm (BQ σ' X<|.fz<|.str k) P=à (à<|.fz<|.dict m):=by rw[aA.get_set,if_neg ne.1];exact H.gP
    have QW:zm (BQ σ' X<|.fz<|.str k) X=à (à<|.fz<|.str k):=by rw[aA.get_set,if_pos rfl,gX];rfl
    obtain gF2:zm (BQ σ' X<|.fz<|.str k) F=à á:=by rw[aA.get_set,if_neg ne.2.2.symm];exact H.gF
    refine bb<|wpAny_Assign_Subscript (fh<|iP Y2.inv gf hm<|Calls.callWith_function (o:=o) (fd:=o_ f a b sc pm JT doc)<|mK rfl (bf ((fA hK 2 sc _<|.Subscript (.Name P q7) (.Name X q8) q9).1.val EN Y2.inv (Fo lP Υ YY QW<|Gk hks IF GD) λv2 s3 k3 r3=>cc ⟨⟨(Y2.inv.gnd.k k3).stay _ _ g2,g3⟩,?_⟩) rfl))<|xK ..;have Y3:=Y2.k k3;refine ih (A.deeper env) (env::l) s3 _ v2 e EN Y3.inv.gnd r3 (ak.mp (hc:(m.all λp=>bJ n p.2)=â) _<|bq GD) λv3 s4 k4 dn3=>?_;have Y4:=Y3.k k4;obtain⟨pn',BR,JE,hr'⟩:=dn3;have k34:=k3.tr k4;have υ:=(DV F _ ne.2.2.symm<|H.var.kept λb o hb e=>hk1 b o (λhw=>(nw b hw).1 hb) e).k k34;refine dE Y4.inv Ρ υ<|dE Y4.inv Υ (VE.k k34) ?_;have kept:∀b o,¬wr b->¬Mn env b->¬z_ (env::l) b->st.heap.get? b=à o->s4.heap.get? b=à o:=λb o h1 h2 h3 e=>k34.at h3<|f2 b o h2<|hk1 b o h1 e;obtain OR:k∉kvs.map (·.1):=λhk=>by
     refine aD (ba.mp hk) λp hp hpe=>?_;obtain⟨j,hj,hje⟩:=tu hp;have ZU:j<m.length:=by rw[H.len] at hj;exact O6 hj<|(bw.mp GD).1
     have hi:=(bw.mp GD)
     have e1:(m.map (·.1))[j]?=à (.str k):=by rw[lz,ai ZU];show à m[j].1=_;rw[((H.kv j p m[j] (by rw[ai hj,hje]) (ai ZU)).1),hpe]
     have e2:(m.map (·.1))[i]?=à (.str k):=by rw[lz,GD];rfl
     rw[hks] at e1 e2;have u1:=bw.mp e1;have u2:=bw.mp e2;have:=(jr (h₀:=u1.1) (h₁:=u2.1)<|List.pairwise_map.mpr<|List.Pairwise.imp (λh e=>h<|by injection e) IF).mp (u1.2.trans u2.2.symm);rw[H.len] at hj;omega
    obtain q0Z:kvs.length<=g_:=by rw[H.len];exact O7 hml<|(bw.mp GD).1
    refine wpAny_setItem_pairs (fL k t) (DictOf.at' H.dic λo e=>kept da o (λhw=>(nw da hw).2.2.2 rfl) nM nF e) (λh' EP CW=>?_) q0Z;rw[Wm OR] at EP;have JM:∀b o,¬b=da->s4.heap.get? b=à o->h'.get? b=à o:=λb o hb e=>by rw[CW.2 b hb];exact e
    have ό:∀b,s3.heap.get? b=á->¬Mn env b/\¬z_ (env::l) b/\b≠da/\¬wr b/\s.heap.get? b=á:=λb hb=>by exact dU (Y3.CY hb) λz1 z2 z3 z4 z5=>⟨z1,z5,λe=>z2<|.inl<|.inr e,λe=>z2<|.inr e,z4⟩
    refine ce ⟨BQ σ' X<|.fz<|.str k,kvs++[(k,v3)],λj b=>pn j b\/(j=i/\pn' b),?_,YY,⟨_,QW⟩,gF2,υ.kept λb o hb e=>JM b o (λe'=>nM<|e'▸hb) e,?_,λb o e hb=>?_,EP,by rw[k_,H.len];rfl,λj b hb=>?_,λj j' b q1 q2=>?_,λj kv d e1 e2=>?_⟩
    ·exact Y4.HN (S:=λb=>b=da) (λb hb=>.inl<|.inr hb) (λb hb=>hb▸n0) (λb hb e=>nM<|e▸hb) (λz c o hw=>(Y4.ownA z c o).2.2.1<|.inl<|.inr hw) JM (λ_ h=>h) (λ_ h _=>h) (λb _ e=>by refine dN EP λo es ep e' _=>?_;exact⟨o,e▸e'⟩) Y4.bas
    ·exact S.frame _ _ _ FK (λb o hw e=>JM b o (nw b hw).2.2.2<|k34.at (nw b hw).2.1<|f2 b o (nw b hw).1 e) λb o e hb=>JM b o (λe'=>hb<|.inr e')<|k34.at (λfr=>hb<|.inl<|Y.inv.gnd.fav b fr)<|f2 b o (λmn=>hb<|.inl (Y.fresh b mn).1)<|hk1 b o (λhw=>by rw[(BA b hw).1] at e;exact ns e)<|H.old b o e hb
    ·exact JM b o (λe'=>hb<|.inr e')<|k34.at (λfr=>hb<|.inl<|Y.inv.gnd.fav b fr)<|f2 b o (λmn=>hb<|.inl (Y.fresh b mn).1)<|hk1 b o (λhw=>by rw[(BA b hw).1] at e;exact ns e)<|H.old b o e hb
    ·rcases hb with hb|⟨_,hb⟩
     ·refine dU (H.pin j b hb) λzt z2 z3 z4 z5=>?_;obtain⟨z0,o,z1⟩:=zt;exact⟨⟨z0,o,JM b o z4<|kept b o z5 z2 z3 z1⟩,z2,z3,z4,z5⟩
     ·exact dU (ό b<|BR b hb) λz1 z2 z3 z4 z5=>Zs (JE b hb) λo q=>⟨⟨z5,o,JM b o z3 q⟩,z1,z2,z3,z4⟩
    ·have apart:∀j b,pn j b->pn' b->False:=λj b h1 h2=>by
      refine dU (H.pin j b h1) λzt z2 z3 z4 z5=>?_;obtain⟨z0,o,z1⟩:=zt;have:=k3.at z3<|f2 b o z2<|hk1 b o z5 z1;rw[BR b h2] at this;exact ns this
     rcases q1 with q1|⟨q1,ϛ⟩
     ·rcases q2 with q2|⟨q2,Ϝ⟩
      ·exact H.dis j j' b q1 q2
      ·exact(apart j b q1 Ϝ).elim
     ·rcases q2 with q2|⟨q2,Ϝ⟩
      ·exact(apart j' b q2 ϛ).elim
      ·rw[q1,q2]
    ·rcases za j kvs.length with hj|hj|hj
     ·rw[gh hj] at e1;exact bP (H.kv j kv d e1 e2) λz1 z2 z3=>⟨z1,z2,(z3.mono λb o hb e=>by refine dU (H.pin j b hb) λ_ y2 y3 y4 y5=>?_;exact JM b o y4<|kept b o y5 y2 y3 e).up λ_ q=>.inl q⟩
     ·subst hj;rw[gj<|bv _,uv] at e1;replace e1:=si e1;subst e1;rw[H.len,GD] at e2;replace e2:=si e2;subst e2;exact⟨rfl,EQ,(hr'.mono λb o hb e=>JM b o (ό b<|BR b hb).2.2.1 e).up λ_ q=>.inr ⟨H.len,q⟩⟩
     ·rw[dg<|by rw[k_];exact hj] at e1;exact ns e1
end
open Classical in
def JU(h:mj)(pn:f_->Prop):mj:={h with objs:=h.objs.mapIdx λi o=>if pn i then {o with data:=.freed} else o}
theorem Go(h:mj){b:f_}(hb:pn b):(JU h pn).get? b=á:=by
 unfold JU Heap.get?;rw[xg];cases h.objs[b]? with
 |none=>rfl
 |some o=>simp[hb]
theorem sR(h:mj){b:f_}(hb:¬pn b):(JU h pn).get? b=h.get? b:=by
 unfold JU Heap.get?;rw[xg];cases h.objs[b]? with
 |none=>rfl
 |some o=>simp[hb]
structure KE(pn:f_->Prop)(s s':c_):Prop where
 same:∃h t,s'={s with heap:=h,toks:=t}
 keep:∀b o,¬pn b->s.heap.get? b=à o->s'.heap.get? b=à o
 live:∀b,pn b->(∃o,s.heap.get? b=à o)->∃o,s'.heap.get? b=à o
theorem KE.on(x:KE pn s s')(sh:∃h t,s''={s with heap:=h,toks:=t})(hk:∀b o,(∃o,s.heap.get? b=à o)->s'.heap.get? b=à o->s''.heap.get? b=à o):KE pn s s'':=
 ⟨sh,λb o n e=>hk b o ⟨o,e⟩<|x.keep b o n e,λb hb hl=>by refine Zs (x.live b hb hl) λo e=>?_;exact⟨o,hk b o hl e⟩⟩
theorem KE.tr(hp:∀b,pn' b->pn b)(x:KE pn s s')(y:KE pn' s' s''):KE pn s s'':=by
 obtain⟨⟨h,t,rfl⟩,k,v⟩:=x;obtain⟨⟨h',t',rfl⟩,k',v'⟩:=y;refine⟨⟨h',t',rfl⟩,λb o n e=>k' b o (λq=>n<|hp b q)<|k b o n e,λb hb hl=>?_⟩
 by_cases BN:pn' b
 ·exact v' b BN<|v b hb hl
 ·exact Zs (v b hb hl) λo e=>⟨o,k' b o BN e⟩
theorem Kp.same(y:Kp s s'):∃h t,s'={s with heap:=h,toks:=t}:=by refine cL y λh t e _=>?_;exact⟨h,t,e⟩
theorem Gp(x:∃h t,s'={s with heap:=h,toks:=t})(y:∃h t,s''={s' with heap:=h,toks:=t}):∃h t,s''={s with heap:=h,toks:=t}:=by refine bM x λh t zq=>?_;subst x zq;refine bM y λh' t' zq=>?_;subst y zq;exact⟨h',t',rfl⟩
theorem K.nil(k:K [] s s'):Kp s s':=by obtain⟨h,t,rfl,kk,_⟩:=k;exact⟨h,t,rfl,λb o e=>kk b o (λf=>nomatch f) e⟩
theorem Wp{k:d_}:∀{kvs:List<|Str×b_} {i:Nat},(kvs.map (·.1)).Nodup->kvs[i]?=à (k,v)->valueAt kvs k=à v:=by
 intro kvs;induction kvs with
 |nil=>intro i _ h;exact ns h
 |cons p r ih=>
  intro i hn h;refine zj (bh.mp<|show(p.1::r.map (·.1)).Nodup from hn) λn1 n2=>?_;unfold valueAt;cases i with
  |zero=>replace h:=si h;subst hn n1 h;rw[List.find?_cons_of_pos<|by simp];rfl
  |succ i=>rw[List.find?_cons_of_neg<|by simpa using (λe=>n1<|by rw[e];exact(ba.mpr ⟨(k,v),bq h,rfl⟩))];exact ih n2 h
section
theorem Act.rebase{sb:c_}(X:Act l env sc jx jw σ av s)(k:K l sb jw)(st:∀b o,base.get? b=à o->sb.heap.get? b=à o)(fr:∀b,z_ l b->∃o,sb.heap.get? b=à o):Act l env sc jx sb σ av s:=
 {X with stay0:=st,fr0:=λb h=>⟨(X.fr0 b h).1,fr b h⟩,k0:=k.tr X.k0,fresh:=λb h=>⟨(X.fresh b h).1,k.CG (X.fresh b h).2.1,(X.fresh b h).2.2⟩,ownA:=λx a h=>⟨(X.ownA x a h).1,k.CG (X.ownA x a h).2.1,(X.ownA x a h).2.2⟩}
theorem Act.q0Q(X:Act l env sc jx jw σ av s)(hn:∀x v,zm σ x≠à (à v))(hl:∀b,pn b->∃o,s.heap.get? b=à o)(hM:∀b,pn b->¬Mn env b):Act l env sc (λb=>jx b\/pn b) jw σ (λb=>av b\/pn b) s:=by
 have IJ:∀{P:Prop} z a,bY env σ s.heap z a->P:=λz a h=>by refine zj h λzt _=>?_;obtain⟨d,e⟩:=zt;exact absurd e<|hn z _
 exact {X with inv:={X.inv with gnd:=X.inv.gnd.grow hl,get:=λx v _ hg=>absurd hg (hn x v)},fr0:=λb h=>⟨.inl (X.fr0 b h).1,(X.fr0 b h).2⟩,bas:=λb h=>h.imp (X.bas b) id,fresh:=λb h=>⟨.inl (X.fresh b h).1,(X.fresh b h).2.1,λq=>q.elim (X.fresh b h).2.2 λq=>hM b q h⟩,ownA:=λx a h=>IJ x a h,ownI:=λx y a h=>IJ x a h}
def ϳ(ad:f_)(n:Nat):Prop:=
 ∀(A:mz) (l:List nt) (s:c_) (av pn:f_->Prop) (v:b_) (d:a_),AI n ã l A->CQ l av s->(∀b,pn b->base.get? b=á/\¬av b/\∃o,s.heap.get? b=à o)->Dp s.heap pn v d->bJ n d=â ->
  ∀{Q:b_->c_->Prop} {E:b_->c_->Prop},(∀s',KE pn s s'->Dp s'.heap pn v (emp d)->Q .none s')->i' (i_ O w) A (call (.ref ad) [v]) Q E s
inductive WV(h:mj)(pn:f_->Prop)(v:b_)(ds:List<|PyData×a_):Prop where
 |mk (a:f_) (kvs:List<|Str×b_) (f:Nat->f_->Prop) (hv:v=.ref a) (h1:pn a) (h2:h.DictOf (mc O w) a kvs) (h3:kvs.length<=g_/\∀kv∈kvs,kv.1.length<=g_) (h4:(a==mw)=ã) (h5:ds.map (·.1)=kvs.map (λkv=>l_ kv.1)) (h6:∀i b,f i b->pn b/\b≠a) (h7:∀i j b,f i b->f j b->i=j)
  (h8:∀(i:Nat) (kv:d_×b_) (d:a_×a_),kvs[i]?=à kv->ds[i]?=à d->Dp h (f i) kv.2 d.2):WV h pn v ds
theorem Dp.inv{ds:List<|PyData×a_}(r:Dp h pn v<|.dict ds):WV h pn v ds:=by
 cases r with
 |dict f h1 h2 h3 h4 h5 h6 h7 h8=>exact⟨_,_,f,rfl,h1,h2,h3,h4,h5,h6,h7,h8⟩
structure ϴ(l:List nt)(env:nt)(sc:mh)(av pn:f_->Prop)(sv s:c_)(P X:d_)(m:List<|PyData×a_)(a:f_)(kvs:List<|Str×b_)(f:Nat->f_->Prop)(wr zx:f_->Prop)(h0:mj)(St:Nat->mj->Prop)(i:Nat)(σ:aA)(st:c_):Prop where
 act:Act l env sc (λb=>(av b\/pn b)\/wr b) sv σ (λb=>(zx b\/pn b)\/wr b) st
 gX:∃v0,zm σ X=à v0
 var:aW env st.heap P (.ref a)
 sti:St i st.heap
 old:∀b o,h0.get? b=à o->¬(zx b\/pn b)->st.heap.get? b=à o
 dic:st.heap.DictOf (mc O w) a kvs
 ke:KE pn s st
 kid:∀(j:Nat) (kv:d_×b_) (d:a_×a_),i<=j->kvs[j]?=à kv->m[j]?=à d->Dp st.heap (f j) kv.2 d.2
theorem Wq{P X:d_}{p q r:oi}{k:d_}{t:vg}(I:AW l env sc σ av s)(lP:AV sc P=â)(lX:AV sc X=â)(hP:aW env s.heap P<|.ref a)(hX:aW env s.heap X<|.str k t)(hd:s.heap.DictOf (mc O w) a kvs)(hv:valueAt kvs k=à v)
  {Q:b_->c_->Prop} {E:b_->c_->Prop} (hq:Q v {s with toks:=s.toks+1}):i' (i_ O w) A (eval (.Subscript (.Name P p) (.Name X q) r) env) Q E s:=
 rZ ⟨_,λ_ _=>wC rfl⟩ (dE I lP hP<|dE I lX hX ⟨⟨"dict",_,hd.typeIs,F.slot_dict_getitem.lookup⟩,wpAny_getItem_of (fL k t) hd.mapOf hv hq⟩)
end
section
theorem Wr{a:nb}{b:List me}(CN:cX m O.main.body=à (a,b,sc))(ed:IP m a b sc)(hm:mg m=à (.ref ad)):∀n,ϳ ad n:=by
 intro n;induction n with
 |zero=>exact λA l s av pn v d _ _ _ _ hc=>zk hc
 |succ n ih=>
  intro A l s av pn v d hA G GF hD hc Q E hq;refine kG (G.glo.fn m a b sc CN) λQE o pm JT doc g1 g2 g3 g4=>?_;rw[hm] at g1;replace g1:=nr<|si g1;subst g1;obtain⟨P,X,p1,p2,p3,p4,p5,p6,p7,p8,p9,q1,q2,q3,q4,q5,q6,q7,q9,EF,ap,cp,ML,CB,FQ,gi,gd,gl,gm,lX,ne,nm,eb⟩:=ed;have r:=hD.rep λb hb=>(GF b hb).2.1;refine xV CN hm FQ CB hA G r λenv jv zx σ EE Y FS MU lP hP KA q1F UZ=>?_
  revert CN hm ih hA G GF hD hc hq g3 g4 g2 ML CB FQ gi gd gl gm lX ne nm eb r;revert pm JT doc P X p1 p2 p3 p4 p5 p6 p7 p8 p9 q1 q2 q3 q4 q5 q6 q7 q9 EF ap cp env jv zx σ EE;ext ad sc m a b n A l s av pn v d Q E o;revert q3 q4 q5 q6 q7 q9 EF ap cp env jv zx σ EE;ext pm JT doc P X p1 p2 p3 p4 p5 p6 p7 p8 p9 q1 q2;ext q3 q4 q5 q6 q7 q9 EF ap cp env jv zx σ EE
  rw[eb];refine bb<|wpAny_If<|wpAny_isTrue_value (fh<|eT Y.inv gi rfl (gU rfl (bf (dE Y.inv lP MU<|bf (eT Y.inv gd rfl (cc<|(Ek (A:=A.deeper env) (s:=jv) (av:=av)<|r.keeps FS.heap).1 _ _ λtk=>cx ?_)) rfl) rfl))) rfl;replace Y:=Y.k<|K.of<|BK jv tk;replace FS:Kp s {jv with toks:=tk}:=FS.tr<|BK jv tk;replace MU:aW env ({jv with toks:=tk}:c_).heap P v:=MU;generalize ({jv with toks:=tk}:c_)=jv at Y FS MU ⊢;cases xE hc with
  |int i=>exact ce<|ce<|hq _ ⟨FS.same,λb o _ e=>FS.heap b o e,λb _ hl=>by refine Zs hl λo e=>?_;exact⟨o,FS.heap b o e⟩⟩<|hD.mono λb o _ e=>FS.heap b o e
  |dict ms=>
  obtain⟨da,kvs,f,zq,h1,h2,h3,h4,h5,h6,h7,h8⟩:=hD.inv;subst hD zq;obtain hX:zm (hide σ P) X=à á:=by rw[kX,KA X ne lX];simp[ne]
  obtain q1G:∀x v,zm (hide σ P) x≠à (à v):=λx v hg=>by
   rw[kX] at hg;refine aD (az.mp hg) λo' e1 e2=>?_
   by_cases hx:P=x
   ·rw[if_pos hx] at e2;exact ns e2
   ·rw[if_neg hx] at e2;subst e2;exact q1F x v hx e1
  have EN:=hA.deeper env;have PM:∀b,pn b->¬Mn env b:=λb hb hM=>by obtain⟨_,_,o,e⟩:=GF b hb;rw[(Y.fresh b hM).2.1] at e;exact ns e
  obtain npF:∀b,pn b->¬z_ (env::l) b:=λb hb hf=>by
   rcases(mR Y.frm).mp hf with hf|hf
   ·exact PM b hb<|.inl hf
   ·exact(GF b hb).2.1<|G.fav b hf
  have ϔ:∀b,pn b->∃o,jv.heap.get? b=à o:=λb hb=>by obtain⟨_,_,o,e⟩:=GF b hb;exact⟨o,FS.heap b o e⟩
  have kv:K l {s with heap:=JU s.heap pn} s:=K.of ⟨s.heap,s.toks,rfl,λb o e=>by
   by_cases hb:pn b
   ·rw[Go _ hb] at e;exact ns e
   ·rw[sR _ hb] at e;exact e⟩
  obtain Yb:=Y.rebase kv (λb o e=>(sR _ λhb=>by rw[(GF b hb).1] at e;exact ns e).trans (G.stay b o e)) λb hb=>by exact lU (Y.fr0 b hb) λ_ o e=>⟨o,(sR _ λq=>(GF b q).2.1<|G.fav b hb).trans e⟩
  have Z:=(Yb.hide P).q0Q (pn:=pn) q1G ϔ PM;refine bb<|wpAny_For (og rfl (eT Z.inv gl rfl (jS (.inr ⟨_,rfl⟩)<|dE Z.inv lP MU ?_))) λx=>rfl;refine Yd.fin (Eu (EN.handled rfl)<|r.keeps FS.heap) (k:=Zt) (fin:=.ok<|.own<|.list<|ms.map (·.1)) ⟨rfl,nofun⟩ λvL jy u hL e=>zj hL λk2 rL=>?_;obtain rfl:u=.own (.list<|ms.map (·.1)):=by injection e
  refine bN rL λaL zq nL bL=>?_;subst hL rL zq;obtain⟨vs,pl,ln,z,rr⟩:=(bL:SJ jy.heap _ aL _)
  obtain q1Z:Zu jy.heap (λb=>zx b\/pn b) (.ref aL)<|.list<|ms.map (·.1):=by
   refine .list (λq=>?_) pl ln z λi v d e1 e2=>?_
   ·rcases q with q|q
    ·refine Zs (Y.inv.gnd.avlt _ q) λo e=>?_;rw[nL] at e;exact ns e
    ·refine Zs (ϔ _ q) λo e=>?_;rw[nL] at e;exact ns e
   ·have rd:=rr i v d e1 e2;rw[h5,lz] at e2;refine aD (az.mp e2) λkv _ zq=>?_;subst e2 zq;obtain⟨t,zq,hk⟩:=rd.str_inv;subst e1 rd zq;exact .str _ _ hk
  refine E9 (l:=[]) (target:=.Name X p5) (K.rf [] jy) (EN.handled rfl) q1Z (show items (.list<|ms.map (·.1))=.ok (ms.map (·.1)) from rfl) λΕ kc x=>?_;obtain⟨kt,wr,St,k6,S,AP,BA,k7,_⟩:=x;have VT:=k2.tr<|K.nil k6;have W1:=Z.k<|K.of VT;have nw:∀b,wr b->¬Mn env b/\¬z_ (env::l) b/\¬pn b/\s.heap.get? b=á/\(JU s.heap pn).get? b=á:=λb h=>by refine dU (W1.CY (BA b h).1) λw1 w2 w3 w4 w5=>?_;have hp:¬pn b:=λe=>w2<|.inr e;exact⟨w1,w5,hp,(sR _ hp).symm.trans w4,w4⟩
  have PH:=(FS.tr VT).tr k7;have fl:∀{st:c_},KE pn s st->∀b,pn b->∃o,st.heap.get? b=à o:=λ{st} ke b hb=>ke.live b hb (GF b hb).2.2;refine Gn S UZ (λi st=>∃σ,ϴ l env sc av pn {s with heap:=JU s.heap pn} s P X ms da kvs f wr zx kt.heap St i σ st) (λi st h=>by refine Zs h λ_ h=>?_;exact h.sti) (λst h' tk h hk=>?_) (λi st dk K' h v IY DZ hk1 FK GI E'=>?_)
   ⟨_,(W1.pin (S:=wr) (K.of k7) (λb hb=>(BA b hb).1) λb hb=>(BA b hb).2),⟨_,hX⟩,MU.keeps (VT.tr k7).heap,AP,λb o e _=>k7.heap b o e,DictOf.at' h2 λo e=>PH.heap _ o e,⟨PH.same,λb o _ e=>PH.heap b o e,λb _ hl=>by refine Zs hl λo e=>?_;exact⟨o,PH.heap b o e⟩⟩,λj kv d _ e1 e2=>(h8 j kv d e1 e2).mono λb o _ e=>PH.heap b o e⟩
  ·refine Zs h λσ' H=>?_;have V:=(H.act.weaken (jx:=λb=>av b\/pn b) (λb hb=>.inl hb) λb hb=>.inl (Y.fr0 b hb).1).HN (S:=wr) (av':=λb=>((zx b\/pn b)\/wr b)/\¬wr b) (h':=h') (tk:=tk) (λb hb=>.inr hb) (λb hb=>(nw b hb).2.2.2.2) (λb hb hw=>(nw b hw).1 hb) (λz c o hw=>(H.act.ownA z c o).2.2.1<|.inr hw) hk (λb hb=>hb.1) (λb hb hw=>⟨hb,hw⟩) (λb hb hw=>absurd hw hb.2) (λb hb=>⟨hb.elim (λhb=>.inl<|.inl<|Y.bas b hb) λhb=>.inl<|.inr hb,λhw=>hb.elim (λhb=>?_) λhb=>(nw b hw).2.2.1 hb⟩)
   ·obtain hv:=H.var.kept λb o hb e=>hk b o (λhw=>(nw b hw).1 hb) e;have QJ:=DictOf.at' H.dic λo e=>hk da o (λhw=>(nw da hw).2.2.1 h1) e;refine bb<|gv (gt (sE rfl "clear" env) (mM rfl (ay _) cp env) ML<|dE V.inv lP hv ⟨"dict",_,oz,F.slot_dict_clear,F.type_dict_clear,QJ.typeIs,wZ QJ,gU rfl (cc<|call_meetsIn F.slot_dict_clear QJ.typeIs F.entry_dict_clear (F.args_dict_clear_1 _) (meets_dict_clear (mc O w) da) ⟨kvs,QJ,h3.1,λDU GA KC=>?_⟩)⟩) (by unfold sd;rw[V.inv.kind];rfl) rfl;refine ce<|ce<|hq _ ?_<|.dict (λ_ _=>False) h1 GA ⟨ay _,λ_ h=>cB h⟩ h4 rfl (λ_ _ h=>h.elim) (λ_ _ _ h=>h.elim) λi kv d e1 _=>ns e1;obtain ke1:KE pn s {st with heap:=h',toks:=tk}:=H.ke.on (Gp H.ke.same ⟨h',tk,rfl⟩) λb o hl e=>hk b o (λhw=>by refine Zs hl λo' e'=>?_;rw[(nw b hw).2.2.2.1] at e';exact ns e') e;refine ke1.tr (pn':=pn) (λ_ q=>q) ⟨⟨DU,tk,rfl⟩,λb o hb e=>by show DU.get? b=_;rw[KC.2 b λq=>hb<|q▸h1];exact e,λb hb hl=>?_⟩
    by_cases ZF:b=da
    ·exact dN GA λo es ep e' _=>⟨o,ZF▸e'⟩
    ·exact Zs hl λo e=>⟨o,by show DU.get? b=_;rw[KC.2 b ZF];exact e⟩
   ·exact dU (W1.CY (BA b hw).1) λ_ _ w3 _ _=>w3<|.inl hb
  ·refine Zs h λσ' H=>?_;rw[lz] at K';refine AN λΘ θ=>aD (az.mp K') λmd GD zq=>?_;subst K' zq;obtain⟨kv,ED,UP⟩:∃kv,kvs[i]?=à kv/\l_ kv.1=md.1:=by
    have e1:(ms.map (·.1))[i]?=à md.1:=by rw[lz,GD];rfl
    rw[h5,lz] at e1;exact az.mp e1
   obtain⟨k,cv⟩:=kv;obtain X1:Act l env sc (λb=>(av b\/pn b)\/wr b) {s with heap:=JU s.heap pn} σ' (λb=>(zx b\/pn b)\/wr b) {st with heap:=IY,toks:=DZ}:=
    H.act.HN (S:=wr) (λb hb=>.inr hb) (λb hb=>(nw b hb).2.2.2.2) (λb hb hw=>(nw b hw).1 hb) (λz c o hw=>(H.act.ownA z c o).2.2.1<|.inr hw) hk1 (λb hb=>hb) (λb hb _=>hb) (λb _ hw=>S.live _ _ FK b hw) H.act.bas
   have rv:=GI (λb=>(zx b\/pn b)\/wr b) H.act.inv.gnd.avlt λb o e hb=>hb.elim id λhb=>by rw[(BA b hb).1] at e;exact ns e
   rw[<- UP] at rv;obtain⟨t,zq,EQ⟩:=rv.str_inv;subst GI rv zq;refine Zs H.gX λv0 gX=>θ ?_;refine fi<|X1.put gX (show cM (env::l) IY _ (.str k t) (.fz<|.str k) from .str k t EQ) (λ_ _ e=>nomatch e) λs2 Y2 f2 VE DV=>?_;have kept:∀b o,¬wr b->¬Mn env b->st.heap.get? b=à o->s2.heap.get? b=à o:=λb o h1 h2 e=>f2 b o h2<|hk1 b o h1 e;have pk:∀b o,pn b->st.heap.get? b=à o->s2.heap.get? b=à o:=λb o hb e=>kept b o (λhw=>(nw b hw).2.2.1 hb) (PM b hb) e;have hP2:=DV P _ ne<|H.var.kept λb o hb e=>hk1 b o (λhw=>(nw b hw).1 hb) e;have qG:=DictOf.at' H.dic λo e=>pk da o h1 e;have ϟ:∃h t,s2={s with heap:=h,toks:=t}:=by obtain⟨h,t,e,_⟩:=Y2.k0;exact⟨h,t,e⟩
   have ke2:=H.ke.on ϟ λb o hl e=>kept b o (λhw=>by refine Zs hl λo' e'=>?_;rw[(nw b hw).2.2.2.1] at e';exact ns e') (λhM=>by refine Zs hl λo' e'=>?_;rw[(λ{b} hb=>(Y.fresh b hb).2.1) hM] at e';exact ns e') e;obtain QW:zm (BQ σ' X<|.fz<|.str k) X=à (à<|.fz<|.str k):=by rw[aA.get_set,if_pos rfl,gX];rfl
   have old2:∀b o,kt.heap.get? b=à o->¬(zx b\/pn b)->s2.heap.get? b=à o:=λb o e hb=>f2 b o (λmn=>hb<|.inl (Y.fresh b mn).1)<|hk1 b o (λhw=>by rw[(BA b hw).1] at e;exact ns e)<|H.old b o e hb;obtain q1Q:∀(j:Nat) (kv:d_×b_) (d:a_×a_),i+1<=j->kvs[j]?=à kv->ms[j]?=à d->Dp s2.heap (f j) kv.2 d.2:=λj kv d hj e1 e2=>(H.kid j kv d (zb hj) e1 e2).mono λb o hb e=>pk b o (h6 j b hb).1 e;refine bb<|gv (fh<|iP Y2.inv gm hm<|Calls.callWith_function (o:=o) (fd:=o_ m a b sc pm JT doc)<|mK rfl (bf (Wq Y2.inv lP ((sQ lX).1) hP2 VE qG (Wp (mS h2) ED)<|cc ⟨⟨Y2.inv.gnd.stay _ _ g2,g3⟩,?_⟩) rfl)) (by unfold sd;rw[Y2.inv.kind];rfl) rfl;have Y4:=Y2.k<|K.of<|BK s2<|s2.toks+1;obtain hce:=ak.mp (hc:(ms.all λp=>bJ n p.2)=â) _<|bq GD;refine ih (A.deeper env) (env::l) {s2 with toks:=s2.toks+1} (λb=>((zx b\/pn b)\/wr b)/\¬f i b) (f i) cv md.2 EN {Y4.inv.gnd with fav:=λb hb=>⟨.inl<|.inl<|Y.inv.gnd.fav b hb,λq=>(λb hb=>npF b (h6 i b hb).1) b q hb⟩,avlt:=λb hb=>Y4.inv.gnd.avlt b hb.1,avS:=⟨.inl<|.inl Y.inv.gnd.avS,λq=>?_⟩} (λb hb=>⟨(GF b (h6 i b hb).1).1,λq=>q.2 hb,ke2.live b (h6 i b hb).1 (GF b (h6 i b hb).1).2.2⟩) ((H.kid i _ _ (bv _) ED GD).mono λb o hb e=>pk b o (h6 i b hb).1 e) hce λs5 ke5 _=>?_
   ·refine eH G.glo.mods λmm oo es ep e' _=>?_;rw[(GF _ (h6 i _ q).1).1] at e';exact ns e'
   ·obtain⟨⟨YZ,t5,rfl⟩,k5,v5⟩:=ke5;refine ce ⟨_,(Y4.HN (S:=f i) (h':=YZ) (tk:=t5) (λb hb=>.inl<|.inr (h6 i b hb).1) (λb hb=>Go _ (h6 i b hb).1) (λb hb q=>PM b (h6 i b q).1 hb) (λz c o q=>(Y4.ownA z c o).2.2.1<|.inl<|.inr (h6 i c q).1) (λb o hb e=>k5 b o hb e) (λ_ h=>h) (λ_ h _=>h) (λb _ q=>v5 b q<|ke2.live b (h6 i b q).1 (GF b (h6 i b q).1).2.2) Y4.bas),⟨_,QW⟩,hP2.kept λb o hb e=>k5 b o (λq=>PM b (h6 i b q).1 hb) e,S.frame _ _ _ (S.frame _ _ _ FK (λb o hw e=>f2 b o (nw b hw).1 e) λb o e hb=>f2 b o (λmn=>hb<|.inl (Y.fresh b mn).1)<|hk1 b o (λhw=>by rw[(BA b hw).1] at e;exact ns e)<|H.old b o e hb) (λb o hw e=>k5 b o (λq=>(nw b hw).2.2.1 (h6 i b q).1) e) λb o e hb=>k5 b o (λq=>hb<|.inr (h6 i b q).1)<|old2 b o e hb,λb o e hb=>k5 b o (λq=>hb<|.inr (h6 i b q).1)<|old2 b o e hb,DictOf.at' qG λo e=>k5 da o (λq=>(h6 i da q).2 rfl) e,?_,λj kv d hj e1 e2=>(q1Q j kv d hj e1 e2).mono λb o hb e=>k5 b o (λq=>?_) e⟩
    ·exact(ke2.on (s'':={s2 with toks:=s2.toks+1}) (Gp ϟ ⟨s2.heap,s2.toks+1,rfl⟩) λb o _ e=>e).tr (λb q=>(h6 i b q).1) ⟨⟨YZ,t5,rfl⟩,k5,v5⟩
    ·have:=h7 i j b q hb;omega
end
section
variable {ju:List nt}{P:f_->Prop}
structure FX(ju:List nt)(env:nt)(jx:f_->Prop)(jw:c_)(av:f_->Prop)(P:f_->Prop):Prop where
 new:∀b,P b->jw.heap.get? b=á/\¬Mn env b/\¬z_ (env::ju) b/\¬jx b/\¬av b
 fr0:∀b,z_ ju b->jx b
 bas:∀b,jx b->av b
 fav:∀b,z_ (env::ju) b->av b
 mn:∀b,Mn env b->av b
 avS:av mw
abbrev CZ(ju:List nt)(env:nt)(sc:mh)(jx:f_->Prop)(jw:c_)(σ:aA)(av:f_->Prop)(P:f_->Prop)(s:c_):Prop:=Act ju env sc (λb=>jx b\/P b) jw σ (λb=>av b\/P b) s
theorem Act.drop(U:FX ju env jx jw av P)(H:CZ ju env sc jx jw σ av P s):Act ju env sc jx jw σ av s:=by
 refine {H with inv:={H.inv with gnd:={H.inv.gnd with fav:=U.fav,avlt:=λb h=>H.inv.gnd.avlt b<|.inl h,avS:=U.avS},get:=λx v hl hg=>?_},fr0:=λb h=>⟨U.fr0 b h,(H.fr0 b h).2⟩,bas:=U.bas,fresh:=λb h=>⟨U.mn b h,(H.fresh b h).2.1,λq=>(H.fresh b h).2.2<|.inl q⟩,ownA:=λx a h=>?_}
 ·exact aD (H.inv.get x v hl hg) λu h1 h2=>⟨u,h1,h2.KF (λ_ _ _ e=>e) (λb _ _ h=>.inl h) λ_ _ _ _ _ e=>e⟩
 ·exact fO (H.ownA x a h) λq1 q2 q3 q4=>⟨q1.resolve_right λq=>q3<|.inr q,q2,λq=>q3<|.inl q,q4⟩
theorem Act.PU(L:Act ju env sc jx jw σ av s)(hx:zm σ x=à á)(hv:aW env s.heap x v)(r:Zu s.heap av v d):Act ju env sc jx jw (BQ σ x<|.fz d) av s:=by
 have back:∀z a,bY env (BQ σ x<|.fz d) s.heap z a->bY env σ s.heap z a:=λz a h=>by
  refine zj h λzt hv=>?_;obtain⟨e,hg⟩:=zt
  by_cases hz:z=x
  ·subst hx h hv hz;cases oX hg
  ·exact⟨⟨e,jT hz hg⟩,hv⟩
 refine {L with inv:={L.inv with get:=λz u hl hg=>?_},names:=λz u h=>?_,ownA:=λz a h=>L.ownA z a<|back z a h,ownI:=λz z' a h1 h2=>L.ownI z z' a (back z a h1) (back z' a h2)}
 ·by_cases hz:z=x
  ·subst hx back hz;cases oX hg;exact⟨v,hv,r⟩
  ·exact L.inv.get z u hl<|jT hz hg
 ·exact Zs (xF h) λv0 e=>L.names z v0 e
theorem CZ.assoc(H:Act ju env sc (λb=>(jx b\/P1 b)\/P2 b) jw σ (λb=>(av b\/P1 b)\/P2 b) s):CZ ju env sc jx jw σ av (λb=>P1 b\/P2 b) s:=by unfold CZ;rw[<- (funext λb=>propext or_assoc),<- (funext λb=>propext or_assoc)];exact H
theorem Ws{p:oi}(h:iN e=ã):qj e (à<|.Name x p) line env=pure ã:=by
 refine Zs (Fx (env:=env) e x p line) λb hb=>?_;cases b with
 |false=>exact hb
 |true=>have:=Fy hb;rw[h] at this;exact zk this
theorem FX.add(U:FX ju env jx jw av P)(H:CZ ju env sc jx jw σ av P s)(hn:∀b,S b->s.heap.get? b=á):FX ju env jx jw av (λb=>P b\/S b):=
 {U with new:=λb hb=>hb.elim (U.new b) λhb=>by refine dU (H.CY<|hn b hb) λz1 z2 z3 z4 z5=>?_;exact⟨z4,z1,z5,λq=>z3<|.inl q,λq=>z2<|.inl q⟩}
theorem CZ.add(H:CZ ju env sc jx jw σ av P s)(k:K (env::ju) s s')(hn:∀b,S b->s.heap.get? b=á)(hl:∀b,S b->∃o,s'.heap.get? b=à o):CZ ju env sc jx jw σ av (λb=>P b\/S b) s':=CZ.assoc<|H.pin k hn hl
def Kb(ju:List nt)(env:nt)(N:f_->Prop)(s s':c_):Prop:=∀b o,¬N b->¬Mn env b->¬z_ (env::ju) b->s.heap.get? b=à o->s'.heap.get? b=à o
theorem Kb.k{N:f_->Prop}(k:K (env::ju) s s'):Kb ju env N s s':=λ_ _ _ _ n e=>k.at n e
theorem Kb.put{N:f_->Prop}(f:∀b o,¬Mn env b->s.heap.get? b=à o->s'.heap.get? b=à o):Kb ju env N s s':=λb o _ m _ e=>f b o m e
theorem Kb.tr{N:f_->Prop}(x:Kb ju env N s s')(y:Kb ju env N' s' s''):Kb ju env (λb=>N b\/N' b) s s'':=λb o n m f e=>y b o (λq=>n<|.inr q) m f<|x b o (λq=>n<|.inl q) m f e
theorem Kb.wk{N:f_->Prop}(h:∀b,N b->N' b)(x:Kb ju env N s s'):Kb ju env N' s s':=λb o n m f e=>x b o (λq=>n<|h b q) m f e
theorem Kb.dp{N:f_->Prop}(U:FX ju env jx jw av P)(hp:∀b,pn b->P b/\¬N b)(x:Kb ju env N s s')(r:Dp s.heap pn v d):Dp s'.heap pn v d:=
 r.mono λb o hb e=>x b o (hp b hb).2 (U.new b (hp b hb).1).2.1 (U.new b (hp b hb).1).2.2.1 e
def Sq(h:mj)(a:f_)(vs:List b_):Prop:=h.PlainList a vs.toArray\/DH h a vs.toArray
theorem Sq.at{vs:List b_}(x:Sq h a vs)(hk:∀o,h.get? a=à o->h'.get? a=à o):Sq h' a vs:=x.imp (λx=>nc x hk) λx=>x.at hk
theorem Kb.sq{N:f_->Prop}{vs:List b_}(U:FX ju env jx jw av P)(hp:P a/\¬N a)(x:Kb ju env N s s')(r:Sq s.heap a vs):Sq s'.heap a vs:=
 r.at λo e=>x a o hp.2 (U.new a hp.1).2.1 (U.new a hp.1).2.2.1 e
def jV(a:Bool)(k:Int)(n j:Nat):Prop:=(0<=k/\k<n/\j=k.toNat)\/(a=â/\k<0/\-(n:Int)<=k/\j=(k+n).toNat)
theorem Wt{vs:List b_}{k:Int}{t:vg}(hs:s.heap.PlainList a vs.toArray/\jV ã k vs.length j\/DH s.heap a vs.toArray/\jV â k vs.length j)(hz:vs.length<=g_)(hv:vs[j]?=à v)(hq:Q v s):
  wP s (.ref a)/\i' (i_ O w) A (pv (.ref a)<|.int k t) Q E s:=by
 ext a A j s v E Q vs k t
 have CL:=nh;rcases hs with ⟨hp,⟨h1,h2,rfl⟩|⟨h,_⟩⟩|⟨hp,⟨h1,h2,rfl⟩|⟨_,h1,h2,rfl⟩⟩
 ·exact⟨⟨"list",_,hp.isList.typeIs,rc⟩,wpAny_getItem_list hp.isList h1 (mJ ⟨h1,h2⟩ hz).2 (by simpa using hv) hq⟩
 ·exact zk h
 ·refine⟨⟨"tuple",_,hp.GK.typeIs,slot_tuple_getitem.lookup⟩,?_⟩;exact Zs hp λn hp=>P.getItem_tuple hp (mJ ⟨h1,h2⟩ hz).1 (mJ ⟨h1,h2⟩ hz).2 (k:=k.toNat) (seqIndex_of h1<|by simpa using h2) (by simpa using hv) hq
 ·refine⟨⟨"tuple",_,hp.GK.typeIs,slot_tuple_getitem.lookup⟩,?_⟩;exact Zs hp λn hp=>P.getItem_tuple hp (by omega) (by omega) (k:=(k+vs.length).toNat) (PySem.seqIndex_neg h1<|by simpa using h2) (by simpa using hv) hq
theorem Wu{k:Int}{x:Unit}(h:fK k u=.ok x):u=.fz (.int k):=by
 unfold fK at h;cases u with
 |fz d=>
  cases d with
  |int i=>
   replace h:(if à i=à k then P.ok () else .no)=.ok x:=h
   by_cases hc:à i=à k
   ·rw[si hc]
   ·rw[if_neg hc] at h;exact zz h
  |_=>exact zz h
 |_=>exact zz h
theorem Gq{vs:List b_}{fin:R V}(h:∀σ e,aJ n hd (env::ju) sc σ e<|ev σ e)(hA:AI n hd (env::ju) A)(U:FX ju env jx jw av P)(H:CZ ju env sc jx jw σ av P s)(hx:zm σ x=à á)(hv:aW env s.heap x<|.ref a)(OA:P a)
  (hs:s.heap.PlainList a vs.toArray/\jV ã ki vs.length j\/DH s.heap a vs.toArray/\jV â ki vs.length j) (hz:vs.length<=g_) (O_:vs[j]?=à v) (hb:zr ie=ã) (hf:rb (ev σ ie) (λv6=>rb (Zy<|fK ki v6) λ_=>rest)=fin) (zh:fin≠.no) {Q:b_->c_->Prop} {E:b_->c_->Prop}
  (hq:∀s',K (env::ju) s s'->rest=fin->Q v s') (he:∀x v s',fin=.exc x->D_ ju env jw jx x v s'->E v s'):i' (i_ O w) A (eval (.Subscript (.Name x p2) ie p3) env) Q E s:=by
 refine rZ ⟨_,λ_ _=>wC hb⟩<|dE H.inv (H.names x _ hx).1 hv<|(h σ ie).st hA H hf zh (λvi jy u k2 r2 e2=>?_) λx v s' e f=>he x v s' e<|f.weaken λ_ h=>.inl h;obtain⟨_,hi,e3⟩:=cR e2 zh;replace hi:=Wu hi;subst e2 hi;refine Zs ((r2:Zu jy.heap _ vi<|.int ki).int_inv) λt zq=>?_;subst r2 zq;have ka:∀o,s.heap.get? a=à o->jy.heap.get? a=à o:=λo e=>k2.at (U.new a OA).2.2.1 e;exact Wt (hs.imp (λq=>⟨nc q.1 ka,q.2⟩) λq=>⟨q.1.at ka,q.2⟩) hz O_<|hq jy k2 e3
theorem TM{st:me}{vs:List b_}{fin:R V}(h:∀σ e,aJ n C.hd (env::ju) sc σ e<|ev σ e)(hh:C.hd=ã)(hA:AI n C.hd (env::ju) A)(U:FX ju env jx jw av P)(H:CZ ju env sc jx jw σ av P s)(hx:zm σ x=à á)(hv:aW env s.heap x<|.ref a)(OA:P a)
  (hs:s.heap.PlainList a vs.toArray/\jV ã ki vs.length j\/DH s.heap a vs.toArray/\jV â ki vs.length j) (hz:vs.length<=g_) (O_:vs[j]?=à v) (hb:zr ie=ã) (hsub:∀b,pn b->P b) (hD:Dp s.heap pn v d) (hc:bJ n d=â) (gm:AL sc m=â) (hm:HQ (IP m) O.main.body m) (hE:KL st m x ie)
  (hf:rb (ev σ ie) (λv6=>rb (Zy<|fK ki v6) λ_=>rest)=fin) (zh:fin≠.no) {Q:uy->c_->Prop} {E:b_->c_->Prop}
  (hn:∀s',CZ ju env sc jx jw σ av P s'->Kb ju env pn s s'->(∀z u,aW env s.heap z u->aW env s'.heap z u)->Dp s'.heap pn v (emp d)->rest=fin->Q .next s') (he:∀x v s',fin=.exc x->D_ ju env jw jx x v s'->E v s'):i' (i_ O w) A (exec st env) Q E s:=by
 obtain⟨a',b,zo,CN,FA⟩:=hm;refine kG (H.inv.gnd.glo.fn m a' b zo CN) λad o pm cdd doc f1 f2 f3 f4=>?_;obtain⟨p1,p2,p3,p4,p5,rfl⟩:=hE;refine gv (fh<|iP H.inv gm f1<|Calls.callWith_function (o:=o) (fd:=o_ m a' b zo pm cdd doc)<|mK rfl (bf (Gq h hA U H hx hv OA hs hz O_ hb hf zh (λjy k2 e2=>cc ⟨⟨(H.k k2).inv.gnd.stay _ _ f2,f3⟩,?_⟩) he) rfl)) (by unfold sd;rw[H.inv.kind];rfl) rfl;have H2:=H.k k2;have pl:∀b,pn b->∃o,jy.heap.get? b=à o:=λb hb=>H2.inv.gnd.avlt b<|.inr<|hsub b hb;obtain bn:∀b,pn b->base.get? b=á:=λb hb=>by refine zn (base.get? b) id λo e=>?_;have:=H.stay0 b o e;rw[(U.new b<|hsub b hb).1] at this;exact ns this
 refine(Wr CN FA f1 n) A (env::ju) jy (λb=>(av b\/P b)/\¬pn b) pn v d (hh▸hA) {H2.inv.gnd with fav:=λb hb=>⟨.inl<|U.fav b hb,λq=>(U.new b<|hsub b q).2.2.1 hb⟩,avlt:=λb hb=>H2.inv.gnd.avlt b hb.1,avS:=⟨.inl U.avS,λq=>(U.new _<|hsub _ q).2.2.2.2 U.avS⟩} (λb hb=>⟨bn b hb,λq=>q.2 hb,pl b hb⟩) (hD.mono λb o hb e=>k2.at (U.new b<|hsub b hb).2.2.1 e) hc λs' ke D'=>?_;obtain⟨⟨h',t',rfl⟩,kk,vv⟩:=ke;exact hn _ (H2.HN (S:=pn) (h':=h') (tk:=t') (λb hb=>.inr<|hsub b hb) (λb hb=>(U.new b<|hsub b hb).1) (λb hb q=>(U.new b<|hsub b q).2.1 hb) (λz c o q=>(H2.ownA z c o).2.2.1<|.inr<|hsub c q) (λb o hb e=>kk b o hb e) (λ_ h=>h) (λ_ h _=>h) (λb _ q=>vv b q<|pl b q) H2.bas) (λb o hp _ hf e=>kk b o hp<|k2.at hf e) (λz u h=>(h.k k2).kept λb o hb e=>kk b o (λq=>(U.new b<|hsub b q).2.1 hb) e) D' e2
theorem ap5{z:h_}{aw:f_}{vs:List b_}{fin:R V}{p1:oi}(h:∀σ e,aJ n hd (env::ju) sc σ e<|ev σ e)(hA:AI n hd (env::ju) A)(U:FX ju env jx jw av P)(H:CZ ju env sc jx jw σ av P s)(hx:zm σ x=à á)(hv:aW env s.heap x<|.ref a)(OA:P a)
  (hs:s.heap.PlainList a vs.toArray/\jV ã ki vs.length j\/DH s.heap a vs.toArray/\jV â ki vs.length j) (hz:vs.length<=g_) (O_:vs[j]?=à (.ref aw)) (hb:zr ie=ã) (UK:zr z=ã) (ML:(ap.endLine==cp.line)=â) (IZ:P aw) (hL:∃xs,s.heap.PlainList aw xs/\xs.size<=g_)
  (hf:rb (ev σ ie) (λv6=>rb (Zy<|fK ki v6) λ_=>rb (ev σ z) λ_=>rest)=fin) (zh:fin≠.no) {Q:uy->c_->Prop} {E:b_->c_->Prop}
  (hn:∀s',CZ ju env sc jx jw σ av P s'->Kb ju env (λb=>b=aw) s s'->rest=fin->Q .next s') (he:∀x v s',fin=.exc x->D_ ju env jw jx x v s'->E v s'):i' (i_ O w) A (exec (.Expr (.Call (.Attribute (.Subscript (.Name x p1) ie p2) "append" ap) [z] [] cp) p3) env) Q E s:=by
 refine aD hL λxs hL GJ=>gv (gt (sE rfl "append" env) (mM (as:=[z]) (by show(zr z||false)=ã;rw[UK];rfl) (show 1<=3 by decide) cp env) ML<|Gq h hA U H hx hv OA hs hz O_ hb hf zh (λjv k1 e1=>?_) he) (by unfold sd;rw[H.inv.kind];rfl) rfl;have UG:=nc hL λo e=>k1.at (U.new aw IZ).2.2.1 e;have H1:=H.k k1;refine⟨"list","list.append",rz,F.slot_list_append,by kernel_rfl,UG.isList.typeIs,λb hb=>by cases hb;refine Zs UG λnn e=>?_;exact⟨_,e,rfl⟩,gU (by show(zr z||false)=ã;rw[UK];rfl)<|bf ((h σ z).st hA H1 e1 zh (λvz jy uz k2 r2 e2=>cc ?_) (λx v s' e f=>he x v s' e<|f.weaken λc h=>.inl h))<|eD UK⟩;have H2:=H1.k k2;refine jp (nc UG λo e=>k2.at (U.new aw IZ).2.2.1 e) (λh' OV AZ=>?_) GJ;exact hn _ (H2.HN (S:=λb=>b=aw) (h':=h') (tk:=jy.toks) (λb hb=>.inr<|hb▸IZ) (λb hb=>(U.new b<|hb▸IZ).1) (λb hb q=>(U.new b<|q▸IZ).2.1 hb) (λz c o q=>(H2.ownA z c o).2.2.1<|.inr<|q▸IZ) (λb o hb e=>(AZ.2 b hb).trans e) (λ_ h=>h) (λ_ h _=>h) (λb _ q=>by refine Zs OV λ_ e=>?_;exact⟨_,q▸e⟩) H2.bas) (λb o hb _ hf e=>(AZ.2 b hb).trans (k2.at hf<|k1.at hf e)) e2
end
theorem Wv{l:List a_}(h:rJ u=.ok l):u=.dp (.tuple l):=by
 cases u with
 |dp d=>
  cases d with
  |tuple m=>obtain rfl:=pi h;rfl
  |_=>exact zz h
 |_=>exact zz h
theorem sS{v:V}(h:x≠y)(hx:zm σ x=à á):zm (BQ σ y v) x=à á:=by rw[aA.get_set,if_neg h];exact hx
section
variable {ju:List nt}{P:f_->Prop}
inductive WX(h:mj)(pn:f_->Prop)(v:b_)(ds:List a_):Prop where
 |mk (a:f_) (vs:List b_) (f:Nat->f_->Prop) (hv:v=.ref a) (h1:pn a) (h2:DH h a vs.toArray) (h3:vs.length=ds.length) (h4:vs.length<=g_) (h6:∀i b,f i b->pn b/\b≠a) (h7:∀i j b,f i b->f j b->i=j) (h8:∀(i:Nat) (v:b_) (d:a_),vs[i]?=à v->ds[i]?=à d->Dp h (f i) v d):WX h pn v ds
theorem Dp.parts(r:Dp h pn v<|.tuple ds):WX h pn v ds:=by
 cases r with
 |tuple f h1 h2 h3 h4 h6 h7 h8=>exact⟨_,_,f,rfl,h1,h2,h3,h4,h6,h7,h8⟩
structure LN(env:nt)(P1 P2:f_->Prop)(hn:d_)(a:f_)(v1 v2:b_)(d1 d2:a_)(h:mj):Prop where
 var:aW env h hn (.ref a)
 lst:h.PlainList a [v1,v2].toArray
 p1:Dp h P1 v1 d1
 p2:Dp h P2 v2 d2
theorem LN.mv{N:f_->Prop}(U:FX ju env jx jw av P)(H:LN env P1 P2 hn a v1 v2 d1 d2 s.heap)(x:Kb ju env N s s')(h0:P a/\¬N a)(h1:∀b,P1 b->P b/\¬N b)(h2:∀b,P2 b->P b/\¬N b)(hv:aW env s.heap hn (.ref a)->aW env s'.heap hn (.ref a)):LN env P1 P2 hn a v1 v2 d1 d2 s'.heap:=
 ⟨hv H.var,nc H.lst λo e=>x a o h0.2 (U.new a h0.1).2.1 (U.new a h0.1).2.2.1 e,x.dp U h1 H.p1,x.dp U h2 H.p2⟩
theorem LN.rep(H:LN env P1 P2 hn a v1 v2 d1 d2 h)(h0:¬av a)(h1:∀b,P1 b->¬av b)(h2:∀b,P2 b->¬av b):Zu h av (.ref a)<|.list [d1,d2]:=by
 refine .list h0 H.lst rfl (by show 2<=g_;decide) λi v d e1 e2=>?_;cases i with
 |zero=>obtain rfl:=si e1;obtain rfl:=si e2;exact H.p1.rep h1
 |succ i=>
 cases i with
 |zero=>obtain rfl:=si e1;replace e2:=si e2;subst e2;exact H.p2.rep h2
 |succ i=>exact ns e1
theorem Ww(FA:∀m,C.emp m=â->HQ (IP m) O.main.body m)(GC:C.fu=n)(hh:C.hd=ã){q:HS}{s9 MZ:me}{l3:List a_}{d3:a_}(h:∀σ e,aJ n C.hd (env::ju) sc σ e<|ev σ e)(ht:∀σ e,cD n C.hd (env::ju) sc σ e<|ev σ e)(h9:KL s9 q.m q.fn q.i9)(JX:PY MZ q.c10 q.fn q.i q.z q.ap q.cp)
  (b9:zr q.i9=ã) (bi:zr q.i=ã) (bz:zr q.z=ã) (ML:(q.ap.endLine==q.cp.line)=â) (gm:AL sc q.m=â) (cem:C.emp q.m=â)
  {A:mz} (hA:AI n C.hd (env::ju) A) (U:FX ju env jx jw av P) (H:CZ ju env sc jx jw σ av P s) (hy:zm σ q.fn=à á) (hv:aW env s.heap q.fn v3) (hP2:∀b,P2 b->P b) (D:Dp s.heap P2 v3<|.tuple l3) (LB:l3.getLast?=à d3)
  {kn:KN} {fin:R V} {Q:uy->c_->Prop} {E:b_->c_->Prop} (hf:C8 ev C.fu σ q l3 d3 kn=fin) (zh:fin≠.no)
  (hn:∀s',CZ ju env sc jx jw σ av P s'->Kb ju env P2 s s'->kn σ=fin->i' (i_ O w) A (execs q.rest env) Q E s') (he:∀x v s',fin=.exc x->D_ ju env jw jx x v s'->E v s'):i' (i_ O w) A (execs (s9::MZ::q.rest) env) Q E s:=by
 refine AN λΘ θ=>zj (fR hf zh) λZG hf=>?_;rw[GC] at ZG;obtain⟨a,vs,f,zq,h1,h2,h3,h4,h6,h7,h8⟩:=D.parts;subst D zq;obtain q1D:l3≠[]:=λe=>by rw[e] at LB;exact ns LB
 have KB:=List.length_pos_iff.mpr q1D;obtain q1A:l3[l3.length - 1]?=à d3:=by rw[<- List.getLast?_eq_getElem?];exact LB
 obtain⟨vl,VH⟩:∃vl,vs[l3.length - 1]?=à vl:=⟨_,ai<|by exact Ow h3 KB⟩
 apply θ;refine bb<|TM (pn:=f<|l3.length - 1) h hh hA U H hy hv (hP2 _ h1) (.inr ⟨h2,.inr ⟨rfl,by exact Ox,by exact Oy h3 KB,by exact Oz h3⟩⟩) h4 VH b9 (λb hb=>hP2 b (h6 _ b hb).1) (h8 _ _ _ VH q1A) ZG gm (FA _ cem) h9 hf zh (λjv H1 PD vk1 De e1=>?_) he;have pt:∀i v d,i≠l3.length - 1->vs[i]?=à v->l3[i]?=à d->Dp jv.heap (f i) v d:=λi v d hi g1 g2=>PD.dp U (λb hb=>⟨hP2 b (h6 i b hb).1,λq=>hi<|h7 _ _ b hb q⟩)<|h8 i v d g1 g2;have tp:=h2.at λo e=>PD a o (λq=>(h6 _ a q).2 rfl) (U.new a<|hP2 a h1).2.1 (U.new a<|hP2 a h1).2.2.1 e;have na:∀b,P2 b->¬av b:=λb hb=>(U.new b<|hP2 b hb).2.2.2.2;have lx:=(H.names q.fn _ hy).1;have MT:=vk1 _ _ hv;have L1:=(H1.drop U).PU (d:=.tuple<|l3.dropLast++[emp d3]) hy MT (.tuple (na a h1) tp (by rw[k_,jb];show vs.length=l3.length - 1+1;exact O0 h3 KB) h4 λi v d g1 g2=>?_)
 ·obtain⟨p1,p2,p3,p4,rfl⟩:=JX;refine bb<|wpAny_If<|ht _ q.c10 A env jv av hA L1.inv ⟨e1,zh⟩ (λNK jy k2 e2=>?_) λx v s' e f=>he x v s' e<|L1.up f;have H2:=H1.k k2;have Λ:=(PD.tr<|Kb.k (N:=P2) k2).wk λb hb=>hb.elim (λhb=>(h6 _ b hb).1) id;cases NK with
  |false=>exact ce<|hn jy H2 Λ e2
  |true=>
   refine AN λΘ θ=>zj (fR (e2:C7 ev σ q l3 (kn σ)=fin) zh) λzt e2=>?_;obtain⟨g1,g2⟩:=zt;obtain⟨d1,J_⟩:∃d,l3[1]?=à d:=⟨_,ai<|by exact O1 g2⟩
   rw[J_] at g1;obtain⟨ws,rfl⟩:∃ws,d1=.list ws:=by
    cases d1 with
    |list ws=>exact⟨ws,rfl⟩
    |_=>exact zk g1
   obtain⟨vw,φ⟩:∃v,vs[1]?=à v:=⟨_,ai<|by exact O2 h3 g2⟩
   obtain Dw:=pt 1 vw _ (by exact O3 g2) φ J_;obtain⟨aw,xs,rfl,BF,DL,GJ⟩:∃aw xs,vw=.ref aw/\f 1 aw/\jv.heap.PlainList aw xs/\xs.size<=g_:=by
    cases Dw with
    |list g k1 k2 k3 k4=>exact⟨_,_,rfl,k1,k2,by simpa using k4⟩
   apply θ;have IZ:=hP2 aw (h6 1 aw BF).1;refine bb<|ap5 (ki:=1) (j:=1) h hA U H2 hy (MT.k k2) (hP2 a h1) (.inr ⟨(tp.at λo e=>k2.at (U.new a<|hP2 a h1).2.2.1 e),.inl ⟨by decide,by exact O4 h3 g2,rfl⟩⟩) h4 φ bi bz ML IZ ⟨xs,nc DL λo e=>k2.at (U.new aw IZ).2.2.1 e,GJ⟩ e2 zh (λkc H3 kb3 e3=>ce<|hn kc H3 ((Λ.tr kb3).wk λb hb=>hb.elim id λhb=>hb▸(h6 1 aw BF).1) e3) he
 ·by_cases hi:i=l3.length - 1
  ·subst hi;rw[VH] at g1;replace g1:=si g1;subst g1;rw[gj (by rw[jb];exact bv _),jb,uv] at g2;replace g2:=si g2;subst g2;exact De.rep λb hb=>na b (h6 _ b hb).1
  ·have zw:i<l3.length - 1:=by
    have:=(bw.mp g2).1;rw[k_,jb] at this;exact O5 hi<|this
   rw[gh (by rw[jb];exact zw),List.getElem?_dropLast,if_pos zw] at g2;exact(pt i v d hi g1 g2).rep λb hb=>na b (h6 _ b hb).1
theorem FV.wp{Q:uy->c_->Prop}{st:me}(w':FV st x e)(hc:iN e=ã)(h:i' (i_ O w) A (eval e env) (λv jv=>i' (i_ O w) A (storeName env x v) (λ_=>Q .next) E jv) E s):i' (i_ O w) A (exec st env) Q E s:=by obtain⟨p,q,rfl⟩:=w';exact wpAny_Assign_Name h<|Ws hc
theorem LS.wp{Q:uy->c_->Prop}{st:me}{c:h_}(w':LS st c)(h:i' (i_ O w) A (isTrue c env<|eval c env) (λb jv=>b=ã/\Q .next jv) E s):i' (i_ O w) A (exec st env) Q E s:=by obtain⟨r,p,q,rfl⟩:=w';refine wpAny_If<|aq h (λb jv x=>?_) λ_ _ x=>x;rw[x.1];exact ce x.2
theorem Wx(FA:∀m,C.emp m=â->HQ (IP m) O.main.body m)(GC:C.fu=n){q:HS}{b:List me}(h:∀σ e,aJ n C.hd (env::ju) sc σ e<|ev σ e)(ht:∀σ e,cD n C.hd (env::ju) sc σ e<|ev σ e)(hb:U5 b q)
  {A:mz} (hA:AI n C.hd (env::ju) A) (X:Act ju env sc jx jw σ av s) {kn:KN} {fin:R V} {Q:uy->c_->Prop} {E:b_->c_->Prop} (hf:TN ev ff C sc σ q kn=fin) (zh:fin≠.no)
  (hn:∀s' σ' av',Act ju env sc jx jw σ' av' s'->Fr (env::ju) jx s av s' av'->kn σ'=fin->i' (i_ O w) A (execs q.rest env) Q E s') (he:∀x v s',fin=.exc x->D_ ju env jw jx x v s'->E v s'):i' (i_ O w) A (execs b env) Q E s:=by
 revert FA GC h ht hb hA X;revert fin Q E;ext av jx C ev env n ff sc s jw σ ju q b A kn;ext fin Q E
 refine AN λΘ θ=>zj (fR hf zh) λzt hf=>?_;obtain⟨⟨c1,c2,c3⟩,⟨c4,c5,c6,c7,c8⟩,⟨c9,c10,c11,c12,c13,c14⟩,c15,c16⟩:=zt;obtain⟨t1,t2,t3,t4,t5,s6,s7,t8,s9,MZ,p2,⟨Ω,ne2,ϊ,ne4,ϋ⟩,w1,w2,w3,w4,w5,h6,h7,w8,h9,JX,rfl⟩:=hb;obtain⟨zx,Y0,hsub⟩:=X.cl<|jP ff q;apply θ;have hx:zm (hide (hide (AB σ<|jP ff q) q.hn) q.fn) q.hn=à á:=U6 (F2<|by rw[aA.NY,ub];exact c15);have hy:zm (hide (hide (AB σ<|jP ff q) q.hn) q.fn) q.fn=à á:=F2 (U4<|by rw[aA.NY,ub];exact c16);have Y:=(Y0.hide q.hn).hide q.fn;generalize hide (hide (AB σ<|jP ff q) q.hn) q.fn=σh at hf hx hy Y;refine bb<|w1.wp rfl (wpAny_List<|bf ((h σh q.a1).st hA Y hf zh (λv1 jv u1 k1 r1 e1=>?_) he)<|eD c4);refine AN λ_ θ=>?_;obtain⟨d1,J_,e1⟩:=cR e1 zh;replace J_:=oR J_;subst J_;obtain⟨P1,n1,l1,D1⟩:=(show CO s jv.heap v1 d1 from r1)
 apply θ;have Z1:CZ ju env sc jx jw σh zx P1 jv:=Y.pin (S:=P1) k1 n1 l1;have U1:FX ju env jx jw zx P1:=⟨λb hb=>by refine dU (Y.CY<|n1 b hb) λz1 z2 z3 z4 z5=>?_;exact⟨z4,z1,z5,z3,z2⟩,λb h=>(Y.fr0 b h).1,Y.bas,Y.inv.gnd.fav,λb h=>(Y.fresh b h).1,Y.inv.gnd.avS⟩
 refine bf ((h σh q.a2).st hA Z1 e1 zh (λv2 jy u2 k2 r2 e2=>cc ⟨by show 2<=g_;decide,?_⟩) λx v s' e f=>he x v s' e<|f.weaken λ_ h=>.inl h)<|eD c5;refine AN λ_ θ=>?_;obtain⟨d2,GA,e2⟩:=cR e2 zh;replace GA:=oR GA;subst GA;obtain⟨P2,n2,l2,D2⟩:=(show CO jv jy.heap v2 d2 from r2)
 apply θ;have Z2:=Z1.add k2 n2 l2;have kT:K (env::ju) jy {jy with heap:=jy.heap.push {cls:=.type "list",data:=.seq [v1,v2].toArray}}:=K.of<|Kp.IL _ _;have nT:∀b,b=jy.heap.objs.size->jy.heap.get? b=á:=λb hb=>hb▸bU _;have Z3:=Z2.add (S:=λb=>b=jy.heap.objs.size) kT nT λb hb=>⟨_,hb▸dA _ _ rfl⟩
 have U3:=(U1.add Z1 n2).add Z2 nT;have P_:(jy.heap.push {cls:=.type "list",data:=.seq [v1,v2].toArray}).PlainList jy.heap.objs.size [v1,v2].toArray:=⟨0,dA _ _ rfl⟩
 have TC:∀b,P1 b->s.heap.get? b=á/\¬P2 b/\b≠jy.heap.objs.size:=λb hb=>⟨n1 b hb,λq=>by refine Zs (l1 b hb) λo e=>?_;rw[n2 b q] at e;exact ns e,λq=>by refine Zs (l1 b hb) λo e=>?_;refine Zs (k2.up e) λ_ e=>?_;rw[q,bU] at e;exact ns e⟩
 have ap3:s.heap.get? jy.heap.objs.size=á:=(k1.tr k2).CG (bU _);generalize jy.heap.objs.size=aH at *;generalize MQ:({jy with heap:=jy.heap.push {cls:=.type "list",data:=.seq [v1,v2].toArray}}:c_)=kc at *;replace P_:kc.heap.PlainList aH [v1,v2].toArray:=MQ▸P_;refine Z3.WD hx λkf H4 f4 ς _=>?_;have H4:CZ ju env sc jx jw σh zx (λb=>(P1 b\/P2 b)\/b=aH) kf:=H4;have Μ:Kb ju env (λ_=>False) s kf:=(((Kb.k (N:=λ_=>False) k1).tr (Kb.k (N:=λ_=>False) k2)).tr ((Kb.k (N:=λ_=>False) kT).tr (Kb.put (N:=λ_=>False) f4))).wk λb hb=>by simpa using hb
 have g1:∀b,P1 b->((P1 b\/P2 b)\/b=aH)/\¬False:=λb hb=>⟨.inl<|.inl hb,id⟩
 have g2:∀b,P2 b->((P1 b\/P2 b)\/b=aH)/\¬False:=λb hb=>⟨.inl<|.inr hb,id⟩
 have T4:LN env P1 P2 q.hn aH v1 v2 d1 d2 kf.heap:=⟨ς,nc P_ λo e=>f4 aH o (U3.new aH<|.inr rfl).2.1 e,(Kb.put (N:=λ_=>False) f4).dp U3 g1 ((Kb.k (N:=λ_=>False) kT).dp U3 g1 ((Kb.k (N:=λ_=>False) k2).dp U3 g1 D1)),(Kb.put (N:=λ_=>False) f4).dp U3 g2 ((Kb.k (N:=λ_=>False) kT).dp U3 g2 D2)⟩
 clear Z1 Z2 Z3 D1 D2 P_ ς r1 r2 MQ kT nT f4;refine bb<|w2.wp c6<|(h σh q.e2).st hA H4 e2 zh (λvd lf ud k5 r5 e5=>?_) λx v s' e f=>he x v s' e<|f.weaken λ_ h=>.inl h;refine AN λ_ θ=>?_;obtain⟨σ2,Α,e5⟩:=cR e5 zh;obtain⟨v0,hg,rfl⟩:=gV Α;apply θ;refine(H4.k k5).put hg (v:=.fz<|Zp ud) (r5.rep H4.inv.gnd.avlt:cM (env::ju) lf.heap _ vd<|.fz<|Zp ud) (λ_ _ e=>nomatch e) λkt H6 f6 _ τ=>?_;have H6:CZ ju env sc jx jw (BQ σh q.dn<|.fz<|Zp ud) zx (λb=>(P1 b\/P2 b)\/b=aH) kt:=H6;have VP:Kb ju env (λ_=>False) kf kt:=((Kb.k (N:=λ_=>False) k5).tr (Kb.put (N:=λ_=>False) f6)).wk λb hb=>by simpa using hb
 have T6:=T4.mv U3 VP ⟨.inr rfl,id⟩ g1 g2 λhv=>τ q.hn _ Ω<|hv.k k5;have VQ:=(Μ.tr VP).wk (N':=λ_=>False) λb hb=>by simpa using hb
 replace hx:=sS (v:=.fz<|Zp ud) Ω hx;replace hy:=sS (v:=.fz<|Zp ud) ne4 hy;generalize BQ σh q.dn (.fz<|Zp ud)=σ2 at H6 e5 hx hy;clear T4 Μ VP τ f6 r5 H4 k5 hg Α Y;have na:∀b,((P1 b\/P2 b)\/b=aH)->¬zx b:=λb hb=>(U3.new b hb).2.2.2.2;have L6:=(H6.drop U3).PU hx T6.var (T6.rep (na aH<|.inr rfl) (λb hb=>na b<|.inl<|.inl hb) λb hb=>na b<|.inl<|.inr hb);refine bb<|w3.wp c7<|(h _ q.e3).st hA L6 e5 zh (λv3 lm u3 k7 r7 e7=>?_) he;refine AN λ_ θ=>?_;obtain⟨l3,LB,e7⟩:=cR e7 zh;replace LB:=Wv LB;subst LB;obtain⟨P3,n3,l3',D3⟩:=(show CO kt lm.heap v3 (.tuple l3) from r7)
 apply θ;have Z7:=H6.add k7 n3 l3';have U7:=U3.add H6 n3;have TD:∀b,P3 b->s.heap.get? b=á/\¬((P1 b\/P2 b)\/b=aH):=λb hb=>by
  refine dU (H6.CY<|n3 b hb) λz1 z2 z3 z4 z5=>⟨zn (s.heap.get? b) id λo e=>?_,λq=>z2<|.inr q⟩
  have:=VQ b o id z1 z5 e;rw[n3 b hb] at this;exact ns this
 refine Z7.WD hy λlb H8 f8 hv8 χ=>?_;have H8:CZ ju env sc jx jw σ2 zx (λb=>((P1 b\/P2 b)\/b=aH)\/P3 b) lb:=H8;have VR:Kb ju env (λ_=>False) kt lb:=((Kb.k (N:=λ_=>False) k7).tr (Kb.put (N:=λ_=>False) f8)).wk λb hb=>by simpa using hb
 have G1:∀b,P1 b->(((P1 b\/P2 b)\/b=aH)\/P3 b)/\¬False:=λb hb=>⟨.inl<|.inl<|.inl hb,id⟩
 have G2:∀b,P2 b->(((P1 b\/P2 b)\/b=aH)\/P3 b)/\¬False:=λb hb=>⟨.inl<|.inl<|.inr hb,id⟩
 have G3:∀b,P3 b->(((P1 b\/P2 b)\/b=aH)\/P3 b)/\¬False:=λb hb=>⟨.inr hb,id⟩
 have T8:=T6.mv U7 VR ⟨.inl<|.inr rfl,id⟩ G1 G2 λhv=>χ q.hn _ ne2<|hv.k k7;have D8:Dp lb.heap P3 v3<|.tuple l3:=(Kb.put (N:=λ_=>False) f8).dp U7 G3 D3;have Ν:=(VQ.tr VR).wk (N':=λ_=>False) λb hb=>by simpa using hb
 clear T6 VQ VR χ f8 r7 H6 k7 L6 Z7 D3 na;have na:∀b,(((P1 b\/P2 b)\/b=aH)\/P3 b)->¬zx b:=λb hb=>(U7.new b hb).2.2.2.2;have L8:=(H8.drop U7).PU hx T8.var (T8.rep (na aH<|.inl<|.inr rfl) (λb hb=>na b (G1 b hb).1) λb hb=>na b (G2 b hb).1);refine bb<|w4.wp c8<|(h _ q.e4).st hA L8 e7 zh (λv4 lp u4 k9 r9 e9=>?_) he;refine AN λ_ θ=>?_;obtain⟨d4,UM,f9⟩:=cR e9 zh;replace UM:=oR UM;subst e9 UM;obtain⟨σ4,Β,g9⟩:=cR f9 zh;obtain⟨v0',ZO,rfl⟩:=gV Β;apply θ;refine(H8.k k9).put ZO (v:=.fz d4) (CO.rep H8.inv.gnd.avlt r9:cM (env::ju) lp.heap _ v4<|.fz d4) (λ_ _ e=>nomatch e) λlc LM YR _ VD=>?_;have LM:CZ ju env sc jx jw (BQ σ2 q.an<|.fz d4) zx (λb=>((P1 b\/P2 b)\/b=aH)\/P3 b) lc:=LM;have RQ:Kb ju env (λ_=>False) lb lc:=((Kb.k (N:=λ_=>False) k9).tr (Kb.put (N:=λ_=>False) YR)).wk λb hb=>by simpa using hb
 have QC:=T8.mv U7 RQ ⟨.inl<|.inr rfl,id⟩ G1 G2 λhv=>VD q.hn _ ϊ<|hv.k k9;have WQ:=RQ.dp U7 G3 D8;have RM:aW env lc.heap q.fn v3:=VD q.fn _ ϋ<|hv8.k k9;have Ι:=(Ν.tr RQ).wk (N':=λ_=>False) λb hb=>by simpa using hb
 replace hx:=sS (v:=.fz d4) ϊ hx;replace hy:=sS (v:=.fz d4) ϋ hy;generalize BQ σ2 q.an (.fz d4)=σ4 at LM g9 hx hy;clear T8 Ν RQ VD YR r9 H8 k9 L8 D8 ZO Β hv8;unfold C9 at g9;have SS:=(LM.drop U7).PU hx QC.var (QC.rep (na aH<|.inl<|.inr rfl) (λb hb=>na b (G1 b hb).1) λb hb=>na b (G2 b hb).1);refine bb<|w5.wp<|ht _ q.c5 A env lc zx hA SS.inv ⟨g9,zh⟩ (λb5 s11 JL QK=>?_) λx v s' e f=>he x v s' e<|SS.up f;cases b5 with
 |true=>exact absurd (QK:R.no=fin).symm zh
 |false=>
 refine⟨rfl,?_⟩;have W_:CZ ju env sc jx jw σ4 zx (λb=>((P1 b\/P2 b)\/b=aH)\/P3 b) s11:=LM.k JL;have KP:=QC.mv U7 (Kb.k (N:=λ_=>False) JL) ⟨.inl<|.inr rfl,id⟩ G1 G2 λhv=>hv.k JL;have WR:=(Kb.k (N:=λ_=>False) JL).dp U7 G3 WQ;replace RM:=RM.k JL;have Κ:=(Ι.tr<|Kb.k (N:=λ_=>False) JL).wk (N':=λ_=>False) λb hb=>by simpa using hb
 clear QC Ι LM SS WQ JL;refine AN λΘ θ=>zj (fR (QK:(if bJ C.fu d1=â/\bJ C.fu d2=â then _ else R.no)=fin) zh) λzt QK=>?_;obtain⟨o1,o2⟩:=zt;apply θ;rw[GC] at o1 o2;refine bb<|TM (pn:=P1) (vs:=[v1,v2]) (j:=0) h c1 hA U7 W_ hx KP.var (.inl<|.inr rfl) (.inl ⟨KP.lst,.inl ⟨by decide,(by decide:(0:Int)<2),rfl⟩⟩) (by show 2<=g_;decide) rfl c9 (λb hb=>(G1 b hb).1) KP.p1 o1 c3 (FA _ c2) h6 QK zh (λs12 XA PE vk12 _ e12=>?_) he;have WS:=PE.dp U7 (λb hb=>⟨.inr hb,λq=>(TD b hb).2<|.inl<|.inl q⟩) WR;have q2:=PE.dp U7 (λb hb=>⟨.inl<|.inl<|.inr hb,λq=>(TC b q).2.1 hb⟩) KP.p2;have ϕ:s12.heap.PlainList aH [v1,v2].toArray:=nc KP.lst λo e=>PE aH o (λq=>(TC aH q).2.2 rfl) (U7.new aH<|.inl<|.inr rfl).2.1 (U7.new aH<|.inl<|.inr rfl).2.2.1 e;refine bb<|TM (pn:=P2) (vs:=[v1,v2]) (j:=1) h c1 hA U7 XA hx (vk12 _ _ KP.var) (.inl<|.inr rfl) (.inl ⟨ϕ,.inl ⟨by decide,(by decide:(1:Int)<2),rfl⟩⟩) (by show 2<=g_;decide) rfl c10 (λb hb=>(G2 b hb).1) q2 o2 c3 (FA _ c2) h7 e12 zh (λϞ XB VO ϥ _ e13=>?_) he;have WT:=VO.dp U7 (λb hb=>⟨.inr hb,λq=>(TD b hb).2<|.inl<|.inr q⟩) WS;have ρ:=ϥ _ _<|vk12 _ _ RM;obtain PD:Kb ju env (λb=>P1 b\/P2 b) s Ϟ:=((Κ.tr PE).tr VO).wk λb hb=>by rcases hb with (hb|hb)|hb;exact hb.elim;exact .inl hb;exact .inr hb
 clear KP WR WS Κ PE VO W_ XA RM ϕ q2 vk12 ϥ;have XF:=(XB.drop U7).PU hy ρ (WT.rep λb hb=>na b<|.inr hb);refine bb<|w8.wp<|ht _ q.c8 A env Ϟ zx hA XF.inv ⟨e13,zh⟩ (λb8 s14 RP QL=>?_) λx v s' e f=>he x v s' e<|XF.up f;cases b8 with
 |true=>exact absurd (QL:R.no=fin).symm zh
 |false=>
 refine⟨rfl,?_⟩;refine AN λ_ θ=>?_;obtain⟨d3,OI,QL⟩:=cR (QL:rb (Zy<|AT l3.getLast?) _=fin) zh;apply θ;refine Ww FA GC c1 h ht h9 JX c11 c12 c13 c14 c3 c2 hA U7 (XB.k RP) hy (ρ.k RP) (λb hb=>.inr hb) ((Kb.k (N:=λ_=>False) RP).dp U7 G3 WT) (T9 OI) QL zh (λs' H' kb' e=>?_) he;obtain kb:Kb ju env (λb=>(P1 b\/P2 b)\/P3 b) s s':=((PD.tr<|Kb.k (N:=λ_=>False) RP).tr kb').wk λb hb=>by rcases hb with (hb|hb)|hb;exact .inl hb;exact hb.elim;exact .inr hb
 have nw:∀b,(((P1 b\/P2 b)\/b=aH)\/P3 b)->s.heap.get? b=á:=λb hb=>by
  rcases hb with ((hb|hb)|hb)|hb
  ·exact(TC b hb).1
  ·exact((λb hb=>⟨k1.CG<|n2 b hb,λq=>by refine Zs (l2 b hb) λo e=>?_;rw[q,bU] at e;exact ns e⟩:∀b,P2 b->s.heap.get? b=á/\b≠jy.heap.objs.size) b hb).1
  ·exact hb▸ap3
  ·exact(TD b hb).1
 have keep:∀b o,¬Mn env b->¬z_ (env::ju) b->s.heap.get? b=à o->s'.heap.get? b=à o:=λb o m f e=>kb b o (λq=>by rw[nw b<|q.elim (λq=>.inl<|.inl q) .inr] at e;exact ns e) m f e;exact hn s' σ4 _ (H'.weaken (λ_ hb=>.inl hb) U1.fr0) ⟨λb o e n=>keep b o (λm=>n (X.fresh b m).1) (λf=>n<|X.inv.gnd.fav b f) e,λb o e hb=>hb.elim (hsub b) λhb=>by rw[nw b hb] at e;exact ns e,λb o hb f e=>keep b o (λm=>(X.fresh b m).2.2 hb) f e⟩ e
theorem Wz(FA:∀m,C.emp m=â->HQ (IP m) O.main.body m)(GC:C.fu=n){rec:me->aA->KN->KR->R V}(h:∀σ e,aJ n C.hd (env::ju) sc σ e<|ev σ e)(ht:∀σ e,cD n C.hd (env::ju) sc σ e<|ev σ e):
  ∀{b:List me} {σ:aA},(∀st σ,bF n C.hd ju env sc jw σ (exec st env)<|rec st σ)->bF n C.hd ju env sc jw σ (execs b env) (oJ ev ff C sc rec b σ):=by
 intro b;induction b with
 |nil=>exact λ_ jx A s av hA X _ _ _ _ _ hf zh hp hn hr he=>ce<|hn s _ av X (Fr.rf _ s av) hf
 |cons st r ih=>
  intro σ hb jx A s av hA X kn kr fin Q E hf zh hp hn hr he;replace hf:(match SA (st::r) with | some q=>TN ev ff C sc σ q (λσ=>IU rec q.rest σ kn kr) | none=>rec st σ (λσ=>oJ ev ff C sc rec r σ kn kr) kr)=fin:=hf;refine zn (SA<|st::r) (λhq=>?_) λq hq=>?_
  ·rw[hq] at hf;refine bb<|hb st σ jx A s av hA X hf zh hp (λs' σ' av' Y fr e=>?_) (λv s' u k r e=>hr v s' u k r e) he;exact ih hb jx A s' av' hA Y e zh hp (λs'' σ'' JS Z NW e'=>hn s'' σ'' JS Z (fr.tr NW) e') hr he
  ·rw[hq] at hf;refine Wx FA GC h ht (Qp hq) hA X hf zh (λs' σ' av' Y fr e=>?_) he;exact oY (b:=q.rest) (λst _ σ=>hb st σ) jx A s' av' hA Y e zh hp (λs'' σ'' JS Z NW e'=>hn s'' σ'' JS Z (fr.tr NW) e') hr he
end
section
variable {ju:List nt}
theorem Gr{k:Nat}(h:zr e=â):BC C k sc σ e=.no:=by
 cases k with
 |zero=>rfl
 |succ k=>exact xC h
theorem W0(hK:DG n C)(FA:∀m,C.emp m=â->HQ (IP m) O.main.body m)(GC:C.fu=n)(N_:DG n C')(FP:C'.hd=â){k:Nat}{rec:me->aA->KN->KR->R V}(ih:∀σ st,bF n C.hd ju env sc jw σ (exec st env)<|rec st σ)(σ:aA)(st:me):
  bF n C.hd ju env sc jw σ (exec st env) (Da (BC C (k+1) sc) (BC C' (k+1) sc) F C sc rec st σ):=by
 revert hK FA GC N_ FP ih;ext C C' env n F sc jw ju k rec σ st
 have h:∀σ e,aJ n C.hd (env::ju) sc σ e (BC C (k+1) sc σ e):=λσ e=>(fA hK (k+1) sc σ e).1;have h':∀σ e,aJ n â (env::ju) sc σ e (BC C' (k+1) sc σ e):=λσ e=>FP▸(fA N_ (k+1) sc σ e).1;have zv:∀σ e,zr e=â->BC C (k+1) sc σ e=.no:=λσ e hb=>Gr hb;cases st with
 |Return o pos=>
  cases o with
  |none=>exact λjx A s av hA X _ _ _ _ _ hf zh hp hn hr he=>wpAny_Return_none<|hr _ _ (.fz .none) X.k0 .none hf
  |some e=>exact Ue λσ=>h σ e
 |Assign ts e pos=>
  cases ts with
  |nil=>exact bF.no
  |cons t r=>
   cases r with
   |nil=>exact U0 (rec:=BC C k) (λ_ _ _ hb=>Gr hb) rfl (λsc σ e=>fA hK k sc σ e) h
   |cons=>exact bF.no
 |Expr e pos=>exact U2 zv h
 |If t b o pos=>exact Ug (fA hK (k+1) sc _ t).2 (oY λst _ σ=>ih σ st)<|oY λst _ σ=>ih σ st
 |For t it b o pos=>
  cases o with
  |nil=>exact Va zv h λσ=>Wz FA GC h (λσ e=>(fA hK (k+1) sc σ e).2) λst σ=>ih σ st
  |cons=>exact bF.no
 |Raise o c pos=>
  cases o with
  |none=>exact bF.no
  |some e=>
   cases c with
   |none=>exact V8 hK rfl zv h
   |some=>exact bF.no
 |Try b hs o f pos=>
  cases o with
  |cons=>exact bF.no
  |nil=>
   cases f with
   |cons=>exact bF.no
   |nil=>
    show bF n C.hd ju env sc jw σ _ λkn kr=>match rG b hs with
     |some q=>if C.hd then .no else vT (BC C (k+1) sc) (BC C' (k+1) sc) C sc σ q kr
     |none=>.no
    cases hr:rG b hs with
    |none=>exact bF.no
    |some q=>
     cases hh:C.hd with
     |true=>exact bF.no
     |false=>exact Wh hK (λσ e=>hh▸h σ e) (λσ e=>FP▸(fA N_ (k+1) sc σ e).2)<|Ql hr
 |Pass pos=>exact λjx A s av hA X _ _ _ _ _ hf zh hp hn hr he=>wpAny_Pass<|hn _ _ _ X (Fr.rf _ s av) hf
 |_=>exact bF.no
theorem W2(hK:DG n C)(FA:∀m,C.emp m=â->HQ (IP m) O.main.body m)(GC:C.fu=n)(N_:DG n C')(FP:C'.hd=â):∀(k:Nat) (σ:aA) (st:me),bF n C.hd ju env sc jw σ (exec st env) (L' (BC C (j+1) sc) (BC C' (j+1) sc) F C sc k st σ):=by
 intro v0;induction v0 with
 |zero=>intro _ _;exact bF.no
 |succ k ih=>intro σ st;exact W0 hK FA GC N_ FP (λσ st=>ih σ st) σ st
theorem xW(f:d_)(h:(cX f O.main.body).isSome=â):∃a b sc,cX f O.main.body=à (a,b,sc):=by refine Zs (gu.mp h) λzt e=>?_;obtain⟨a,b,sc⟩:=zt;exact⟨a,b,sc,e⟩
theorem W3{m:Nat}(h:oK m hd f us=à d):hd=ã/\kQ f=â/\mF us=à d/\bJ m d=â:=by
 unfold oK at h
 by_cases hc:hd=ã/\kQ f=â
 ·rw[if_pos hc] at h;obtain⟨d',h1,h⟩:=ob h
  by_cases hk:bJ m d'=â
  ·rw[if_pos hk] at h;replace h:=si h;subst h;exact⟨hc.1,hc.2,h1,hk⟩
  ·rw[if_neg hk] at h;exact ns h
 ·rw[if_neg hc] at h;exact ns h
theorem W4(S:NI O.main.body)(h:kQ f=â)(hm:mg f=à (.ref ad)):∀n,sJ ad n:=by
 rcases(p_ _ _).mp h with h|h
 ·obtain⟨a,b,sc,CN,hc⟩:=S.cp;rw[eq_of_beq h] at hm;exact Wl CN hc hm
 ·obtain⟨a,b,sc,CN,hc⟩:=S.cd;rw[eq_of_beq h] at hm;exact Wo CN hc hm
theorem Gs(S:NI O.main.body):∀n hd,DG n<|eC O.main.body n (run O.main.body n hd) hd
 |0,hd=>⟨rfl,rfl,rfl,xW,λf us ad hf hh A l s av vs hA G CB β k fin Q E CC hq he=>CC.no.elim⟩
 |n+1,hd=>by
  refine⟨rfl,rfl,rfl,xW,λf us ad hf hh A l s av vs hA G CB β k fin Q E CC hq he=>?_⟩;refine lO (xW f hh) λa b sc e=>?_;have ih:=Gs S n;replace CC:Fin (match oK (n+1) hd f us with
   |some d=>.ok<|.dp d
   |none=>match cX f O.main.body with
    |none=>.no
    |some (a,b,sc)=>
     if a.args.length=us.length/\jQ a sc=â then
      IU (L' (BC (eC O.main.body n (run O.main.body n hd) hd) dW sc) (BC (eC O.main.body n (run O.main.body n â) â) dW sc) dW (eC O.main.body n (run O.main.body n hd) hd) sc dW) b (e8 (a.args.map (·.arg)) us sc.names) (λ_=>.ok<|.fz .none) .ok
     else .no) k fin:=CC
  refine zn (oK (n+1) hd f us) (λKY=>?_) λd KY=>?_
  case refine_2=>
   rw[KY] at CC;refine fO (W3 KY) λG_ BL hu hck=>?_;replace hu:=Fn hu;subst KY hu;subst hh G_;cases vs with
   |nil=>exact CB.elim
   |cons v vs=>
    refine zj CB λhv VI=>?_;cases vs with
    |cons=>exact VI.elim
    |nil=>exact W4 S BL hf (n+1) A l s av v d hA G hv.1 hck λv' s' kk r=>hq _ _ (.dp d) kk r CC.ok
  rw[KY] at CC;dsimp only at CC;rw[e] at CC;refine zj (Fin.ite CC) λzt CC=>?_;obtain⟨hlen,FQ⟩:=zt;have hok:=Gh FQ;refine kG (G.glo.fn f a b sc e) λQE o pm cd doc g1 g2 g3 g4=>?_;rw[hf] at g1;cases g1;refine bM hok.params λJN IW UY=>vk<|codeAny_call_cells (binds:=(a.args.map (·.arg)).zip vs) (by have:=hA.depth;exact A6 this) (G.stay _ _ g2) g3 (G.glo.nolimit.keeps G.stay) (g4.keeps G.stay) rfl (xN UY rfl (by rw[hlen,CB.len]) hok.anodup) rfl (λx hx=>?_) (λjv AO=>?_) hok.cor hok.gen hok.kind
  ·refine aD (ba.mp (vp hx).1) λar KX e=>?_;rw[<- e];rcases hok.akind ar KX with h|h
   ·exact .inl h
   ·exact .inr ⟨h,mT _ _ _ _<|eK h⟩
  ·refine Zs (Gi rfl G CB hok AO) λzx X=>?_;refine(oY (b:=b) (σ:=e8 (a.args.map (·.arg)) us sc.names) λst _ σ=>W2 (ju:=l) (env:=callEnvC (o_ f a b sc pm cd doc) s.heap.objs.size ad) (sc:=sc) (jw:=s) (F:=dW) (j:=23) (ih hd) (λm h=>(eq_of_beq h:m=_)▸S.em) rfl (ih â) rfl dW σ st) av _ jv zx (hA.deeper _) X rfl CC.ne xd (λs' σ' av' Z _ e1=>?_) (λv s' u k1 r e1=>?_) λx v s' e1 u=>?_
   ·exact hq _ _ (.fz .none) Z.k0 .none<|(e1▸CC:Fin (.ok<|.fz .none) k fin).ok
   ·exact hq _ _ u k1 r<|(e1▸CC:Fin (.ok u) k fin).ok
   ·refine V3 (xh hA.frames) X.frm (X.fresh _<|.inl rfl).2.1 u λs'' fl=>he x _ _ ?_ fl;exact((e1▸CC:Fin (.exc x) k fin).1).symm
end
theorem Gu{l:List d_}:∀{chain:List d_},rO h l chain=â->BW h EY l (oM h chain):=by
 intro v0;induction v0 with
 |nil=>intro _;exact .base
 |cons n r ih=>
  intro e;refine zj (cm.mp (e:((match h.clsAt mu n with | some x=>h.isNs x.2.2.ns&&rN h x.2.2.ns l | none=>ã)&&rO h l r)=â)) λe1 e2=>zn (h.clsAt mu n) (λhc=>?_) λx hc=>?_
  ·simp only[hc] at e1;exact zk e1
  ·obtain⟨a,o,cd⟩:=x;simp only[hc] at e1;refine bP (vr hc) λh1 h2 h3=>zj (cm.mp e1) λf1 f2=>?_;obtain⟨oc,dd,dt,sl⟩:=o;obtain rfl:=h3;show BW h EY l (vV h n::oM h r);unfold vV;rw[h1];exact .own h2 (.of_isNs f1) (λn hn=>Option.isNone_iff_eq_none.mp<|ak.mp f2 n hn)<|ih e2
theorem W5{fd:xq}{ps:List d_}(h:vW fd ps=â):∃sf,SR fd sf ps:=by
 ext fd ps
 unfold vW at h;cases ha:fd.params.args with
 |nil=>rw[ha] at h;exact zk h
 |cons a r=>
  rw[ha] at h;simp only[ml,decide_eq_true_eq,nu,ph,wb] at h;refine zj h λzt UB=>?_;obtain⟨⟨⟨⟨⟨⟨⟨⟨⟨⟨⟨⟨h1,h2⟩,h3⟩,h4⟩,h5⟩,h6⟩,h7⟩,h8⟩,h9⟩,JX⟩,QX⟩,UA⟩,QY⟩:=zt;refine⟨a.arg,?_,?_,h7,h8,h9,JX,QX,xU UA,λx hx=>?_,UB⟩
  ·refine⟨fd.params.args,fd.params.kw_defaults,fd.params.defaults,?_,?_⟩
   ·clear ha h5 h6;revert h1 h2 h3 h4;generalize fd.params=pr;obtain⟨po,as,va,ko,kd,kw,df⟩:=pr;intro h4 h3 h1 h2;obtain rfl:=h1;obtain rfl:=h2;obtain rfl:=h3;obtain rfl:=h4;rfl
   ·rw[ha,<- h5];rfl
  ·revert h6
   cases fd.body with
   |stmts b=>exact λh6=>⟨b,rfl,of_decide_eq_true h6⟩
   |_=>exact λh6=>by exact zk h6
  ·have:=ak.mp QY x hx;simp only[ml,decide_eq_true_eq,nu] at this;exact this
def o0(h:mj)(C:f_)(bm:List b_):Option (List d_)->Prop
 |some ps=>(∀p∈ps,ni (.type "ValueError") p=pure á)->NA h C bm ps
 |none=>NC h C bm
theorem W6{chain:List d_}{c:d_}{x:f_×tg×un}(hx:h.clsAt mu c=à x)(e:rQ h chain CF x=â):o0 h x.1 (oM h chain) CF:=by
 ext h CF chain c x
 obtain⟨C,o,cd⟩:=x;refine bP (vr hx) λh1 h2 h3=>?_;obtain⟨oc,dd,dt,sl⟩:=o;obtain⟨nm,bs,mro,N,q,hdct,sn,sub,ab,col,hdel⟩:=cd;unfold rQ at e;simp only[ml,decide_eq_true_eq,nu] at e;refine zj e λzt AO=>?_;obtain⟨⟨⟨⟨⟨ID,ι⟩,hdl⟩,CL⟩,η⟩,AR⟩:=zt;obtain⟨l⟩:=sl;obtain⟨k0,k1,k2,k3,k5,zq⟩:=six_places (l:=l) (by simpa using CL) (by simpa using η);subst hx e η CL zq;obtain rfl:=ID;obtain rfl:=h3;obtain rfl:=hdl;subst ι;cases CF with
 |none=>exact zj (cm.mp AO) λi1 i2=>zj (cm.mp i1) λi1 i3=>⟨N,nm,q,bs,hdct,sn,sub,ab,col,dd,k0,k1,k2,k3,k5,_,h2,.of_isNs AR,Option.isNone_iff_eq_none.mp i1,λn hn=>Option.isNone_iff_eq_none.mp<|ak.mp i3 n hn,Gu i2⟩
 |some ps=>
  unfold Db at AO;simp only[ml] at AO;refine zj AO λzt i4=>?_;obtain⟨⟨i1,i2⟩,i3⟩:=zt;obtain rfl:=i1
  revert i2;cases hi:h.nsMap N "__init__" with
  |none=>exact λi2=>by exact zk i2
  |some v=>
   cases v with
   |ref fI=>
    intro i2;replace i2:(h.get? fI).any (vX h ps)=â:=i2;refine zn (h.get? fI) (λho=>?_) λoI ho=>?_
    ·rw[ho] at i2;exact zk i2
    ·rw[ho] at i2;refine zj (cm.mp (i2:vX h ps oI=â)) λj1 j2=>?_
     revert j2;cases hd:oI.data with
     |func fd=>intro j2;exact zj (cm.mp j2) λj2 j3=>Zs (W5 j3) λsf I=>λhB=>⟨N,nm,q,bs,sn,sub,ab,col,dd,k0,k1,k2,k3,k5,_,fI,oI,fd,sf,h2,.of_isNs AR,hi,λn hn=>Option.isNone_iff_eq_none.mp<|ak.mp i3 n hn,Gu i4,ho,of_decide_eq_true j1,hd,.of_ok j2,I,hB⟩
     |_=>exact λj2=>by exact zk j2
   |_=>exact λi2=>by exact zk i2
section
open PySem.W PyProof.Rows
theorem xX{c:d_}{p:d_×Option (List d_)}(h:bO c body=à p):c∈oN body:=by
 induction body with
 |nil=>exact ns h
 |cons s r ih=>
  have skip:bO c r=à p->c∈oN (s::r):=λh=>by exact aD (jt.mp<|ih h) λq hq e=>jt.mpr ⟨q,af _ hq,e⟩
  replace h:(match sv s with | .cls n bs b=>if c=n then (match eY bs with | some [y]=>à (y,Cw b) | _=>á) else bO c r | _=>bO c r)=à p:=h;cases e:sv s with
  |cls n bs b=>
   rw[e] at h
   by_cases x:c=n
   ·exact jt.mpr ⟨s,ag,by show(match sv s with | .cls n _ _=>à n | _=>á)=_;rw[e,x]⟩
   ·exact skip<|(if_neg x).symm.trans (h:(if c=n then _ else bO c r)=à p)
  |_=>rw[e] at h;exact skip h
def mU(body:List me)(mg:d_->Option b_)(h:mj):Prop:=
 ∀c p,bO c body=à p->∃C bm,mg c=à (.ref C)/\o0 h C bm p.2/\∀d q D,bO d body=à q->mg d=à (.ref D)->(mr C::bm).contains (.ref D)=jO body 4 c d
theorem W7{o:Option α}{p:α->Bool}(h:o.any p=â):∃x,o=à x/\p x=â:=by
 cases o with
 |none=>exact zk h
 |some x=>exact⟨x,rfl,h⟩
theorem W8(e:rR h body=â):mU body (h.nsMap mu) h:=λc p hc=>by
 have e1:=ak.mp e c<|xX hc;rw[hc] at e1;refine aD (W7 (e1:(h.clsAt mu c).any (λx=>rQ h (rM body 4 c) p.2 x&&Dc h body c x.1)=â)) λx hx e2=>zj (cm.mp e2) λe3 e4=>⟨x.1,_,(vr hx).1,W6 hx e3,λd q D hd hD=>?_⟩
 have e5:=ak.mp e4 d<|xX hd;rw[hD] at e5;exact of_decide_eq_true e5
theorem o0.keeps{C:f_}(hk:∀b o,h.get? b=à o->h'.get? b=à o):∀{CF:Option<|List d_},o0 h C bm CF->o0 h' C bm CF
 |none,x=>by obtain⟨N,nm,q,bs,hdct,sn,sub,ab,col,dd,k0,k1,k2,k3,k5,mN,hC,hN,OR,hnh,T⟩:=x;exact⟨N,nm,q,bs,hdct,sn,sub,ab,col,dd,k0,k1,k2,k3,k5,mN,hk _ _ hC,hN.keeps hk,OR,hnh,T.keeps hk⟩
 |some ps,x=>λhB=>by obtain⟨N,nm,q,bs,sn,sub,ab,col,dd,k0,k1,k2,k3,k5,mN,fI,oI,fd,sf,hC,hN,hi,hn,T,ho,OK,CN,FF,I,hB⟩:=x hB;exact⟨N,nm,q,bs,sn,sub,ab,col,dd,k0,k1,k2,k3,k5,mN,fI,oI,fd,sf,hk _ _ hC,hN.keeps hk,hi,hn,T.keeps hk,hk _ _ ho,OK,CN,FF.keeps hk,I,hB⟩
theorem mU.keeps{mg:d_->Option b_}(x:mU body mg h)(hk:∀b o,h.get? b=à o->h'.get? b=à o):mU body mg h':=
 λc p e=>by refine eG (x c p e) λC bm h1 h2 h3=>?_;exact⟨C,bm,h1,h2.keeps hk,h3⟩
def Gv(body:List me):Prop:=∀c b ps,bO c body=à (b,à ps)->∀p∈ps,ni (.type "ValueError") p=pure á
def sU(f:d_):List DefRec->Option (nb×List me×mh)
 | []=>á
 |d::r=>if f=d.name then à (d.params,d.body,d.scope) else sU f r
theorem W9{a:nb}{b:List me}:∀{l:List DefRec},sU f l=à (a,b,sc)->∃d∈l,d.name=f/\d.params=a/\d.body=b/\d.scope=sc
 :=by
 intro l;induction l with
 |nil=>intro h;exact ns h
 |cons d r ih=>
  intro h;replace h:(if f=d.name then à (d.params,d.body,d.scope) else sU f r)=à (a,b,sc):=h
  by_cases e:f=d.name
  ·rw[if_pos e] at h;clear ih;cases h;exact⟨d,ag,e.symm,rfl,rfl,rfl⟩
  ·rw[if_neg e] at h;exact aD (ih h) λd' h1 h2=>⟨d',af _ h1,h2⟩
def xY:List d_:=["isinstance","len","all","sorted","abs","min","repr","list","tuple","dict","set","int","str","bool","range","enumerate","reversed","ValueError"]
theorem Xa{l:List<|Str×b_}(h:l.lookup x=à v):(x,v)∈l:=by
 induction l with
 |nil=>exact ns h
 |cons p r ih=>
  rw[ic] at h
  by_cases e:x=p.1
  ·rw[e,beq_self_eq_true] at h;replace h:=si h;subst ih h;rw[e];exact ag
  ·rw[beq_false_of_ne e] at h;exact af _<|ih h
theorem Xb:∀p∈wI,p.1∈xY/\bootBuiltins p.1=à p.2/\p.1 ≠ "__name__":=by
 unfold wI
 iterate 18 (refine io.mpr ⟨⟨by decide,by kernel_rfl,by decide⟩,?_⟩)
 exact λ_ h=>cB h
theorem Xc(h:mG x=à v):x∈xY/\bootBuiltins x=à v/\x ≠ "__name__":=Xb _<|Xa h
def Gw(body:List me):List d_:=body.filterMap λs=>(Cv s).map (·.1)
theorem Xd(h:jN body x=à d):x∈Gw body/\x ≠ "__name__":=by
 by_cases hx:x ="__name__"
 ·exact ns<|(if_pos hx).symm.trans h
 ·refine aD (List.exists_of_findSome?_eq_some<|(if_neg hx).symm.trans h) λs hs he=>?_;refine aD (Option.bind_eq_some_iff.mp he) λp e1 e2=>?_
  by_cases e:x=p.1
  ·exact⟨jt.mpr ⟨s,hs,by rw[e1,e];rfl⟩,hx⟩
  ·exact ns<|(if_neg e).symm.trans e2
def cE1(d e:a_):Bool:=match d with
 | .int a=>(match e with | .int b=>a==b | _=>ã)
 | .str a=>(match e with | .str b=>a==b&&decide (a.length<=a8) | _=>ã)
 |_=>ã
def YN(o q:Option a_):Bool:=match o with
 |none=>â
 |some d=>(match q with | some e=>cE1 d e | none=>ã)
theorem Xe{o:Option a_}(h:YN (à d) o=â):o=à d/\((∃i,d=.int i)\/∃s,d=.str s/\s.length<=a8):=by
 cases o with
 |none=>exact zk h
 |some e=>
  replace h:=h;cases d with
  |int a=>
   cases e with
   |int b=>obtain rfl:=eq_of_beq (h:(a==b)=â);exact⟨rfl,.inl ⟨_,rfl⟩⟩
   |_=>exact zk h
  |str a=>
   cases e with
   |str b=>refine zj (cm.mp (h:(a==b&&decide (a.length<=a8))=â)) λh1 h2=>?_;replace h1:=eq_of_beq h1;subst h h1;exact⟨rfl,.inr ⟨_,rfl,of_decide_eq_true h2⟩⟩
   |_=>exact zk h
  |_=>exact zk h
theorem Xf{p O:nj}{w:om}{loose:List d_}{q1R:ExcName->Option b_}{mg mb:d_->Option b_}(T:Top p loose q1R mg mb h)(X:mU O.main.body mg h)(hB:Gv O.main.body)
  (FQ:∀f,cX f O.main.body=sU f (recsOf p)) (hc:((Gw O.main.body).all λx=>YN (jN O.main.body x)<|valOf p x)=â)
  (q0W:(xY.all λx=>!startupNames.contains x&&!loose.contains x&&!((recsOf p).map (·.name)).contains x&&!((litsOf p).map (·.1)).contains x&&!((clssOf p loose).map (·.name)).contains x)=â) (q0X:importsNone p=â) :
  NF O w mg mb h where
 g:=T.g
 b:=T.b
 nolimit:=T.nolimit
 mods:=by exact aD ((T.seer q0X).mods) λmm hm _=>⟨mm,hm⟩
 fn:=λf a b sc e=>by rw[FQ] at e;obtain⟨d,hd,h1,h2,h3,h4⟩:=W9 e;refine kG (T.fn d hd) λad o pm code doc g1 g2 g3 g4=>?_;subst e h1;subst h2;subst h3;subst h4;exact⟨ad,o,pm,code,doc,g1,g2,g3,g4⟩
 const:=λx d e=>by
  refine zj (Xd e) λh1 h2=>?_;have:=ak.mp hc x h1;rw[e] at this;refine zj (Xe this) λh3 h4=>aD (T.const x d h3) λv h5 h6=>⟨v,h5,?_⟩
  have r:=h6 h;rcases h4 with ⟨i,rfl⟩|⟨s,rfl,hl⟩
  ·clear h5 h6;cases r;exact .inl ⟨_,_,rfl,rfl⟩
  ·clear h5 h6;cases r;exact .inr ⟨_,_,rfl,rfl,hl⟩
 blt:=λx v e=>by refine bP (Xc e) λh1 h2 h3=>?_;have:=ak.mp q0W x h1;simp only[ml,nu,List.contains_eq_mem,decide_eq_false_iff_not] at this;refine zj this λzt q5=>?_;obtain⟨⟨⟨q1,q2⟩,q3⟩,q4⟩:=zt;exact⟨T.free x q1 q2 q3 q4 q5,(T.builtins x h3).trans h2⟩
 cls:=λc p e=>by
  refine eG (X c p e) λC bm h1 h2 h3=>⟨C,bm,h1,?_,h3⟩
  obtain⟨b,CF⟩:=p;cases CF with
  |none=>exact NC.ok h2
  |some ps=>exact NA.ok T.nolimit<|h2<|hB c b ps e
theorem Xg{P:Params}:∀{vs:List b_} {ns:List Int},WellAll P h vs (ofPys<|ns.map .int)->vs.length=ns.length/\∀(i:Nat) (v:b_) (d:a_),vs[i]?=à v->(ns.map rq)[i]?=à d->∃k t,v=.int k t/\d=.int k
 :=by
 intro vs;induction vs with
 |nil=>
  intro ns hw;cases ns with
  |nil=>exact⟨rfl,λi v d e=>nomatch e⟩
  |cons n ns=>exact nomatch (hw:WellAll P h []<|WData.int n::ofPys (ns.map .int))
 |cons v vs ih=>
  intro ns hw;cases ns with
  |nil=>exact nomatch (hw:WellAll P h (v::vs) [])
  |cons n ns=>
   cases (show WellAll P h (v::vs) (WData.int n::ofPys (ns.map .int)) from hw) with
   |cons h1 h2=>
    refine zj (ih h2) λg1 g2=>⟨congrArg qh g1,λi u d e1 e2=>?_⟩;cases i with
    |zero=>replace e1:=si e1;subst e1;replace e2:=si e2;subst e2;clear hw;cases h1;exact⟨_,_,rfl,rfl⟩
    |succ i=>exact g2 i u d e1 e2
theorem Xh:NH gC:=by
 intro fa l ns N Q E SH GL LC hw hn hf hN VA hq
 ext fa l ns N Q E
 replace GL:=GL;have hw:=hw;cases hw with
 | @list _ vs _ h1 h2=>
  refine zj (Xg h2) λg1 g2=>Zs GL.mods λmm hm=>?_;obtain zh:¬l=mw:=λe=>by refine jF hm λo es ep e1 e2 _=>?_;rw[<- e,h1] at e1;replace e1:=si e1;subst e1;cases e2
  obtain rep:Zu base (λb=>b=mw) (.ref l)<|.list<|ns.map .int:=by
   refine .list zh ⟨_,h1⟩ (by simp[g1]) ?_ λi v d e1 e2=>?_
   ·exact Lw hn g1<|rfl
   ·refine cL (g2 i v d e1 e2) λk t zq HO=>?_;subst e1 zq;subst e2 HO;exact .int k t
  obtain room:AI N ã [] callerA:=by
   refine⟨?_,?_,λ_=>rfl,rfl,rfl⟩
   ·exact Lx hN Zw
   ·exact Ly hN Zw
  obtain G:CQ [] (λb=>b=mw) gC.e:=⟨GL,λ_ _ e=>e,trivial,λb f=>(nomatch f),λb hb=>by
   exact dN hm λo es ep e1 _=>⟨o,hb▸e1⟩,rfl⟩
  refine(Gs SH N ã).call (e_ "law") [.fz<|.list<|ns.map .int] fa LC hf callerA [] gC.e (λb=>b=mw) [.ref l] room G ⟨⟨rep,nofun⟩,trivial⟩ (k:=Zt) (fin:=.ok<|.fz<|.bool â) ⟨by rw[show(eC O.main.body N (run O.main.body N ã) ã).call (e_ "law") [.fz<|.list<|ns.map .int]=_ from VA];rfl,nofun⟩ (λv s' u k r e=>?_) λx v s' e _=>by cases e
  cases e;obtain this:=Zu.bool_inv r;subst r this;obtain⟨h,t,rfl,k1,_⟩:=k;exact hq _ ⟨h,t,rfl,λb o e=>k1 b o (λf=>nomatch f) e⟩
theorem Xi{O:nj}{w:om}{mg mb:d_->Option b_}{jv:c_}{fa l:f_}{ns:List Int}{N:Nat}(SH:NI O.main.body)(GL:NF O w mg mb jv.heap)(LC:mg (e_ "law")=à (.ref fa))
  (hw:Well w.params jv.heap (.ref l)<|ofPy<|.list<|ns.map .int) (hn:ns.length<=63) (hf:(cX (e_ "law") O.main.body).isSome=â) (hN:N<=400)
  (VA:run O.main.body N ã (e_ "law") [.fz<|.list<|ns.map .int]=.ok (.fz<|.bool â)) (hq:∀s',Kp jv s'->Q (.bool â) s'):i' (i_ O w) callerA (call (.ref fa) [.ref l]) Q E jv:=
 Qq Xh ⟨O,w,mg,mb,jv⟩ fa l ns N Q E SH GL LC hw hn hf hN VA hq
end
noncomputable abbrev κ(d:a_):R V:=.ok<|.fz d
def jW(B:List me)(f:d_):mh:=match cX f B with | some (_,_,sc)=>sc | none=>⟨.function,[],ã,ã,[]⟩
def aR(B:List me)(f:d_):List me:=match cX f B with | some (_,b,_)=>b | none=>[]
def tv:me->List me×h_
 | .If t b _ _=>(b,t)
 | .For t _ b _ _=>(b,t)
 | .While t b _ _=>(b,t)
 | .Assign ts _ _=>([],ts.head?.getD<|.Name xc ⟨0,0,0,0⟩)
 |_=>([],.Name xc ⟨0,0,0,0⟩)
def mV(l:List me):List me:=l.head?.elim [] λs=>(tv s).1
def bR(l:List me):List me:=l.head?.elim [] λs=>(tv s).1
def cN(l:List me):h_:=l.head?.elim (.Name xc ⟨0,0,0,0⟩) λs=>(tv s).2
def CH(B:List me)(f:d_)(n k:Nat):List me->aA->KN->KR->R V:=
 IU (L' (BC (eC B n (run B n ã) ã) dW<|jW B f) (BC (eC B n (run B n â) â) dW<|jW B f) dW (eC B n (run B n ã) ã) (jW B f) k)
def cE(B:List me)(f:d_)(n k:Nat):List me->aA->KN->KR->R V:=
 oJ (BC (eC B n (run B n ã) ã) dW<|jW B f) dW (eC B n (run B n ã) ã) (jW B f) (L' (BC (eC B n (run B n ã) ã) dW<|jW B f) (BC (eC B n (run B n â) â) dW<|jW B f) dW (eC B n (run B n ã) ã) (jW B f) k)
def TK(c:Bool)(a:a_)(t:R V):R V:=match (if c=â then à a else á) with
 |some d=>.ok<|.dp d
 |none=>t
def WH(fu:Nat)(a1 a2 e2:R V)(e3 e4:a_->a_->a_->R V)(c5:a_->a_->a_->a_->R V)(i6 i7:R V)(c8:a_->a_->a_->R V)(i9:R V)(c10:a_->a_->a_->R V)(i z:R V)(kn:a_->a_->R V):R V:=
 rb a1 λu1=>rb (Zy<|EA u1) λd1=>rb a2 λu2=>rb (Zy<|EA u2) λd2=>rb e2 λu=>rb (e3 d1 d2<|Zp u) λu3=>rb (Zy<|rJ u3) λl3=>rb (e4 d1 d2<|Zp u) λu4=>rb (Zy<|EA u4) λd4=>
 rb (zu<|c5 d1 d2 (Zp u) d4) λb5=>if b5 then .no else if bJ fu d1=â/\bJ fu d2=â then
  rb i6 λv6=>rb (Zy<|fK 0 v6) λ_=>rb i7 λv7=>rb (Zy<|fK 1 v7) λ_=>
  rb (zu<|c8 (Zp u) d4<|.tuple l3) λb8=>if b8 then .no else rb (Zy<|AT l3.getLast?) λd3=>
  if bJ fu d3=â then rb i9 λv9=>rb (Zy<|fK (-1) v9) λ_=>
   rb (zu<|c10 (Zp u) d4<|.tuple<|l3.dropLast++[emp d3]) λNK=>if NK then
    (if VW l3[1]?=â/\2<l3.length then rb i λPW=>rb (Zy<|fK 1 PW) λ_=>rb z λ_=>kn (Zp u) d4 else .no)
   else kn (Zp u) d4
  else .no
 else .no
def xZ(B:List me)(t m1 m2 m3:d_)(y:X):P V:=(AT<|gB y.fields).bind λp=>if p.1.1=m1/\p.2.1.1=m2/\p.2.2.1.1=m3/\p.2.2.2.isEmpty=â/\(bO y.cls B).map (·.2)=à (à [m1,m2,m3])/\GZ p.1.2=â/\fX p.2.1.2=â then .ok (.dp<|.tuple [.str t,p.1.2,p.2.1.2,p.2.2.1.2]) else .no
def sV(B:List me)(c t m1 m2 m3:d_)(q:X->R V)(y:X)(kr:V->R V):R V:=match fJ B y.cls c with
 |some b=>if b=â then rb (nx<|zu<|q y) λb=>if b then .no else rb (Zy<|xZ B t m1 m2 m3 y) kr else .no
 |none=>.no
def Gx(B:List me)(n:Nat)(s c t m1 m2 m3:d_)(σ:List<|Option V)(cl:R V)(q:X->R V)(kr:V->R V):R V:=
 if σ.all (LY n)=â then match cl with
  | .no=>.no
  | .ok v=>rb (Zy<|EA v) λd=>kr<|.dp<|.tuple [.str s,d]
  | .exc y=>sV B c t m1 m2 m3 q y kr
 else .no
def Xj(fu:Nat)(c:d_)(ps:List d_)(a b d:R V):R V:=rb a λv1=>rb b λv2=>rb d λv3=>rb (Zy<|EA v3) λd=>if bJ fu d=â then .exc ⟨c,ps.zip [Zp v1,Zp v2,d]⟩ else .no
def LK{α:Type}(d:a_)(k:a_->a_->R α):R α:=match two d with
 |some q=>k q.1 q.2
 |none=>.no
def aB(op:ox)(a b:R V):R V:=rb a λa=>rb b λb=>Zy<|aG op (Zp a)<|Zp b
def zy(op:UnaryOp)(a:R V):R V:=rb a λv=>Zy<|gA op v
def bD(a b:R V):R V:=rb a λv=>rb (Zy<|dY v) λc=>if c then b else .ok v
def BH(a b:R V):R V:=rb a λv=>rb (Zy<|dY v) λc=>if c then .ok v else b
def fC(t a b:R V):R V:=rb (zu t) λc=>if c then a else b
def aC(a:R V)(op:wv)(b:R V):R V:=rb a λa=>aS<|rb b λv=>Zy<|BX op (Zp a)<|Zp v
def iU(a:R V)(op:wv)(b:R V)(MY:wv)(c:R V):R V:=rb a λa=>aS<|rb b λv=>rb (Zy<|BX op (Zp a)<|Zp v) λt=>if t then (rb c λw=>Zy<|BX MY (Zp v)<|Zp w) else .ok ã
def gD:List (R V)->R (List V)
 | []=>.ok []
 |e::r=>rb e λv=>rb (gD r) λvs=>.ok<|v.cl::vs
def cH(l:List<|R V):R V:=rb (gD l) λl=>if l.length<=a8 then .ok (.own<|.list<|cW l) else .no
def aO(l:List<|R V):R V:=rb (gD l) λl=>if l.length<=a8 then .ok (.fz<|.tuple<|cW l) else .no
def yA:List (R V×R V)->R (List<|PyData×a_)
 | []=>.ok []
 |p::r=>rb p.1 λk=>rb p.2 λv=>rb (yA r) λr=>.ok<|(Zp k,Zp v)::r
def fS(l:List<|R V×R V):R V:=rb (yA l) λl=>Zy<|lW l
def aI(a:R a_)(i:R V):R V:=rb a λa=>rb i λi=>Zy<|Zx a<|Zp i
def sW:Option (R V)->R (Option Int)
 |none=>.ok á
 |some e=>rb e λv=>Zy<|WG v
def dX(a:R a_)(lo hi:Option<|R V):R V:=rb a λa=>rb (sW lo) λlo=>rb (sW hi) λhi=>Zy<|lV a lo hi
def eU(m:d_)(o:R V)(as:List<|R V):R V:=rb o λo=>if VX m (Zp o) then rb (gD as) λas=>Zy (uV m (Zp o)<|cW as) else .no
def fT(t:d_)(a:R V):R V:=rb a λv=>Zy<|l0 t<|Zp v
def sX(B:List me)(n:Nat)(t:d_)(v:V):R V:=match (match v with | .ex d=>à d | _=>á) with | some x=>Zy (RO (eC B n (run B n ã) ã) x.cls t) | none=>rb (Zy<|zi v) λv=>Zy<|l0 t<|Zp v
def aK(f:a_->P V)(a:R V):R V:=rb a λv=>Zy<|f<|Zp v
def pA(as:List<|R V):R V:=rb (gD as) λvs=>Zy<|qY vs
def aE(f:List V->R V)(as:List<|R V):R V:=rb (gD as) λvs=>f vs
def aN(it:R<|List a_)(t:a_->R Bool)(e:a_->R V):R V:=rb (rb it λl=>aZ t e l) λr=>Zy<|own<|.list r
def BD(e:R V):R<|List a_:=rb e λv=>Zy<|items<|Zp v
def ES(e:R V):R<|List a_:=rb e λv=>Zy<|(kK v).bind uZ
def HU(e:R V):R<|List a_:=rb e λv=>Zy<|(Ci<|Zp v).bind λl=>.ok<|eA 0 l
def bG(v:V):R a_:=match (match v with | .own d=>à d | _=>á) with
 |some d=>.ok d
 |none=>rb (Zy<|zi v) λv=>.ok<|Zp v
def bS(v:V):R V:=match (match v with | .ex d=>à d | _=>á) with
 |some x=>.ok<|.ex x
 |none=>Zy<|zi v
def cI(e:R V):R a_:=rb e λv=>.ok<|Zp v
def eV(v:V)(kr:V->R V):R V:=match (match v with | .own d=>à d | _=>á) with
 |some d=>kr<|.own d
 |none=>rb (Zy<|zi v) kr
def zp(t:R V)(a b:R V):R V:=rb (zu t) λc=>if c then a else b
def bK(x:R V)(X:R a_)(I:R V)(k:a_->R V):R V:=rb x λv=>rb X λo=>rb I λiv=>rb (Zy<|setItem o (Zp iv)<|Zp v) k
def fD(X:R a_)(m:d_)(as:List<|R V)(k:a_->R V):R V:=rb X λo=>if mB m o then rb (gD as) λTE=>rb (Zy<|eZ m o<|cW TE) k else .no
def pB(c:d_)(as:List<|R V):R V:=rb (gD as) λvs=>if vs.length=1 then .exc ⟨c,[]⟩ else .no
def BB:List me:=zg.prog.main.body
noncomputable abbrev so(x:String):d_:=e_ x
noncomputable abbrev ζ(d:a_):Option V:=à<|.fz d
noncomputable abbrev rn(n:Nat)(f:String)(vs:List V):R V:=run BB n ã (e_ f) vs
abbrev BJ:="_law_seen"
abbrev CM:="_law_back"
abbrev DI:="put_back"
abbrev DJ:="_law_copy"
abbrev DT:="shown"
abbrev EB:="_law_is_table"
abbrev EM:="need_put"
abbrev EZ:="is_view"
abbrev E_:="_law_no"
abbrev FD:="need_fit"
abbrev FE:="_law_same"
abbrev FM:="_law_number"
abbrev FN:="_law_answer_same"
abbrev F_:="is_name"
abbrev GV:="_law_high"
abbrev GW:="_law_small"
abbrev HV:="all_branches"
abbrev HX:="has_part"
abbrev HY:="is_sifted"
abbrev HZ:="_law_several"
abbrev H_:="_law_least"
abbrev IA:="_law_other"
abbrev IX:="_law_mixed"
abbrev JW:="_law_table"
abbrev KQ:="is_whole"
abbrev L_:="is_tree"
abbrev MA:="_law_cell_at"
abbrev NQ:="copied"
abbrev NR:="is_row"
abbrev NS:="_law_each_part"
abbrev QN:="are_two_names"
abbrev QO:="need_tree"
abbrev QP:="_law_house"
abbrev QR:="_law_wide"
abbrev QS:="_law_told"
abbrev TO:="_law_fitting"
abbrev TP:="_law_sifted"
abbrev TQ:="_law_parted"
abbrev GX:=so "found"
abbrev GY:=so "view"
abbrev KS:=so "tree"
abbrev KT:=so "name"
abbrev MB:=so "_law_found"
abbrev NT:=so "key"
abbrev NU:=so "new"
abbrev NV:=so "way"
abbrev QT:=so "_law_names_here"
abbrev QU:=so "_law_view"
abbrev QV:=so "_law_tree"
abbrev TR:=so "_law_script"
abbrev TS:=so "_law_rows"
abbrev TU:=so "_law_old"
abbrev TV:=so "_law_new"
variable (n:Nat)(a1 a2 a3 a4 a5 a6 a7 x1 x2 x3 x4 x5 x6 x7 x8 x9 x10 x11 x12 x13 x14 x15 x16 x17 x18 x19 d0 d1 d2 d3 d4 d5:a_)(w1 w2 w3 w4 w5 w6 w7 w8 w9 PX w11 w12 w13 w14 w15 w16 w17 w18 w19:V)(o1 o2 o3 o4 o5 o6 o7 o8 o9 AC AE AQ AF ϑ o15 ϒ ϓ o18 o19 p0 p1 p2 p3 p4 p5 p6 p7 p8 p9 CT GO PP RY p14 p15 p16 p17 p18 p19:Option V)(kn:KN)(kr:KR)
theorem Xk:rn (n+1) F_ [.fz a1]=zp (BH (zy .Not<|κ<|.bool<|fX a1)<|zy .Not<|iU (κ<|.int 1) .LtE (Zy<|bQ a1) .LtE<|κ<|.int 8) (κ<|.bool ã) (rb (aK dD<|aN (Zy<|items a1) (λd1=>.ok â) λd1=>aS<|Zy<|BX .In d1<|.str<|so "abcdefghijklmnopqrstuvwxyz") Zt):=Zv
theorem Xl:rn (n+1) KQ [.fz a1]=rb (bD (κ<|.bool<|iM a1)<|zy .Not<|κ<|.bool<|jH a1) Zt:=Zv
theorem yB:rn (n+1) L_ [.fz a1]=zp (rn n KQ [.fz a1]) (κ<|.bool â) (zp (zy .Not<|κ<|.bool<|b7 a1) (κ<|.bool ã)<|rb (aK dD<|aN (Zy<|items a1) (λd1=>.ok â) λd1=>bD (rn n F_ [.fz d1])<|aE (rn n L_) [Zy<|Zx a1 d1]) Zt):=Zv
theorem Xm:rn (n+1) HV [.fz a1]=rb (bD (κ<|.bool<|b7 a1)<|aK dD<|aN (Zy<|items a1) (λd1=>.ok â) λd1=>fT (so "dict")<|Zy<|Zx a1 d1) Zt:=Zv
def mW:aA:=[(KS,p0),(GX,p1),(KT,p2)]
def Gy:=cE BB (so "copied") n 23<|bR<|List.drop 2<|aR BB<|so "copied"
def Gz:=cN<|List.drop 2<|aR BB<|so "copied"
def G0:=CH BB (so "copied") n 24<|List.drop 3<|aR BB<|so "copied"
theorem Xn:rn (n+1) NQ [.fz a1]=TK (bJ (n+1) a1) a1 (zp (zy .Not<|κ<|.bool<|b7 a1) (κ a1)<|rb (Zy<|items a1) λl1=>aX (Gy n) Gz l1 (mW (ζ a1) (à<|.own<|.dict []) á) (λσ=>G0 n σ (λ_=>κ .none) Zt) Zt):=Zv
theorem Xo:rn (n+1) "is_beside" [.fz a1]=zp (BH (zy .Not<|κ<|.bool<|qT a1)<|zy .Not<|iU (κ<|.int 1) .LtE (Zy<|bQ a1) .LtE<|κ<|.int 6) (κ<|.bool ã) (zp (zy .Not<|aK dD<|aN (Zy<|items a1) (λd1=>.ok â) λd1=>rn n NR [.fz d1]) (κ<|.bool ã)<|rb (aN (Zy<|items a1) (λd2=>.ok â) λd2=>Zy<|Zx d2<|.int 0) λv3=>rb (aN (Zy<|items a1) (λd4=>.ok â) λd4=>Zy<|Zx d4<|.int 1) λv5=>rb (bD (aC (aK fQ<|Zy<|zi<|Zr v3) .Eq<|Zy<|bQ a1)<|aC (aK fQ<|Zy<|zi<|Zr v5) .Eq<|Zy<|bQ a1) Zt):=Zv
theorem Xp:rn (n+1) "are_fields" [.fz a1]=zp (BH (zy .Not<|κ<|.bool<|qT a1)<|zy .Not<|iU (κ<|.int 1) .LtE (Zy<|bQ a1) .LtE<|κ<|.int 6) (κ<|.bool ã) (rb (bD (aK dD<|aN (Zy<|items a1) (λd1=>.ok â) λd1=>rn n F_ [.fz d1])<|aC (aK fQ<|κ a1) .Eq<|Zy<|bQ a1) Zt):=Zv
theorem Xq:rn (n+1) QN [.fz a1,.fz a2]=rb (bD (rn n F_ [.fz a1])<|bD (rn n F_ [.fz a2])<|aS<|Zy<|BX .NotEq a1 a2) Zt:=Zv
theorem Xr:rn (n+1) "is_least" [.fz a1]=rb (bD (rn n KQ [.fz a1])<|aC (Zy<|uU a1) .Lt<|Zy<|aG .Pow (.int 10)<|.int 30) Zt:=Zv
theorem Xs:rn (n+1) "need_view" [.fz a1]=zp (zy .Not<|rn n EZ [.fz a1]) (pB (so "BadView") [κ<|.str<|so "no view"]) (κ .none):=Zv
theorem Xu:rn (n+1) HX [.fz a1,.fz a2]=rb (bD (κ<|.bool<|b7 a1)<|aS<|Zy<|BX .In a2 a1) Zt:=Zv
theorem Xv:rn (n+1) HY [.fz a1,.fz a2,.fz a3]=rb (bD (aS<|Zy<|BX .In a2 a1)<|bD (aE (rn n KQ) [Zy<|Zx a1 a2])<|aC (Zy<|Zx a1 a2) .GtE<|κ a3) Zt:=Zv
def fE:aA:=[(GY,p0),(KS,p1),(so "one",p2),(so "other",p3),(NT,p4)]
def yC:=cE BB (so "fits_join") n 23<|bR<|List.drop 4<|aR BB<|so "fits_join"
def yD:=cN<|List.drop 4<|aR BB<|so "fits_join"
def G4:=CH BB (so "fits_join") n 24<|List.drop 5<|aR BB<|so "fits_join"
theorem Xw:rn (n+1) "fits_join" [.fz a1,.fz a2]=zp (BH (zy .Not<|aE (rn n HX) [κ a2,Zy<|Zx a1<|.int 1])<|zy .Not<|aE (rn n HX) [κ a2,Zy<|Zx a1<|.int 2]) (κ<|.bool ã) (rb (aI (.ok a2)<|Zy<|Zx a1<|.int 1) λv1=>rb (aI (.ok a2)<|Zy<|Zx a1<|.int 2) λv2=>zp (BH (zy .Not<|aE (rn n HV) [bS<|Zr v1])<|zy .Not<|aE (rn n HV) [bS<|Zr v2]) (κ<|.bool ã)<|rb (BD<|Zy<|zi<|Zr<|Zr v1) λl3=>aX (yC n) yD l3 (fE (ζ a1) (ζ a2) (à<|Zr<|Zr v1) (à<|Zr v2) á) (λσ=>G4 n σ (λ_=>κ .none) Zt) Zt):=Zv
theorem Xx:a9 yD d0 (fE p0 p1 p2 p3 p4)=.ok (fE p0 p1 p2 p3<|ζ d0):=Zv
theorem Xy:yC n (fE (ζ x1) (ζ x2) (à w3) (à w4)<|ζ d0) kn kr=zp (aC (aN (BD<|aI (bG w3)<|κ d0) (λd1=>zu<|aC (κ d1) .NotIn<|Zy<|Zx x1<|.int 3) λd1=>κ d1) .NotEq<|.ok<|.own<|.list []) (kr<|.fz<|.bool ã) (kn<|fE (ζ x1) (ζ x2) (à w3) (à w4)<|ζ d0):=Zv
def yE:=cE BB (so "fits_join") n 23<|bR<|List.drop 5<|aR BB<|so "fits_join"
def yF:=cN<|List.drop 5<|aR BB<|so "fits_join"
def G5:=CH BB (so "fits_join") n 24<|List.drop 6<|aR BB<|so "fits_join"
theorem Xz:G4 n (fE (ζ x1) (ζ x2) (à w3) (à w4) o5) kn kr=rb (BD<|Zy<|zi<|Zr w4) λl1=>aX (yE n) yF l1 (fE (ζ x1) (ζ x2) (à w3) (à<|Zr w4) o5) (λσ=>G5 n σ kn kr) kr:=Zv
theorem X0:a9 yF d0 (fE p0 p1 p2 p3 p4)=.ok (fE p0 p1 p2 p3<|ζ d0):=Zv
theorem X3:yE n (fE (ζ x1) (ζ x2) (à w3) (à w4)<|ζ d0) kn kr=zp (aC (aN (BD<|aI (bG w4)<|κ d0) (λd1=>zu<|aC (κ d1) .In<|Zy<|Zx x1<|.int 3) λd1=>κ d1) .NotEq<|.ok<|.own<|.list []) (kr<|.fz<|.bool ã) (kn<|fE (ζ x1) (ζ x2) (à w3) (à w4)<|ζ d0):=Zv
theorem X4:G5 n (fE (ζ x1) (ζ x2) (à w3) (à w4) o5) kn kr=kr (.fz<|.bool â):=Zv
def jX:aA:=[(GY,p0),(KS,p1),(GX,p2),(KT,p3)]
def yG:=cE BB (so "shown_call") n 23<|bR<|List.drop 2<|aR BB<|so "shown_call"
def yH:=cN<|List.drop 2<|aR BB<|so "shown_call"
def G6:=CH BB (so "shown_call") n 24<|List.drop 3<|aR BB<|so "shown_call"
theorem X5:rn (n+1) "shown_call" [.fz a1,.fz a2]=rb (aE (rn n FD) [bD (aE (rn n HX) [κ a2,Zy<|Zx a1<|.int 1])<|aC (Zy<|Zx a1<|.int 2) .NotIn<|κ a2]) λ_=>rb (Zy<|items a2) λl1=>aX (yG n) yH l1 (jX (ζ a1) (ζ a2) (à<|.own<|.dict []) á) (λσ=>G6 n σ (λ_=>κ .none) Zt) Zt:=Zv
theorem X6:a9 yH d0 (jX p0 p1 p2 p3)=.ok (jX p0 p1 p2<|ζ d0):=Zv
theorem X7:yG n (jX (ζ x1) (ζ x2) (à<|.own x3)<|ζ d0) kn kr=zp (aC (κ d0) .Eq<|Zy<|Zx x1<|.int 1) (bK (Zy<|Zx x2 d0) (.ok x3) (Zy<|Zx x1<|.int 2) λo1=>kn<|jX (ζ x1) (ζ x2) (à<|.own o1)<|ζ d0) (bK (Zy<|Zx x2 d0) (.ok x3) (κ d0) λo2=>kn<|jX (ζ x1) (ζ x2) (à<|.own o2)<|ζ d0):=Zv
theorem X8:G6 n (jX (ζ x1) (ζ x2) (à<|.own x3) o4) kn kr=kr (.own x3):=Zv
def kY:aA:=[(GY,p0),(KS,p1),(GX,p2),(KT,p3),(so "part",p4),(so "inner",p5)]
def pC:=cE BB (so "shown_beside") n 23<|bR<|List.drop 1<|aR BB<|so "shown_beside"
def pD:=cN<|List.drop 1<|aR BB<|so "shown_beside"
def G7:=CH BB (so "shown_beside") n 24<|List.drop 2<|aR BB<|so "shown_beside"
theorem X9:rn (n+1) "shown_beside" [.fz a1,.fz a2]=rb (BD<|Zy<|Zx a1<|.int 1) λl1=>aX (pC n) pD l1 (kY (ζ a1) (ζ a2) (à<|.own<|.dict []) á á á) (λσ=>G7 n σ (λ_=>κ .none) Zt) Zt:=Zv
theorem Yc:a9 pD (.tuple [d0,d1,d2]) (kY p0 p1 p2 p3 p4 p5)=.ok (kY p0 p1 p2 (ζ d0) (ζ d1)<|ζ d2):=Zv
theorem Ye:pC n (kY (ζ x1) (ζ x2) (à<|.own x3) (ζ d0) (ζ d1)<|ζ d2) kn kr=rb (aE (rn n FD) [rn n HX [.fz x2,.fz d1]]) λ_=>bK (aE (rn n DT) [κ d2,Zy<|Zx x2 d1]) (.ok x3) (κ d0) λo1=>kn (kY (ζ x1) (ζ x2) (à<|.own o1) (ζ d0) (ζ d1)<|ζ d2):=Zv
theorem Yg:G7 n (kY (ζ x1) (ζ x2) (à<|.own x3) o4 o5 o6) kn kr=kr (.own x3):=Zv
def gE:aA:=[(GY,p0),(KS,p1),(GX,p2),(NT,p3)]
def sY:=cE BB (so "shown_sift") n 23<|bR<|List.drop 2<|aR BB<|so "shown_sift"
def sZ:=cN<|List.drop 2<|aR BB<|so "shown_sift"
def G8:=CH BB (so "shown_sift") n 24<|List.drop 3<|aR BB<|so "shown_sift"
theorem Yh:rn (n+1) "shown_sift" [.fz a1,.fz a2]=rb (aE (rn n FD) [rn n HV [.fz a2]]) λ_=>rb (Zy<|items a2) λl1=>aX (sY n) sZ l1 (gE (ζ a1) (ζ a2) (à<|.own<|.dict []) á) (λσ=>G8 n σ (λ_=>κ .none) Zt) Zt:=Zv
theorem Yi:a9 sZ d0 (gE p0 p1 p2 p3)=.ok (gE p0 p1 p2<|ζ d0):=Zv
theorem Yj:sY n (gE (ζ x1) (ζ x2) (à<|.own x3)<|ζ d0) kn kr=zp (aE (rn n HY) [Zy<|Zx x2 d0,Zy<|Zx x1<|.int 1,Zy<|Zx x1<|.int 2]) (bK (Zy<|Zx x2 d0) (.ok x3) (κ d0) λo1=>kn<|gE (ζ x1) (ζ x2) (à<|.own o1)<|ζ d0) (kn<|gE (ζ x1) (ζ x2) (à<|.own x3)<|ζ d0):=Zv
theorem Yk:G8 n (gE (ζ x1) (ζ x2) (à<|.own x3) o4) kn kr=kr (.own x3):=Zv
def gG:aA:=[(GY,p0),(KS,p1),(so "one",p2),(so "other",p3),(GX,p4),(NT,p5),(so "row",p6)]
def tA:=cE BB (so "shown_join") n 23<|bR<|List.drop 4<|aR BB<|so "shown_join"
def tB:=cN<|List.drop 4<|aR BB<|so "shown_join"
def G9:=CH BB (so "shown_join") n 24<|List.drop 5<|aR BB<|so "shown_join"
theorem Yl:rn (n+1) "shown_join" [.fz a1,.fz a2]=rb (aE (rn n FD) [rn n "fits_join" [.fz a1,.fz a2]]) λ_=>rb (aI (.ok a2)<|Zy<|Zx a1<|.int 1) λv1=>rb (aI (.ok a2)<|Zy<|Zx a1<|.int 2) λv2=>rb (BD<|Zy<|zi<|Zr v1) λl3=>aX (tA n) tB l3 (gG (ζ a1) (ζ a2) (à<|Zr v1) (à v2) (à<|.own<|.dict []) á á) (λσ=>G9 n σ (λ_=>κ .none) Zt) Zt:=Zv
theorem Ym:a9 tB d0 (gG p0 p1 p2 p3 p4 p5 p6)=.ok (gG p0 p1 p2 p3 p4 (ζ d0) p6):=Zv
theorem Yn:tA n (gG (ζ x1) (ζ x2) (à w3) (à w4) (à<|.own x5) (ζ d0) o7) kn kr=zp (aC (κ d0) .In<|Zy<|zi<|Zr w4) (rb (aK bA<|aI (bG w3)<|κ d0) λv1=>fD (Zy<|dH v1) (so "update") [aI (bG<|Zr w4)<|κ d0] λo2=>bK (κ o2) (.ok x5) (κ d0) λo3=>kn<|gG (ζ x1) (ζ x2) (à w3) (à<|Zr w4) (à<|.own o3) (ζ d0)<|ζ o2) (kn<|gG (ζ x1) (ζ x2) (à w3) (à<|Zr w4) (à<|.own x5) (ζ d0) o7):=Zv
theorem Yo:G9 n (gG (ζ x1) (ζ x2) (à w3) (à w4) (à<|.own x5) o6 o7) kn kr=kr (.own x5):=Zv
def kZ:aA:=[(GY,p0),(KS,p1),(GX,p2),(KT,p3)]
def yI:=cE BB (so "shown_each") n 23<|bR<|List.drop 2<|aR BB<|so "shown_each"
def yJ:=cN<|List.drop 2<|aR BB<|so "shown_each"
def Ha:=CH BB (so "shown_each") n 24<|List.drop 3<|aR BB<|so "shown_each"
theorem Yp:rn (n+1) "shown_each" [.fz a1,.fz a2]=rb (rn n FD [.fz<|.bool<|b7 a2]) λ_=>rb (Zy<|items a2) λl1=>aX (yI n) yJ l1 (kZ (ζ a1) (ζ a2) (à<|.own<|.dict []) á) (λσ=>Ha n σ (λ_=>κ .none) Zt) Zt:=Zv
theorem Yq:a9 yJ d0 (kZ p0 p1 p2 p3)=.ok (kZ p0 p1 p2<|ζ d0):=Zv
theorem Yr:yI n (kZ (ζ x1) (ζ x2) (à<|.own x3)<|ζ d0) kn kr=bK (aE (rn n DT) [Zy<|Zx x1<|.int 1,Zy<|Zx x2 d0]) (.ok x3) (κ d0) λo1=>kn (kZ (ζ x1) (ζ x2) (à<|.own o1)<|ζ d0):=Zv
theorem Ys:Ha n (kZ (ζ x1) (ζ x2) (à<|.own x3) o4) kn kr=kr (.own x3):=Zv
theorem Yt:rn (n+1) QO [.fz a1]=zp (zy .Not<|rn n L_ [.fz a1]) (pB (so "BadTree") [κ<|.str<|so "no tree"]) (κ .none):=Zv
theorem Yu:rn (n+1) EM [.fz a1,.fz a2,.fz a3,.fz a4]=zp (zy .Not<|κ a1) (Xj n (so "BadPut") [so "way",so "kind",so "part"] (κ a2) (κ a3)<|rn n NQ [.fz a4]) (κ .none):=Zv
def jY:aA:=[(GY,p0),(NU,p1),(NV,p2),(GX,p3),(KT,p4)]
def yK:=cE BB (so "put_call") n 23<|bR<|List.drop 2<|aR BB<|so "put_call"
def yL:=cN<|List.drop 2<|aR BB<|so "put_call"
def Hb:=CH BB (so "put_call") n 24<|List.drop 3<|aR BB<|so "put_call"
theorem Yv:rn (n+1) "put_call" [.fz a1,.fz a2,.fz a3]=rb (aE (rn n EM) [bD (κ<|.bool<|b7 a2)<|bD (aC (Zy<|Zx a1<|.int 2) .In<|κ a2)<|aC (Zy<|Zx a1<|.int 1) .NotIn<|κ a2,κ a3,κ<|.str<|so "form",κ a2]) λ_=>rb (Zy<|items a2) λl1=>aX (yK n) yL l1 (jY (ζ a1) (ζ a2) (ζ a3) (à<|.own<|.dict []) á) (λσ=>Hb n σ (λ_=>κ .none) Zt) Zt:=Zv
theorem Yw:a9 yL d0 (jY p0 p1 p2 p3 p4)=.ok (jY p0 p1 p2 p3<|ζ d0):=Zv
theorem Yx:yK n (jY (ζ x1) (ζ x2) (ζ x3) (à<|.own x4)<|ζ d0) kn kr=zp (aC (κ d0) .Eq<|Zy<|Zx x1<|.int 2) (bK (Zy<|Zx x2 d0) (.ok x4) (Zy<|Zx x1<|.int 1) λo1=>kn<|jY (ζ x1) (ζ x2) (ζ x3) (à<|.own o1)<|ζ d0) (bK (Zy<|Zx x2 d0) (.ok x4) (κ d0) λo2=>kn<|jY (ζ x1) (ζ x2) (ζ x3) (à<|.own o2)<|ζ d0):=Zv
theorem Yy:Hb n (jY (ζ x1) (ζ x2) (ζ x3) (à<|.own x4) o5) kn kr=kr (.own x4):=Zv
def jZ:aA:=[(GY,p0),(so "old",p1),(NU,p2),(NV,p3),(so "names",p4),(GX,p5),(KT,p6),(so "part",p7),(so "inner",p8)]
def gW:=cE BB (so "put_beside") n 23<|bR<|List.drop 3<|aR BB<|so "put_beside"
def gY:=cN<|List.drop 3<|aR BB<|so "put_beside"
def Hc:=CH BB (so "put_beside") n 24<|List.drop 4<|aR BB<|so "put_beside"
theorem Yz:rn (n+1) "put_beside" [.fz a1,.fz a2,.fz a3,.fz a4]=rb (aN (BD<|Zy<|Zx a1<|.int 1) (λd1=>.ok â) λd1=>Zy<|Zx d1<|.int 0) λv2=>rb (aE (rn n EM) [bD (κ<|.bool<|b7 a3)<|aC (Zy<|bX a3) .Eq<|aK bX<|Zy<|zi<|Zr v2,κ a4,κ<|.str<|so "form",κ a3]) λ_=>rb (Zy<|bA a2) λv3=>rb (BD<|Zy<|Zx a1<|.int 1) λl4=>aX (gW n) gY l4 (jZ (ζ a1) (ζ a2) (ζ a3) (ζ a4) (à<|Zr v2) (à v3) á á á) (λσ=>Hc n σ (λ_=>κ .none) Zt) Zt:=Zv
theorem Y5:a9 gY (.tuple [d0,d1,d2]) (jZ p0 p1 p2 p3 p4 p5 p6 p7 p8)=.ok (jZ p0 p1 p2 p3 p4 p5 (ζ d0) (ζ d1)<|ζ d2):=Zv
theorem Y6:gW n (jZ (ζ x1) (ζ x2) (ζ x3) (ζ x4) (à w5) (à w6) (ζ d0) (ζ d1)<|ζ d2) kn kr=bK (aE (rn n DI) [κ d2,Zy<|Zx x2 d1,Zy<|Zx x3 d0,aB .Add (κ x4)<|cH [κ d0]]) (Zy<|dH w6) (κ d1) λo1=>kn (jZ (ζ x1) (ζ x2) (ζ x3) (ζ x4) (à w5) (à<|.own o1) (ζ d0) (ζ d1)<|ζ d2):=Zv
theorem Y7:Hc n (jZ (ζ x1) (ζ x2) (ζ x3) (ζ x4) (à w5) (à w6) o7 o8 o9) kn kr=eV w6 kr:=Zv
def lA:aA:=[(GY,p0),(so "old",p1),(NU,p2),(NV,p3),(NT,p4),(so "good",p5),(so "hidden",p6),(GX,p7)]
def yM:=cE BB (so "put_sift") n 23<|bR<|List.drop 5<|aR BB<|so "put_sift"
def yN:=cN<|List.drop 5<|aR BB<|so "put_sift"
def Hd:=CH BB (so "put_sift") n 24<|List.drop 6<|aR BB<|so "put_sift"
theorem Y8:rn (n+1) "put_sift" [.fz a1,.fz a2,.fz a3,.fz a4]=rb (bD (rn n HV [.fz a3])<|aK dD<|aN (Zy<|items a3) (λd1=>.ok â) λd1=>aE (rn n HY) [Zy<|Zx a3 d1,Zy<|Zx a1<|.int 1,Zy<|Zx a1<|.int 2]) λv2=>rb (aE (rn n EM) [bS<|Zr v2,κ a4,κ<|.str<|so "form",κ a3]) λ_=>rb (aN (Zy<|items a2) (λd3=>zu<|zy .Not<|aE (rn n HY) [Zy<|Zx a2 d3,Zy<|Zx a1<|.int 1,Zy<|Zx a1<|.int 2]) λd3=>κ d3) λv4=>rb (aE (rn n EM) [aC (aN (Zy<|items a3) (λd6=>zu<|aC (κ d6) .In<|Zy<|zi<|Zr v4) λd6=>κ d6) .Eq<|.ok<|.own<|.list [],κ a4,κ<|.str<|so "hidden",κ a3]) λ_=>rb (BD<|Zy<|zi<|Zr<|Zr v4) λl7=>aX (yM n) yN l7 (lA (ζ a1) (ζ a2) (ζ a3) (ζ a4) á (à<|Zr v2) (à<|Zr<|Zr v4)<|some<|.own<|.dict []) (λσ=>Hd n σ (λ_=>κ .none) Zt) Zt:=Zv
theorem Y9:a9 yN d0 (lA p0 p1 p2 p3 p4 p5 p6 p7)=.ok (lA p0 p1 p2 p3 (ζ d0) p5 p6 p7):=Zv
theorem Za:yM n (lA (ζ x1) (ζ x2) (ζ x3) (ζ x4) (ζ d0) (à w6) (à w7)<|some<|.own x8) kn kr=bK (Zy<|Zx x2 d0) (.ok x8) (κ d0) λo1=>kn (lA (ζ x1) (ζ x2) (ζ x3) (ζ x4) (ζ d0) (à w6) (à w7)<|some<|.own o1):=Zv
theorem Zb:Hd n (lA (ζ x1) (ζ x2) (ζ x3) (ζ x4) o5 (à w6) (à w7)<|some<|.own x8) kn kr=fD (.ok x8) (so "update") [κ x3] λo1=>kr (.own o1):=Zv
def lB:aA:=[(GY,p0),(so "old",p1),(NU,p2),(NV,p3),(so "one",p4),(so "other",p5),(NT,p6),(so "left",p7),(so "right",p8),(so "row",p9),(GX,CT)]
def yO:=cE BB (so "put_join") n 23<|bR<|List.drop 6<|aR BB<|so "put_join"
def yP:=cN<|List.drop 6<|aR BB<|so "put_join"
def He:=CH BB (so "put_join") n 24<|List.drop 7<|aR BB<|so "put_join"
theorem Zc:rn (n+1) "put_join" [.fz a1,.fz a2,.fz a3,.fz a4]=rb (aE (rn n EM) [rn n HV [.fz a3],κ a4,κ<|.str<|so "form",κ a3]) λ_=>rb (aI (.ok a2)<|Zy<|Zx a1<|.int 1) λv1=>rb (aI (.ok a2)<|Zy<|Zx a1<|.int 2) λv2=>rb (aE (rn n EM) [aC (aN (Zy<|items a3) (λd4=>zu<|aC (aC (κ d4) .In<|Zy<|zi<|Zr v1) .NotEq<|aC (κ d4) .In<|Zy<|zi<|Zr v2) λd4=>κ d4) .Eq<|.ok<|.own<|.list [],κ a4,κ<|.str<|so "hidden",κ a3]) λ_=>rb (aK bA<|aN (BD<|Zy<|zi<|Zr<|Zr v1) (λd5=>zu<|aC (κ d5) .NotIn<|Zy<|zi<|Zr<|Zr v2) λd5=>aO [κ d5,aI (bG<|Zr<|Zr v1)<|κ d5]) λv6=>rb (aK bA<|aN (BD<|Zy<|zi<|Zr<|Zr<|Zr v2) (λd7=>zu<|aC (κ d7) .NotIn<|Zy<|zi<|Zr<|Zr<|Zr v1) λd7=>aO [κ d7,aI (bG<|Zr<|Zr<|Zr v2)<|κ d7]) λv8=>rb (Zy<|items a3) λl9=>aX (yO n) yP l9 (lB (ζ a1) (ζ a2) (ζ a3) (ζ a4) (à<|Zr<|Zr<|Zr v1) (à<|Zr<|Zr<|Zr v2) á (à v6) (à v8) á á) (λσ=>He n σ (λ_=>κ .none) Zt) Zt:=Zv
theorem Zd:a9 yP d0 (lB p0 p1 p2 p3 p4 p5 p6 p7 p8 p9 CT)=.ok (lB p0 p1 p2 p3 p4 p5 (ζ d0) p7 p8 p9 CT):=Zv
theorem Ze:yO n (lB (ζ x1) (ζ x2) (ζ x3) (ζ x4) (à w5) (à w6) (ζ d0) (à w8) (à w9) AC á) kn kr=rb (Zy<|Zx x3 d0) λv1=>bK (aK bA<|aN (BD<|Zy<|zi<|Zr v1) (λd2=>zu<|aC (κ d2) .In<|Zy<|Zx x1<|.int 3) λd2=>aO [κ d2,aI (bG<|Zr v1)<|κ d2]) (Zy<|dH w8) (κ d0) λo3=>bK (aK bA<|aN (BD<|Zy<|zi<|Zr<|Zr v1) (λd4=>zu<|aC (κ d4) .NotIn<|Zy<|Zx x1<|.int 3) λd4=>aO [κ d4,aI (bG<|Zr<|Zr v1)<|κ d4]) (Zy<|dH w9) (κ d0) λo5=>kn (lB (ζ x1) (ζ x2) (ζ x3) (ζ x4) (à w5) (à w6) (ζ d0) (à<|.own o3) (à<|.own o5) (à<|Zr<|Zr v1) á):=Zv
theorem Zf:He n (lB (ζ x1) (ζ x2) (ζ x3) (ζ x4) (à w5) (à w6) o7 (à w8) (à w9) AC á) kn kr=rb (Zy<|bA x2) λv1=>bK (Zy<|zi<|Zr w8) (Zy<|dH v1) (Zy<|Zx x1<|.int 1) λo2=>bK (Zy<|zi<|Zr w9) (.ok o2) (Zy<|Zx x1<|.int 2) λo3=>kr (.own o3):=Zv
def iV:aA:=[(GY,p0),(so "old",p1),(NU,p2),(NV,p3),(GX,p4),(KT,p5)]
def tC:=cE BB (so "put_each") n 23<|bR<|List.drop 3<|aR BB<|so "put_each"
def tD:=cN<|List.drop 3<|aR BB<|so "put_each"
def Hf:=CH BB (so "put_each") n 24<|List.drop 4<|aR BB<|so "put_each"
theorem Zg:rn (n+1) "put_each" [.fz a1,.fz a2,.fz a3,.fz a4]=rb (rn n EM [.fz<|.bool<|b7 a3,.fz a4,.fz<|.str<|so "form",.fz a3]) λ_=>rb (aE (rn n EM) [aC (Zy<|bX a3) .Eq<|Zy<|bX a2,κ a4,κ<|.str<|so "names",κ a3]) λ_=>rb (BD<|Zy<|bX a3) λl1=>aX (tC n) tD l1 (iV (ζ a1) (ζ a2) (ζ a3) (ζ a4) (à<|.own<|.dict []) á) (λσ=>Hf n σ (λ_=>κ .none) Zt) Zt:=Zv
theorem Zh:a9 tD d0 (iV p0 p1 p2 p3 p4 p5)=.ok (iV p0 p1 p2 p3 p4<|ζ d0):=Zv
theorem Zi:tC n (iV (ζ x1) (ζ x2) (ζ x3) (ζ x4) (à<|.own x5)<|ζ d0) kn kr=bK (aE (rn n DI) [Zy<|Zx x1<|.int 1,Zy<|Zx x2 d0,Zy<|Zx x3 d0,aB .Add (κ x4)<|cH [κ d0]]) (.ok x5) (κ d0) λo1=>kn (iV (ζ x1) (ζ x2) (ζ x3) (ζ x4) (à<|.own o1)<|ζ d0):=Zv
theorem Zj:Hf n (iV (ζ x1) (ζ x2) (ζ x3) (ζ x4) (à<|.own x5) o6) kn kr=kr (.own x5):=Zv
theorem Zk:rn (n+1) "put" [.fz a1,.fz a2,.fz a3]=rb (rn n "need_view" [.fz a1]) λ_=>rb (rn n QO [.fz a2]) λ_=>rb (rn n DT [.fz a1,.fz a2]) λ_=>rb (rn n QO [.fz a3]) λ_=>rb (aE (rn n NQ) [rn n DI [.fz a1,.fz a2,.fz a3,.fz<|.list []]]) Zt:=Zv
theorem Zl:rn (n+1) MA [.fz a1,.fz a2]=zp (aC (κ a2) .Lt<|Zy<|bQ a1) (rb (Zy<|Zx a1 a2) Zt) (κ<|.int 0):=Zv
theorem Zm:rn (n+1) IX [.fz a1,.fz a2]=rb (aB .Mod (aB .Add (aB .Add (aB .Mult (aE (rn n MA) [κ a1,aB .Add (κ<|.int 2)<|Zy<|aG .Mod a2<|.int 24])<|κ<|.int 48271)<|Zy<|aG .Mult (.int 7919) a2)<|κ<|.int 12345)<|κ<|.int 2147483647) Zt:=Zv
theorem Zn:rn (n+1) "_law_name" [.fz a1,.fz a2]=rb (aB .Add (κ<|.int 1)<|Zy<|aG .Mod a1<|.int 8) λv1=>rb (aN (ES<|κ<|.int 8) (λd2=>.ok â) λd2=>aI (.ok<|.str<|so "abcdefghijklmnopqrstuvwxyz")<|aB .Mod (aB .Add (Zy<|aG .FloorDiv a1<|.int 8)<|Zy<|aG .Mult (.int 5) d2)<|κ<|.int 26) λv3=>zp (aC (aB .Mod (Zy<|aG .FloorDiv a1<|.int 1664)<|κ<|.int 3) .Eq<|κ<|.int 1) (bK (aI (.ok<|.str<|so "abcdefghijklmnopqrstuvwxyz")<|aB .Mod (aB .Add (Zy<|aG .FloorDiv a1<|.int 8)<|Zy<|aG .FloorDiv a2<|.int 8)<|κ<|.int 26) (Zy<|dH v3) (κ<|.int 0) λo4=>rb (eU (so "join") (κ<|.str<|so "") [dX (.ok o4) á<|some<|aB .Add (κ<|.int 1)<|Zy<|aG .Mod a2<|.int 8]) Zt) (bK (aI (.ok<|.str<|so "abcdefghijklmnopqrstuvwxyz")<|aB .Mod (aB .Add (aB .Add (Zy<|aG .FloorDiv a1<|.int 8)<|κ<|.int 7)<|κ a2)<|κ<|.int 26) (Zy<|dH v3) (aB .Mod (Zy<|aG .FloorDiv a1<|.int 208)<|Zy<|zi v1) λo5=>rb (eU (so "join") (κ<|.str<|so "") [dX (.ok o5) á<|some<|Zy<|zi<|Zr v1]) Zt):=Zv
theorem Zo:rn (n+1) "_law_names" [.fz a1]=rb (aN (ES<|κ<|.int 14) (λd1=>.ok â) λd1=>aE (rn n "_law_name") [rn n MA [.fz a1,.fz<|.int 0],κ d1]) Zt:=Zv
theorem q0A:rn (n+1) FM [.fz a1]=zp (aC (Zy<|aG .Mod a1<|.int 5) .Eq<|κ<|.int 4) (rb (aB .Add (aI (cI<|cH [Zy<|aG .Pow (.int 10)<|.int 20,zy .USub<|Zy<|aG .Pow (.int 10)<|.int 20,Zy<|aG .Pow (.int 10)<|.int 12,κ<|.int 0])<|aB .Mod (Zy<|aG .FloorDiv a1<|.int 5)<|κ<|.int 4)<|aB .Mod (Zy<|aG .FloorDiv a1<|.int 20)<|κ<|.int 3) Zt) (zp (aC (Zy<|aG .Mod a1<|.int 5) .Eq<|κ<|.int 3) (rb (aB .Sub (aB .Mod (aB .Mult (Zy<|aG .FloorDiv a1<|.int 5)<|κ<|.int 48271)<|κ<|.int 2000003)<|κ<|.int 1000001) Zt)<|zp (aC (Zy<|aG .Mod a1<|.int 15) .Eq<|κ<|.int 2) (rb (aB .Mult (aK fH<|aB .Mult (κ<|.str<|so "37")<|aB .Add (κ<|.int 1)<|aB .Mod (Zy<|aG .FloorDiv a1<|.int 15)<|κ<|.int 14)<|aB .Sub (κ<|.int 1)<|aB .Mult (aB .Mod (Zy<|aG .FloorDiv a1<|.int 210)<|κ<|.int 2)<|κ<|.int 2) Zt)<|rb (aB .Sub (aB .Mod (Zy<|aG .FloorDiv a1<|.int 5)<|κ<|.int 9)<|κ<|.int 4) Zt):=Zv
def dJ:aA:=[(TR,p0),(so "_law_k",p1),(QT,p2),(so "_law_fields",p3),(MB,p4),(so "_law_j",p5),(so "_law_row",p6),(so "_law_i",p7),(so "_law_field",p8),(so "_law_cell",p9)]
def tE:=cE BB (so "_law_table") n 23<|bR<|List.drop 1<|aR BB<|so "_law_table"
def tF:=cN<|List.drop 1<|aR BB<|so "_law_table"
def Hg:=CH BB (so "_law_table") n 24<|List.drop 2<|aR BB<|so "_law_table"
theorem q0B:rn (n+1) JW [.fz a1,.fz a2,.fz a3,.fz a4]=rb (ES<|κ<|.int 4) λl1=>aX (tE n) tF l1 (dJ (ζ a1) (ζ a2) (ζ a3) (ζ a4) (à<|.own<|.dict []) á á á á á) (λσ=>Hg n σ (λ_=>κ .none) Zt) Zt:=Zv
theorem q0C:a9 tF d0 (dJ p0 p1 p2 p3 p4 p5 p6 p7 p8 p9)=.ok (dJ p0 p1 p2 p3 p4 (ζ d0) p6 p7 p8 p9):=Zv
def pE:=cE BB (so "_law_table") n 21<|bR<|List.drop 1<|mV<|bR<|List.drop 1<|aR BB<|so "_law_table"
def pF:=cN<|List.drop 1<|mV<|bR<|List.drop 1<|aR BB<|so "_law_table"
def yQ:=CH BB (so "_law_table") n 22<|List.drop 2<|mV<|bR<|List.drop 1<|aR BB<|so "_law_table"
theorem q0D:tE n (dJ (ζ x1) (ζ x2) (ζ x3) (ζ x4) (à<|.own x5) (ζ d0) o7 o8 o9 AC) kn kr=zp (aC (aB .Mod (aE (rn n IX) [κ x1,aB .Add (κ x2)<|Zy<|aG .Mult (.int 10) d0])<|κ<|.int 3) .Gt<|κ<|.int 0) (rb (HU<|κ x4) λl1=>aX (pE n) pF l1 (dJ (ζ x1) (ζ x2) (ζ x3) (ζ x4) (à<|.own x5) (ζ d0) (à<|.own<|.dict []) o8 o9 AC) (λσ=>yQ n σ (λσ=>CH BB (so "_law_table") n 23 (List.drop 1<|bR<|List.drop 1<|aR BB<|so "_law_table") σ kn kr) kr) kr) (kn<|dJ (ζ x1) (ζ x2) (ζ x3) (ζ x4) (à<|.own x5) (ζ d0) o7 o8 o9 AC):=Zv
theorem q0E:Hg n (dJ (ζ x1) (ζ x2) (ζ x3) (ζ x4) (à<|.own x5) o6 o7 o8 o9 AC) kn kr=kr (.own x5):=Zv
theorem q0F:a9 pF (.tuple [d0,d1]) (dJ p0 p1 p2 p3 p4 p5 p6 p7 p8 p9)=.ok (dJ p0 p1 p2 p3 p4 p5 p6 (ζ d0) (ζ d1) p9):=Zv
theorem q0G:pE n (dJ (ζ x1) (ζ x2) (ζ x3) (ζ x4) (à<|.own x5) (ζ x6) (à<|.own x7) (ζ d0) (ζ d1) AC) kn kr=rb (aE (rn n IX) [κ x1,aB .Add (aB .Add (aB .Add (κ x2)<|Zy<|aG .Mult (.int 10) x6)<|κ d0)<|κ<|.int 1]) λv1=>zp (aC (aB .Mod (Zy<|zi<|Zr v1)<|κ<|.int 4) .Gt<|κ<|.int 0) (bK (aE (rn n FM) [aB .FloorDiv (Zy<|zi<|Zr<|Zr v1)<|κ<|.int 4]) (.ok x7) (κ d1) λo2=>kn<|dJ (ζ x1) (ζ x2) (ζ x3) (ζ x4) (à<|.own x5) (ζ x6) (à<|.own o2) (ζ d0) (ζ d1)<|some<|Zr<|Zr v1) (zp (aC (aB .Mod (Zy<|zi<|Zr<|Zr v1)<|κ<|.int 12) .Eq<|κ<|.int 0) (bK (fS [(Zy<|Zx x3<|.int 0,aB .Mod (aB .FloorDiv (Zy<|zi<|Zr<|Zr<|Zr v1)<|κ<|.int 12)<|κ<|.int 5)]) (.ok x7) (κ d1) λo3=>kn<|dJ (ζ x1) (ζ x2) (ζ x3) (ζ x4) (à<|.own x5) (ζ x6) (à<|.own o3) (ζ d0) (ζ d1)<|some<|Zr<|Zr<|Zr v1)<|kn<|dJ (ζ x1) (ζ x2) (ζ x3) (ζ x4) (à<|.own x5) (ζ x6) (à<|.own x7) (ζ d0) (ζ d1)<|some<|Zr<|Zr v1):=Zv
theorem q0H:yQ n (dJ (ζ x1) (ζ x2) (ζ x3) (ζ x4) (à<|.own x5) (ζ x6) (à<|.own x7) o8 o9 AC) kn kr=bK (κ x7) (.ok x5) (aI (.ok x3)<|Zy<|aG .Add (.int 9) x6) λo1=>kn (dJ (ζ x1) (ζ x2) (ζ x3) (ζ x4) (à<|.own o1) (ζ x6) (ζ x7) o8 o9 AC):=Zv
def eW:aA:=[(TR,p0),(QT,p1),(MB,p2),(so "_law_k",p3)]
def pG:=cE BB (so "_law_house") n 23<|bR<|List.drop 5<|aR BB<|so "_law_house"
def pH:=cN<|List.drop 5<|aR BB<|so "_law_house"
def Hh:=CH BB (so "_law_house") n 24<|List.drop 6<|aR BB<|so "_law_house"
theorem q0I:rn (n+1) QP [.fz a1,.fz a2]=rb (fS [(Zy<|Zx a2<|.int 0,aE (rn n FM) [rn n IX [.fz a1,.fz<|.int 1]])]) λv1=>bK (fS [(Zy<|Zx a2<|.int 5,aE (rn n FM) [rn n IX [.fz a1,.fz<|.int 2]]),(Zy<|Zx a2<|.int 6,fS [(Zy<|Zx a2<|.int 0,κ<|.int 3)])]) (Zy<|dH v1) (Zy<|Zx a2<|.int 1) λo2=>bK (aE (rn n JW) [κ a1,κ<|.int 20,κ a2,dX (.ok a2) (à<|κ<|.int 5)<|some<|κ<|.int 7]) (.ok o2) (Zy<|Zx a2<|.int 2) λo3=>bK (aE (rn n JW) [κ a1,κ<|.int 70,κ a2,dX (.ok a2) (à<|κ<|.int 7)<|some<|κ<|.int 9]) (.ok o3) (Zy<|Zx a2<|.int 3) λo4=>bK (fS [(Zy<|Zx a2<|.int 2,aE (rn n JW) [κ a1,κ<|.int 120,κ a2,dX (.ok a2) (à<|κ<|.int 5)<|some<|κ<|.int 9]),(Zy<|Zx a2<|.int 0,κ<|.int 1)]) (.ok o4) (Zy<|Zx a2<|.int 4) λo5=>rb (ES<|κ<|.int 5) λl6=>aX (pG n) pH l6 (eW (ζ a1) (ζ a2) (à<|.own o5) á) (λσ=>Hh n σ (λ_=>κ .none) Zt) Zt:=Zv
theorem q0J:a9 pH d0 (eW p0 p1 p2 p3)=.ok (eW p0 p1 p2<|ζ d0):=Zv
theorem q0K:pG n (eW (ζ x1) (ζ x2) (à<|.own x3)<|ζ d0) kn kr=zp (aC (aB .Mod (aE (rn n IX) [κ x1,Zy<|aG .Add (.int 200) d0])<|κ<|.int 9) .Eq<|κ<|.int 0) (fD (.ok x3) (so "pop") [Zy<|Zx x2 d0] λo1=>kn<|eW (ζ x1) (ζ x2) (à<|.own o1)<|ζ d0) (kn<|eW (ζ x1) (ζ x2) (à<|.own x3)<|ζ d0):=Zv
theorem Z0:Hh n (eW (ζ x1) (ζ x2) (à<|.own x3) o4) kn kr=rb (aI (cI<|cH [κ x3,eU (so "get") (κ x3) [Zy<|Zx x2<|.int 2,.ok<|.own<|.dict []],eU (so "get") (κ x3) [Zy<|Zx x2<|.int 4,κ<|.int 5]])<|aB .Mod (aB .Mod (rn n MA [.fz x1,.fz<|.int 1])<|κ<|.int 5)<|κ<|.int 3) kr:=Zv
theorem Hi:rn (n+1) DJ [.fz a1]=TK (bJ (n+1) a1) a1 (zp (κ<|.bool<|b7 a1) (rb (aK bA<|aN (Zy<|items a1) (λd1=>.ok â) λd1=>aO [κ d1,aE (rn n DJ) [Zy<|Zx a1 d1]]) Zt)<|κ a1):=Zv
theorem yR:rn (n+1) FE [.fz a1,.fz a2]=zp (κ<|.bool<|b7 a2) (zp (BH (zy .Not<|κ<|.bool<|b7 a1)<|aC (aK bX<|Zy<|dO a1) .NotEq<|aK bX<|Zy<|dO a2) (κ<|.bool ã)<|rb (aK dD<|aN (Zy<|items a2) (λd1=>.ok â) λd1=>aE (rn n FE) [Zy<|Zx a1 d1,Zy<|Zx a2 d1]) Zt) (rb (bD (κ<|.bool<|iM a1)<|bD (zy .Not<|κ<|.bool<|jH a1)<|aS<|Zy<|BX .Eq a1 a2) Zt):=Zv
theorem Hj:rn (n+1) EB [.fz a1]=zp (zy .Not<|κ<|.bool<|b7 a1) (κ<|.bool ã) (rb (aC (aN (Zy<|items a1) (λd1=>zu<|zy .Not<|fT (so "dict")<|Zy<|Zx a1 d1) λd1=>κ d1) .Eq<|.ok<|.own<|.list []) Zt):=Zv
theorem Z4:rn (n+1) GV [.fz a1,.fz a2,.fz a3]=rb (bD (fT (so "int")<|eU (so "get") (κ a1) [κ a2])<|aC (Zy<|Zx a1 a2) .GtE<|κ a3) Zt:=Zv
def dK:aA:=[(QU,p0),(QV,p1),(so "_law_one",p2),(so "_law_other_here",p3),(so "_law_key",p4),(MB,p5)]
def tG:=cE BB (so "_law_joins") n 23<|bR<|List.drop 3<|aR BB<|so "_law_joins"
def tH:=cN<|List.drop 3<|aR BB<|so "_law_joins"
def yS:=CH BB (so "_law_joins") n 24<|List.drop 4<|aR BB<|so "_law_joins"
theorem Z8:rn (n+1) "_law_joins" [.fz a1,.fz a2]=rb (eU (so "get") (κ a2) [Zy<|Zx a1<|.int 1]) λv1=>rb (eU (so "get") (κ a2) [Zy<|Zx a1<|.int 2]) λv2=>zp (BH (zy .Not<|aE (rn n EB) [bS<|Zr v1])<|zy .Not<|aE (rn n EB) [bS<|Zr v2]) (κ .none) (rb (BD<|Zy<|zi<|Zr<|Zr v1) λl3=>aX (tG n) tH l3 (dK (ζ a1) (ζ a2) (à<|Zr<|Zr v1) (à<|Zr v2) á á) (λσ=>yS n σ (λ_=>κ .none) Zt) Zt):=Zv
theorem Z9:a9 tH d0 (dK p0 p1 p2 p3 p4 p5)=.ok (dK p0 p1 p2 p3 (ζ d0) p5):=Zv
theorem q0a:tG n (dK (ζ x1) (ζ x2) (à w3) (à w4) (ζ d0) á) kn kr=zp (aC (aN (BD<|aI (bG w3)<|κ d0) (λd1=>zu<|aC (κ d1) .NotIn<|Zy<|Zx x1<|.int 3) λd1=>κ d1) .NotEq<|.ok<|.own<|.list []) (kr<|.fz .none) (kn<|dK (ζ x1) (ζ x2) (à w3) (à w4) (ζ d0) á):=Zv
def tI:=cE BB (so "_law_joins") n 23<|bR<|List.drop 4<|aR BB<|so "_law_joins"
def tJ:=cN<|List.drop 4<|aR BB<|so "_law_joins"
def yT:=CH BB (so "_law_joins") n 24<|List.drop 5<|aR BB<|so "_law_joins"
theorem q0b:yS n (dK (ζ x1) (ζ x2) (à w3) (à w4) o5 á) kn kr=rb (BD<|Zy<|zi<|Zr w4) λl1=>aX (tI n) tJ l1 (dK (ζ x1) (ζ x2) (à w3) (à<|Zr w4) o5 á) (λσ=>yT n σ kn kr) kr:=Zv
theorem q0c:a9 tJ d0 (dK p0 p1 p2 p3 p4 p5)=.ok (dK p0 p1 p2 p3 (ζ d0) p5):=Zv
theorem q0d:tI n (dK (ζ x1) (ζ x2) (à w3) (à w4) (ζ d0) á) kn kr=zp (aC (aN (BD<|aI (bG w4)<|κ d0) (λd1=>zu<|aC (κ d1) .In<|Zy<|Zx x1<|.int 3) λd1=>κ d1) .NotEq<|.ok<|.own<|.list []) (kr<|.fz .none) (kn<|dK (ζ x1) (ζ x2) (à w3) (à w4) (ζ d0) á):=Zv
def pI:=cE BB (so "_law_joins") n 23<|bR<|List.drop 6<|aR BB<|so "_law_joins"
def pJ:=cN<|List.drop 6<|aR BB<|so "_law_joins"
def yU:=CH BB (so "_law_joins") n 24<|List.drop 7<|aR BB<|so "_law_joins"
theorem q0e:yT n (dK (ζ x1) (ζ x2) (à w3) (à w4) o5 á) kn kr=rb (BD<|Zy<|zi<|Zr w3) λl1=>aX (pI n) pJ l1 (dK (ζ x1) (ζ x2) (à<|Zr w3) (à w4) o5<|some<|.own<|.dict []) (λσ=>yU n σ kn kr) kr:=Zv
theorem q0f:a9 pJ d0 (dK p0 p1 p2 p3 p4 p5)=.ok (dK p0 p1 p2 p3 (ζ d0) p5):=Zv
theorem q0g:pI n (dK (ζ x1) (ζ x2) (à w3) (à w4) (ζ d0)<|some<|.own x6) kn kr=zp (aC (κ d0) .In<|Zy<|zi<|Zr w4) (bK (aK bA<|aB .Add (aK f0<|aI (bG w3)<|κ d0)<|aK f0<|aI (bG<|Zr w4)<|κ d0) (.ok x6) (κ d0) λo1=>kn<|dK (ζ x1) (ζ x2) (à w3) (à<|Zr w4) (ζ d0)<|some<|.own o1) (kn<|dK (ζ x1) (ζ x2) (à w3) (à<|Zr w4) (ζ d0)<|some<|.own x6):=Zv
theorem q0h:yU n (dK (ζ x1) (ζ x2) (à w3) (à w4) o5<|some<|.own x6) kn kr=rb (rn n DJ [.fz x6]) kr:=Zv
theorem q0i:rn (n+1) HZ [.fz a1]=zp (aC (aN (Zy<|items a1) (λd1=>zu<|aC (Zy<|Zx d1<|.int 1) .Is<|κ .none) λd1=>κ d1) .NotEq<|.ok<|.own<|.list []) (κ .none) (rb (Zy<|bA a1) Zt):=Zv
theorem q0j:rn (n+1) H_ [.fz a1,.fz a2,.fz a3]=rb (aN (BD<|aK bX<|Zy<|dO a2) (λd1=>zu<|fT (so "dict")<|Zy<|Zx a2 d1) λd1=>Zy<|Zx a2 d1) λv2=>rb (aN (BD<|Zy<|zi<|Zr v2) (λd3=>zu<|fT (so "int")<|eU (so "get") (κ d3) [κ a3]) λd3=>Zy<|Zx d3 a3) λv4=>zp (BH (aC (Zy<|zi<|Zr v4) .Eq<|.ok<|.own<|.list [])<|aC (Zy<|aG .Mod a1<|.int 3) .Eq<|κ<|.int 0) (rb (aB .Sub (aB .Mod (Zy<|aG .FloorDiv a1<|.int 3)<|κ<|.int 7)<|κ<|.int 3) Zt) (rb (aB .Sub (aB .Add (aI (bG<|Zr<|Zr v4)<|aB .Mod (Zy<|aG .FloorDiv a1<|.int 3)<|aK bQ<|Zy<|zi<|Zr<|Zr v4)<|aB .Mod (Zy<|aG .FloorDiv a1<|.int 12)<|κ<|.int 3)<|κ<|.int 1) Zt):=Zv
theorem Hk:rn (n+1) GW [.fz a1,.fz a2,.fz a3]=zp (BH (zy .Not<|κ<|.bool<|b7 a2)<|aC (Zy<|aG .Mod a1<|.int 4) .Eq<|κ<|.int 0) (κ<|.tuple [.str<|so "whole"]) (rb (aK bX<|Zy<|dO a2) λv1=>zp (bD (aC (Zy<|zi<|Zr v1) .NotEq<|.ok<|.own<|.list [])<|aC (Zy<|aG .Mod a1<|.int 4) .Lt<|κ<|.int 3) (zp (aC (Zy<|aG .Mod a1<|.int 4) .Eq<|κ<|.int 1) (rb (aO [κ<|.str<|so "pick",aI (bG<|Zr<|Zr v1)<|aB .Mod (Zy<|aG .FloorDiv a1<|.int 4)<|aK bQ<|Zy<|zi<|Zr<|Zr v1]) Zt)<|rb (aI (.ok a3)<|aB .Mod (Zy<|aG .FloorDiv a1<|.int 16)<|κ<|.int 14) λv2=>zp (aC (Zy<|zi<|Zr v2) .NotIn<|κ a2) (rb (aO [κ<|.str<|so "call",aI (bG<|Zr<|Zr v1)<|aB .Mod (Zy<|aG .FloorDiv a1<|.int 4)<|aK bQ<|Zy<|zi<|Zr<|Zr v1,Zy<|zi<|Zr<|Zr v2]) Zt)<|zp (rn n EB [.fz a2]) (rb (aI (.ok a3)<|aB .Add (κ<|.int 5)<|aB .Mod (Zy<|aG .FloorDiv a1<|.int 4)<|κ<|.int 4) λv3=>rb (aO [κ<|.str<|so "sift",Zy<|zi<|Zr v3,aE (rn n H_) [Zy<|aG .FloorDiv a1<|.int 16,κ a2,bS<|Zr v3]]) Zt)<|κ<|.tuple [.str<|so "whole"])<|zp (rn n EB [.fz a2]) (rb (aI (.ok a3)<|aB .Add (κ<|.int 5)<|aB .Mod (Zy<|aG .FloorDiv a1<|.int 4)<|κ<|.int 4) λv4=>rb (aO [κ<|.str<|so "sift",Zy<|zi<|Zr v4,aE (rn n H_) [Zy<|aG .FloorDiv a1<|.int 16,κ a2,bS<|Zr v4]]) Zt)<|κ<|.tuple [.str<|so "whole"]):=Zv
def lC:aA:=[(so "_law_more",p0),(QV,p1),(so "_law_some",p2),(QT,p3),(TS,p4),(so "_law_j",p5),(so "_law_part",p6)]
def yV:=cE BB (so "_law_wide") n 23<|bR<|List.drop 1<|aR BB<|so "_law_wide"
def yW:=cN<|List.drop 1<|aR BB<|so "_law_wide"
def Hl:=CH BB (so "_law_wide") n 24<|List.drop 2<|aR BB<|so "_law_wide"
theorem q0k:rn (n+1) QR [.fz a1,.fz a2,.fz a3,.fz a4]=rb (ES<|pA [Zy<|bQ a3,aB .Add (κ<|.int 1)<|aB .Mod (Zy<|aG .FloorDiv a1<|.int 16)<|κ<|.int 6]) λl1=>aX (yV n) yW l1 (lC (ζ a1) (ζ a2) (ζ a3) (ζ a4) (à<|.own<|.list []) á á) (λσ=>Hl n σ (λ_=>κ .none) Zt) Zt:=Zv
theorem q0l:a9 yW d0 (lC p0 p1 p2 p3 p4 p5 p6)=.ok (lC p0 p1 p2 p3 p4 (ζ d0) p6):=Zv
theorem q0m:yV n (lC (ζ x1) (ζ x2) (ζ x3) (ζ x4) (à<|.own x5) (ζ d0) o7) kn kr=rb (aI (.ok x3)<|aB .Mod (Zy<|aG .Add x1 d0)<|Zy<|bQ x3) λv1=>fD (.ok x5) (so "append") [aO [aI (.ok x4)<|aB .Mod (aB .Add (Zy<|aG .FloorDiv x1<|.int 64)<|κ d0)<|κ<|.int 14,Zy<|zi<|Zr v1,aE (rn n GW) [aB .Add (Zy<|aG .FloorDiv x1<|.int 7)<|Zy<|aG .Mult (.int 5) d0,aI (.ok x2)<|Zy<|zi<|Zr v1,κ x4]]] λo2=>kn (lC (ζ x1) (ζ x2) (ζ x3) (ζ x4) (à<|.own o2) (ζ d0)<|some<|Zr v1):=Zv
theorem q0n:Hl n (lC (ζ x1) (ζ x2) (ζ x3) (ζ x4) (à<|.own x5) o6 o7) kn kr=rb (aO [κ<|.str<|so "beside",Zy<|kH x5]) kr:=Zv
theorem q0o:rn (n+1) "_law_piece" [.fz a1,.fz a2,.fz a3]=rb (Zy<|aG .Mod a1<|.int 10) λv1=>rb (Zy<|aG .FloorDiv a1<|.int 10) λv2=>zp (BH (zy .Not<|κ<|.bool<|b7 a2)<|aC (Zy<|zi<|Zr v1) .Eq<|κ<|.int 0) (κ<|.tuple [.str<|so "whole"]) (rb (aK bX<|Zy<|dO a2) λv3=>rb (aI (.ok a3)<|aB .Add (κ<|.int 5)<|aB .Mod (Zy<|zi<|Zr v2)<|κ<|.int 4) λv4=>rb (aO [κ<|.str<|so "sift",Zy<|zi<|Zr v4,aE (rn n H_) [aB .FloorDiv (Zy<|zi<|Zr<|Zr v2)<|κ<|.int 4,κ a2,bS<|Zr v4]]) λv5=>zp (bD (aC (Zy<|zi<|Zr<|Zr v1) .Lt<|κ<|.int 3)<|aC (Zy<|zi<|Zr v3) .NotEq<|.ok<|.own<|.list []) (rb (aO [κ<|.str<|so "pick",aI (bG<|Zr<|Zr v3)<|aB .Mod (Zy<|zi<|Zr<|Zr<|Zr v2)<|aK bQ<|Zy<|zi<|Zr<|Zr v3]) λv6=>eV v6 Zt)<|zp (bD (aC (Zy<|zi<|Zr<|Zr<|Zr v1) .Eq<|κ<|.int 3)<|bD (aC (Zy<|zi<|Zr<|Zr v3) .NotEq<|.ok<|.own<|.list [])<|aC (aI (.ok a3)<|aB .Mod (aB .FloorDiv (Zy<|zi<|Zr<|Zr<|Zr v2)<|κ<|.int 16)<|κ<|.int 14) .NotIn<|Zy<|zi<|Zr<|Zr v3) (rb (aO [κ<|.str<|so "call",aI (bG<|Zr<|Zr<|Zr v3)<|aB .Mod (Zy<|zi<|Zr<|Zr<|Zr<|Zr v2)<|aK bQ<|Zy<|zi<|Zr<|Zr<|Zr v3,aI (.ok a3)<|aB .Mod (aB .FloorDiv (Zy<|zi<|Zr<|Zr<|Zr<|Zr v2)<|κ<|.int 16)<|κ<|.int 14]) λv7=>eV v7 Zt)<|zp (bD (aC (Zy<|zi<|Zr<|Zr<|Zr<|Zr v1) .Eq<|κ<|.int 4)<|aC (Zy<|zi<|Zr<|Zr<|Zr v3) .NotEq<|.ok<|.own<|.list []) (rb (aE (rn n QR) [bS<|Zr<|Zr<|Zr<|Zr v2,κ a2,bS<|Zr<|Zr<|Zr<|Zr v3,κ a3]) λv8=>eV v8 Zt)<|zp (BH (aC (Zy<|zi<|Zr<|Zr<|Zr<|Zr<|Zr v1) .Eq<|κ<|.int 7)<|aC (Zy<|zi<|Zr<|Zr<|Zr<|Zr<|Zr v1) .Eq<|κ<|.int 8) (rb (aB .Add (κ<|.int 5)<|aB .Mult (κ<|.int 2)<|aB .Mod (Zy<|zi<|Zr<|Zr<|Zr<|Zr v2)<|κ<|.int 2) λv9=>rb (dX (.ok a3) (à<|Zy<|zi<|Zr v9)<|some<|aB .Add (Zy<|zi<|Zr v9)<|κ<|.int 2) λPW=>zp (aC (aB .Mod (aB .FloorDiv (Zy<|zi<|Zr<|Zr<|Zr<|Zr<|Zr v2)<|κ<|.int 2)<|κ<|.int 4) .Eq<|κ<|.int 1) (rb (aB .Add (κ<|.int 4)<|aB .Mod (aB .FloorDiv (Zy<|zi<|Zr<|Zr<|Zr<|Zr<|Zr<|Zr v2)<|κ<|.int 8)<|κ<|.int 4) λϤ=>rb (dX (.ok a3) (à<|Zy<|zi<|Zr Ϥ)<|some<|aB .Add (aB .Add (Zy<|zi<|Zr Ϥ)<|κ<|.int 1)<|aB .Mod (aB .FloorDiv (Zy<|zi<|Zr<|Zr<|Zr<|Zr<|Zr<|Zr<|Zr v2)<|κ<|.int 32)<|κ<|.int 6) λv12=>rb (aO [κ<|.str<|so "join",aI (.ok a3)<|aB .Add (κ<|.int 2)<|aB .Mod (Zy<|zi<|Zr<|Zr<|Zr<|Zr<|Zr<|Zr<|Zr<|Zr v2)<|κ<|.int 2,aI (.ok a3)<|aB .Sub (κ<|.int 3)<|aB .Mod (Zy<|zi<|Zr<|Zr<|Zr<|Zr<|Zr<|Zr<|Zr<|Zr v2)<|κ<|.int 2,aK kH<|Zy<|zi<|Zr v12]) λv13=>eV v13 Zt)<|rb (aO [κ<|.str<|so "join",aI (.ok a3)<|aB .Add (κ<|.int 2)<|aB .Mod (Zy<|zi<|Zr<|Zr<|Zr<|Zr<|Zr<|Zr v2)<|κ<|.int 2,aI (.ok a3)<|aB .Sub (κ<|.int 3)<|aB .Mod (Zy<|zi<|Zr<|Zr<|Zr<|Zr<|Zr<|Zr v2)<|κ<|.int 2,aK kH<|Zy<|zi<|Zr PW]) λv14=>eV v14 Zt)<|zp (aC (Zy<|zi<|Zr<|Zr<|Zr<|Zr<|Zr<|Zr v1) .Eq<|κ<|.int 9) (rb (aO [κ<|.str<|so "each",aE (rn n GW) [aB .FloorDiv (Zy<|zi<|Zr<|Zr<|Zr<|Zr v2)<|κ<|.int 5,fC (aC (Zy<|zi<|Zr<|Zr<|Zr<|Zr v3) .NotEq<|.ok<|.own<|.list []) (aI (.ok a2)<|aI (bG<|Zr<|Zr<|Zr<|Zr v3)<|aB .Mod (Zy<|zi<|Zr<|Zr<|Zr<|Zr v2)<|aK bQ<|Zy<|zi<|Zr<|Zr<|Zr<|Zr v3)<|κ<|.int 0,κ a3]]) λv15=>eV v15 Zt)<|eV v5 Zt):=Zv
theorem q0p:rn (n+1) TO [.fz a1,.fz a2,.fz a3]=rb (rn n "_law_piece" [.fz a1,.fz a2,.fz a3]) λv1=>rb (fC (aC (aE (rn n BJ) [bS<|Zr v1,κ a2]) .Is<|κ .none) (κ<|.tuple [.str<|so "whole"])<|Zy<|zi<|Zr v1) Zt:=Zv
theorem q0q:rn (n+1) IA [.fz a1,.fz a2,.fz a3]=rb (Zy<|aG .Mod a2<|.int 8) λv1=>rb (Zy<|aG .FloorDiv a2<|.int 8) λv2=>zp (aC (Zy<|zi<|Zr v1) .Eq<|κ<|.int 0) (rb (rn n DJ [.fz a1]) Zt) (zp (BH (zy .Not<|κ<|.bool<|b7 a1)<|bD (aC (Zy<|zi<|Zr<|Zr v1) .Eq<|κ<|.int 1)<|aC (aB .Mod (Zy<|zi<|Zr v2)<|κ<|.int 3) .Eq<|κ<|.int 0) (rb (aI (cI<|cH [aE (rn n FM) [bS<|Zr<|Zr v2],.ok<|.own<|.dict [],fS [(aI (.ok a3)<|aB .Mod (Zy<|zi<|Zr<|Zr v2)<|κ<|.int 14,κ<|.int 1)]])<|aB .Mod (aB .FloorDiv (Zy<|zi<|Zr<|Zr v2)<|κ<|.int 14)<|κ<|.int 3) Zt)<|rb (rn n DJ [.fz a1]) λv3=>rb (aK bX<|Zy<|dO a1) λv4=>zp (BH (aC (Zy<|zi<|Zr<|Zr<|Zr v1) .Eq<|κ<|.int 2)<|aC (Zy<|zi<|Zr v4) .Eq<|.ok<|.own<|.list []) (rb (fS [(Zy<|Zx a3<|.int 5,aB .Sub (aB .Mod (Zy<|zi<|Zr<|Zr v2)<|κ<|.int 9)<|κ<|.int 2),(Zy<|Zx a3<|.int 7,aB .Sub (aB .Mod (aB .FloorDiv (Zy<|zi<|Zr<|Zr v2)<|κ<|.int 9)<|κ<|.int 9)<|κ<|.int 2),(Zy<|Zx a3<|.int 6,κ<|.int 2),(Zy<|Zx a3<|.int 8,κ<|.int 3)]) λv5=>rb (aI (.ok a3)<|aI (cI<|cH [aB .Add (κ<|.int 9)<|aB .Mod (aB .FloorDiv (Zy<|zi<|Zr<|Zr<|Zr v2)<|κ<|.int 81)<|κ<|.int 4,aB .Mod (aB .FloorDiv (Zy<|zi<|Zr<|Zr<|Zr v2)<|κ<|.int 81)<|κ<|.int 14])<|aB .Mod (Zy<|zi<|Zr<|Zr<|Zr v2)<|κ<|.int 2) λv6=>bK (aI (cI<|cH [Zy<|zi<|Zr v5,aB .Mod (Zy<|zi<|Zr<|Zr<|Zr<|Zr v2)<|κ<|.int 7])<|aK fH<|aC (aB .Mod (aB .FloorDiv (Zy<|zi<|Zr<|Zr<|Zr<|Zr v2)<|κ<|.int 3)<|κ<|.int 5) .Eq<|κ<|.int 1) (Zy<|dH<|JQ v3) (Zy<|zi v6) λo7=>Zt<|.own o7)<|rb (aI (bG<|Zr<|Zr v4)<|aB .Mod (Zy<|zi<|Zr<|Zr v2)<|aK bQ<|Zy<|zi<|Zr<|Zr v4) λv8=>zp (aC (Zy<|zi<|Zr<|Zr<|Zr<|Zr v1) .Eq<|κ<|.int 3) (fD (Zy<|dH<|JQ v3) (so "pop") [Zy<|zi<|Zr v8] λo9=>Zt<|.own o9)<|zp (aC (Zy<|zi<|Zr<|Zr<|Zr<|Zr<|Zr v1) .Eq<|κ<|.int 4) (rb (Zy<|(dH<|JQ v3).bind rB) λl10=>rb (Zy<|zi<|Zr v8) λJL=>rb (Zy<|vH l10<|Zp JL) λIN=>rb (.ok<|Prod.snd IN) λϑ=>rb (aI (.ok a3)<|aB .Mod (aB .FloorDiv (Zy<|zi<|Zr<|Zr v2)<|κ<|.int 16)<|κ<|.int 14) λi15=>rb (Zy<|setItem ϑ (Zp i15)<|Prod.fst IN) λAF=>Zt<|.own AF)<|zp (aC (Zy<|zi<|Zr<|Zr<|Zr<|Zr<|Zr<|Zr v1) .Eq<|κ<|.int 5) (bK (aI (cI<|cH [aE (rn n FM) [bS<|Zr<|Zr<|Zr v2],.ok<|.own<|.dict []])<|aB .Mod (aB .FloorDiv (Zy<|zi<|Zr<|Zr<|Zr v2)<|κ<|.int 8)<|κ<|.int 2) (Zy<|dH<|JQ v3) (Zy<|zi v8) λϒ=>Zt<|.own ϒ)<|bK (aE (rn n IA) [aI (.ok a1)<|Zy<|zi<|Zr v8,aB .FloorDiv (Zy<|zi<|Zr<|Zr<|Zr v2)<|κ<|.int 8,κ a3]) (Zy<|dH<|JQ v3) (Zy<|zi<|Zr v8) λϓ=>Zt<|.own ϓ):=Zv
theorem q0r:rn (n+1) E_ [.fz a1,.fz a2,.fz a3]=rb (aO [κ<|.str<|so "refused",κ a1,κ a2,rn n DJ [.fz a3]]) Zt:=Zv
theorem q0s:rn (n+1) TP [.fz a1,.fz a2,.fz a3,.fz a4]=zp (BH (zy .Not<|rn n EB [.fz a3])<|zy .Not<|aK dD<|aN (Zy<|items a3) (λd1=>.ok â) λd1=>aE (rn n GV) [Zy<|Zx a3 d1,Zy<|Zx a1<|.int 1,Zy<|Zx a1<|.int 2]) (rb (rn n E_ [.fz a4,.fz<|.str<|so "form",.fz a3]) Zt) (rb (aN (Zy<|items a2) (λd2=>zu<|zy .Not<|aE (rn n GV) [Zy<|Zx a2 d2,Zy<|Zx a1<|.int 1,Zy<|Zx a1<|.int 2]) λd2=>κ d2) λv3=>zp (aC (aN (BD<|Zy<|zi<|Zr v3) (λd4=>zu<|aS<|Zy<|BX .In d4 a3) λd4=>κ d4) .NotEq<|.ok<|.own<|.list []) (rb (rn n E_ [.fz a4,.fz<|.str<|so "hidden",.fz a3]) Zt)<|rb (aN (BD<|Zy<|zi<|Zr<|Zr v3) (λd5=>.ok â) λd5=>aO [κ d5,Zy<|Zx a2 d5]) λv6=>rb (aO [κ<|.str<|so "tree",aK bA<|aB .Add (Zy<|zi<|Zr v6)<|aN (Zy<|items a3) (λd8=>.ok â) λd8=>aO [κ d8,Zy<|Zx a3 d8]]) Zt):=Zv
def dQ:aA:=[(QU,p0),(TU,p1),(TV,p2),(so "_law_way",p3),(so "_law_tables",p4),(so "_law_alone",p5),(so "_law_k",p6),(so "_law_key",p7),(MB,p8),(TS,p9),(so "_law_fields",CT)]
def mX:=cE BB (so "_law_parted") n 23<|bR<|List.drop 3<|aR BB<|so "_law_parted"
def mY:=cN<|List.drop 3<|aR BB<|so "_law_parted"
def Hm:=CH BB (so "_law_parted") n 24<|List.drop 4<|aR BB<|so "_law_parted"
theorem q0t:rn (n+1) TQ [.fz a1,.fz a2,.fz a3,.fz a4]=zp (zy .Not<|rn n EB [.fz a3]) (rb (rn n E_ [.fz a4,.fz<|.str<|so "form",.fz a3]) Zt) (rb (cH [aI (.ok a2)<|Zy<|Zx a1<|.int 1,aI (.ok a2)<|Zy<|Zx a1<|.int 2]) λv1=>rb (ES<|κ<|.int 2) λl2=>aX (mX n) mY l2 (dQ (ζ a1) (ζ a2) (ζ a3) (ζ a4) (à v1) (à<|.own<|.list []) á á á á á) (λσ=>Hm n σ (λ_=>κ .none) Zt) Zt):=Zv
theorem Hn:a9 mY d0 (dQ p0 p1 p2 p3 p4 p5 p6 p7 p8 p9 CT)=.ok (dQ p0 p1 p2 p3 p4 p5 (ζ d0) p7 p8 p9 CT):=Zv
theorem Ho:mX n (dQ (ζ x1) (ζ x2) (ζ x3) (ζ x4) (à w5) (à<|.own x6) (ζ d0) á á á á) kn kr=fD (.ok x6) (so "append") [aN (BD<|aI (bG w5)<|κ d0) (λd2=>zu<|aC (κ d2) .NotIn<|aI (bG w5)<|Zy<|aG .Sub (.int 1) d0) λd2=>κ d2] λo1=>kn (dQ (ζ x1) (ζ x2) (ζ x3) (ζ x4) (à w5) (à<|.own o1) (ζ d0) á á á á):=Zv
def yX:=cE BB (so "_law_parted") n 23<|bR<|List.drop 6<|aR BB<|so "_law_parted"
def yY:=cN<|List.drop 6<|aR BB<|so "_law_parted"
def yZ:=CH BB (so "_law_parted") n 24<|List.drop 7<|aR BB<|so "_law_parted"
theorem q0u:Hm n (dQ (ζ x1) (ζ x2) (ζ x3) (ζ x4) (à w5) (à<|.own x6) o7 á á á á) kn kr=zp (aC (aN (Zy<|items x3) (λd1=>zu<|aC (κ d1) .In<|aB .Add (Zy<|Zx x6<|.int 0)<|Zy<|Zx x6<|.int 1) λd1=>κ d1) .NotEq<|.ok<|.own<|.list []) (rb (rn n E_ [.fz x4,.fz<|.str<|so "hidden",.fz x3]) kr) (rb (Zy<|bA x2) λv2=>rb (ES<|κ<|.int 2) λl3=>aX (yX n) yY l3 (dQ (ζ x1) (ζ x2) (ζ x3) (ζ x4) (à w5) (à<|.own x6) o7 á (à v2) á á) (λσ=>yZ n σ kn kr) kr):=Zv
theorem q0v:a9 yY d0 (dQ p0 p1 p2 p3 p4 p5 p6 p7 p8 p9 CT)=.ok (dQ p0 p1 p2 p3 p4 p5 (ζ d0) p7 p8 p9 CT):=Zv
def tK:=cE BB (so "_law_parted") n 22<|bR<|List.drop 1<|bR<|List.drop 6<|aR BB<|so "_law_parted"
def tL:=cN<|List.drop 1<|bR<|List.drop 6<|aR BB<|so "_law_parted"
def Hp:=CH BB (so "_law_parted") n 23<|List.drop 2<|bR<|List.drop 6<|aR BB<|so "_law_parted"
theorem q0w:yX n (dQ (ζ x1) (ζ x2) (ζ x3) (ζ x4) (à w5) (à<|.own x6) (ζ d0) o8 (à w9) AC AE) kn kr=rb (aN (BD<|Zy<|Zx x6 d0) (λd1=>.ok â) λd1=>aO [κ d1,aI (cI<|aI (bG w5)<|κ d0)<|κ d1]) λv2=>rb (Zy<|items x3) λl3=>aX (tK n) tL l3 (dQ (ζ x1) (ζ x2) (ζ x3) (ζ x4) (à w5) (à<|.own x6) (ζ d0) (Option.map Zr o8) (à w9) (à v2) AE) (λσ=>Hp n σ kn kr) kr:=Zv
theorem q0x:yZ n (dQ (ζ x1) (ζ x2) (ζ x3) (ζ x4) (à w5) (à<|.own x6) o7 o8 (à w9) AC AE) kn kr=rb (aO [κ<|.str<|so "tree",Zy<|zi<|Zr w9]) kr:=Zv
theorem q0y:a9 tL d0 (dQ p0 p1 p2 p3 p4 p5 p6 p7 p8 p9 CT)=.ok (dQ p0 p1 p2 p3 p4 p5 p6 (ζ d0) p8 p9 CT):=Zv
theorem q0z:tK n (dQ (ζ x1) (ζ x2) (ζ x3) (ζ x4) (à w5) (à<|.own x6) (ζ x7) (ζ d0) (à w9) (à PX) AE) kn kr=rb (aN (BD<|Zy<|Zx x3 d0) (λd1=>zu<|aC (aC (κ d1) .In<|Zy<|Zx x1<|.int 3) .Eq<|aS<|Zy<|BX .Eq x7<|.int 0) λd1=>κ d1) λv2=>fD (Zy<|dH PX) (so "append") [aO [κ d0,aK bA<|aN (BD<|Zy<|zi<|Zr v2) (λd5=>.ok â) λd5=>aO [κ d5,aI (cI<|Zy<|Zx x3 d0)<|κ d5]]] λo3=>kn (dQ (ζ x1) (ζ x2) (ζ x3) (ζ x4) (à w5) (à<|.own x6) (ζ x7) (ζ d0) (à w9) (à<|.own o3)<|some<|Zr v2):=Zv
theorem q00:Hp n (dQ (ζ x1) (ζ x2) (ζ x3) (ζ x4) (à w5) (à<|.own x6) (ζ x7) o8 (à w9) (à PX) AE) kn kr=bK (aK bA<|Zy<|zi<|Zr PX) (Zy<|dH w9) (aI (.ok x1)<|Zy<|aG .Add (.int 1) x7) λo1=>kn (dQ (ζ x1) (ζ x2) (ζ x3) (ζ x4) (à w5) (à<|.own x6) (ζ x7) o8 (à<|.own o1) (à<|Zr PX) AE):=Zv
def j0:aA:=[(TS,p0),(TU,p1),(TV,p2),(so "_law_way",p3),(MB,p4),(so "_law_name_here",p5),(so "_law_part",p6),(QU,p7),(so "_law_one",p8)]
def gZ:=cE BB (so "_law_each_part") n 23<|bR<|List.drop 1<|aR BB<|so "_law_each_part"
def hJ:=cN<|List.drop 1<|aR BB<|so "_law_each_part"
def Hq:=CH BB (so "_law_each_part") n 24<|List.drop 2<|aR BB<|so "_law_each_part"
theorem Hr:rn (n+1) NS [.fz a1,.fz a2,.fz a3,.fz a4]=rb (Zy<|bA a2) λv1=>rb (Zy<|items a1) λl2=>aX (gZ n) hJ l2 (j0 (ζ a1) (ζ a2) (ζ a3) (ζ a4) (à v1) á á á á) (λσ=>Hq n σ (λ_=>κ .none) Zt) Zt:=Zv
theorem q01:a9 hJ (.tuple [d0,d1,d2]) (j0 p0 p1 p2 p3 p4 p5 p6 p7 p8)=.ok (j0 p0 p1 p2 p3 p4 (ζ d0) (ζ d1) (ζ d2) p8):=Zv
theorem q02:gZ n (j0 (ζ x1) (ζ x2) (ζ x3) (ζ x4) (à w5) (ζ d0) (ζ d1) (ζ d2) o9) kn kr=rb (aE (rn n CM) [κ d2,Zy<|Zx x2 d1,Zy<|Zx x3 d0,aB .Add (κ x4)<|cH [κ d0]]) λv1=>zp (aC (aI (bG v1)<|κ<|.int 0) .Eq<|κ<|.str<|so "refused") (eV v1 kr) (bK (aI (bG v1)<|κ<|.int 1) (Zy<|dH w5) (κ d1) λo2=>kn<|j0 (ζ x1) (ζ x2) (ζ x3) (ζ x4) (à<|.own o2) (ζ d0) (ζ d1) (ζ d2)<|some v1):=Zv
theorem Hs:Hq n (j0 (ζ x1) (ζ x2) (ζ x3) (ζ x4) (à w5) o6 o7 o8 o9) kn kr=rb (aO [κ<|.str<|so "tree",Zy<|zi<|Zr w5]) kr:=Zv
theorem q03:rn (n+1) QS [.fz a1,.fz a2,.fz a3]=Gx BB n (so "tree") (so "ViewError") (so "refused") (so "way") (so "kind") (so "part") [ζ a1,ζ a2,ζ a3,á] (rn n "put" [.fz a1,.fz a2,.fz a3]) (λy1=>aC (run BB n â (so "_law_word") [.ex y1]) .NotEq<|κ<|.tuple [.str<|so "refused",.str<|so "put"]) Zt:=Zv
theorem Ht:rn (n+1) FN [.fz a1,.fz a2]=zp (BH (aC (Zy<|Zx a1<|.int 0) .NotEq<|Zy<|Zx a2<|.int 0)<|aC (Zy<|bQ a1) .NotEq<|Zy<|bQ a2) (κ<|.bool ã) (zp (aC (Zy<|Zx a2<|.int 0) .Eq<|κ<|.str<|so "tree") (rb (aE (rn n FE) [Zy<|Zx a1<|.int 1,Zy<|Zx a2<|.int 1]) Zt)<|zp (BH (zy .Not<|fT (so "list")<|Zy<|Zx a1<|.int 1)<|aC (aK kI<|dX (.ok a1) (à<|κ<|.int 1)<|some<|κ<|.int 3) .NotEq<|aK kI<|dX (.ok a2) (à<|κ<|.int 1)<|some<|κ<|.int 3) (κ<|.bool ã)<|rb (aE (rn n FE) [Zy<|Zx a1<|.int 3,Zy<|Zx a2<|.int 3]) Zt):=Zv
def eL:aA:=[(TR,p0),(QT,p1),(QV,p2),(so "_law_held",p3),(so "_law_turn",p4),(so "_law_cell",p5),(TU,p6),(QU,p7),(TV,p8),(so "_law_handed",p9),(so "_law_due",CT),(MB,GO),(so "_law_again",PP)]
def mZ:=cE BB (so "law") n 23<|bR<|List.drop 3<|aR BB<|so "law"
def nA:=cN<|List.drop 3<|aR BB<|so "law"
def y0:=CH BB (so "law") n 24<|List.drop 4<|aR BB<|so "law"
theorem q04:rn (n+1) "law" [.fz a1]=rb (rn n "_law_names" [.fz a1]) λv1=>rb (aE (rn n QP) [κ a1,bS<|Zr v1]) λv2=>rb (HU<|dX (.ok a1) (à<|κ<|.int 2)<|some<|κ<|.int 26) λl3=>aX (mZ n) nA l3 (eL (ζ a1) (à<|Zr v1) (à v2) (à<|.own<|.list []) á á á á á á á á á) (λσ=>y0 n σ (λ_=>κ .none) Zt) Zt:=Zv
theorem q05:a9 nA (.tuple [d0,d1]) (eL p0 p1 p2 p3 p4 p5 p6 p7 p8 p9 CT GO PP)=.ok (eL p0 p1 p2 p3 (ζ d0) (ζ d1) p6 p7 p8 p9 CT GO PP):=Zv
def nB:=cE BB (so "law") n 23<|List.drop 2<|bR<|List.drop 3<|aR BB<|so "law"
theorem q06:mZ n (eL (ζ x1) (à w2) (à w3) (à<|.own x4) (ζ d0) (ζ d1) o7 o8 o9 AC AE AQ AF) kn kr=rb (Zy<|zi<|Zr w3) λv1=>zp (bD (aC (Zy<|aG .Mod d1<|.int 5) .Eq<|κ<|.int 1)<|bD (sX BB n (so "dict")<|Zr<|Zr w3)<|aC (aK bQ<|Zy<|zi<|Zr<|Zr w3) .Gt<|κ<|.int 0) (rb (aI (bG<|Zr<|Zr<|Zr w3)<|aI (cI<|aK bX<|aK dO<|Zy<|zi<|Zr<|Zr<|Zr w3)<|aB .Mod (Zy<|aG .FloorDiv d1<|.int 5)<|aK bQ<|Zy<|zi<|Zr<|Zr<|Zr w3) λv2=>nB n (eL (ζ x1) (à w2) (à<|Zr<|Zr<|Zr w3) (à<|.own x4) (ζ d0) (ζ d1) (à v2) o8 o9 AC AE AQ AF) kn kr) (nB n (eL (ζ x1) (à w2) (à<|Zr<|Zr w3) (à<|.own x4) (ζ d0) (ζ d1) (à v1) o8 o9 AC AE AQ AF) kn kr):=Zv
theorem q07:y0 n (eL (ζ x1) (à w2) (à w3) (à<|.own x4) o5 o6 o7 o8 o9 AC AE AQ AF) kn kr=rb (aC (aN (Zy<|items x4) (λd1=>zu<|zy .Not<|aE (rn n FN) [Zy<|Zx d1<|.int 0,Zy<|Zx d1<|.int 1]) λd1=>κ d1) .Eq<|.ok<|.own<|.list []) kr:=Zv
def nC:=cE BB (so "law") n 23<|List.drop 3<|bR<|List.drop 3<|aR BB<|so "law"
theorem q08:nB n (eL (ζ x1) (à w2) (à w3) (à<|.own x4) (ζ x5) (ζ x6) (à w7) o8 o9 AC AE AQ AF) kn kr=zp (aC (Zy<|aG .Mod x6<|.int 5) .Eq<|κ<|.int 2) (rb (aE (rn n JW) [κ x1,Zy<|aG .Add (.int 20) x5,bS<|Zr w2,dX (bG<|Zr w2) (à<|κ<|.int 5)<|some<|κ<|.int 9]) λv1=>nC n (eL (ζ x1) (à<|Zr w2) (à w3) (à<|.own x4) (ζ x5) (ζ x6) (à v1) o8 o9 AC AE AQ AF) kn kr) (nC n (eL (ζ x1) (à w2) (à w3) (à<|.own x4) (ζ x5) (ζ x6) (à w7) o8 o9 AC AE AQ AF) kn kr):=Zv
def nD:=cE BB (so "law") n 23<|List.drop 7<|bR<|List.drop 3<|aR BB<|so "law"
theorem q09:nC n (eL (ζ x1) (à w2) (à w3) (à<|.own x4) (ζ x5) (ζ x6) (à w7) o8 o9 AC AE AQ AF) kn kr=rb (aE (rn n TO) [aB .Add (Zy<|aG .FloorDiv x6<|.int 3)<|κ x5,bS<|Zr w7,bS<|Zr w2]) λv1=>rb (aE (rn n IA) [aE (rn n BJ) [bS<|Zr v1,bS<|Zr<|Zr w7],aB .Add (Zy<|aG .FloorDiv x6<|.int 7)<|κ x5,bS<|Zr<|Zr w2]) λv2=>rb (aE (rn n IA) [bS<|Zr v2,aB .Mult (Zy<|aG .FloorDiv x6<|.int 11)<|Zy<|aG .Mod x6<|.int 2,bS<|Zr<|Zr<|Zr w2]) λv3=>zp (bD (aC (Zy<|aG .Mod x6<|.int 6) .Eq<|κ<|.int 1)<|sX BB n (so "dict")<|Zr v3) (rb (aK bA<|aN (HU<|aK bX<|Zy<|zi<|Zr<|Zr v3) (λd4=>LK d4 λd5 d6=>.ok â) λd4=>LK d4 λd5 d6=>aO [κ d6,aE (rn n IA) [aI (bG<|Zr<|Zr v3)<|κ d6,aB .Add (Zy<|aG .FloorDiv x6<|.int 6)<|Zy<|aG .Mult (.int 5) d5,bS<|Zr<|Zr<|Zr<|Zr w2]]) λv7=>nD n (eL (ζ x1) (à<|Zr<|Zr<|Zr<|Zr w2) (à w3) (à<|.own x4) (ζ x5) (ζ x6) (à<|Zr<|Zr w7) (à<|Zr v1) (à v7) AC AE AQ AF) kn kr) (nD n (eL (ζ x1) (à<|Zr<|Zr<|Zr w2) (à w3) (à<|.own x4) (ζ x5) (ζ x6) (à<|Zr<|Zr w7) (à<|Zr v1) (à<|Zr v3) AC AE AQ AF) kn kr):=Zv
theorem q1a:nD n (eL (ζ x1) (à w2) (à w3) (à<|.own x4) (ζ x5) (ζ x6) (à w7) (à w8) (à w9) AC AE AQ AF) kn kr=WH n (aE (rn n DJ) [bS<|Zr w7]) (aE (rn n DJ) [bS<|Zr w9]) (aE (rn n CM) [bS<|Zr w8,bS<|Zr w7,bS<|Zr w9,.ok<|.own<|.list []]) (λd1 d2 d3=>aE (rn n QS) [bS<|Zr w8,Zy<|Zx (.list [d1,d2])<|.int 0,Zy<|Zx (.list [d1,d2])<|.int 1]) (λd1 d2 d3=>aE (rn n QS) [bS<|Zr w8,Zy<|Zx (.list [d1,d2])<|.int 0,Zy<|Zx (.list [d1,d2])<|.int 1]) (λd1 d2 d3 d4=>BH (zy .Not<|aE (rn n FE) [Zy<|Zx (.list [d1,d2])<|.int 0,bS<|Zr w7])<|BH (zy .Not<|aE (rn n FE) [Zy<|Zx (.list [d1,d2])<|.int 1,bS<|Zr w9])<|zy .Not<|rn n FN [.fz d4,.fz d3]) (κ<|.int 0) (κ<|.int 1) (λd3 d4 d5=>zy .Not<|rn n FN [.fz d5,.fz d3]) (zy .USub<|κ<|.int 1) (λd3 d4 d5=>aC (Zy<|Zx d5<|.int 0) .Eq<|κ<|.str<|so "refused") (κ<|.int 1) (κ<|.int 0) (λd3 d4=>fD (.ok x4) (so "append") [κ<|.tuple [d4,d3]] λo6=>kn<|eL (ζ x1) (à w2) (à w3) (à<|.own o6) (ζ x5) (ζ x6) (à<|Zr w7) (à<|Zr w8) (à<|Zr w9) á (ζ d3) á<|ζ d4):=Zv
def PC(c:Nat):Bool:=Txt.contains (so "abcdefghijklmnopqrstuvwxyz") ⟨#[c]⟩
structure V_(x:d_):Prop where
 lo:1<=x.cps.size
 hi:x.cps.size<=8
 let_:∀c∈x.cps.toList,PC c=â/\c<16 ^ 8
structure YE(N:List d_):Prop where
 len:N.length=14
 nd:N.Nodup
 ok:∀x∈N,V_ x
theorem bB(a:Int){n:Int}(h:0<n):0<=a.fmod n/\a.fmod n<n:=by rw[jc a<|uR h];exact⟨Int.emod_nonneg a<|Mv h,Int.emod_lt_of_pos a h⟩
def IQ:d_:=so "abcdefghijklmnopqrstuvwxyz"
def HJ(m:Int):Nat:=(IQ.cps[m.toNat]?).getD 0
theorem Hu:∀i:_root_.Fin 26,(IQ.cps[i.val]?).isSome=â/\PC ((IQ.cps[i.val]?).getD 0)=â/\(IQ.cps[i.val]?).getD 0<16 ^ 8:=by decide +kernel
theorem y6{a:Int}(ha:0<=a/\a<26):PC (HJ a)=â/\HJ a<16 ^ 8:=(Hu ⟨a.toNat,by exact qP ha⟩).2
theorem Hv{a b:Int}(ha:0<=a/\a<26)(hb:0<=b/\b<26)(h:HJ a=HJ b):a=b:=by
 obtain key:∀i j:_root_.Fin 26,(IQ.cps[i.val]?).getD 0=(IQ.cps[j.val]?).getD 0->i=j:=by decide +kernel
 have:=key ⟨a.toNat,by exact qP ha⟩ ⟨b.toNat,by exact qP hb⟩ h;have:=congrArg _root_.Fin.val this;simp at this;exact M2 ha hb this
def gH(c:Int):List Nat:=[0,1,2,3,4,5,6,7].map λj:Int=>HJ<|(c.fdiv 8+5*j).fmod 26
def nm(c k:Int):List Nat:=
 if (c.fdiv 1664).fmod 3=1 then ((gH c).set 0 (HJ<|(c.fdiv 8+k.fdiv 8).fmod 26)).take (1+k.fmod 8).toNat
 else ((gH c).set ((c.fdiv 208).fmod (1+c.fmod 8)).toNat (HJ<|(c.fdiv 8+7+k).fmod 26)).take (1+c.fmod 8).toNat
theorem lD(c:Int):(gH c).length=8:=rfl
theorem q1b(c k:Int):V_ ⟨(nm c k).toArray⟩:=by
 have base:∀x∈gH c,PC x=â/\x<16 ^ 8:=by intro x hx;refine aD (ba.mp hx) λj _ zq=>?_;subst hx zq;exact y6<|bB _ Zw
 have h8:=bB c (n:=8) Zw;have k8:=bB k (n:=8) Zw;refine⟨?_,?_,λx hx=>?_⟩
 ·rw[ir];unfold nm
  split<;>simp[lD]<;>lia
 ·rw[ir];unfold nm
  split<;>simp[lD]<;>lia
 ·have hx:x∈nm c k:=by simpa using hx
  unfold nm at hx
  split at hx
  ·rcases wj (xt hx) with h|h
   ·exact base x h
   ·rw[h];exact y6<|bB _ Zw
  ·rcases wj (xt hx) with h|h
   ·exact base x h
   ·rw[h];exact y6<|bB _ Zw
theorem Hw{x a b:Int}(ha:0<=a/\a<26)(hb:0<=b/\b<26)(h:(x+a).fmod 26=(x+b).fmod 26):a=b:=by rw[jc _ Zw,jc _ Zw] at h;exact M6 ha hb h
theorem YS{k:Int}(hk:0<=k/\k<14):0<=k.fdiv 8/\k.fdiv 8<26:=by rw[Int.fdiv_eq_ediv_of_nonneg _ Zw];exact M7 hk
theorem ml8{a b:Int}(ha:0<=a/\a<8)(hb:0<=b/\b<8)(h:min (1+a).toNat 8=min (1+b).toNat 8):a=b:=M8 ha hb h
theorem ϗ{a:Int}(ha:0<=a/\a<8):0<(1+a).toNat:=Bu ha
theorem lt8{a b:Int}(ha:0<=a/\a<8)(hb:0<=b/\b<1+a):b.toNat<8/\b.toNat<(1+a).toNat:=M9 ha hb
theorem q1c{c k k':Int}(hk:0<=k/\k<14)(AX:0<=k'/\k' < 14)(h:nm c k=nm c k'):k=k':=by
 ext c k k'
 unfold nm at h
 by_cases hc:(c.fdiv 1664).fmod 3=1
 ·rw[if_pos hc,if_pos hc] at h;have hl:=congrArg nq h;simp only[oh,List.length_set,lD] at hl;have he:=congrArg (λl=>l[0]?) h;simp only[qy,ul,if_pos<|ϗ<|bB k (n:=8) Zw,if_pos<|ϗ<|bB k' (n:=8) Zw,if_pos (xk 7:0<(gH c).length),if_true] at he;rw[<- xw k 8,<- xw k' 8,(Hw (YS hk) (YS AX)<|Hv (bB _ Zw) (bB _ Zw)<|si he),(ml8 (bB k Zw) (bB k' Zw) hl)]
 ·rw[if_neg hc,if_neg hc] at h;have h8:=bB c (n:=8) Zw;refine zj (lt8 h8<|bB (c.fdiv 208) (n:=1+c.fmod 8)<|Int.lt_add_one_of_le h8.1 |> λh=>by rw[dz];exact h) λh1 h2=>?_;have he:=congrArg (λl=>l[((c.fdiv 208).fmod (1+c.fmod 8)).toNat]?) h;simp only[qy,ul,if_pos h2,if_pos<|show _<(gH c).length from h1,if_true] at he;exact Hw ⟨hk.1,gg hk.2 Zw⟩ ⟨AX.1,gg AX.2 Zw⟩<|Hv (bB _ Zw) (bB _ Zw)<|si he
def V':List Int:=[0,1,2,3,4,5,6,7,8,9,10,11,12,13]
def ύ(c:Int):List d_:=V'.map λk=>⟨(nm c k).toArray⟩
theorem q1d(c:Int):YE<|ύ c:=by
 refine⟨rfl,?_,λx hx=>?_⟩
 ·refine List.Pairwise.map _ (R:=λa b=>(0<=a/\a<14)/\(0<=b/\b<14)/\a≠b) (λa b h e=>?_) (by unfold V';decide);exact h.2.2 (q1c h.1 h.2.1<|by simpa using congrArg Array.toList (Str.mk.inj e))
 ·refine aD (ba.mp hx) λk _ zq=>?_;subst hx zq;exact q1b c k
def tM(s:List Int):Prop:=rn 400 "law" [.fz<|.list<|s.map .int]=κ (.bool â)
def sC:List Int:=Classical.epsilon λs=>¬tM s
def Li:a_:=.list<|sC.map .int
theorem q1e(h:tM sC)(s:List Int):tM s:=Classical.byContradiction λhn=>Classical.epsilon_spec (p:=λs=>¬tM s) ⟨s,hn⟩ h
def hU(k:Int):Int:=if k<sC.length then (sC[k.toNat]?).getD 0 else 0
def NN:List d_:=ύ<|hU 0
theorem HW:YE NN:=q1d _
def NL:a_:=.list<|NN.map .str
section
open Classical
set_option genInjectivity false
inductive T where
 |num (i:Int)
 |br (f:d_->Option T)
inductive W where
 |whole
 |pick (n:d_)
 |call (a b:d_)
 |sift (f:d_) (l:Int)
 |join (a b:d_) (fs:List d_)
 |each (v:W)
 |andThen (a b:W)
 |beside (r:W)
 |bnil
 |bcons (n p:d_) (v r:W)
def AS{α:Type}(p:Prop)(x:Option α):Option α:=if p then x else á
theorem dL{p:Prop}(h:p)(x:Option α):AS p x=x:=if_pos h
theorem cA{p:Prop}(h:¬p)(x:Option α):AS p x=á:=if_neg h
theorem j4{p:Prop}{x:Option α}{y:α}(h:AS p x=à y):p/\x=à y:=by
 by_cases e:p
 ·rw[dL e] at h;exact⟨e,h⟩
 ·rw[cA e] at h;exact ns h
def T.get:T->d_->Option T
 | .num _,_=>á
 | .br f,k=>f k
theorem eM(f:d_->Option T)(k:d_):(T.br f).get k=f k:=rfl
def upd(f:d_->Option T)(k:d_)(x:Option T):d_->Option T:=λj=>if j=k then x else f j
def cF(f:d_->Option T):Prop:=∀k t,f k=à t->∃g,t=.br g
def dF(a:d_)(l:Int)(t:T):Prop:=∃i,t.get a=à (.num i)/\l<=i
structure NE(fs:List d_)(g h:d_->Option T):Prop where
 ga:cF g
 ha:cF h
 gf:∀k t,g k=à t->∀x,(t.get x).isSome=â->x∈fs
 hf:∀k t,h k=à t->∀x,(t.get x).isSome=â->x∉fs
def y7(r s:T):T:=.br λx=>(s.get x).or (r.get x)
def nE(g h:d_->Option T):d_->Option T:=λk=>(g k).bind λr=>(h k).bind λs=>à<|y7 r s
def W.names:W->List d_
 | .bcons n _ _ r=>n::r.names
 |_=>[]
def W.parts:W->List d_
 | .bcons _ p _ r=>p::r.parts
 |_=>[]
theorem hV:W.bnil.names=[]:=rfl
theorem hY(n p:d_)(v r:W):(W.bcons n p v r).names=n::r.names:=rfl
theorem nG:W.bnil.parts=[]:=rfl
theorem lE(n p:d_)(v r:W):(W.bcons n p v r).parts=p::r.parts:=rfl
def W.AY:W->Bool
 | .bcons _ _ _ _=>â
 | .bnil=>â
 |_=>ã
def fM(x y:d_)(g:d_->Option T):d_->Option T:=λk=>if k=y then g x else if k=x then á else g k
def lG(a:d_)(l:Int)(g:d_->Option T):d_->Option T:=λk=>(g k).bind λx=>AS (dF a l x)<|some x
def Hx(fs:List d_)(x y:T):Option T:=match x with
 | .num _=>á
 | .br g=>match y with
  | .num _=>á
  | .br h=>AS (NE fs g h)<|some<|.br<|nE g h
theorem Hy{o:Option α}{k:α->Option β}{y:β}(h:o.bind k=à y):∃x,o=à x/\k x=à y:=by
 cases o with
 |none=>exact ns h
 |some x=>exact⟨x,rfl,h⟩
def aY:W->T->Option T
 | .whole,t=>à t
 | .pick n,t=>t.get n
 | .call a b,t=>AS ((t.get a).isSome=â/\t.get b=á)<|some<|.br<|fM a b t.get
 | .sift a l,t=>match t with
  | .num _=>á
  | .br g=>AS (cF g)<|some<|.br<|lG a l g
 | .join a b fs,t=>(t.get a).bind λx=>(t.get b).bind λy=>Hx fs x y
 | .each v,t=>match t with
  | .num _=>á
  | .br g=>AS (∀k x,g k=à x->(aY v x).isSome=â)<|some<|.br λk=>(g k).bind (aY v)
 | .andThen a b,t=>(aY a t).bind (aY b)
 | .beside r,t=>aY r t
 | .bnil,t=>à<|.br λ_=>á
 | .bcons n p v r,t=>(t.get p).bind λx=>(aY v x).bind λy=>(aY r t).bind λz=>à<|.br<|upd z.get n<|some y
def dB(P:d_->Prop)(one other new:d_->Option T):d_->Option T:=λk=>match new k with
 |some x=>à<|.br λf=>AS (P f)<|x.get f
 |none=>if (other k).isSome then á else one k
def aQ:W->T->T->Option T
 | .whole,_,new=>à new
 | .pick n,old,new=>à<|.br<|upd old.get n<|some new
 | .call a b,_,new=>AS ((new.get b).isSome=â/\new.get a=á)<|some<|.br<|fM b a new.get
 | .sift a l,old,new=>match new with
  | .num _=>á
  | .br h=>AS ((cF h/\∀k x,h k=à x->dF a l x)/\∀k x,(h k).isSome=â->old.get k=à x->dF a l x)
    (à<|.br λk=>(h k).or ((old.get k).bind λx=>AS (¬dF a l x)<|some x))
 | .join a b fs,old,new=>match new with
  | .num _=>á
  | .br h=>(old.get a).bind λone=>(old.get b).bind λother=>
   AS (cF h/\∀k,(h k).isSome=â->((one.get k).isSome=(other.get k).isSome))
    (à<|.br<|upd (upd old.get a<|some<|.br<|dB (λf=>f∈fs) one.get other.get h) b<|some<|.br<|dB (λf=>f∉fs) other.get one.get h)
 | .each v,old,new=>match new with
  | .num _=>á
  | .br h=>AS ((∀k,(h k).isSome=(old.get k).isSome)/\∀k x y,old.get k=à x->h k=à y->(aQ v x y).isSome=â)
    (à<|.br λk=>(old.get k).bind λx=>(h k).bind λy=>aQ v x y)
 | .andThen a b,old,new=>(aY a old).bind λm=>(aQ b m new).bind λmid=>aQ a old mid
 | .beside r,old,new=>match new with
  | .num _=>á
  | .br h=>AS (∀k,(h k).isSome=â↔k∈r.names)<|aQ r old new
 | .bnil,old,_=>à old
 | .bcons n p v r,old,new=>(old.get p).bind λo=>(new.get n).bind λx=>(aQ v o x).bind λy=>(aQ r old new).bind λz=>à<|.br<|upd z.get p<|some y
def W.wf:W->Prop
 | .call a b=>a≠b
 | .join a b _=>a≠b
 | .each v=>v.wf/\v.AY=ã
 | .andThen a b=>(a.wf/\a.AY=ã)/\b.wf/\b.AY=ã
 | .beside r=>r.wf/\r.AY=â
 | .bcons n p v r=>(v.wf/\v.AY=ã)/\(r.wf/\r.AY=â)/\n∉r.names/\p∉r.parts
 |_=>True
theorem Hz{a b:d_}{fs:List d_}{t:T}{g h:d_->Option T}(ha:t.get a=à (.br g))(hb:t.get b=à (.br h)):aY (.join a b fs) t=AS (NE fs g h) (à<|.br<|nE g h):=by show((t.get a).bind λx=>(t.get b).bind λy=>Hx fs x y)=_;rw[ha,hb];rfl
theorem tN{a b:d_}{fs:List d_}{t s:T}(e:aY (.join a b fs) t=à s):∃g h,t.get a=à (.br g)/\t.get b=à (.br h)/\NE fs g h/\s=.br (nE g h):=by
 obtain⟨x,h1,e⟩:=Hy e;obtain⟨y,h2,e⟩:=Hy e;cases x with
 |num i=>exact ns e
 |br g=>
  cases y with
  |num i=>exact ns e
  |br h=>obtain⟨F,e⟩:=j4 e;obtain rfl:=si e;exact⟨g,h,h1,h2,F,rfl⟩
def DR(a b:d_):Prop:=a.cps.toList<b.cps.toList
structure Rf where
 way:List a_
 kind:d_
 part:T
def bZ:d_:=so "form"
def dR:d_:=so "hidden"
def fN:d_:=so "names"
inductive LQ(P:d_->Prop)(k:d_):Prop where
 |mk (h:P k) (g:∀j,DR j k->¬P j):LQ P k
def lst(P:d_->Prop):d_:=if h:∃k,LQ P k then choose h else bZ
theorem H0{P:d_->Prop}{k:d_}(tri:∀{a b:d_},¬DR b a->a≠b->DR a b)(h:LQ P k):lst P=k:=by
 have e:∃k,LQ P k:=⟨k,h⟩
 have:LQ P<|lst P:=by unfold lst;rw[dif_pos e];exact choose_spec e
 obtain⟨a1,a2⟩:=h;obtain⟨b1,b2⟩:=this;refine Classical.byContradiction λhn=>?_
 by_cases hl:DR k (lst P)
 ·exact b2 k hl a1
 ·exact a2 _ (tri hl hn) b1
def j5(a:d_)(l:Int):T->Prop
 | .num _=>False
 | .br h=>cF h/\∀k x,h k=à x->dF a l x
def lH:T->Prop
 | .num _=>False
 | .br h=>cF h
def frm(p:Prop)(s:d_):d_:=if p then s else bZ
theorem pK{p:Prop}(h:p)(s:d_):frm p s=s:=if_pos h
theorem iA{p:Prop}(h:¬p)(s:d_):frm p s=bZ:=if_neg h
def HL(p:Prop)(x y:Rf):Rf:=if p then x else y
theorem nH{p:Prop}(h:p)(x y:Rf):HL p x y=x:=if_pos h
theorem nI{p:Prop}(h:¬p)(x y:Rf):HL p x y=y:=if_neg h
def eN(v:W)(f h:d_->Option T):d_:=lst λk=>∃x y,f k=à x/\h k=à y/\aQ v x y=á
def aV:W->T->T->List a_->Rf
 | .sift a l,_,new,w=>⟨w,frm (j5 a l new) dR,new⟩
 | .join _ _ _,_,new,w=>⟨w,frm (lH new) dR,new⟩
 | .each v,old,new,w=>match new with
  | .num _=>⟨w,bZ,new⟩
  | .br h=>HL (∀k,(h k).isSome=(old.get k).isSome) (((old.get<|eN v old.get h).bind λx=>(h<|eN v old.get h).map λy=>aV v x y<|w++[.str<|eN v old.get h]).getD ⟨w,bZ,new⟩) ⟨w,fN,new⟩
 | .andThen a b,old,new,w=>(aY a old).elim ⟨w,bZ,new⟩ λm=>(aQ b m new).elim (aV b m new<|w++[.int 1]) λmid=>aV a old mid<|w++[.int 0]
 | .beside r,old,new,w=>match new with
  | .num _=>⟨w,bZ,new⟩
  | .br h=>HL (∀k,(h k).isSome=â↔k∈r.names) (aV r old new w) ⟨w,bZ,new⟩
 | .bcons n p v r,old,new,w=>(old.get p).elim ⟨w,bZ,new⟩ λo=>(new.get n).elim ⟨w,bZ,new⟩ λx=>(aQ v o x).elim (aV v o x<|w++[.str n]) λ_=>aV r old new w
 |_,_,new,w=>⟨w,bZ,new⟩
end
end Mine.Internal
open Mine.Internal.Kp renaming q2H->BE
open Mine.Internal.Kp renaming q2I->BK
open Mine.Internal.Yd renaming ite->DB
open Mine.Internal.aA renaming q2G->DF
open Mine.Internal.aA renaming q2F->FU
namespace Mine.Internal
open PySem
variable {i j kk:Int}{l ps l1 l2 lr ln lo lx ly:LP}{cs:List Nat}{hs:List a_}{xs q fs S:List d_}{m' g n M h:Nat}{hi:Option Int}{d p o d1 da db old al rows dn d':a_}{t:a_->R Bool}{e:a_->R V}{r r1 r2:R V}{x k b a y:d_}{c:d_->Bool}{α β:Type}{v va vb tb w2 w3 w7:V}{Q:V->Prop}{E:X->Prop}
noncomputable abbrev TT:=T
noncomputable abbrev WW:=W
noncomputable abbrev LP:=List<|Str×a_
def AH(l:LP):List<|PyData×a_:=l.map λp=>(.str p.1,p.2)
abbrev Zz(l:LP):a_:=.dict<|AH l
def ks(l:LP):List d_:=l.map (·.1)
def lk:LP->d_->Option a_
 | [],_=>á
 |p::r,x=>if x=p.1 then à p.2 else lk r x
def st:LP->d_->a_->LP
 | [],x,u=>[(x,u)]
 |p::r,x,u=>if x=p.1 then (p.1,u)::r else p::st r x u
def BI:LP->LP->LP
 | [],acc=>acc
 |p::r,acc=>BI r<|st acc p.1 p.2
def dl:LP->d_->LP
 | [],_=>[]
 |p::r,x=>if x=p.1 then r else p::dl r x
theorem lI:∀(l:LP) (x:d_),bV (AH l) x=lk l x:=by
 intro v0;induction v0 with
 |nil=>intro _;exact rfl
 |cons p r ih=>intro x;show(if x=p.1 then à p.2 else bV (AH r) x)=if x=p.1 then à p.2 else lk r x;rw[ih x]
theorem H5:∀(l:LP) (x:d_) (u:a_),fP (AH l) x u=AH (st l x u):=by
 intro v0;induction v0 with
 |nil=>intro _ _;exact rfl
 |cons p r ih=>
  intro x u;show(if x=p.1 then (.str p.1,u)::AH r else (.str p.1,p.2)::fP (AH r) x u)=AH (if x=p.1 then (p.1,u)::r else p::st r x u);rw[ih x u]
  split<;>rfl
theorem y8:∀(l:LP) (x:d_),eR (AH l) x=AH (dl l x):=by
 intro v0;induction v0 with
 |nil=>intro _;exact rfl
 |cons p r ih=>
  intro x;show(if x=p.1 then AH r else (.str p.1,p.2)::eR (AH r) x)=AH (if x=p.1 then r else p::dl r x);rw[ih x]
  split<;>rfl
theorem y9:∀(ps acc:LP),eB ps (AH acc)=AH (BI ps acc):=by
 intro v0;induction v0 with
 |nil=>intro _;exact rfl
 |cons p r ih=>intro acc;show eB r (fP (AH acc) p.1 p.2)=_;rw[H5,ih];rfl
theorem tO(l:LP):(AH l).map (·.1)=(ks l).map l_:=by simp[AH,ks,qu,Function.comp_def]
theorem tP(l:LP):(AH l).length=l.length:=by simp[AH]
theorem RT:∀l:LP,DX (AH l)=à l
 | []=>rfl
 |p::r=>by show(DX<|AH r).map ((p.1,p.2)::·)=_;rw[RT r];rfl
theorem tQ:∀(l:LP) (x:d_) (u:a_) (y:d_),lk (st l x u) y=if y=x then à u else lk l y:=by
 intro v0;induction v0 with
 |nil=>intro x u y;exact rfl
 |cons p r ih=>
  intro x u y;show lk (if x=p.1 then (p.1,u)::r else p::st r x u) y=if y=x then à u else if y=p.1 then à p.2 else lk r y
  by_cases h:x=p.1
  ·rw[if_pos h];show(if y=p.1 then à u else lk r y)=_;subst h
   split<;>rfl
  ·rw[if_neg h];show(if y=p.1 then à p.2 else lk (st r x u) y)=_;rw[ih x u y]
   by_cases e:y=x
   ·subst e;rw[if_neg h,if_pos rfl,if_pos rfl]
   ·rw[if_neg e,if_neg e]
theorem pL:∀{l:LP} {x:d_} ,(lk l x).isSome=â↔x∈ks l
 | [],x=>⟨λh=>zk h,λh=>cB h⟩
 |p::r,x=>by
  show(if x=p.1 then à p.2 else lk r x).isSome=â↔x∈p.1::ks r
  by_cases h:x=p.1
  ·simp[h]
  ·rw[if_neg h,pL (l:=r)];simp[h]
theorem lJ(h:lk l x=à d):x∈ks l:=pL.mp (by rw[h];rfl)
theorem q1f:∀{l:LP} (x:d_) (u:a_),(ks l).Nodup->(ks<|st l x u).Nodup/\∀y,y∈ks (st l x u)↔y=x\/y∈ks l:=by
 intro v0;induction v0 with
 |nil=>
  intro x u _;refine⟨bh.mpr ⟨λh=>cB h,fg⟩,λy=>⟨λh=>.inl<|List.mem_singleton.mp h,λh=>?_⟩⟩;rcases h with rfl|h
  ·exact ag
  ·exact cB h
 |cons p r ih=>
  intro x u h;have h1:=bh.mp h;show(ks<|if x=p.1 then (p.1,u)::r else p::st r x u).Nodup/\∀y,y∈ks (if x=p.1 then (p.1,u)::r else p::st r x u)↔y=x\/y∈p.1::ks r
  by_cases e:x=p.1
  ·rw[if_pos e];refine⟨h,λy=>?_⟩;show y∈p.1::ks r↔_;rw[e];simp
  ·rw[if_neg e];refine zj (ih x u h1.2) λi1 i2=>⟨bh.mpr ⟨λhm=>?_,i1⟩,λy=>?_⟩
   ·rcases(i2 p.1).mp hm with e'|e'
    ·exact e e'.symm
    ·exact h1.1 e'
   ·show y∈p.1::ks (st r x u)↔_;rw[mo,i2,mo];constructor
    ·rintro(a | a | a)<;>simp[a]
    ·rintro(a | a | a)<;>simp[a]
theorem H7:∀{l:LP} (x:d_),(ks l).Nodup->(ks<|dl l x).Nodup/\(∀y,y∈ks (dl l x)->y∈ks l)/\∀y,lk (dl l x) y=if y=x then á else lk l y:=by
 intro v0;induction v0 with
 |nil=>intro x _;exact⟨fg,λy hy=>hy,λy=>(ite_self á).symm⟩
 |cons p r ih=>
  intro x h;have h1:p.1∉ks r/\(ks r).Nodup:=bh.mp h;show(ks<|if x=p.1 then r else p::dl r x).Nodup/\(∀y,y∈ks (if x=p.1 then r else p::dl r x)->y∈p.1::ks r)/\∀y,lk (if x=p.1 then r else p::dl r x) y=if y=x then á else if y=p.1 then à p.2 else lk r y
  by_cases e:x=p.1
  ·rw[if_pos e];refine⟨h1.2,λy hy=>af _ hy,λy=>?_⟩
   by_cases e':y=x
   ·rw[if_pos e'];refine zn (lk r y) (λhl=>?_) λd hl=>?_
    ·try rewrite[hl]
     rfl
    ·try rewrite[hl]
     exact absurd (e▸e'▸lJ hl) h1.1
   ·rw[if_neg e',if_neg<|e▸e']
  ·rw[if_neg e];refine bP (ih x h1.2) λi1 i2 i3=>⟨bh.mpr ⟨λhm=>h1.1<|i2 _ hm,i1⟩,λy hy=>?_,λy=>?_⟩
   ·rcases List.mem_cons.mp hy with rfl|hy
    ·simp
    ·exact af _<|i2 y hy
   ·show(if y=p.1 then à p.2 else lk (dl r x) y)=_;rw[i3]
    by_cases e':y=x
    ·subst i1 i2 i3 e';rw[if_neg e,if_pos rfl,if_pos rfl]
    ·rw[if_neg e',if_neg e']
def IT:Nat:=10 ^ 29
inductive Sem:Nat->a_->TT->Prop where
 |num {m:Nat} {i:Int}:i.natAbs<IT->Sem m (.int i) (.num i)
 |br {m:Nat} {l:LP} {f:d_->Option TT}:(ks l).Nodup->(∀k∈ks l,k∈NN)->(∀k,(lk l k).isSome=(f k).isSome)->(∀k d t,lk l k=à d->f k=à t->Sem m d t)->Sem (m+1) (Zz l) (.br f)
structure zl(m:Nat)(l:LP)(f:d_->Option TT):Prop where
 nd:(ks l).Nodup
 sub:∀k∈ks l,k∈NN
 dom:∀k,(lk l k).isSome=(f k).isSome
 sem:∀k d t,lk l k=à d->f k=à t->Sem m d t
variable {m:Nat}
theorem zl.toSem{f:d_->Option TT}(B:zl m l f):Sem (m+1) (Zz l)<|.br f:=.br B.nd B.sub B.dom B.sem
inductive S_:Nat->a_->TT->Prop where
 |num {m:Nat} (i:Int) (h:i.natAbs<IT):S_ m (.int i) (.num i)
 |br (m:Nat) (l:LP) (f:d_->Option TT) (B:zl m l f):S_ (m+1) (Zz l) (.br f)
inductive S'(m:Nat)(d:a_)(t:TT):Prop where
 |num (i:Int) (e1:d=.int i) (e2:t=.num i) (h:i.natAbs<IT):S' m d t
 |br (m':Nat) (l:LP) (f:d_->Option TT) (e:m=m'+1) (e1:d=Zz l) (e2:t=.br f) (B:zl m' l f):S' m d t
inductive XV(m:Nat)(d:a_)(f:d_->Option TT):Prop where
 |mk (m':Nat) (l:LP) (e:m=m'+1) (e1:d=Zz l) (B:zl m' l f):XV m d f
inductive XW(f:d_->Option TT):Nat->a_->Prop where
 |mk (m:Nat) (l:LP) (B:zl m l f):XW f (m+1) (Zz l)
theorem Sem.inv{t:TT}(h:Sem m d t):S_ m d t:=by
 cases h with
 |num h=>exact .num _ h
 |br a b c e=>exact .br _ _ _ ⟨a,b,c,e⟩
theorem Sem.CP{t:TT}(h:Sem m d t):S' m d t:=by
 cases h with
 |num h=>exact .num _ rfl rfl h
 |br a b c e=>exact .br _ _ _ rfl rfl rfl ⟨a,b,c,e⟩
@[elab_as_elim] theorem Sem.by{motive:Nat->a_->TT->Prop}{t:TT}(h:Sem m d t)(h1:∀(m:Nat) (i:Int),i.natAbs<IT->motive m (.int i) (.num i))(h2:∀(m:Nat) (l:LP) (f:d_->Option TT),zl m l f->motive (m+1) (Zz l) (.br f)):motive m d t:=by
 cases h with
 |num h=>exact h1 _ _ h
 |br a b c e=>exact h2 _ _ _ ⟨a,b,c,e⟩
@[elab_as_elim] theorem Sem.EJ{motive:Nat->a_->Prop}{f:d_->Option TT}(h:Sem m d<|.br f)(h2:∀(m:Nat) (l:LP),zl m l f->motive (m+1) (Zz l)):motive m d:=by
 cases h with
 |br a b c e=>exact h2 _ _ ⟨a,b,c,e⟩
theorem Sem.NO{f:d_->Option TT}(h:Sem m d<|.br f):XW f m d:=by
 cases h with
 |br a b c e=>exact⟨_,_,a,b,c,e⟩
theorem Sem.CR{f:d_->Option TT}(h:Sem m d<|.br f):XV m d f:=by
 cases h with
 |br a b c e=>exact⟨_,_,rfl,rfl,a,b,c,e⟩
inductive WJ(m:Nat)(l:LP)(k:d_)(t:TT):Prop where
 |mk (d:a_) (h:lk l k=à d) (s:Sem m d t):WJ m l k t
inductive WI(m:Nat)(f:d_->Option TT)(k:d_)(d:a_):Prop where
 |mk (t:TT) (h:f k=à t) (s:Sem m d t):WI m f k d
inductive WK(m:Nat)(l:LP)(f:d_->Option TT)(k:d_):Prop where
 |mk (d:a_) (t:TT) (h:lk l k=à d) (g:f k=à t) (s:Sem m d t):WK m l f k
theorem Sem.num_inv(h:Sem m d<|.num i):d=.int i/\i.natAbs<IT:=by
 cases h with
 |num h=>exact⟨rfl,h⟩
theorem Sem.mono:∀{m m':Nat} {d:a_} {t:TT},Sem m d t->m<=m'->Sem m' d t
 :=by
 intro m;induction m with
 |zero=>
  intro m' d t s h;cases s with
  |num h=>exact .num h
 |succ m ih=>
  intro m' d t s h;cases s with
  |num h=>exact .num h
  |br a b c e=>
   cases m' with
   |zero=>exact absurd h<|Nat.not_succ_le_zero _
   |succ m'=>exact .br a b c λk d t h1 h2=>ih (e k d t h1 h2)<|bp h
theorem zl.mono{f:d_->Option TT}(B:zl m l f)(h:m<=m'):zl m' l f:=⟨B.nd,B.sub,B.dom,λk d t h1 h2=>(B.sem k d t h1 h2).mono h⟩
theorem zl.nil:zl m [] λ_=>á:=⟨by simp[ks],by simp[ks],λk=>rfl,λk d t h=>by exact ns h⟩
theorem zl.ext{f g:d_->Option TT}(B:zl m l f)(h:∀k,f k=g k):zl m l g:=by exact(funext h)▸B
theorem zl.set{f:d_->Option TT}(B:zl m l f){t:TT}(hk:k∈NN)(h:Sem m d t):zl m (st l k d)<|upd f k<|some t:=by
 refine zj (q1f k d B.nd) λq1 q2=>⟨q1,λy hy=>?_,λy=>?_,λy e u h1 h2=>?_⟩
 ·rcases(q2 y).mp hy with rfl|hy
  ·exact hk
  ·exact B.sub y hy
 ·rw[tQ]
  by_cases e:y=k
  ·simp[upd,e]
  ·simp only[upd,if_neg e];exact B.dom y
 ·rw[tQ] at h1
  by_cases e:y=k
  ·rw[if_pos e] at h1;simp only[upd,if_pos e] at h2;replace h1:=si h1;subst h1;replace h2:=si h2;subst h2;exact h
  ·rw[if_neg e] at h1;simp only[upd,if_neg e] at h2;exact B.sem y _ u h1 h2
theorem zl.del{f:d_->Option TT}(B:zl m l f)(k:d_):zl m (dl l k)<|upd f k á:=by
 refine bP (H7 k B.nd) λq1 q2 q3=>⟨q1,λy hy=>B.sub y<|q2 y hy,λy=>?_,λy e u h1 h2=>?_⟩
 ·rw[q3]
  by_cases e:y=k
  ·simp[upd,e]
  ·simp only[upd,if_neg e];exact B.dom y
 ·rw[q3] at h1
  by_cases e:y=k
  ·rw[if_pos e] at h1;exact ns h1
  ·rw[if_neg e] at h1;simp only[upd,if_neg e] at h2;exact B.sem y _ u h1 h2
theorem zl.get{f:d_->Option TT}(B:zl m l f){t:TT}(h:f k=à t):WJ m l k t:=by
 refine zn (lk l k) (λe=>?_) λd e=>?_
 ·have:=B.dom k;simp only[e,h] at this;exact zk this
 ·exact⟨d,e,B.sem k d t e h⟩
theorem zl.get'{f:d_->Option TT}(B:zl m l f)(h:lk l k=à d):WI m f k d:=by
 refine zn (f k) (λe=>?_) λt e=>?_
 ·have:=B.dom k;simp only[e,h] at this;exact FZ this
 ·exact⟨t,e,B.sem k d t h e⟩
theorem zl.JO{f:d_->Option TT}(B:zl m l f):f k=á↔lk l k=á:=by have:=B.dom k;cases e:f k<;>cases e':lk l k<;>simp_all
theorem zl.key{f:d_->Option TT}(B:zl m l f)(h:k∈ks l):WK m l f k:=by
 have h1:=pL.mpr h;refine zn (lk l k) (λe=>?_) λd e=>?_
 ·rw[e] at h1;exact zk h1
 ·obtain⟨t,a,b⟩:=B.get' e;exact⟨d,t,e,a,b⟩
theorem zl.mem{f:d_->Option TT}(B:zl m l f):k∈ks l↔(f k).isSome=â:=by rw[<- B.dom,pL]
theorem zA[DecidableEq α]:∀{a b:List α},a.Nodup->(∀x∈a,x∈b)->a.length<=b.length:=by
 intro v0;induction v0 with
 |nil=>intro _ _ _;exact ay _
 |cons x r ih=>intro b hn hs;refine zj (bh.mp hn) λh1 h2=>?_;have hx:=hs x (by simp);have:=ih (b:=b.erase x) h2 λy hy=>(List.mem_erase_of_ne (λe:y=x=>h1<|e▸hy)).mpr (hs y<|by simp[hy]);simp only[List.length_erase_of_mem hx] at this;exact Lz this<|List.length_pos_of_mem hx
theorem zl.len{f:d_->Option TT}(B:zl m l f):l.length<=NN.length:=by simpa[ks] using (zA B.nd B.sub)
inductive BM{α β:Type}(S:α->β->aA)(c:KN->KR->R V)(I:α->Prop)(E:X->Prop)(Q:V->Prop):Prop where
 |kn (a:α) (j:β) (hi:I a) (h:∀kn kr,c kn kr=kn (S a j)):BM S c I E Q
 |exc (x:X) (hi:E x) (h:∀kn kr,c kn kr=.exc x):BM S c I E Q
 |kr (v:V) (hi:Q v) (h:∀kn kr,c kn kr=kr v):BM S c I E Q
theorem pM{S:α->β->aA}{b:aA->KN->KR->R V}{t:h_}{I:List a_->α->Prop}:
  ∀{l p:List a_} {a:α} {j:β},(∀q d r a j,p++l=q++d::r->I q a->BM S (λkn kr=>rb (Zy<|a9 t d<|S a j) λσ=>b σ kn kr) (I<|q++[d]) E Q)->I p a->BM S (aX b t l<|S a j) (I<|p++l) E Q
 | [],p,a,j,_,hi=>BM.kn a j (by simpa using hi) λ_ _=>rfl
 |d::r,p,a,j,h,hi=>by
  rcases h p d r a j rfl hi with ⟨a',j',MH,e⟩|⟨x,hx,e⟩|⟨v,hv,e⟩
  ·have e1:p++d::r=(p++[d])++r:=by simp
   have:=pM (S:=S) (b:=b) (t:=t) (l:=r) (p:=p++[d]) (a:=a') (j:=j') (I:=I) (λq d' r' a j hq=>h q d' r' a j<|e1.trans hq) MH;rw[<- e1] at this;rcases this with ⟨a2,j2,h2,e2⟩|⟨x,hx,e2⟩|⟨v,hv,e2⟩
   ·exact BM.kn a2 j2 h2 λkn kr=>(e _ _).trans (e2 kn kr)
   ·exact BM.exc x hx λkn kr=>(e _ _).trans (e2 kn kr)
   ·exact BM.kr v hv λkn kr=>(e _ _).trans (e2 kn kr)
  ·exact BM.exc x hx λkn kr=>e _ _
  ·exact BM.kr v hv λkn kr=>e _ _
section
theorem aF(a:α)(k:α->R β):rb (.ok a) k=k a:=rfl
theorem zB(x:X)(k:α->R β):rb (.exc x) k=.exc x:=rfl
theorem aM(a:α):Zy (.ok a)=.ok a:=rfl
theorem fF(a:α):nx (.ok a)=.ok a:=rfl
theorem iB(a:α)(f:α->P β):P.bind (.ok a) f=f a:=rfl
theorem iC(a:α):AT (à a)=.ok a:=rfl
theorem cT(a b:α):(if â=â then a else b)=a:=rfl
theorem eO(a b:α):(if ã=â then a else b)=b:=rfl
end
theorem tR(b:Bool):zu (κ<|.bool b)=.ok b:=rfl
theorem zC(b:Bool):dY (.fz<|.bool b)=.ok b:=rfl
theorem gI(d:a_):Zp (.fz d)=d:=rfl
theorem pN(d:a_):Zp (.own d)=d:=rfl
theorem cY(d:a_):Zr (.fz d)=.fz d:=rfl
theorem zD(d:a_):Zr (.dp d)=.fz d:=rfl
theorem zE(d:a_):Zp (.dp d)=d:=rfl
theorem iW(d:a_):Zr (.own d)=.fz d:=rfl
theorem dS(d:a_):bS (.fz d)=κ d:=rfl
theorem dT(d:a_):zi (.fz d)=.ok (.fz d):=rfl
theorem j6(d:a_):bG (.fz d)=.ok d:=rfl
theorem zF(d:a_):bG (.own d)=.ok d:=rfl
theorem zG(d:a_)(k:V->R V):eV (.fz d) k=k (.fz d):=rfl
theorem zH(d:a_)(k:V->R V):eV (.own d) k=k (.own d):=rfl
theorem pO(d:a_):dH (.own d)=.ok d:=rfl
theorem zI:gD []=.ok []:=rfl
theorem zJ(v:V)(r:List<|R V):gD (.ok v::r)=rb (gD r) λvs=>.ok (v.cl::vs):=rfl
theorem zK(b:Bool):TZ (.ok b)=.ok (.fz<|.bool b):=rfl
theorem zL(b:Bool):aS (.ok b)=κ (.bool b):=rfl
theorem zM(d:a_):kK (.fz d)=.ok d:=rfl
theorem zN:sW á=.ok á:=rfl
theorem zO(i:Int):sW (à<|κ<|.int i)=.ok (à i):=rfl
theorem tT(b:Bool):gA .Not (.fz<|.bool b)=.ok (.fz<|.bool !b):=rfl
theorem zP(i:Int):gA .USub (.fz<|.int i)=.ok (.fz<|.int (-i)):=rfl
theorem zQ:(!â)=ã:=rfl
theorem zR:(!ã)=â:=rfl
theorem tU(l:LP)(x:d_):Zx (Zz l) (.str x)=frz (lk l x):=by show frz (bV (AH l) x)=_;rw[lI]
theorem bE(h:lk l x=à d):Zx (Zz l) (.str x)=.ok (.fz d):=by rw[tU,h];rfl
theorem eE(l:LP)(x:d_):Internal.contains (.str x) (Zz l)=.ok (lk l x).isSome:=by show P.ok (bV (AH l) x).isSome=_;rw[lI]
theorem bW(l:LP):Internal.items (Zz l)=.ok ((ks l).map .str):=by show P.ok ((AH l).map (·.1))=_;rw[tO]
theorem cS(x:d_)(d:a_)(h:l.length<a8):Internal.setItem (Zz l) (.str x) d=.ok (Zz<|st l x d):=by show(if (AH l).length<a8 then P.ok (sw<|fP (AH l) x d) else .no)=_;rw[tP,if_pos h,H5]
theorem pP(l:List<|PyData×a_):b7 (.dict l)=â:=rfl
theorem tV(i:Int):b7 (.int i)=ã:=rfl
theorem zS(l:List<|PyData×a_):iM (.dict l)=ã:=rfl
theorem zT(i:Int):iM (.int i)=â:=rfl
theorem zU(i:Int):jH (.int i)=ã:=rfl
theorem zV(l:List<|PyData×a_):jH (.dict l)=ã:=rfl
theorem H9:∀bs:List Bool,FY (bs.map ut)=à bs
 | []=>rfl
 |b::r=>by show(FY<|r.map ut).map (b::·)=_;rw[H9 r];rfl
theorem iD:∀xs:List d_,CI (xs.map l_)=à xs
 | []=>rfl
 |b::r=>by show(CI<|r.map l_).map (b::·)=_;rw[iD r];rfl
theorem Ia(bs:List Bool):dD (.list<|bs.map ut)=.ok (.fz<|.bool<|bs.all id):=by show TZ ((AT<|FY<|bs.map ut).bind λbs=>.ok<|bs.all id)=_;rw[H9];rfl
theorem pQ{g:a_->a_}:∀{l:List a_},(∀d∈l,t d=.ok â/\∃v,e d=.ok v/\Zp v=g d)->aZ t e l=.ok (l.map g):=by
 intro v0;induction v0 with
 |nil=>intro _;exact rfl
 |cons d r ih=>intro h;refine iK (h d<|by simp) λh1 v h2 h3=>?_;show rb (nx<|t d) (λb=>if b then rb (nx<|e d) λv=>rb (aZ t e r) λxs=>.ok (Zp v::xs) else aZ t e r)=_;rw[h1,fF,aF,cT,h2,fF,aF,ih λd hd=>h d<|af _ hd,h3];rfl
theorem nJ{g:d_->Bool}(h:∀x∈xs,e (.str x)=.ok (.fz<|.bool<|g x)):aK dD (aN (.ok<|xs.map .str) (λ_=>.ok â) e)=.ok (.fz<|.bool<|xs.all g):=by
 obtain this:aZ (λ_=>.ok â) e (xs.map .str)=.ok ((xs.map g).map .bool):=by
  rw[pQ (g:=λd=>match d with | .str x=>.bool (g x) | d=>d) λd hd=>?_]
  ·simp[Function.comp_def]
  ·refine aD (ba.mp hd) λx hx zq=>?_;subst hd zq;exact⟨rfl,_,h x hx,rfl⟩
 show rb (rb (rb (.ok<|xs.map .str) λl=>aZ (λ_=>.ok â) e l) λr=>Zy<|own<|.list r) (λv=>Zy<|dD<|Zp v)=_;rw[aF,this];show Zy (dD<|.list<|(xs.map g).map .bool)=_;rw[Ia];simp[Function.comp_def,Zy]
theorem Ib{l:List a_}{g:a_->Bool}(h:∀x∈l,e x=.ok (.fz<|.bool<|g x)):aK dD (aN (.ok l) (λ_=>.ok â) e)=.ok (.fz<|.bool<|l.all g):=by
 obtain this:aZ (λ_=>.ok â) e l=.ok ((l.map g).map .bool):=by rw[pQ (g:=λd=>.bool<|g d) λd hd=>⟨rfl,_,h d hd,rfl⟩];simp[Function.comp_def]
 show rb (rb (rb (.ok l) λl=>aZ (λ_=>.ok â) e l) λr=>Zy<|own<|.list r) (λv=>Zy<|dD<|Zp v)=_;rw[aF,this];show Zy (dD<|.list<|(l.map g).map .bool)=_;rw[Ia];simp[Function.comp_def,Zy]
theorem nK{g:d_->Bool}:∀{xs:List d_},(∀x∈xs,t (.str x)=.ok (g x))->aZ t (λd=>κ d) (xs.map .str)=.ok ((xs.filter g).map .str):=by
 intro v0;induction v0 with
 |nil=>intro _;exact rfl
 |cons x r ih=>
  intro h;show rb (nx<|t<|.str x) (λb=>if b then rb (nx<|κ<|.str x) λv=>rb (aZ t (λd=>κ d)<|r.map .str) λxs=>.ok (Zp v::xs) else aZ t (λd=>κ d) (r.map .str))=_;rw[h x (by simp),fF,aF,ih λd hd=>h d<|af _ hd];cases hg:g x
  ·rw[eO,xb<|by simp[hg]]
  ·rw[cT,w_ hg];rfl
def aT(p:d_×a_):a_:=.tuple [.str p.1,p.2]
theorem Ic:∀ps:LP,KH (ps.map aT)=à (AH ps)
 | []=>rfl
 |p::r=>by show(KH<|r.map aT).map ((.str p.1,p.2)::·)=_;rw[Ic r];rfl
theorem iX(h:ps.length<4096):bA (.list<|ps.map aT)=.ok (.own<|Zz<|BI ps []):=by show((AT<|KH<|ps.map aT).bind λl=>(AT<|DX l).bind λl=>if l.length<4096 then own (.dict<|eB l []) else .no)=_;rw[Ic,iC,iB,RT,iC,iB,if_pos h];show P.ok (V.own<|.dict<|eB ps<|AH [])=_;rw[y9]
theorem gJ{F:d_->Option TT}:∀{ps acc:LP} {f:d_->Option TT},zl m acc f->(∀p∈ps,p.1∈NN/\∃t,F p.1=à t/\Sem m p.2 t)->zl m (BI ps acc) λk=>if k∈ks ps then F k else f k
 | [],acc,f,B,_=>B.ext λk=>by simp[ks]
 |p::r,acc,f,B,h=>by
  refine iK (h p<|by simp) λh1 t h2 h3=>(gJ (F:=F) (B.set h1 h3) λq hq=>h q<|by simp[hq]).ext λk=>?_;show(if k∈ks r then F k else upd f p.1 (à t) k)=if k∈p.1::ks r then F k else f k
  by_cases e1:k∈ks r
  ·simp[e1]
  ·by_cases e2:k=p.1
   ·subst e2;simp[e1,upd,h2]
   ·simp[e1,e2,upd]
theorem zW{F:d_->Option TT}:∀{xs:List d_},(∀x∈xs,x∈NN/\((t (.str x)=.ok ã/\F x=á)\/t (.str x)=.ok â/\∃v d u,e (.str x)=.ok v/\Zp v=.tuple [.str x,d]/\F x=à u/\Sem m d u)) ->
  ∃ps:LP,aZ t e (xs.map .str)=.ok (ps.map aT)/\ps.length<=xs.length/\(∀k,k∈ks ps↔k∈xs/\(F k).isSome=â)/\∀p∈ps,p.1∈NN/\∃u,F p.1=à u/\Sem m p.2 u
 :=by
 intro xs;induction xs with
 |nil=>exact λ_=>⟨[],rfl,bv _,λk=>⟨λh=>cB h,λh=>cB h.1⟩,λp hp=>cB hp⟩
 |cons x r ih=>
  intro h;refine gM (ih λy hy=>h y<|af _ hy) λps e1 e2 e3 e4=>?_;have hs:aZ t e ((x::r).map .str)=rb (nx<|t<|.str x) (λb=>if b then rb (nx<|e<|.str x) λv=>rb (aZ t e<|r.map .str) λxs=>.ok (Zp v::xs) else aZ t e (r.map .str)):=rfl;obtain⟨hN,⟨h1,h2⟩|⟨h1,v,d,u,h2,h3,h4,h5⟩⟩:=h x (by simp)
  ·refine⟨ps,?_,gc e2,λk=>?_,e4⟩
   ·rw[hs,h1,fF,aF,eO,e1]
   ·rw[e3 k]
    by_cases ek:k=x
    ·subst h hs hN h1 ek;simp[h2]
    ·simp[ek]
  ·refine⟨(x,d)::ps,?_,be e2,λk=>?_,λp hp=>?_⟩
   ·rw[hs,h1,fF,aF,cT,h2,fF,aF,e1,aF,h3];rfl
   ·show k∈x::ks ps↔_;rw[mo,e3 k]
    by_cases ek:k=x
    ·subst h hs hN h1 h2 h3 ek;simp[h4]
    ·simp[ek]
   ·rcases List.mem_cons.mp hp with rfl|hp
    ·exact⟨hN,u,h4,h5⟩
    ·exact e4 p hp
theorem Id{F:d_->Option TT}(hl:xs.length<4096)(h:∀x∈xs,x∈NN/\((t (.str x)=.ok ã/\F x=á)\/t (.str x)=.ok â/\∃v d u,e (.str x)=.ok v/\Zp v=.tuple [.str x,d]/\F x=à u/\Sem m d u)):
  ∃l:LP,aK bA (aN (.ok<|xs.map .str) t e)=.ok (.own<|Zz l)/\zl m l λk=>if k∈xs then F k else á:=by
 refine gM (zW h) λps e1 e2 e3 e4=>⟨BI ps [],?_,(gJ (F:=F) zl.nil e4).ext λk=>?_⟩
 ·show rb (rb (rb (.ok<|xs.map .str) λl=>aZ t e l) λr=>Zy<|own<|.list r) (λv=>Zy<|bA<|Zp v)=_;rw[aF,e1];show Zy (bA<|.list<|ps.map aT)=_;rw[iX<|au e2 hl];rfl
 ·by_cases hk:k∈xs
  ·rw[if_pos hk];refine zn (F k) (λhF=>?_) λu hF=>?_
   ·try rewrite[hF]
    rw[if_neg];intro hc;have:=((e3 k).mp hc).2;rw[hF] at this;exact zk this
   ·rw[if_pos<|(e3 k).mpr ⟨hk,by rw[hF];rfl⟩]
  ·rw[if_neg hk,if_neg λhc=>hk ((e3 k).mp hc).1]
theorem zl.all{f F:d_->Option TT}(B:zl m l f)(h:∀k,f k=á->F k=á){l':LP}(C:zl m' l' λk=>if k∈ks l then F k else á):zl m' l' F:=
 C.ext λk=>by
  by_cases hk:k∈ks l
  ·rw[if_pos hk]
  ·rw[if_neg hk];refine(h k ?_).symm;refine zn (f k) (λe=>?_) λt e=>?_
   ·try rewrite[e]
    rfl
   ·exact absurd (B.mem.mpr<|by rw[e];rfl) hk
theorem pR(xs:List d_):CU (.list<|xs.map .str) (.list [])=.ok xs.isEmpty:=by
 cases xs with
 |nil=>rfl
 |cons x r=>rfl
theorem j7(n:Nat)(h:V_ x):rn (n+1) F_ [.fz<|.str x]=κ (.bool â):=by
 rw[Xk];obtain h1:decide ((1:Int)<=(x.cps.size:Int))=â:=by have:=h.lo;simp;exact A7 this
 obtain h2:decide ((x.cps.size:Int)<=8)=â:=by have:=h.hi;simp;exact L0 this
 have hc:iU (κ<|.int 1) .LtE (Zy<|bQ<|.str x) .LtE (κ<|.int 8)=κ (.bool â):=by show aS (if decide ((1:Int)<=(x.cps.size:Int))=â then .ok (decide ((x.cps.size:Int)<=8)) else .ok ã)=_;rw[h1,cT,h2];rfl
 obtain ha:aK dD (aN (Zy<|items<|.str x) (λ_=>.ok â) λd1=>(aS<|Zy<|BX .In d1<|.str<|so "abcdefghijklmnopqrstuvwxyz"))=κ (.bool â):=by refine(Ib (l:=x.cps.toList.map cQ) (g:=λ_=>â) λd hd=>?_).trans (by simp);refine aD (ba.mp hd) λc hc zq=>?_;subst hd zq;show Zt (V.fz<|.bool<|PC c)=_;rw[(h.let_ c hc).1]
 rw[hc,ha];rfl
theorem pT(n:Nat)(d:a_):rn (n+1) KQ [.fz d]=κ (.bool<|iM d&&!jH d):=by rw[Xl];cases iM d<;>cases jH d<;>rfl
variable {m:Nat}
theorem zl.lt{f:d_->Option TT}(B:zl m l f){k:Nat}(hk:14<k):l.length<k:=by have:=B.len;simp only[HW.len] at this;exact L3 hk this
@[elab_as_elim] theorem AM{motive:Nat->Prop}{a c x:Nat}(n:Nat)(h:a+c<=n)(i:x<=n)(g:∀k,x<=k+c->motive (k+c)):motive n:=by have e:=yn<|aa (bx c a) h;rw[<- e];exact g _ (by rw[e];exact i)
theorem fd{a b k c:Nat}(h:a+k+c<=b+c):a<=b:=aa (am a k)<|de h
theorem mx{k x y r s:Nat}(h:k*max x y+r<=s):k*x+r<=s/\k*y+r<=s:=⟨aa (aj (cg k<|co x y) r) h,aa (aj (cg k<|cw x y) r) h⟩
theorem cO(l:LP):(ks l).length=l.length:=by simp[ks]
theorem Ie:∀{m n:Nat} {d:a_} {t:TT},Sem m d t->m+1<=n->rn (n+1) L_ [.fz d]=κ (.bool â):=by
 intro m;induction m with
 |zero=>
  intro n d t h hn;obtain⟨i,rfl,rfl,_⟩|⟨_,_,_,e,_⟩:=h.CP
  ·refine AM (c:=1) n hn hn λn hn=>?_;rw[yB,pT];rfl
  ·cases e
 |succ m ih=>
  intro n d t h hn;refine AM (c:=1) n hn hn λn hn=>?_;obtain⟨i,rfl,rfl,_⟩|⟨_,l,f,e,rfl,rfl,B⟩:=h.CP
  ·rw[yB,pT];rfl
  ·cases e;rw[yB,pT,bW];obtain this:=nJ (xs:=ks l) (g:=λ_=>â) (e:=λd1=>(bD (rn (n+1) F_ [.fz d1])<|aE (rn (n+1) L_) [(Zy<|Zx (Zz l) d1)])) λx hx=>by
    obtain⟨d,t,h1,h2,h3⟩:=B.key hx;rw[j7 n<|HW.ok x<|B.sub x hx,bE h1];exact ih h3 (by exact L4 hn)
   rw[aM,this];simp[zp,zy,iM,b7,tR,aF,Zy,tT]
inductive Gives(r:R V)(P:a_->Prop):Prop where
 |mk (v:V) (d:a_) (e:r=.ok v) (c:v.cl=.fz d) (p:P d):Gives r P
theorem iE(h:v.cl=.fz d):Zp v=d:=by
 cases v with
 |fz=>cases h;rfl
 |own=>cases h;rfl
 |dp=>cases h;rfl
 |ex=>cases h
theorem q1g{f:List V->R V}(h:r=.ok v)(hv:v.cl=.fz d):aE f [r]=f [.fz d]:=by rw[h];show f [v.cl]=_;rw[hv]
theorem pU{S:α->β->aA}{b:aA->KN->KR->R V}{t:h_}{I:List d_->α->Prop}:
  ∀{l p:List d_} {a:α} {j:β},(∀q d r a j,p++l=q++d::r->I q a->BM S (λkn kr=>rb (Zy<|a9 t (.str d)<|S a j) λσ=>b σ kn kr) (I<|q++[d]) E Q)->I p a->BM S (aX b t (l.map .str)<|S a j) (I<|p++l) E Q
 | [],p,a,j,_,hi=>BM.kn a j (by simpa using hi) λ_ _=>rfl
 |d::r,p,a,j,h,hi=>by
  rcases h p d r a j rfl hi with ⟨a',j',MH,e⟩|⟨x,hx,e⟩|⟨v,hv,e⟩
  ·have e1:p++d::r=(p++[d])++r:=by simp
   have:=pU (S:=S) (b:=b) (t:=t) (l:=r) (p:=p++[d]) (a:=a') (j:=j') (I:=I) (λq d' r' a j hq=>h q d' r' a j<|e1.trans hq) MH;rw[<- e1] at this;rcases this with ⟨a2,j2,h2,e2⟩|⟨x,hx,e2⟩|⟨v,hv,e2⟩
   ·exact BM.kn a2 j2 h2 λkn kr=>(e _ _).trans (e2 kn kr)
   ·exact BM.exc x hx λkn kr=>(e _ _).trans (e2 kn kr)
   ·exact BM.kr v hv λkn kr=>(e _ _).trans (e2 kn kr)
  ·exact BM.exc x hx λkn kr=>e _ _
  ·exact BM.kr v hv λkn kr=>e _ _
theorem tW{S:β->aA}{b:aA->KN->KR->R V}{t:h_}(h:∀x∈xs,∀j,∃j',∀kn kr,(rb (Zy<|a9 t (.str x)<|S j) λσ=>b σ kn kr)=if c x=â then kn (S j') else kr v):
  ∀j,∃j',∀kn kr,aX b t (xs.map .str) (S j) kn kr=if xs.all c=â then kn (S j') else kr v:=by
 induction xs with
 |nil=>exact λj=>⟨j,λ_ _=>rfl⟩
 |cons x xs ih=>
  intro j;refine Zs (h x ag j) λj1 e1=>Zs (ih (λx hx=>h x<|af _ hx) j1) λj2 e2=>⟨j2,λkn kr=>(e1 _ kr).trans ?_⟩
  rw[List.all_cons,e2];cases c x<;>rfl
theorem nN{r l:List d_}(h:[]++l=q++x::r):x∈l:=by
 have:x∈q++x::r:=by simp
 simp only[<- h] at this;simpa using this
theorem Ig{S:LP->β->aA}{b:aA->KN->KR->R V}{t:h_}(F:d_->Option TT)(P:d_->Prop){j:β}
  (h:∀q x r,[]++xs=q++x::r->(∀y∈q,P y)->∀a j,a.length<a8->x∈NN/\((P x/\F x=á/\∃j',∀kn kr,(rb (Zy<|a9 t (.str x)<|S a j) λσ=>b σ kn kr)=kn (S a j')) \/
   (P x/\∃d u j',F x=à u/\Sem m d u/\∀kn kr,(rb (Zy<|a9 t (.str x)<|S a j) λσ=>b σ kn kr)=kn (S (st a x d) j')) \/
   (∃e,E e/\∀kn kr,(rb (Zy<|a9 t (.str x)<|S a j) λσ=>b σ kn kr)=.exc e))) :
  (∃a j',zl m a (λk=>if k∈xs then F k else á)/\(∀x∈xs,P x)/\∀kn kr,aX b t (xs.map .str) (S [] j) kn kr=kn (S a j'))\/∃e,E e/\∀kn kr,aX b t (xs.map .str) (S [] j) kn kr=.exc e:=by
 have:=pU (S:=S) (b:=b) (t:=t) (l:=xs) (p:=[]) (a:=[]) (j:=j) (I:=λp a=>zl m a (λk=>if k∈p then F k else á)/\∀x∈p,P x) (E:=E) (Q:=λ_=>False) (λq x r a j hq hi=>?_) ⟨zl.nil.ext λk=>by simp,λx hx=>by exact cB hx⟩
 ·rcases this with ⟨a,j,h1,h2⟩|⟨e,h1,h2⟩|⟨v,hv,_⟩
  ·exact .inl ⟨a,j,h1.1,h1.2,h2⟩
  ·exact .inr ⟨e,h1,h2⟩
  ·exact hv.elim
 ·have hP:P x->∀y∈q++[x],P y:=λhx y hy=>by
   rcases List.mem_append.mp hy with hy|hy
   ·exact hi.2 y hy
   ·rw[List.mem_singleton.mp hy];exact hx
  obtain⟨hN,⟨h0,h1,j',h2⟩|⟨h0,d,u,j',h1,h2,h3⟩|⟨e,h1,h2⟩⟩:=h q x r hq hi.2 a j<|hi.1.lt Zw
  ·refine BM.kn a j' ⟨hi.1.ext λk=>?_,hP h0⟩ h2
   by_cases e:k=x
   ·subst hq hP hN h0 h2 e;simp[h1]
   ·simp[e]
  ·refine BM.kn (st a x d) j' ⟨(hi.1.set hN h2).ext λk=>?_,hP h0⟩ h3
   by_cases e:k=x
   ·subst hq hP hN h0 h3 e;simp[h1,upd]
   ·simp[e,upd]
  ·exact BM.exc e h1 h2
theorem pV{S:LP->β->aA}{b:aA->KN->KR->R V}{t:h_}(F:d_->Option TT){j:β}
  (h:∀x∈xs,∀a j,a.length<a8->x∈NN/\((F x=á/\∃j',∀kn kr,(rb (Zy<|a9 t (.str x)<|S a j) λσ=>b σ kn kr)=kn (S a j')) \/
   (∃d u j',F x=à u/\Sem m d u/\∀kn kr,(rb (Zy<|a9 t (.str x)<|S a j) λσ=>b σ kn kr)=kn (S (st a x d) j')) \/
   (∃e,E e/\∀kn kr,(rb (Zy<|a9 t (.str x)<|S a j) λσ=>b σ kn kr)=.exc e))) :
  (∃a j',zl m a (λk=>if k∈xs then F k else á)/\∀kn kr,aX b t (xs.map .str) (S [] j) kn kr=kn (S a j'))\/∃e,E e/\∀kn kr,aX b t (xs.map .str) (S [] j) kn kr=.exc e:=by
 rcases Ig (S:=S) (b:=b) (t:=t) (xs:=xs) (j:=j) (m:=m) F (E:=E) (λ_=>True) (λq x r hq _ a j ha=>(h x (nN hq) a j ha).imp id (Or.imp (λh=>⟨trivial,h⟩)<|Or.imp (λh=>⟨trivial,h⟩) id)) with ⟨a,j',h1,_,h2⟩|h
 ·exact .inl ⟨a,j',h1,h2⟩
 ·exact .inr h
theorem zX:∀{l:LP} {p:d_×a_},(ks l).Nodup->p∈l->lk l p.1=à p.2
 |q::r,p,h,hp=>by
  refine zj (bh.mp<|show(q.1::ks r).Nodup from h) λh1 h2=>?_;show(if p.1=q.1 then à q.2 else lk r p.1)=_;rcases List.mem_cons.mp hp with rfl|hp
  ·rw[if_pos rfl]
  ·rw[if_neg λe:p.1=q.1=>h1<|e▸gq (f:=(·.1)) hp,zX h2 hp]
theorem iY:∀{m n:Nat} {d:a_} {t:TT},Sem m d t->m<n->bJ n d=â:=by
 intro m;induction m with
 |zero=>
  intro n d t h hn;cases n with
  |zero=>exact absurd hn<|Nat.not_lt_zero _
  |succ n=>
   obtain⟨i,rfl,rfl,hi⟩|⟨_,_,_,e,_⟩:=h.CP
   ·rfl
   ·cases e
 |succ m ih=>
  intro n d t h hn;cases n with
  |zero=>exact absurd hn<|Nat.not_lt_zero _
  |succ n=>
   obtain⟨i,rfl,rfl,hi⟩|⟨_,l,f,e,rfl,rfl,B⟩:=h.CP
   ·rfl
   ·cases e;refine ak.mpr λp hp=>aD (ba.mp hp) λq hq zq=>?_;subst hp zq;obtain⟨t,_,h2⟩:=B.get'<|zX B.nd hq;exact ih h2<|Nat.lt_of_succ_lt_succ hn
theorem Ih{c:Bool}(h:c=â)(a:a_)(t:R V):TK c a t=.ok (.dp a):=by subst h;rfl
theorem Ii{t:TT}(h:Sem m d t)(hn:m<=n):rn (n+1) NQ [.fz d]=.ok (.dp d):=by rw[Xn,Ih<|iY h<|jk hn]
def tl:a_->List a_
 | .tuple l=>l
 |_=>[]
def Zq:WW->a_
 | .whole=>.tuple [.str<|so "whole"]
 | .pick n=>.tuple [.str<|so "pick",.str n]
 | .call a b=>.tuple [.str<|so "call",.str a,.str b]
 | .sift f l=>.tuple [.str<|so "sift",.str f,.int l]
 | .join a b fs=>.tuple [.str<|so "join",.str a,.str b,.tuple<|fs.map .str]
 | .each v=>.tuple [.str<|so "each",Zq v]
 | .andThen a b=>.tuple [.str<|so "then",Zq a,Zq b]
 | .beside r=>.tuple [.str<|so "beside",Zq r]
 | .bnil=>.tuple []
 | .bcons n p v r=>.tuple<|.tuple [.str n,.str p,Zq v]::tl (Zq r)
def bI(r:WW):List a_:=tl<|Zq r
theorem iF{r:WW}(h:r.AY=â):Zq r=.tuple (bI r):=by cases r<;>first | rfl | cases h
def W.AG:WW->Nat
 | .each v=>v.AG+1
 | .andThen a b=>max a.AG b.AG+1
 | .beside r=>r.AG+1
 | .bcons _ _ v r=>max v.AG r.AG
 |_=>0
def BV:WW->Prop
 | .whole=>True
 | .pick n=>n∈NN
 | .call a b=>a∈NN/\b∈NN/\a≠b
 | .sift f l=>f∈NN/\l.natAbs<10 ^ 30
 | .join a b fs=>(a∈NN/\b∈NN/\a≠b)/\(1<=fs.length/\fs.length<=6)/\fs.Nodup/\∀f∈fs,f∈NN
 | .each v=>BV v/\v.AY=ã
 | .andThen a b=>(BV a/\a.AY=ã)/\BV b/\b.AY=ã
 | .beside r=>(BV r/\r.AY=â)/\1<=r.names.length/\r.names.length<=6
 | .bnil=>True
 | .bcons n p v r=>(n∈NN/\p∈NN)/\(BV v/\v.AY=ã)/\(BV r/\r.AY=â)/\n∉r.names/\p∉r.parts
theorem BV.wf:∀{w:WW},BV w->w.wf:=by
 intro w;induction w with
 |call a b=>exact λh=>h.2.2
 |join a b fs=>exact λh=>h.1.2.2
 |each v ih=>exact λh=>⟨ih h.1,h.2⟩
 |andThen a b HD HE=>exact λh=>⟨⟨HD h.1.1,h.1.2⟩,HE h.2.1,h.2.2⟩
 |beside r ih=>exact λh=>⟨ih h.1.1,h.1.2⟩
 |bcons n p v r DM BU=>exact λh=>⟨⟨DM h.2.1.1,h.2.1.2⟩,⟨BU h.2.2.1.1,h.2.2.1.2⟩,h.2.2.2⟩
 |_=>exact λ_=>trivial
theorem q1h:∀{l:List d_},l.Nodup->cZ l=l:=by
 intro v0;induction v0 with
 |nil=>intro _;exact rfl
 |cons a r ih=>intro h;refine zj (bh.mp h) λh1 h2=>?_;show(if r.contains a then cZ r else a::cZ r)=_;rw[if_neg (by simpa using h1),ih h2]
theorem Ij{l:List d_}(h:l.Nodup)(hl:l.length<64):fQ (.tuple<|l.map .str)=.ok (.fz<|.int l.length):=by show((AT<|CI<|l.map .str).bind λss=>if ss.length<64 then fz (.int (cZ ss.reverse).length) else .no)=_;rw[iD,iC,iB,if_pos hl,q1h (by simpa[List.Nodup,List.pairwise_reverse,ne_comm] using h),List.length_reverse];rfl
theorem q1i{l:List d_}(h:l.Nodup)(hl:l.length<64):fQ (.list<|l.map .str)=.ok (.fz<|.int l.length):=Ij h hl
theorem Ik(n:Nat)(ha:a∈NN)(hb:b∈NN)(I_:a≠b):rn (n+2) QN [.fz<|.str a,.fz<|.str b]=κ (.bool â):=by rw[Xq,j7 n<|HW.ok a ha,j7 n<|HW.ok b hb];show Zt (V.fz<|.bool !(a==b))=_;rw[beq_false_of_ne I_];rfl
theorem q1j(n:Nat){l:Int}(hl:l.natAbs<10 ^ 30):rn (n+2) "is_least" [.fz<|.int l]=κ (.bool â):=by rw[Xr,pT];show Zt (V.fz<|.bool<|decide ((if l<0 then -l else l)<(10 ^ 30:Int)))=_;congr;rw[decide_eq_true_eq];exact az0 hl
theorem Il{l:List α}(h1:1<=l.length)(h2:l.length<=6):aS (if decide ((1:Int)<=(l.length:Int))=â then Zt (decide ((l.length:Int)<=6)) else Zt ã)=κ (.bool â):=by
 obtain e1:decide ((1:Int)<=(l.length:Int))=â:=by simp;exact A7 h1
 obtain e2:decide ((l.length:Int)<=6)=â:=by simp;exact L5 h2
 rw[e1,cT,e2];rfl
theorem zY{l:List d_}{r:List a_}(hd:d=.tuple (l.map .str)\/d=.list (l.map .str))(h:l.Nodup)(hl:l.length<64)(hr:r.length=l.length):aC (aK fQ<|.ok<|.fz d) .Eq (Zy<|bQ<|.tuple r)=.ok (.fz<|.bool â):=by show rb (Zy<|fQ d) (λa=>aS<|Zy<|BX .Eq (Zp a)<|.int r.length)=_;rw[(hd.elim (λe=>e▸Ij h hl) λe=>e▸q1i h hl:fQ d=.ok (.fz<|.int l.length)),hr];show Zt (V.fz<|.bool<|(l.length:Int)==(l.length:Int))=_;simp
theorem q1k(n:Nat)(h1:1<=fs.length)(h2:fs.length<=6)(hn:fs.Nodup)(hN:∀f∈fs,f∈NN):rn (n+2) "are_fields" [.fz<|.tuple<|fs.map .str]=κ (.bool â):=by
 obtain e0:iU (κ<|.int 1) .LtE (Zy<|bQ<|.tuple<|fs.map .str) .LtE (κ<|.int 6)=κ (.bool â):=Il (l:=fs.map l_) (by simpa using h1) (by simpa using h2);obtain e1:aK dD (aN (Zy<|items<|.tuple<|fs.map .str) (λd1=>(.ok â)) λd1=>(rn (n+1) F_ [.fz d1]))=κ (.bool â):=
  (nJ (g:=λ_=>â) λx hx=>j7 n<|HW.ok x<|hN x hx).trans (by simp)
 rw[Xp,e0,e1,zY (.inl rfl) hn (uQ h2)<|by simp];rfl
theorem zZ:∀{r:WW},r.AY=â->BV r->(aZ (λ_=>.ok â) (λd=>Zy<|Zx d<|.int 0) (bI r)=.ok (r.names.map .str)/\aZ (λ_=>.ok â) (λd=>Zy<|Zx d<|.int 1) (bI r)=.ok (r.parts.map .str))/\(r.names.Nodup/\r.parts.Nodup)/\(bI r).length=r.names.length/\r.parts.length=r.names.length:=by
 intro r;induction r with
 |bnil=>exact λ_ _=>⟨⟨rfl,rfl⟩,⟨fg,fg⟩,rfl,rfl⟩
 |bcons n p v r DM BU=>
  intro _ h;refine fO (BU h.2.2.1.2 h.2.2.1.1) λzt HP i5 i6=>?_;obtain⟨i1,i2⟩:=zt;obtain⟨i3,i4⟩:=HP;refine⟨⟨?_,?_⟩,⟨bh.mpr ⟨h.2.2.2.1,i3⟩,bh.mpr ⟨h.2.2.2.2,i4⟩⟩,congrArg (·+1) i5,congrArg (·+1) i6⟩
  ·show rb (aZ (λ_=>.ok â) (λd=>Zy<|Zx d<|.int 0)<|bI r) (λxs=>.ok<|.str n::xs)=_;rw[i1];rfl
  ·show rb (aZ (λ_=>.ok â) (λd=>Zy<|Zx d<|.int 1)<|bI r) (λxs=>.ok<|.str p::xs)=_;rw[i2];rfl
 |_=>exact λh=>by exact zk h
theorem q1l(n:Nat){r:WW}(hr:r.AY=â)(ho:BV r)(h1:1<=r.names.length)(h2:r.names.length<=6)(h:∀d∈bI r,rn n NR [.fz d]=κ (.bool â)):rn (n+1) "is_beside" [.fz<|Zq r]=κ (.bool â):=by
 ext n r
 refine fO (zZ hr ho) λzt HP i5 i6=>?_;obtain⟨i1,i2⟩:=zt;obtain⟨i3,i4⟩:=HP;rw[iF hr,Xo];obtain e0:iU (κ<|.int 1) .LtE (Zy<|bQ<|.tuple<|bI r) .LtE (κ<|.int 6)=κ (.bool â):=Il (l:=bI r) (L7 h1 i5)<|L9 h2 i5;obtain e1:aK dD (aN (Zy<|items<|.tuple<|bI r) (λd1=>(.ok â)) λd1=>(rn n NR [.fz d1]))=κ (.bool â):=
  (Ib (l:=bI r) (g:=λ_=>â) h).trans (by simp)
 obtain e2:aN (Zy<|items<|.tuple<|bI r) (λ_=>.ok â) (λd=>Zy<|Zx d<|.int 0)=.ok (.own<|.list<|r.names.map .str):=by show rb (aZ (λ_=>.ok â) (λd=>Zy<|Zx d<|.int 0)<|bI r) (λr=>Zy<|own<|.list r)=_;rw[i1];rfl
 obtain e3:aN (Zy<|items<|.tuple<|bI r) (λ_=>.ok â) (λd=>Zy<|Zx d<|.int 1)=.ok (.own<|.list<|r.parts.map .str):=by show rb (aZ (λ_=>.ok â) (λd=>Zy<|Zx d<|.int 1)<|bI r) (λr=>Zy<|own<|.list r)=_;rw[i2];rfl
 rw[e0,e1,e2,e3];show rb (bD (aC (aK fQ<|κ<|.list<|r.names.map .str) .Eq<|Zy<|bQ<|.tuple<|bI r)<|aC (aK fQ<|κ<|.list<|r.parts.map .str) .Eq<|Zy<|bQ<|.tuple<|bI r) Zt=_;rw[zY (.inr rfl) i3 (uQ h2) i5,zY (.inr rfl) i4 (Ma h2 i6)<|Mb i5 i6];rfl
section
theorem q1m(n:Nat):rn (n+1) EZ [.fz<|Zq .whole]=κ (.bool â):=Zv
theorem q1n(n:Nat)(x:d_):rn (n+1) EZ [.fz<|Zq<|.pick x]=rb (rn n F_ [.fz<|.str x]) Zt:=Zv
theorem q1o(n:Nat)(x y:d_):rn (n+1) EZ [.fz<|Zq<|.call x y]=rb (rn n QN [.fz<|.str x,.fz<|.str y]) Zt:=Zv
theorem q1p(n:Nat)(x:d_)(l:Int):rn (n+1) EZ [.fz<|Zq<|.sift x l]=rb (bD (rn n F_ [.fz<|.str x])<|rn n "is_least" [.fz<|.int l]) Zt:=Zv
theorem q1q(n:Nat)(x y:d_)(fs:List d_):rn (n+1) EZ [.fz<|Zq<|.join x y fs]=rb (bD (rn n QN [.fz<|.str x,.fz<|.str y])<|rn n "are_fields" [.fz<|.tuple<|fs.map .str]) Zt:=Zv
theorem q1r(n:Nat)(v:WW):rn (n+1) EZ [.fz<|Zq<|.each v]=rb (rn n EZ [.fz<|Zq v]) Zt:=Zv
theorem q1s(n:Nat)(a b:WW):rn (n+1) EZ [.fz<|Zq<|.andThen a b]=rb (bD (rn n EZ [.fz<|Zq a])<|rn n EZ [.fz<|Zq b]) Zt:=Zv
theorem q1t(n:Nat)(r:WW):rn (n+1) EZ [.fz<|Zq<|.beside r]=rb (rn n "is_beside" [.fz<|Zq r]) Zt:=Zv
theorem q1u(n:Nat)(x y:d_)(v:WW):rn (n+1) NR [.fz<|.tuple [.str x,.str y,Zq v]]=rb (bD (rn n F_ [.fz<|.str x])<|bD (rn n F_ [.fz<|.str y])<|rn n EZ [.fz<|Zq v]) Zt:=Zv
end
def q1v(w:WW):Prop:=∀n,3*w.AG+3<=n->rn n EZ [.fz<|Zq w]=κ (.bool â)
def q1w(w:WW):Prop:=∀n,3*w.AG+4<=n->∀d∈bI w,rn n NR [.fz d]=κ (.bool â)
structure Ϻ(w:WW):Prop where
 a:w.AY=ã->q1v w
 b:w.AY=â->q1w w
theorem q1x:∀{w:WW},BV w->Ϻ w:=by
 intro w;induction w with
 |whole=>exact λ_=>⟨λ_ n hn=>AM (c:=1) n hn hn λn _=>q1m n,λh=>by exact zk h⟩
 |pick x=>exact λh=>⟨λ_ n hn=>by
   refine AM (c:=2) n hn hn λn hn=>?_;rw[q1n,j7 n<|HW.ok x h];rfl,λh=>by exact zk h⟩
 |call a b=>exact λh=>⟨λ_ n hn=>by
   refine AM (c:=3) n hn hn λn hn=>?_;rw[q1o,Ik n h.1 h.2.1 h.2.2];rfl,λh=>by exact zk h⟩
 |sift x l=>exact λh=>⟨λ_ n hn=>by
   refine AM (c:=3) n hn hn λn hn=>?_;rw[q1p,j7 (n+1)<|HW.ok x h.1,q1j n h.2];rfl,λh=>by exact zk h⟩
 |join a b fs=>exact λh=>⟨λ_ n hn=>by
   refine AM (c:=3) n hn hn λn hn=>?_;rw[q1q,Ik n h.1.1 h.1.2.1 h.1.2.2,q1k n h.2.1.1 h.2.1.2 h.2.2.1 h.2.2.2];rfl,λh=>by exact zk h⟩
 |each v ih=>exact λh=>⟨λ_ n hn=>by
   have hn:=hn;refine AM (c:=1) n hn hn λn hn=>?_;rw[q1r,(ih h.1).1 h.2 n<|fd (k:=2) (c:=1) hn];rfl,λh=>by exact zk h⟩
 |andThen a b HD HE=>exact λh=>⟨λ_ n hn=>by
   have hn:=hn;refine AM (c:=1) n hn hn λn hn=>?_;rw[q1s,(HD h.1.1).1 h.1.2 n (mx<|fd (k:=2) (c:=1) hn).1,(HE h.2.1).1 h.2.2 n (mx (k:=3) (r:=3)<|fd (k:=2) (c:=1) hn).2];rfl,λh=>by exact zk h⟩
 |beside r ih=>exact λh=>⟨λ_ n hn=>by
   have hn:=hn;refine AM (c:=2) n hn hn λn hn=>?_;rw[q1t,q1l n h.1.2 h.1.1 h.2.1 h.2.2 λd hd=>(ih h.1.1).2 h.1.2 n (fd (k:=0) (c:=2) hn) d hd];rfl,λh=>by exact zk h⟩
 |bnil=>exact λ_=>⟨λh=>(by cases h),λ_ n _ d hd=>by cases hd⟩
 |bcons x y v r DM BU=>
  intro h;refine⟨λh=>(FZ h),λ_ n hn d hd=>?_⟩;have hn:=hn;rcases List.mem_cons.mp (hd:d∈.tuple [.str x,.str y,Zq v]::bI r) with rfl|hd
  ·refine AM (c:=2) n hn hn λn hn=>?_;rw[q1u,j7 n<|HW.ok x h.1.1,j7 n<|HW.ok y h.1.2,(DM h.2.1.1).1 h.2.1.2 (n+1)<|fd (k:=0) (c:=1) (mx hn).1];rfl
  ·exact(BU h.2.2.1.1).2 h.2.2.1.2 n (mx hn).2 d hd
variable {m:Nat}
theorem zl.upd{f g:d_->Option TT}(B:zl m l1 f)(C:zl m l2 g):zl m (BI l2 l1) λk=>(g k).or (f k):=by
 refine(gJ (F:=g) B λp hp=>?_).ext λk=>?_
 ·have h:=zX C.nd hp;obtain⟨t,a,b⟩:=C.get' h;exact⟨C.sub _<|lJ h,t,a,b⟩
 ·by_cases hk:k∈ks l2
  ·obtain⟨d,t,_,h2,_⟩:=C.key hk;rw[if_pos hk,h2];rfl
  ·obtain this:g k=á:=by
    refine zn (g k) (λe=>?_) λt e=>?_
    ·try rewrite[e]
     rfl
    ·exact absurd (C.mem.mpr<|by rw[e];rfl) hk
   rw[if_neg hk,this];rfl
theorem Im(h:l1.length+l2.length<4096):eZ (so "update") (Zz l1) [Zz l2]=.ok (Zz<|BI l2 l1):=by show((AT<|DX<|AH l2).bind λm=>if (AH l1).length+m.length<4096 then P.ok (sw<|eB m<|AH l1) else .no)=_;rw[RT,iC,iB,tP,if_pos h,y9]
section
theorem nO(n:Nat):rn (n+1) FD [.fz<|.bool â]=κ .none:=Zv
theorem q1y(n:Nat)(d:a_):rn (n+1) DT [.fz<|Zq .whole,.fz d]=κ d:=Zv
theorem q1z(n:Nat)(x:d_)(d:a_):rn (n+1) DT [.fz<|Zq<|.pick x,.fz d]=rb (aE (rn n FD) [rn n HX [.fz d,.fz<|.str x]]) λ_=>rb (Zy<|Zx d<|.str x) Zt:=Zv
theorem q15(n:Nat)(x y:d_)(d:a_):rn (n+1) DT [.fz<|Zq<|.call x y,.fz d]=rb (rn n "shown_call" [.fz<|Zq<|.call x y,.fz d]) Zt:=Zv
theorem q16(n:Nat)(x:d_)(l:Int)(d:a_):rn (n+1) DT [.fz<|Zq<|.sift x l,.fz d]=rb (rn n "shown_sift" [.fz<|Zq<|.sift x l,.fz d]) Zt:=Zv
theorem q17(n:Nat)(x y:d_)(fs:List d_)(d:a_):rn (n+1) DT [.fz<|Zq<|.join x y fs,.fz d]=rb (rn n "shown_join" [.fz<|Zq<|.join x y fs,.fz d]) Zt:=Zv
theorem q18(n:Nat)(v:WW)(d:a_):rn (n+1) DT [.fz<|Zq<|.each v,.fz d]=rb (rn n "shown_each" [.fz<|Zq<|.each v,.fz d]) Zt:=Zv
theorem q19(n:Nat)(v:WW)(d:a_):rn (n+1) DT [.fz<|Zq<|.beside v,.fz d]=rb (rn n "shown_beside" [.fz<|Zq<|.beside v,.fz d]) Zt:=Zv
theorem q2a(n:Nat)(a b:WW)(d:a_):rn (n+1) DT [.fz<|Zq<|.andThen a b,.fz d]=rb (aE (rn n DT) [κ<|Zq b,rn n DT [.fz<|Zq a,.fz d]]) Zt:=Zv
end
theorem pW(n:Nat)(l:LP)(x:d_):rn (n+1) HX [.fz<|Zz l,.fz<|.str x]=κ (.bool (lk l x).isSome):=by rw[Xu];show rb (aS<|Zy<|Internal.contains (.str x)<|Zz l) Zt=_;rw[eE];rfl
def EK(p:Prop):Bool:=@decide p<|Classical.propDecidable p
theorem cJ{p:Prop}:EK p=â↔p:=by unfold EK;simp
theorem dG{p:Prop}:EK p=ã↔¬p:=by unfold EK;simp
theorem fU{p:Prop}{b:Bool}(h:b=â↔p):b=EK p:=by rw[fq,cJ];exact h
def sb(a:d_)(l:Int)(t:TT):Bool:=EK<|dF a l t
theorem nP{l:Int}{t:TT}:sb a l t=â↔dF a l t:=cJ
theorem iG{l:Int}{t:TT}:sb a l t=ã↔¬dF a l t:=dG
theorem z6(n:Nat){f:d_->Option TT}(B:zl m l f)(a:d_)(i:Int):rn (n+2) HY [.fz<|Zz l,.fz<|.str a,.fz<|.int i]=κ (.bool<|sb a i<|.br f):=by
 revert B;ext l m n f a i
 rw[Xv];show rb (bD (aS<|Zy<|Internal.contains (.str a)<|Zz l)<|bD (aE (rn (n+1) KQ) [(Zy<|Zx (Zz l)<|.str a)])<|aC (Zy<|Zx (Zz l)<|.str a) .GtE<|κ<|.int i) Zt=_;rw[eE,tU];cases e:lk l a with
 |none=>
  obtain this:sb a i (.br f)=ã:=iG.mpr λ⟨j,h,_⟩=>by have h:f a=à (.num j):=h;rw[B.JO.mpr e] at h;cases h
  rw[this];rfl
 |some d=>
  obtain⟨t,h1,h2⟩:=B.get' e;show rb (bD (rn (n+1) KQ [.fz d])<|aS<|Zy<|BX .GtE d<|.int i) Zt=_;rw[pT];obtain⟨j,rfl,rfl,_⟩|⟨_,l',f',_,rfl,rfl,_⟩:=h2.CP
  ·show Zt (V.fz<|.bool<|decide (i<=j))=_;rw[show decide (i<=j)=sb a i (.br f) from fU (decide_eq_true_iff.trans ⟨λh=>⟨j,h1,h⟩,λ⟨k,h,h'⟩=>by
    have h:f a=à (.num k):=h;rw[h1] at h;cases h;exact h'⟩)]
  ·obtain this:sb a i (.br f)=ã:=iG.mpr λ⟨j,h,_⟩=>by
    have h:f a=à (.num j):=h;rw[h1] at h;cases h
   rw[this];rfl
def DN:TT->Bool
 | .num _=>ã
 | .br f=>EK<|cF f
theorem pX(n:Nat){t:TT}(h:Sem m d t):rn (n+1) HV [.fz d]=κ (.bool<|DN t):=by
 rw[Xm];obtain⟨i,rfl,rfl,_⟩|⟨m,l,f,_,rfl,rfl,B⟩:=h.CP
 ·rfl
 ·have:=nJ (xs:=ks l) (e:=λd1=>fT (so "dict")<|Zy<|Zx (Zz l) d1) (g:=λx=>match lk l x with | some d=>b7 d | none=>ã) λx hx=>by
   obtain⟨d,t,h1,h2,h3⟩:=B.key hx;rw[bE h1,h1];rfl
  rw[bW,aM,this];refine congrArg (λb=>Zt<|V.fz<|.bool b)<|fU ?_;rw[ak];constructor
  ·intro h k t hk;obtain⟨d,h1,h2⟩:=B.get hk;have:=h k<|lJ h1;rw[h1] at this;obtain⟨i,rfl,rfl,_⟩|⟨_,l',f',_,rfl,rfl,_⟩:=h2.CP
   ·exact zk this
   ·exact⟨_,rfl⟩
  ·intro h x hx;obtain⟨d,t,h1,h2,h3⟩:=B.key hx;refine Zs (h x t h2) λg zq=>?_;subst h2 zq;obtain⟨_,l',_,zq,_⟩:=h3.CR;subst h3 zq;rw[h1];rfl
theorem q2b(n:Nat){f:d_->Option TT}(h:Sem m d<|.br f)(ha:cF f):rn (n+1) HV [.fz d]=κ (.bool â):=by rw[pX n h];rw[show DN (.br f)=â from cJ.mpr ha]
theorem nQ(fs:List d_)(x:d_):Internal.contains (.str x) (.tuple<|fs.map .str)=.ok (fs.contains x):=by show((AT<|CI<|fs.map .str).bind λss=>P.ok<|ss.contains x)=_;rw[iD];rfl
theorem z7{g:d_->Bool}(h:∀x∈xs,t (.str x)=.ok (g x)):aC (aN (.ok<|xs.map .str) t λd=>κ d) .NotEq (.ok<|.own<|.list [])=κ (.bool (!(xs.filter g).isEmpty)):=by show rb (rb (aZ t (λd=>κ d)<|xs.map .str) λr=>Zy<|own<|.list r) _=_;rw[nK h];show aS (Zy<|b6<|CU (.list<|(xs.filter g).map .str)<|.list [])=_;rw[pR];rfl
theorem z8{g:d_->Bool}(h:∀x∈xs,t (.str x)=.ok (g x)):aC (aN (.ok<|xs.map .str) t λd=>κ d) .Eq (.ok<|.own<|.list [])=κ (.bool (xs.filter g).isEmpty):=by show rb (rb (aZ t (λd=>κ d)<|xs.map .str) λr=>Zy<|own<|.list r) _=_;rw[nK h];show aS (Zy<|CU (.list<|(xs.filter g).map .str)<|.list [])=_;rw[pR];rfl
theorem iZ{g:d_->Bool}:(xs.filter g).isEmpty=â↔∀x∈xs,g x=ã:=by rw[ph,jq];simp
def pY(g:d_->Option TT)(P:d_->Prop):Prop:=∀k t,g k=à t->∀x,(t.get x).isSome=â->P x
def j8(g:d_->Option TT)(P:d_->Prop)(k:d_):Bool:=EK (∀t,g k=à t->∀x,(t.get x).isSome=â->P x)
theorem tX{g:d_->Option TT}(B:zl m l g)(P:d_->Prop):(ks l).all (j8 g P)=EK (pY g P):=fU (by
 rw[ak];exact⟨λh k t hk=>cJ.mp (h k<|B.mem.mpr<|by rw[hk];rfl) t hk,λh k _=>cJ.mpr<|h k⟩)
theorem tY{g r:d_->Option TT}{P:d_->Prop}{T:a_->R Bool}(hT:∀y,T (.str y)=.ok (c y))(hc:∀y,c y=ã↔P y)(Br:zl m lr r)(h1:lk l x=à (Zz lr))(h2:g x=à (.br r))(A B:R V):
  zp (aC (aN (BD<|aI (bG<|.fz<|Zz l)<|κ<|.str x) T λd=>κ d) .NotEq<|.ok<|.own<|.list []) A B=if j8 g P x=â then B else A:=by
 show zp (aC (aN (BD<|Zy<|Zx (Zz l)<|.str x) T _) _ _) _ _=_;rw[bE h1];show zp (aC (aN (Zy<|items<|Zz lr) T _) _ _) _ _=_;rw[bW,aM,z7 (g:=c) λy _=>hT y,show((ks lr).filter c).isEmpty=j8 g P x from fU (iZ.trans ⟨λh t ht y hy=>by
  rw[h2] at ht;replace ht:=si ht;subst ht;exact(hc y).mp (h y<|Br.mem.mpr hy),λh y hy=>(hc y).mpr (h _ h2 y<|Br.mem.mp hy)⟩)]
 cases j8 g P x<;>rfl
theorem Io(a b:d_)(fs:List d_)(y:d_):zu (aC (κ<|.str y) .NotIn<|Zy<|Zx (Zq<|.join a b fs)<|.int 3)=.ok (!fs.contains y):=by show zu (aS<|Zy<|b6<|Internal.contains (.str y)<|.tuple<|fs.map .str)=_;rw[nQ];rfl
theorem Ip(a b:d_)(fs:List d_)(y:d_):zu (aC (κ<|.str y) .In<|Zy<|Zx (Zq<|.join a b fs)<|.int 3)=.ok (fs.contains y):=by show zu (aS<|Zy<|Internal.contains (.str y)<|.tuple<|fs.map .str)=_;rw[nQ];rfl
theorem Iq(fs:List d_)(y:d_):(!fs.contains y)=ã↔y∈fs:=by simp
theorem Ir(fs:List d_)(y:d_):fs.contains y=ã↔y∉fs:=by simp
theorem j9{f:d_->Option TT}(h:∀g k,f a=à (.br g)->f b=à (.br k)->¬NE fs g k):aY (.join a b fs) (.br f)=á:=by exact zn (aY (.join a b fs)<|.br f) (λe=>e) λs e=>qL (tN e) λg k h1 h2 F _=>absurd F<|h g k h1 h2
theorem It{t:TT}(h:DN t=â):∃g,t=.br g/\cF g:=by
 cases t with
 |num=>exact zk h
 |br g=>exact⟨g,rfl,cJ.mp h⟩
theorem q2c(n:Nat){f:d_->Option TT}(B:zl m l f):rn (n+2) "fits_join" [.fz<|Zq<|.join a b fs,.fz<|Zz l]=κ (.bool (aY (.join a b fs)<|.br f).isSome):=by
 ext l fs b a m n f
 rw[Xw];show zp (BH (zy .Not<|rn (n+1) HX [.fz<|Zz l,.fz<|.str a])<|zy .Not<|rn (n+1) HX [.fz<|Zz l,.fz<|.str b]) _ (rb (Zy<|Zx (Zz l)<|.str a) λv1=>rb (Zy<|Zx (Zz l)<|.str b) λv2=>_)=_;rw[pW,pW];refine zn (lk l a) (λe=>?_) λd1 e1=>?_
 ·rw[e,j9 λg k h1 _ _=>ns<|(B.JO.mpr e).symm.trans h1];rfl
 refine zn (lk l b) (λe=>?_) λd2 e2=>?_
 ·rw[e1,e,j9 λg k _ h1 _=>ns<|(B.JO.mpr e).symm.trans h1];rfl
 obtain⟨t1,f1,s1⟩:=B.get' e1;obtain⟨t2,f2,s2⟩:=B.get' e2;rw[e1,e2,bE e1,bE e2];show zp (BH (zy .Not<|rn (n+1) HV [.fz d1])<|zy .Not<|rn (n+1) HV [.fz d2]) _ (rb (Zy<|items d1) λl3=>_)=_;rw[pX n s1,pX n s2];refine DO (DN t1) (λc1=>?_) λc1=>?_
 ·rw[c1,j9 λg k h1 _ F=>by
   simp only[f1] at h1;replace h1:=si h1;subst f1 s1 h1;exact dG.mp c1 F.ga];rfl
 refine DO (DN t2) (λc2=>?_) λc2=>?_
 ·rw[c1,c2,j9 λg k _ h1 F=>by
   simp only[f2] at h1;replace h1:=si h1;subst f2 s2 h1;exact dG.mp c2 F.ha];rfl
 rw[c1,c2];refine aD (It c1) λg zq ga=>?_;subst c1 zq;refine aD (It c2) λh zq ha=>?_;subst c2 zq;obtain⟨_,l1,_,zq,B1⟩:=s1.CR;subst e1 s1 zq;obtain⟨_,l2,_,zq,B2⟩:=s2.CR;subst e2 s2 zq;refine Zs (tW (S:=λ(j:Option V)=>fE (ζ<|Zq<|.join a b fs) (ζ<|Zz l) (ζ<|Zz l1) (ζ<|Zz l2) j) (b:=yC<|n+1) (t:=yD) (c:=j8 g (·∈fs)) (v:=.fz<|.bool ã) (xs:=ks l1) (λx hx j=>⟨à<|.fz<|.str x,λkn kr=>by
  obtain⟨d,t,h1,h2,h3⟩:=B1.key hx;refine Zs (ga x t h2) λr1 zq=>?_;subst zq;obtain⟨_,lr,_,zq,Br⟩:=h3.CR;subst h3 zq;rw[Xx,aM,aF,Xy];exact tY (Io a b fs) (Iq fs) Br h1 h2 _ _⟩) á) λj1 L1=>?_
 refine Zs (tW (S:=λ(j:Option V)=>fE (ζ<|Zq<|.join a b fs) (ζ<|Zz l) (ζ<|Zz l1) (ζ<|Zz l2) j) (b:=yE<|n+1) (t:=yF) (c:=j8 h (·∉fs)) (v:=.fz<|.bool ã) (xs:=ks l2) (λx hx j=>⟨à<|.fz<|.str x,λkn kr=>by
  obtain⟨d,t,h1,h2,h3⟩:=B2.key hx;refine Zs (ha x t h2) λr1 zq=>?_;subst zq;obtain⟨_,lr,_,zq,Br⟩:=h3.CR;subst h3 zq;rw[X0,aM,aF,X3];exact tY (Ip a b fs) (Ir fs) Br h1 h2 _ _⟩) j1) λj2 L2=>?_
 rw[bW];refine(L1 _ _).trans ?_;rw[tX B1,Xz];show(if _ then rb (Zy<|items<|Zz l2) _ else _)=_;rw[bW,aM,aF,cY,L2,tX B2,X4,Hz (t:=.br f) f1 f2]
 by_cases p1:pY g (·∈fs)
 case neg=>rw[dG.mpr p1,cA λF=>p1 F.gf];rfl
 by_cases p2:pY h (·∉fs)
 case neg=>rw[dG.mpr p2,cJ.mpr p1,cA λF=>p2 F.hf];rfl
 rw[cJ.mpr p2,cJ.mpr p1,dL ⟨ga,ha,p1,p2⟩];rfl
variable {m:Nat}
theorem Iu{S:LP->β->aA}{b:aA->KN->KR->R V}{t:h_}{f:d_->Option TT}(B:zl m l f)(hy:y∈NN)(OM:f y=á){j:β}
  (h:∀k d a j,lk l k=à d->a.length<a8->∃j',∀kn kr,(rb (Zy<|a9 t (.str k)<|S a j) λσ=>b σ kn kr)=kn (S (st a (if k=x then y else k) d) j')) :
  ∃a j',zl m a (fM x y f)/\∀kn kr,aX b t ((ks l).map .str) (S [] j) kn kr=kn (S a j'):=by
 have:=pU (S:=S) (b:=b) (t:=t) (l:=ks l) (p:=[]) (a:=[]) (j:=j) (I:=λp a=>zl m a λk=>if k=y then (if x∈p then f x else á) else if k=x then á else if k∈p then f k else á) (E:=λ_=>False) (Q:=λ_=>False) (λq k r a j hq hi=>?_) (zl.nil.ext λk=>by simp)
 ·rcases this with ⟨a,j,h1,h2⟩|⟨e,h1,_⟩|⟨v,hv,_⟩
  ·refine⟨a,j,h1.ext λk=>?_,h2⟩;have hn:∀k,k∉ks l->f k=á:=λk hk=>by
    refine zn (f k) (λe=>?_) λt e=>?_
    ·try rewrite[e]
     rfl
    ·exact absurd (B.mem.mpr<|by rw[e];rfl) hk
   rw[su,fM];have e1:(if x∈ks l then f x else á)=f x:=by
    by_cases hx:x∈ks l
    ·rw[if_pos hx]
    ·rw[if_neg hx,hn x hx]
   have e2:(if k∈ks l then f k else á)=f k:=by
    by_cases hx:k∈ks l
    ·rw[if_pos hx]
    ·rw[if_neg hx,hn k hx]
   rw[e1,e2]
  ·exact h1.elim
  ·exact hv.elim
 ·have hk:=nN hq;obtain⟨d,u,h1,h2,h3⟩:=B.key hk;refine Zs (h k d a j h1<|hi.lt Zw) λj' e=>BM.kn _ j' ((hi.set (k:=if k=x then y else k) (by split;exact hy;exact B.sub k hk) h3).ext λz=>?_) e;have UR:k≠y:=λe=>by rw[e,OM] at h2;exact ns h2
  simp only[upd,pw,qx]
  by_cases e1:k=x
  ·subst h hi e e1
   by_cases e2:z=y
   ·simp[e2,h2]
   ·by_cases e3:z=k
    ·subst hq hk h1 h2 e3;simp[UR]
    ·simp[e2,e3]
  ·by_cases e2:z=k
   ·subst hq hk h1 e e2;simp[UR,e1,h2]
   ·by_cases e3:z=y
    ·subst hy OM h hi e e3;simp[e1,Ne.symm UR,Ne.symm e1]
    ·simp[e1,e2,e3]
theorem q2d(n:Nat)(hy:y∈NN){f:d_->Option TT}(B:zl m l f)(hx:(f x).isSome=â)(OM:f y=á):Gives (rn (n+2) "shown_call" [.fz<|Zq<|.call x y,.fz<|Zz l]) λd=>Sem (m+1) d (.br<|fM x y f):=by
 refine cL (Iu (S:=λ(a:LP) (j:Option V)=>jX (ζ<|Zq<|.call x y) (ζ<|Zz l) (à<|.own<|Zz a) j) (b:=yG<|n+1) (t:=yH) B (x:=x) hy OM (j:=á) λk d a j hk ha=>⟨à<|.fz<|.str k,λkn kr=>by
  rw[X6,aM,aF,X7];show(if (k==x)=â then bK (Zy<|Zx (Zz l)<|.str k) (.ok<|Zz a) (κ<|.str y) _ else bK (Zy<|Zx (Zz l)<|.str k) (.ok<|Zz a) (κ<|.str k) _)=_;rw[bE hk]
  by_cases e:k=x
  ·rw[if_pos (by simpa using e),if_pos e];show rb (Zy<|Internal.setItem (Zz a) (.str y) d) _=_;rw[cS y d ha];rfl
  ·rw[if_neg (by simpa using e),if_neg e];show rb (Zy<|Internal.setItem (Zz a) (.str k) d) _=_;rw[cS k d ha];rfl⟩) λa j h1 h2=>?_
 refine⟨.own<|Zz a,_,?_,rfl,h1.toSem⟩;rw[X5];show rb (aE (rn (n+1) FD) [bD (rn (n+1) HX [.fz<|Zz l,.fz<|.str x])<|aS<|Zy<|b6<|Internal.contains (.str y)<|Zz l]) _=_;rw[pW,((B.dom x).trans hx),eE,B.JO.mp OM];show rb (rn (n+1) FD [.fz<|.bool â]) _=_;rw[nO,bW];exact(h2 _ _).trans (X8 ..)
theorem q2e(n:Nat){f:d_->Option TT}(B:zl m l f)(hf:cF f):Gives (rn (n+3) "shown_sift" [.fz<|Zq<|.sift x i,.fz<|Zz l]) λd=>Sem (m+1) d (.br<|lG x i f):=by
 ext i l x m n f
 have:=pV (m:=m) (S:=λ(a:LP) (j:Option V)=>gE (ζ<|Zq<|.sift x i) (ζ<|Zz l) (à<|.own<|Zz a) j) (b:=sY<|n+2) (t:=sZ) (xs:=ks l) (j:=á) (lG x i f) (E:=λ_=>False) λk hk a j ha=>?_
 ·obtain⟨a,j,hi,e⟩|⟨x,hx,_⟩:=this
  ·refine⟨.own<|Zz a,_,?_,rfl,(B.all (λk h=>by show(f k).bind _=á;rw[h];rfl) hi).toSem⟩;rw[Yh,q2b _ B.toSem hf];show rb (rn (n+2) FD [.fz<|.bool â]) _=_;rw[nO,bW];exact(e _ _).trans (Yk ..)
  ·exact hx.elim
 ·obtain⟨d,t,h1,h2,h3⟩:=B.key hk;refine Zs (hf k t h2) λg zq=>?_;subst zq;obtain⟨_,lr,_,rfl,Br⟩:=h3.CR;have hF:lG x i f k=AS (dF x i<|.br g) (à<|.br g):=by show(f k).bind _=_;rw[h2];rfl
  have hb:∀kn kr,(rb (Zy<|a9 sZ (.str k)<|gE (ζ<|Zq<|.sift x i) (ζ<|Zz l) (à<|.own<|Zz a) j) λσ=>sY (n+2) σ kn kr) =
    if sb x i (.br g)=â then kn (gE (ζ<|Zq<|.sift x i) (ζ<|Zz l) (à<|.own<|Zz<|st a k<|Zz lr)<|ζ<|.str k) else kn (gE (ζ<|Zq<|.sift x i) (ζ<|Zz l) (à<|.own<|Zz a)<|ζ<|.str k):=λkn kr=>by
   rw[Yi,aM,aF,Yj,bE h1];show zp (rn (n+2) HY [.fz<|Zz lr,.fz<|.str x,.fz<|.int i]) (rb (Zy<|Internal.setItem (Zz a) (.str k)<|Zz lr) _) _=_;rw[z6 n Br,cS k _ ha];rfl
  refine⟨B.sub k hk,?_⟩;refine DO (sb x i<|.br g) (λhs=>?_) λhs=>?_
  ·exact .inl ⟨hF.trans<|cA (iG.mp hs) _,à<|.fz<|.str k,λkn kr=>(hb kn kr).trans (by rw[hs,eO])⟩
  ·exact .inr<|.inl ⟨Zz lr,.br g,à<|.fz<|.str k,hF.trans<|dL (nP.mp hs) _,h3,λkn kr=>(hb kn kr).trans (by rw[hs,cT])⟩
theorem q2f(n:Nat){f g h:d_->Option TT}(B:zl m' l f)(e1:lk l a=à (Zz l1))(e2:lk l b=à (Zz l2))(B1:zl m l1 g)(B2:zl m l2 h)(F:NE fs g h)(hs:(aY (.join a b fs)<|.br f).isSome=â):Gives (rn (n+3) "shown_join" [.fz<|Zq<|.join a b fs,.fz<|Zz l]) λd=>Sem (m+1) d (.br<|nE g h):=by
 ext l l1 l2 fs m' b a m n f g h
 have:=pV (m:=m) (S:=λ(c:LP) (j:Option V×Option V)=>gG (ζ<|Zq<|.join a b fs) (ζ<|Zz l) (ζ<|Zz l1) (ζ<|Zz l2) (à<|.own<|Zz c) j.1 j.2) (b:=tA<|n+2) (t:=tB) (xs:=ks l1) (j:=(á,á)) (nE g h) (E:=λ_=>False) λk hk c j ha=>?_
 ·obtain⟨c,j,hi,e⟩|⟨x,hx,_⟩:=this
  ·refine⟨.own<|Zz c,_,?_,rfl,(B1.all (λk h=>by show(g k).bind _=á;rw[h];rfl) hi).toSem⟩;rw[Yl,q2c n B,hs];show rb (rn (n+2) FD [.fz<|.bool â]) (λ_=>rb (Zy<|Zx (Zz l)<|.str a) λv1=>rb (Zy<|Zx (Zz l)<|.str b) λv2=>_)=_;rw[nO,bE e1,bE e2,aF,aM,aF,aM,aF];show rb (Zy<|items<|Zz l1) _=_;rw[bW];exact(e _ _).trans (Yo ..)
  ·exact hx.elim
 ·obtain⟨d,t,h1,h2,h3⟩:=B1.key hk;refine Zs (F.ga k t h2) λr1 zq=>?_;subst zq;obtain⟨m',lr,Br⟩:=h3.NO;refine⟨B1.sub k hk,?_⟩;have hb:∀kn kr,(rb (Zy<|a9 tB (.str k)<|gG (ζ<|Zq<|.join a b fs) (ζ<|Zz l) (ζ<|Zz l1) (ζ<|Zz l2) (à<|.own<|Zz c) j.1 j.2) λσ=>tA (n+2) σ kn kr)=zp (κ<|.bool (lk l2 k).isSome) (rb (Zy<|Zx (Zz l2)<|.str k) λv=>rb (Zy<|eZ (so "update") (Zz lr) [Zp v]) λo2=>rb (Zy<|Internal.setItem (Zz c) (.str k) o2) λo3=>kn<|gG (ζ<|Zq<|.join a b fs) (ζ<|Zz l) (ζ<|Zz l1) (ζ<|Zz l2) (à<|.own o3) (ζ<|.str k)<|ζ o2) (kn<|gG (ζ<|Zq<|.join a b fs) (ζ<|Zz l) (ζ<|Zz l1) (ζ<|Zz l2) (à<|.own<|Zz c) (ζ<|.str k) j.2):=λkn kr=>by
   rw[Ym,aM,aF,Yn];show zp (aS<|Zy<|Internal.contains (.str k)<|Zz l2) (rb (aK bA<|Zy<|Zx (Zz l1)<|.str k) λv1=>fD (Zy<|dH v1) (so "update") [Zy<|Zx (Zz l2)<|.str k] _) _=_;rw[eE,bE h1,tU];cases lk l2 k<;>rfl
  refine zn (lk l2 k) (λBO=>?_) λd2 BO=>?_
  ·refine .inl ⟨?_,(à<|.fz<|.str k,j.2),λkn kr=>(hb kn kr).trans (by rw[BO];rfl)⟩;show(g k).bind (λr=>(h k).bind _)=á;rw[h2,B2.JO.mpr BO];rfl
  ·obtain⟨t2,q1,q2⟩:=B2.get' BO;refine Zs (F.ha k t2 q1) λr2 zq=>?_;subst zq;obtain⟨_,lr2,e,zq,M_⟩:=q2.CR;subst q2 zq;cases e;refine .inr<|.inl ⟨Zz<|BI lr2 lr,y7 (.br r1)<|.br r2,(à<|.fz<|.str k,à<|.fz<|Zz<|BI lr2 lr),?_,(Br.upd M_).toSem,λkn kr=>(hb kn kr).trans ?_⟩
   ·show(g k).bind (λr=>(h k).bind _)=_;rw[h2,q1];rfl
   ·rw[BO,bE BO];show rb (Zy<|eZ (so "update") (Zz lr) [Zz lr2]) _=_;rw[Im<|YL Br.len M_.len HW.len];show rb (Zy<|Internal.setItem (Zz c) (.str k) _) _=_;rw[cS k _ ha];rfl
variable {m:Nat}
inductive WL{α β:Type}(o:Option α)(k:α->Option β)(y:β):Prop where
 |mk (x:α) (h:o=à x) (g:k x=à y):WL o k y
theorem C_{o:Option α}{k:α->Option β}{y:β}(h:o.bind k=à y):WL o k y:=by
 cases o with
 |none=>exact ns h
 |some x=>exact⟨x,rfl,h⟩
theorem z9:∀{r:WW} {t z:TT},r.AY=â->r.wf->aY r t=à z->∃f,z=.br f/\∀k,(f k).isSome=â↔k∈r.names:=by
 intro r;induction r with
 |bnil=>intro t z _ _ h;obtain rfl:=si h;exact⟨_,rfl,λk=>by simp[hV,hY]⟩
 |bcons n p v r DM BU=>
  intro t z _ hw h;obtain⟨x,h1,h⟩:=C_ h;obtain⟨y,h2,h⟩:=C_ h;obtain⟨z1,h3,h⟩:=C_ h;replace h:=si h;subst h;refine aD (BU hw.2.1.2 hw.2.1.1 h3) λf zq hf=>?_;subst h3 h zq;refine⟨_,rfl,λk=>?_⟩;rw[upd,eM,hV,hY,mo]
  by_cases e:k=n
  ·simp[e]
  ·simp only[e,if_false,false_or];exact hf k
 |_=>intro t z h;exact zk h
theorem Gives.rb{P:a_->Prop}(h:Gives r P):Gives (rb r Zt) P:=by obtain⟨v,d,rfl,e,p⟩:=h;exact⟨v,d,rfl,e,p⟩
def bj(vw tr:a_)(c:LP)(j:Option V×Option V×Option V):aA:=kY (ζ vw) (ζ tr) (à<|.own<|Zz c) j.1 j.2.1 j.2.2
inductive XY(m n:Nat)(w:WW)(z:TT)(vw:a_)(l:LP)(c:LP)(g:d_->Option TT)(j:Option V×Option V×Option V):Prop where
 |mk (c':LP) (j':Option V×Option V×Option V) (B:zl m c' λk=>(z.get k).or (g k)) (h:∀kn kr,aX (pC n) pD (bI w) (bj vw (Zz l) c j) kn kr=kn (bj vw (Zz l) c' j')):XY m n w z vw l c g j
def q2g(w:WW):Prop:=∀{m n d t s},2*w.AG+4<=n->Sem m d t->aY w t=à s->Gives (rn n DT [.fz<|Zq w,.fz d]) λd'=>Sem m d' s
def q2h(w:WW):Prop:=∀{m n l f z},2*w.AG+4<=n->zl m l f->aY w (.br f)=à z->∀vw c g j,zl m c g->XY m n w z vw l c g j
structure Ϲ(w:WW):Prop where
 a:w.AY=ã->q2g w
 b:w.AY=â->q2h w
theorem Iv:∀{w:WW},BV w->Ϲ w:=by
 intro w;induction w with
 |whole=>
  refine λ_=>⟨λ_ m n d t s hn hd hs=>?_,λh=>by exact zk h⟩
  refine AM (c:=1) n hn hn λn hn=>?_;replace hs:=si hs;subst hs;exact⟨_,_,q1y n d,rfl,hd⟩
 |pick x=>
  refine λ_=>⟨λ_ m n d t s hn hd hs=>?_,λh=>by exact zk h⟩
  refine AM (c:=2) n hn hn λn hn=>?_;cases t with
  |num=>exact ns hs
  |br f=>
   revert hn;refine hd.EJ λm l B hn=>?_
   obtain⟨d,h1,h2⟩:=B.get hs;refine⟨.fz d,d,?_,rfl,h2.mono<|ao _⟩;rw[q1z,pW,h1,bE h1];show rb (rn (n+1) FD [.fz<|.bool â]) _=_;rw[nO];rfl
 |call x y=>
  refine λho=>⟨λ_ m n d t s hn hd hs=>?_,λh=>by exact zk h⟩
  refine AM (c:=3) n hn hn λn hn=>zj (j4 hs) λhc hs=>?_;replace hs:=si hs;subst hs;cases t with
  |num=>cases hc.1
  |br f=>
   revert hn;refine hd.EJ λm l B hn=>?_
   rw[q15];exact(q2d n ho.2.1 B hc.1 hc.2).rb
 |sift x i=>
  refine λho=>⟨λ_ m n d t s hn hd hs=>?_,λh=>by exact zk h⟩
  refine AM (c:=4) n hn hn λn hn=>?_;cases t with
  |num=>exact ns hs
  |br f=>
   refine zj (j4 hs) λhc hs=>?_;replace hs:=si hs;subst hs
   revert hn;refine hd.EJ λm l B hn=>?_
   rw[q16];exact(q2e n B hc).rb
 |join a b fs=>
  refine λho=>⟨λ_ m n d t s hn hd hs=>?_,λh=>by exact zk h⟩
  refine AM (c:=4) n hn hn λn hn=>qL (tN hs) λg h ga ha F es=>?_;cases t with
  |num=>exact ns ga
  |br f=>
   revert hn;refine hd.EJ λm l B hn=>?_
   rw[es];obtain⟨d1,q1,q2⟩:=B.get ga;obtain⟨d2,q3,q4⟩:=B.get ha;obtain⟨m,l1,B1⟩:=q2.NO;obtain⟨_,l2,e,zq,B2⟩:=q4.CR;subst q4 zq;cases e;rw[q17];obtain⟨v,d,e1,e2,e3⟩:=(q2f n B q1 q3 B1 B2 F<|by rw[hs];rfl).rb;exact⟨v,d,e1,e2,e3.mono<|ao _⟩
 |each v ih=>
  refine λho=>⟨λ_ m n d t s hn hd hs=>?_,λh=>by exact zk h⟩
  have hn:=hn;refine AM (c:=3) n hn hn λn hn=>?_;cases t with
  |num=>exact ns hs
  |br f=>
   refine zj (j4 hs) λhc hs=>?_;replace hs:=si hs;subst hs
   revert hn;refine hd.EJ λm l B hn=>?_
   rw[q18];refine Gives.rb ?_;have:=pV (m:=m) (S:=λ(a:LP) (j:Option V)=>kZ (ζ<|Zq<|.each v) (ζ<|Zz l) (à<|.own<|Zz a) j) (b:=yI<|n+1) (t:=yJ) (xs:=ks l) (j:=á) (λk=>(f k).bind (aY v)) (E:=λ_=>False) λk hk a j ha=>?_
   ·obtain⟨a,j,hi,e⟩|⟨x,hx,_⟩:=this
    ·refine⟨.own<|Zz a,_,?_,rfl,(B.all (λk h=>by show(f k).bind _=á;rw[h];rfl) hi).toSem⟩;rw[Yp];show rb (rn (n+1) FD [.fz<|.bool â]) _=_;rw[nO,bW];exact(e _ _).trans (Ys ..)
    ·exact hx.elim
   ·obtain⟨dx,tx,h1,h2,h3⟩:=B.key hk;have hx:=hc k tx h2;refine zn (aY v tx) (λsx=>?_) λu sx=>?_
    ·simp only[sx] at hx;exact zk hx
    ·obtain⟨w,d',e1,e2,e3⟩:=(ih ho.1).1 ho.2 (n:=n+1) (fd (k:=0) (c:=2) hn) h3 sx;refine⟨B.sub k hk,.inr<|.inl ⟨d',u,à<|.fz<|.str k,by show(f k).bind _=_;rw[h2];exact sx,e3,λkn kr=>?_⟩⟩;rw[Yq,aM,aF,Yr,bE h1];show rb (rn (n+1) DT [.fz<|Zq v,.fz dx]) (λv=>rb (Zy<|Internal.setItem (Zz a) (.str k)<|Zp v) _)=_;rw[e1,aF,iE e2,cS k d' ha];rfl
 |andThen a b HD HE=>
  refine λho=>⟨λ_ m n d t s hn hd hs=>?_,λh=>by exact zk h⟩
  have hn:=hn;refine AM (c:=1) n hn hn λn hn=>?_;obtain⟨mid,h1,h2⟩:=C_ hs;obtain⟨w,d',e1,e2,e3⟩:=(HD ho.1.1).1 ho.1.2 (n:=n) (mx<|fd (k:=1) (c:=1) hn).1 hd h1;rw[q2a,e1];refine Gives.rb ?_;show Gives (rn n DT [.fz<|Zq b,w.cl]) _;rw[e2];exact(HE ho.2.1).1 ho.2.2 (mx<|fd (k:=1) (c:=1) hn).2 e3 h2
 |beside r ih=>
  refine λho=>⟨λ_ m n d t s hn hd hs=>?_,λh=>by exact zk h⟩
  have hn:=hn;refine AM (c:=2) n hn hn λn hn=>?_;have hs:=hs;cases t with
  |num i=>
   exfalso;cases r with
   |bcons=>exact ns hs
   |bnil=>have:=ho.2.1;simp[hV,hY] at this
   |_=>cases ho.1.2
  |br f=>
   revert hn;refine hd.EJ λm l B hn=>?_
   rw[q19];refine Gives.rb ?_;obtain⟨c,j,h1,h2⟩:=(ih ho.1.1).2 ho.1.2 (n:=n) (fd (k:=0) (c:=2) hn) B hs (Zq<|.beside r) [] (λ_=>á) (á,á,á) zl.nil;refine aD (z9 ho.1.2 ho.1.1.wf hs) λf' zq _=>?_;subst hs zq;refine⟨.own<|Zz c,_,?_,rfl,(h1.ext λk=>by simp[eM]).toSem⟩;rw[X9];show rb (Zy<|items<|Zq r) _=_;rw[iF ho.1.2];exact(h2 _ _).trans (Yg ..)
 |bnil=>
  refine λho=>⟨λh=>(FZ h),λ_ m n l f z hn B hs vw c g j hc=>?_⟩
  replace hs:=si hs;subst hs;exact⟨c,j,hc.ext λk=>by simp[eM],λ_ _=>rfl⟩
 |bcons x p v r DM BU=>
  refine λho=>⟨λh=>(FZ h),λ_ m n l f z hn B hs vw c g j hc=>?_⟩
  have hn:=hn;obtain⟨t1,h1,hs⟩:=C_ hs;obtain⟨y,h2,hs⟩:=C_ hs;obtain⟨z1,h3,hs⟩:=C_ hs;replace hs:=si hs;subst hs;obtain⟨d1,q1,q2⟩:=B.get h1;obtain⟨w,d',e1,e2,e3⟩:=(DM ho.2.1.1).1 ho.2.1.2 (n:=n) (mx hn).1 q2 h2;obtain⟨c',j',i1,i2⟩:=(BU ho.2.2.1.1).2 ho.2.2.1.2 (n:=n) (mx hn).2 B h3 vw (st c x d') _ (à<|.fz<|.str x,à<|.fz<|.str p,à<|.fz<|Zq v)<|hc.set ho.1.1 e3;refine aD (z9 ho.2.2.1.2 ho.2.2.1.1.wf h3) λf1 zq BF=>?_;subst h3 hs zq;refine⟨c',j',i1.ext λk=>?_,λkn kr=>?_⟩
  ·simp only[eM,upd]
   by_cases e:k=x
   ·subst hn i2 hs i1 e;obtain this:f1 k=á:=by
     refine zn (f1 k) (λef=>?_) λu ef=>?_
     ·try rewrite[ef]
      rfl
     ·exact absurd ((BF k).mp (by rw[ef];rfl)) ho.2.2.2.1
    simp[this]
   ·simp[e]
  ·refine Eq.trans ?_<|i2 kn kr;show rb (Zy<|a9 pD (.tuple [.str x,.str p,Zq v]) _) (λσ=>pC n σ (λσ=>aX (pC n) pD (bI r) σ kn kr) kr)=_
   revert e1 i2;refine AM (c:=1) n hn hn λn hn e1 i2=>?_
   unfold bj;rw[Yc,aM,aF,Ye,pW,q1,bE q1];show rb (rn (n+1) FD [.fz<|.bool â]) (λ_=>rb (rn (n+1) DT [.fz<|Zq v,.fz d1]) λv=>rb (Zy<|Internal.setItem (Zz c) (.str x)<|Zp v) _)=_;rw[nO,aF,e1,aF,iE e2,cS x d'<|hc.lt Zw];rfl
section
theorem q2i(n:Nat)(d:a_)(h:rn n EZ [.fz d]=κ (.bool â)):rn (n+1) "need_view" [.fz d]=κ .none:=by rw[Xs,h];rfl
theorem Iw(n:Nat)(d:a_)(h:rn n L_ [.fz d]=κ (.bool â)):rn (n+1) QO [.fz d]=κ .none:=by rw[Yt,h];rfl
end
variable {m:Nat}
theorem q2j(h:a.cps.toList=b.cps.toList):a=b:=by cases a;cases b;rw[Str.mk.injEq];exact Array.toList_inj.mp h
theorem nR(a:d_):¬DR a a:=List.lt_irrefl _
theorem Aa{c:d_}(h1:DR a b)(h2:DR b c):DR a c:=List.lt_trans h1 h2
theorem Ab(h:¬DR b a)(hn:a≠b):DR a b:=by
 rcases Std.le_iff_lt_or_eq.mp (ft.mp h) with h|h
 ·exact h
 ·exact absurd (q2j h) hn
theorem Ac:∀{l:List d_},x∈fG a l↔x=a\/x∈l
 | []=>by simp[fG]
 |b::r=>by
  show x∈(if b.cps.toList<a.cps.toList then b::fG a r else a::b::r)↔_
  split
  ·rw[mo,Ac (l:=r),mo];constructor
   ·rintro(h | h | h)<;>simp[h]
   ·rintro(h | h | h)<;>simp[h]
  ·simp
theorem cP:∀{l:List d_},x∈aU l↔x∈l
 | []=>by simp[aU]
 |a::r=>by show x∈fG a (aU r)↔_;rw[Ac,cP (l:=r),mo]
theorem q2k:∀{l:List d_},a∉l->l.Pairwise DR->(fG a l).Pairwise DR:=by
 intro v0;induction v0 with
 |nil=>intro _ _;simp[fG]
 |cons b r ih=>
  intro hn h;refine zj (cu.mp h) λh1 h2=>?_;show(if b.cps.toList<a.cps.toList then b::fG a r else a::b::r).Pairwise DR
  split
  ·rename_i hl;refine cu.mpr ⟨λx hx=>?_,ih (λhm=>hn<|af _ hm) h2⟩;rcases Ac.mp hx with rfl|hx
   ·exact hl
   ·exact h1 x hx
  ·rename_i hl;have I_:=Ab hl λe=>hn (by simp[e]);refine cu.mpr ⟨λx hx=>?_,h⟩;rcases List.mem_cons.mp hx with rfl|hx
   ·exact I_
   ·exact Aa I_<|h1 x hx
theorem pZ:∀{l:List d_},l.Nodup->(aU l).Pairwise DR:=by
 intro v0;induction v0 with
 |nil=>intro _;exact .nil
 |cons a r ih=>intro h;exact zj (bh.mp h) λh1 h2=>q2k (λhm=>h1<|cP.mp hm)<|ih h2
theorem Ix:∀{a b:List d_},a.Pairwise DR->b.Pairwise DR->(∀x,x∈a↔x∈b)->a=b
 | [],[],_,_,_=>rfl
 | [],y::s,_,_,h=>absurd ((h y).mpr (by simp)) (by simp)
 |x::r,[],_,_,h=>absurd ((h x).mp (by simp)) (by simp)
 |x::r,y::s,ha,hb,h=>by
  refine zj (cu.mp ha) λa1 a2=>zj (cu.mp hb) λb1 b2=>?_;obtain e:x=y:=by
   rcases List.mem_cons.mp ((h x).mp (by simp)) with e|hx
   ·exact e
   ·rcases List.mem_cons.mp ((h y).mpr (by simp)) with e|hy
    ·exact e.symm
    ·exact absurd (Aa (a1 y hy)<|b1 x hx)<|nR x
  subst hb e;rw[Ix a2 b2 λz=>?_];have:=h z;rw[mo,mo] at this;constructor
  ·intro hz;rcases this.mp (.inr hz) with rfl|h'
   ·exact absurd (a1 z hz)<|nR z
   ·exact h'
  ·intro hz;rcases this.mpr (.inr hz) with rfl|h'
   ·exact absurd (b1 z hz)<|nR z
   ·exact h'
theorem Iy{l:List d_}(h:l.Nodup):(aU l).Nodup:=(pZ h).imp λ{a b} (h:DR a b) (e:a=b)=>nR b<|e▸h
theorem tZ{l:List d_}(h:l.Nodup):(aU l).length=l.length:=wc (zA (Iy h) λx hx=>cP.mp hx)<|zA h λx hx=>cP.mpr hx
theorem jA{l:List d_}(h:l.length<64):eX (l.map .str)=.ok (.own<|.list<|(aU l).map .str):=by show((AT<|CI<|l.map .str).bind λl=>if l.length<64 then own (.list<|(aU l).map .str) else .no)=_;rw[iD,iC,iB,if_pos h];rfl
theorem Ad(h:l.length<64):bX (Zz l)=.ok (.own<|.list<|(aU<|ks l).map .str):=by show eX ((AH l).map (·.1))=_;rw[tO,jA<|by rw[cO];exact h]
theorem t0(a b:List d_):CU (.list<|a.map .str) (.list<|b.map .str)=.ok (a==b):=by
 show(if (a.map l_).length=(b.map l_).length then iL (a.map .str) (b.map .str) else P.ok ã)=_;rw[j_,j_]
 by_cases h:a.length=b.length
 ·rw[if_pos h];show(match CI (a.map .str) with | none=>P.no | some a=>match CI (b.map .str) with | none=>.no | some b=>.ok<|a==b)=_;rw[iD,iD]
 ·rw[if_neg h];congr;exact(beq_false_of_ne λe=>h<|by rw[e]).symm
theorem qA{a b:List d_}(ha:a.Nodup)(hb:b.Nodup):(aU a==aU b)=EK (∀x,x∈a↔x∈b):=by
 refine fU<|beq_iff_eq.trans ⟨λe x=>?_,λh=>Ix (pZ ha) (pZ hb) λx=>?_⟩
 ·rw[<- cP,e,cP]
 ·rw[cP,cP];exact h x
theorem Iz(b:R V):bD (κ<|.bool ã) b=κ (.bool ã):=rfl
theorem q2l(b:R V):bD (κ<|.bool â) b=b:=rfl
theorem nS(f:List V->R V)(a b c d:a_):aE f [κ a,κ b,κ c,κ d]=f [.fz a,.fz b,.fz c,.fz d]:=rfl
def BP(w k p:a_):X:=⟨so "BadPut",[(so "way",w),(so "kind",k),(so "part",p)]⟩
inductive XJ(m n:Nat)(t:TT)(p:a_):Prop where
 |mk (dp:a_) (h:Sem m dp t) (e:∀(b:Bool) (w k:a_),rn (n+2) EM [.fz<|.bool b,.fz w,.fz k,.fz p]=if b=â then κ .none else .exc (BP w k dp)):XJ m n t p
theorem qB(n:Nat){t:TT}(h:Sem m p t)(hn:m<=n):XJ m n t p:=by
 refine⟨p,h,λb w k=>?_⟩;rw[Yu];cases b with
 |true=>rfl
 |false=>rw[Ii h hn];show(if bJ (n+1) p=â then R.exc (BP w k p) else .no)=_;rw[if_pos<|iY h<|jk hn];rfl
inductive LR(m:Nat)(x:Rf)(r:R V):Prop where
 |mk (dp:a_) (e:r=.exc (BP (.list x.way) (.str x.kind) dp)) (h:Sem m dp x.part):LR m x r
def cK(m:Nat)(o:Option TT)(x:Rf)(r:R V):Prop:=match o with
 |some t=>Gives r λd=>Sem m d t
 |none=>LR m x r
theorem LR.rb{x:Rf}(h:LR m x r)(f:V->R V):LR m x<|rb r f:=by obtain⟨dp,rfl,h⟩:=h;exact⟨dp,rfl,h⟩
theorem cK.rb{o:Option TT}{x:Rf}(h:cK m o x r):cK m o x<|rb r Zt:=by
 cases o with
 |none=>exact LR.rb h _
 |some t=>exact Gives.rb (P:=λd=>Sem m d t) h
theorem q2m(n:Nat)(hx:x∈NN){t:TT}(h:Sem m d t)(hn:m<=n)(to:TT)(way:List a_):cK m (aQ (.call x y) to t) (aV (.call x y) to t way)<|rn (n+3) "put_call" [.fz<|Zq<|.call x y,.fz d,.fz<|.list way]:=by
 revert hx h hn;ext d x y m n t to way
 rw[Yv];obtain⟨dp,BL,np⟩:=qB n h hn;obtain⟨i,hi⟩|⟨m,l,f,B⟩:=h.inv
 ·show cK m (AS _ _) _ (rb (rn (n+2) EM [.fz<|.bool ã,.fz<|.list way,.fz<|.str<|so "form",.fz<|.int i]) _);rw[cA (λh=>by cases h.1),np];exact⟨dp,rfl,BL⟩
 ·show cK (m+1) (AS _ _) _ (rb (aE (rn (n+2) EM) [bD (aS<|Zy<|Internal.contains (.str y)<|Zz l)<|aS<|Zy<|b6<|Internal.contains (.str x)<|Zz l,κ<|.list way,κ<|.str<|so "form",κ<|Zz l]) _);rw[eE,eE];have hc:bD (aS<|Zy<|.ok (lk l y).isSome) (aS<|Zy<|b6<|.ok (lk l x).isSome)=κ (.bool<|(lk l y).isSome&&!(lk l x).isSome):=by cases (lk l y).isSome<;>rfl
  rw[hc];show cK (m+1) (AS _ _) _ (rb (rn (n+2) EM [.fz<|.bool _,.fz<|.list way,.fz<|.str<|so "form",.fz<|Zz l]) _);rw[np,B.dom,B.dom];simp only[eM]
  by_cases hc:(f y).isSome=â/\f x=á
  ·rw[dL hc,hc.1,hc.2];refine cL (Iu (S:=λ(a:LP) (j:Option V)=>jY (ζ<|Zq<|.call x y) (ζ<|Zz l) (ζ<|.list way) (à<|.own<|Zz a) j) (b:=yK<|n+2) (t:=yL) B (x:=y) hx hc.2 (j:=á) λk d a j hk ha=>⟨à<|.fz<|.str k,λkn kr=>by
    rw[Yw,aM,aF,Yx];show(if (k==y)=â then bK (Zy<|Zx (Zz l)<|.str k) (.ok<|Zz a) (κ<|.str x) _ else bK (Zy<|Zx (Zz l)<|.str k) (.ok<|Zz a) (κ<|.str k) _)=_;rw[bE hk]
    by_cases e:k=y
    ·rw[if_pos (by simpa using e),if_pos e];show rb (Zy<|Internal.setItem (Zz a) (.str x) d) _=_;rw[cS x d ha];rfl
    ·rw[if_neg (by simpa using e),if_neg e];show rb (Zy<|Internal.setItem (Zz a) (.str k) d) _=_;rw[cS k d ha];rfl⟩) λa j h1 h2=>?_
   refine⟨.own<|Zz a,_,?_,rfl,h1.toSem⟩;rw[bW];exact(h2 _ _).trans (Yy ..)
  ·rw[cA hc];obtain this:((f y).isSome&&!(f x).isSome)=ã:=by
    refine zn (f y) (λe1=>?_) λu e1=>?_
    ·try rewrite[e1]
     rfl
    ·try rewrite[e1]
     refine zn (f x) (λe2=>?_) λv e2=>?_
     ·try rewrite[e2]
      exact absurd ⟨by rw[e1];rfl,e2⟩ hc
     ·try rewrite[e2]
      rfl
   rw[this];exact⟨dp,rfl,BL⟩
theorem q2n(n:Nat){f:d_->Option TT}{t:TT}(way:List a_)(B:zl m ln f)(hf:cF f)(h:Sem (m+1) d t)(hn:m+1<=n):cK (m+1) (aQ (.sift x i) (.br f) t) (aV (.sift x i) (.br f) t way)<|rn (n+3) "put_sift" [.fz<|Zq<|.sift x i,.fz<|Zz ln,.fz d,.fz<|.list way]:=by
 ext i ln d x m n f t way
 rw[Y8,pX (n+1) h];obtain⟨dp,BL,np⟩:=qB n h hn;obtain⟨j,rfl,rfl,hi⟩|⟨_,l,g,e,rfl,rfl,C⟩:=h.CP
 ·rw[show DN (T.num j)=ã from rfl,Iz,aF,cY,dS,nS,np];exact⟨dp,by rw[show aV (.sift x i) (.br f) (.num j) way=⟨way,frm _ dR,_⟩ from rfl,iA (p:=j5 x i<|.num j) λh=>h];rfl,BL⟩
 cases e;obtain hg:bD (κ<|.bool<|DN<|.br g) (aK dD<|aN (Zy<|items<|Zz l) (λd1=>(.ok â)) λd1=>(aE (rn (n+2) HY) [(Zy<|Zx (Zz l) d1),(Zy<|Zx (Zq<|.sift x i)<|.int 1),(Zy<|Zx (Zq<|.sift x i)<|.int 2)]))=κ (.bool<|EK (cF g/\∀k u,g k=à u->dF x i u)):=by
  refine DO (DN<|.br g) (λha=>?_) λha=>?_
  ·try rewrite[ha]
   rw[(dG.mpr λh=>(dG.mp ha) h.1:EK (cF g/\∀k u,g k=à u->dF x i u)=ã)];rfl
  ·try rewrite[ha]
   have ha:cF g:=cJ.mp ha;have:=nJ (xs:=ks l) (g:=λk=>match g k with|some u=>sb x i u|none=>â) (e:=λd1=>(aE (rn (n+2) HY) [(Zy<|Zx (Zz l) d1),(Zy<|Zx (Zq<|.sift x i)<|.int 1),(Zy<|Zx (Zq<|.sift x i)<|.int 2)])) λk hk=>by obtain⟨d,u,h1,h2,h3⟩:=C.key hk;refine Zs (ha k u h2) λr zq=>?_;subst zq;obtain⟨_,lr,_,zq,Br⟩:=h3.CR;subst h3 zq;rw[bE h1,h2];exact z6 n Br x i
   rw[bW,aM,this];show Zt (V.fz<|.bool _)=_;refine congrArg (λb=>Zt<|V.fz<|.bool b)<|fU ?_;rw[ak];constructor
   ·intro h;refine⟨ha,λk u hk=>?_⟩;have:=h k (C.mem.mpr<|by rw[hk];rfl);rw[hk] at this;exact nP.mp this
   ·intro h k hk;obtain⟨d,u,h1,h2,h3⟩:=C.key hk;rw[h2];exact nP.mpr<|h.2 k u h2
 rw[hg];show cK (m+1) (AS _ _) _ (rb (rn (n+2) EM [.fz<|.bool _,.fz<|.list way,.fz<|.str<|so "form",.fz<|Zz l]) _);rw[np]
 by_cases AK:cF g/\∀k u,g k=à u->dF x i u
 case neg=>rw[cA λh=>AK h.1,dG.mpr AK,show aV (.sift x i) (.br f) (.br g) way=⟨way,frm _ dR,_⟩ from rfl,iA (p:=j5 x i<|.br g) AK];exact⟨dp,rfl,BL⟩
 rw[cJ.mpr AK];obtain hh:aN (Zy<|items<|Zz ln) (λd3=>(zu<|zy .Not<|aE (rn (n+2) HY) [(Zy<|Zx (Zz ln) d3),(Zy<|Zx (Zq<|.sift x i)<|.int 1),(Zy<|Zx (Zq<|.sift x i)<|.int 2)])) (λd3=>(κ d3))=.ok (.own<|.list<|((ks ln).filter λk=>match f k with|some u=>!sb x i u|none=>ã).map .str):=by
  rw[bW];show rb (aZ _ _<|(ks ln).map .str) (λr=>Zy<|own<|.list r)=_;rw[nK (g:=λk=>match f k with | some u=>!sb x i u | none=>ã) λk hk=>by
   obtain⟨d,u,h1,h2,h3⟩:=B.key hk;refine Zs (hf k u h2) λr zq=>?_;subst zq;obtain⟨_,lr,_,zq,Br⟩:=h3.CR;subst h3 zq;rw[bE h1,h2];show zu (zy .Not<|rn (n+2) HY [.fz<|Zz lr,.fz<|.str x,.fz<|.int i])=_;rw[z6 n Br x i];rfl]
  rfl
 rw[hh];generalize hH:((ks ln).filter λk=>match f k with | some u=>!sb x i u | none=>ã)=hs;have hmem:∀k,k∈hs↔∃u,f k=à u/\¬dF x i u:=λk=>by
  rw[<- hH,eq];constructor
  ·rintro⟨h1,h2⟩
   obtain⟨d,u,_,h4,_⟩:=B.key h1;rw[h4] at h2;exact⟨u,h4,iG.mp<|by simpa using h2⟩
  ·rintro⟨u,h1,h2⟩
   refine⟨B.mem.mpr (by rw[h1];rfl),?_⟩;rw[h1];simpa using iG.mpr h2
 show cK (m+1) (AS _ _) _ (rb (aE (rn (n+2) EM) [aC (aN (Zy<|items<|Zz l) (λd6=>zu<|aS<|Zy<|Internal.contains d6<|.list<|hs.map .str) λd6=>κ d6) .Eq<|.ok<|.own<|.list [],κ<|.list way,κ<|.str<|so "hidden",κ<|Zz l]) λ_=>rb (Zy<|items<|.list<|hs.map .str) _);rw[bW,aM,z8 (g:=λk=>hs.contains k) λk hk=>by
  show zu (aS<|Zy<|(AT<|CI<|hs.map .str).bind λss=>P.ok<|ss.contains k)=_;rw[iD];rfl]
 show cK (m+1) (AS _ _) _ (rb (rn (n+2) EM [.fz<|.bool _,.fz<|.list way,.fz<|.str<|so "hidden",.fz<|Zz l]) _);rw[np]
 by_cases CV:∀k u,(g k).isSome=â->f k=à u->dF x i u
 case neg=>
  rw[cA λh=>CV h.2,show((ks l).filter λk=>hs.contains k).isEmpty=ã from by
   rw[qg];intro he;refine CV λk u h1 h2=>Classical.byContradiction λh3=>?_;have:=iZ.mp he k<|C.mem.mpr h1;rw[(by simpa using (hmem k).mpr ⟨u,h2,h3⟩:hs.contains k=â)] at this;exact FZ this,show aV (.sift x i) (.br f) (.br g) way=⟨way,frm _ dR,_⟩ from rfl,pK (p:=j5 x i<|.br g) AK]
  exact⟨dp,rfl,BL⟩
 rw[dL ⟨AK,CV⟩,show((ks l).filter λk=>hs.contains k).isEmpty=â from iZ.mpr λk hk=>by
  refine DO (hs.contains k) (λe=>?_) λe=>?_
  ·try rewrite[e]
   rfl
  ·exact aD ((hmem k).mp (by simpa using e)) λu h1 h2=>absurd (CV k u (C.mem.mp hk) h1) h2]
 have:=pV (m:=m) (S:=λ(a:LP) (j:Option V)=>lA (ζ<|Zq<|.sift x i) (ζ<|Zz ln) (ζ<|Zz l) (ζ<|.list way) j (ζ<|.bool â) (ζ<|.list<|hs.map .str)<|some<|.own<|Zz a) (b:=yM<|n+2) (t:=yN) (xs:=hs) (j:=á) f (E:=λ_=>False) λk hk a j ha=>by refine aD ((hmem k).mp hk) λu h1 h2=>?_;obtain⟨d,h3,h4⟩:=B.get h1;refine⟨B.sub k<|lJ h3,.inr<|.inl ⟨d,u,à<|.fz<|.str k,h1,h4,λkn kr=>?_⟩⟩;rw[Y9,aM,aF,Za,bE h3];show rb (Zy<|Internal.setItem (Zz a) (.str k) d) _=_;rw[cS k d ha];rfl
 obtain⟨a,j,hi,e⟩|⟨_,hx,_⟩:=this
 ·refine⟨.own<|Zz<|BI l a,_,?_,rfl,((hi.upd C).ext λk=>?_).toSem⟩
  ·refine(e _ _).trans ((Zb ..).trans ?_);show rb (Zy<|eZ (so "update") (Zz a) [Zz l]) _=_;rw[Im<|YL hi.len C.len HW.len];rfl
  ·congr 1;refine zn (f k) (λef=>?_) λu ef=>?_
   ·simp[eM,ef]
   ·by_cases AZ:dF x i u
    ·obtain this:k∉hs:=λhk=>by
      refine aD ((hmem k).mp hk) λu' h1 h2=>?_;rw[ef] at h1;replace h1:=si h1;subst h1;exact h2 AZ
     simp[eM,ef,this,AS,AZ]
    ·simp[eM,ef,((hmem k).mpr ⟨u,ef,AZ⟩),AS,AZ]
 ·exact hx.elim
variable {m:Nat}
theorem Ae(l:LP):bA (Zz l)=.ok (.own<|Zz l):=rfl
theorem t6(h:lk l k=à d):aO [κ<|.str k,aI (.ok<|Zz l)<|κ<|.str k]=κ (.tuple [.str k,d]):=by show rb (rb (Zt<|V.fz<|.str k) λv=>rb (rb (Zy<|Zx (Zz l)<|.str k) λv=>.ok [v.cl]) λvs=>.ok<|v.cl::vs) _=_;rw[bE h];rfl
theorem t7{r:d_->Option TT}(B:zl m l r){F:d_->Option TT}(ht:∀k,t (.str k)=.ok (c k))(hF:∀k,F k=if c k=â then r k else á):
  ∃l':LP,aK bA (aN (.ok<|(ks l).map .str) t λd=>aO [κ d,aI (.ok<|Zz l)<|κ d])=.ok (.own<|Zz l')/\zl m l' F:=by
 refine aD (Id (m:=m) (F:=F) (t:=t) (e:=λd=>aO [κ d,aI (.ok<|Zz l)<|κ d]) (xs:=ks l) (by rw[cO];exact B.lt Zw) λk hk=>by
  obtain⟨d,u,h1,h2,h3⟩:=B.key hk;refine⟨B.sub k hk,?_⟩;rw[ht,hF];refine DO (c k) (λhc=>?_) λhc=>?_
  ·try rewrite[hc]
   exact .inl ⟨rfl,by rw[eO]⟩
  ·try rewrite[hc]
   exact .inr ⟨rfl,_,d,u,t6 h1,rfl,by rw[cT];exact h2,h3⟩) λl' e C=>?_
 exact⟨l',e,B.all (λk hk=>by rw[hF,hk];split<;>rfl) C⟩
theorem q2o(n:Nat)(ha:a∈NN)(hb:b∈NN)(way:List a_){f g h:d_->Option TT}{t:TT}(Bo:zl (m+1) lo f)(e1:lk lo a=à (Zz l1))(e2:lk lo b=à (Zz l2))(fa:f a=à (.br g))(fb:f b=à (.br h))(B1:zl m l1 g)(B2:zl m l2 h)(hd:Sem (m+2) d t)(hn:m+2<=n):
  cK (m+3) (aQ (.join a b fs) (.br f) t) (aV (.join a b fs) (.br f) t way) (rn (n+3) "put_join" [.fz<|Zq<|.join a b fs,.fz<|Zz lo,.fz d,.fz<|.list way]):=by
 revert ha hb;ext l1 l2 lo fs d b a m n way f g h t
 refine AN λ_ θ=>?_;obtain⟨dp,BL,np⟩:=qB n hd hn;apply θ;have BL:=BL.mono<|ao _;rw[Zc,pX (n+1) hd,nS,np];obtain⟨j,rfl,rfl,hi⟩|⟨_,l,q,e,rfl,rfl,C⟩:=hd.CP
 ·exact⟨dp,by rw[show aV (.join a b fs) (.br f) (.num j) way=⟨way,frm _ dR,_⟩ from rfl,iA (p:=lH<|.num j) λh=>h];rfl,BL⟩
 cases e;obtain hp:aQ (.join a b fs) (.br f) (.br q)=AS (cF q/\∀k,(q k).isSome=â->((g k).isSome=(h k).isSome)) (à<|.br<|upd (upd f a<|some<|.br<|dB (λf=>f∈fs) g h q) b<|some<|.br<|dB (λf=>f∉fs) h g q):=by show((f a).bind λone=>(f b).bind λother=>_)=_;rw[fa,fb];rfl
 rw[hp]
 by_cases AK:cF q
 case neg=>rw[cA λh=>AK h.1,show DN (.br q)=ã from dG.mpr AK,show aV (.join a b fs) (.br f) (.br q) way=⟨way,frm _ dR,_⟩ from rfl,iA (p:=lH<|.br q) AK];exact⟨dp,rfl,BL⟩
 rw[show DN (.br q)=â from cJ.mpr AK,cT,aF];show cK (m+3) (AS _ _) _ (rb (Zy<|Zx (Zz lo)<|.str a) λv1=>rb (Zy<|Zx (Zz lo)<|.str b) λv2=>_);rw[bE e1,bE e2,aM,aM,aF,aF];obtain q0U:aC (aN (Zy<|items<|Zz l) (λd4=>(zu<|aC (aC (κ d4) .In<|Zy<|zi<|Zr<|.fz<|Zz l1) .NotEq<|aC (κ d4) .In<|Zy<|zi<|Zr<|.fz<|Zz l2)) λd4=>(κ d4)) .Eq (.ok<|.own<|.list [])=κ (.bool<|EK (∀k,(q k).isSome=â->((g k).isSome=(h k).isSome))):=by
  rw[bW,aM,z8 (g:=λk=>!((lk l1 k).isSome==(lk l2 k).isSome)) λk hk=>by
   show zu (rb (aS<|Zy<|Internal.contains (.str k)<|Zz l1) λa=>aS<|rb (aS<|Zy<|Internal.contains (.str k)<|Zz l2) λv=>Zy<|BX .NotEq (Zp a)<|Zp v)=_;rw[eE,eE];rfl]
  refine congrArg (λb=>Zt<|V.fz<|.bool b)<|fU ?_;rw[iZ];constructor
  ·intro h k hk;have:=h k<|C.mem.mpr hk;simp only[B1.dom,B2.dom] at this;simpa using this
  ·intro h k hk;rw[B1.dom,B2.dom,h k<|C.mem.mp hk];simp
 rw[q0U,nS,np]
 by_cases CV:∀k,(q k).isSome=â->((g k).isSome=(h k).isSome)
 case neg=>rw[cA λh=>CV h.2,dG.mpr CV,show aV (.join a b fs) (.br f) (.br q) way=⟨way,frm _ dR,_⟩ from rfl,pK (p:=lH<|.br q) AK];exact⟨dp,rfl,BL⟩
 rw[dL ⟨AK,CV⟩,cJ.mpr CV,cT,aF];refine AN λΘ θ=>aD (t7 B1 (F:=λk=>if (h k).isSome then á else g k) (t:=λd5=>zu<|aS<|Zy<|b6<|Internal.contains d5<|Zz l2) (c:=λk=>!(lk l2 k).isSome) (λk=>by rw[eE];rfl) λk=>by
  rw[B2.dom];cases (h k).isSome<;>rfl) λll el Bl=>?_
 refine aD (t7 B2 (F:=λk=>if (g k).isSome then á else h k) (t:=λd5=>zu<|aS<|Zy<|b6<|Internal.contains d5<|Zz l1) (c:=λk=>!(lk l1 k).isSome) (λk=>by rw[eE];rfl) λk=>by
  rw[B1.dom];cases (g k).isSome<;>rfl) λlr er Br=>?_
 apply θ;show cK (m+3) _ _ (rb (aK bA<|aN (Zy<|items<|Zz l1) (λd5=>zu<|aS<|Zy<|b6<|Internal.contains d5<|Zz l2) λd=>aO [κ d,aI (.ok<|Zz l1)<|κ d]) λv6=>rb (aK bA<|aN (Zy<|items<|Zz l2) (λd5=>zu<|aS<|Zy<|b6<|Internal.contains d5<|Zz l1) λd=>aO [κ d,aI (.ok<|Zz l2)<|κ d]) λv8=>_);rw[bW,bW,aM,aM,el,er,aF,aF,bW,aM,aF];obtain L:=pU (S:=λ(c:LP×LP) (j:Option V×Option V)=>lB (ζ<|Zq<|.join a b fs) (ζ<|Zz lo) (ζ<|Zz l) (ζ<|.list way) (ζ<|Zz l1) (ζ<|Zz l2) j.1 (à<|.own<|Zz c.1) (à<|.own<|Zz c.2) j.2 á) (b:=yO<|n+2) (t:=yP) (l:=ks l) (p:=[]) (a:=(ll,lr)) (j:=(á,á))
  (I:=λp c=>zl (m+1) c.1 (λk=>if k∈p then dB (λf=>f∈fs) g h q k else if (h k).isSome then á else g k)/\zl (m+1) c.2 (λk=>if k∈p then dB (λf=>f∉fs) h g q k else if (g k).isSome then á else h k)) (E:=λ_=>False) (Q:=λ_=>False) (λp k r c j hq hi=>by
   have hk:=nN hq;refine AN λ_ θ=>?_;obtain⟨dk,u,h1,h2,h3⟩:=C.key hk;refine Zs (AK k u h2) λDS zq=>?_;subst zq;obtain⟨_,lw,e,zq,Bw⟩:=h3.CR;subst h3 zq;cases e;have ZY:dB (λf=>f∈fs) g h q k=à (.br λfl=>AS (fl∈fs)<|DS fl):=by simp only[dB,h2,eM]
   have ZW:dB (λf=>f∉fs) h g q k=à (.br λfl=>AS (fl∉fs)<|DS fl):=by simp only[dB,h2,eM]
   refine aD (t7 Bw (F:=λfl=>AS (fl∈fs)<|DS fl) (t:=λd5=>zu<|aS<|Zy<|Internal.contains d5<|.tuple<|fs.map .str) (c:=λk=>fs.contains k) (λk=>by rw[nQ];rfl) λk=>by
    by_cases e:k∈fs<;>simp[e,AS]) λx1 ex1 ϫ=>?_
   refine aD (t7 Bw (F:=λfl=>AS (fl∉fs)<|DS fl) (t:=λd5=>zu<|aS<|Zy<|b6<|Internal.contains d5<|.tuple<|fs.map .str) (c:=λk=>!fs.contains k) (λk=>by rw[nQ];rfl) λk=>by
    by_cases e:k∈fs<;>simp[e,AS]) λx2 ex2 Ϭ=>?_
   apply θ;refine BM.kn (st c.1 k<|Zz x1,st c.2 k<|Zz x2) (à<|.fz<|.str k,à<|.fz<|Zz lw) ⟨(hi.1.set (C.sub k hk) ϫ.toSem).ext λz=>?_,(hi.2.set (C.sub k hk) Ϭ.toSem).ext λz=>?_⟩ λkn kr=>?_
   ·by_cases e:z=k
    ·subst hq hk θ h2 h1 ZW e;simp only[upd,pw,qx,or_true,if_true,ZY]
    ·simp[upd,e]
   ·by_cases e:z=k
    ·subst hq hk θ h2 h1 ZY e;simp only[upd,pw,qx,or_true,if_true,ZW]
    ·simp[upd,e]
   ·rw[Zd,aM,aF,Ze,bE h1,aM,aF];show rb (aK bA<|aN (Zy<|items<|Zz lw) (λd5=>zu<|aS<|Zy<|Internal.contains d5<|.tuple<|fs.map .str) λd=>aO [κ d,aI (.ok<|Zz lw)<|κ d]) (λv=>rb (Zy<|Internal.setItem (Zz c.1) (.str k)<|Zp v) λo3=>rb (aK bA<|aN (Zy<|items<|Zz lw) (λd5=>zu<|aS<|Zy<|b6<|Internal.contains d5<|.tuple<|fs.map .str) λd=>aO [κ d,aI (.ok<|Zz lw)<|κ d]) λv=>rb (Zy<|Internal.setItem (Zz c.2) (.str k)<|Zp v) λo5=>_)=_;rw[bW,aM,ex1,ex2,aF,pN,cS k _<|hi.1.lt Zw,aM,aF,aF,pN,cS k _<|hi.2.lt Zw];rfl) ⟨(Bl.mono<|ao _).ext λk=>by simp,(Br.mono<|ao _).ext λk=>by simp⟩
 obtain⟨c,j,hi,e⟩|⟨_,hx,_⟩|⟨_,hv,_⟩:=L
 ·have RI:∀k,k∉ks l->q k=á:=λk hk=>by
   refine zn (q k) (λe=>?_) λt e=>?_
   ·try rewrite[e]
    rfl
   ·exact absurd (C.mem.mpr<|by rw[e];rfl) hk
  have I1:=hi.1.ext (g:=dB (λf=>f∈fs) g h q) λk=>by
   by_cases hk:k∈ks l
   ·simp[hk]
   ·simp[hk,dB,RI k hk]
  obtain I2:=hi.2.ext (g:=dB (λf=>f∉fs) h g q) λk=>by
   by_cases hk:k∈ks l
   ·simp[hk]
   ·simp[hk,dB,RI k hk]
  refine⟨.own<|Zz<|st (st lo a<|Zz c.1) b<|Zz c.2,_,?_,rfl,(((Bo.mono<|ao _).set ha I1.toSem).set hb I2.toSem).toSem⟩;refine(e _ _).trans ((Zf ..).trans ?_);rw[Ae,aM,aF];show rb (Zy<|Internal.setItem (Zz lo) (.str a)<|Zz c.1) (λo2=>rb (Zy<|Internal.setItem o2 (.str b)<|Zz c.2) λo3=>_)=_;rw[cS a _<|Bo.lt Zw,aM,aF,cS b _<|((Bo.mono<|ao _).set ha I1.toSem).lt Zw];rfl
 ·exact hx.elim
 ·exact hv.elim
variable {m:Nat}
def W.grow:WW->Nat
 | .pick _=>1
 | .join _ _ _=>1
 | .each v=>v.grow
 | .andThen a b=>a.grow+b.grow
 | .beside r=>r.grow
 | .bcons _ _ v r=>max v.grow r.grow
 |_=>0
section
theorem q2p(n:Nat)(o d w:a_):rn (n+1) DI [.fz<|Zq .whole,.fz o,.fz d,.fz w]=κ d:=Zv
theorem q2q(n:Nat)(x:d_)(o d w:a_):rn (n+1) DI [.fz<|Zq<|.pick x,.fz o,.fz d,.fz w]=rb (Zy<|bA o) λv=>rb (Zy<|dH v) λo=>rb (Zy<|Internal.setItem o (.str x) d) λo=>.ok (.own o):=Zv
theorem q2r(n:Nat)(x y:d_)(o d w:a_):rn (n+1) DI [.fz<|Zq<|.call x y,.fz o,.fz d,.fz w]=rb (rn n "put_call" [.fz<|Zq<|.call x y,.fz d,.fz w]) Zt:=Zv
theorem q2s(n:Nat)(x:d_)(l:Int)(o d w:a_):rn (n+1) DI [.fz<|Zq<|.sift x l,.fz o,.fz d,.fz w]=rb (rn n "put_sift" [.fz<|Zq<|.sift x l,.fz o,.fz d,.fz w]) Zt:=Zv
theorem q2t(n:Nat)(x y:d_)(fs:List d_)(o d w:a_):rn (n+1) DI [.fz<|Zq<|.join x y fs,.fz o,.fz d,.fz w]=rb (rn n "put_join" [.fz<|Zq<|.join x y fs,.fz o,.fz d,.fz w]) Zt:=Zv
theorem q2u(n:Nat)(v:WW)(o d w:a_):rn (n+1) DI [.fz<|Zq<|.each v,.fz o,.fz d,.fz w]=rb (rn n "put_each" [.fz<|Zq<|.each v,.fz o,.fz d,.fz w]) Zt:=Zv
theorem q2v(n:Nat)(v:WW)(o d w:a_):rn (n+1) DI [.fz<|Zq<|.beside v,.fz o,.fz d,.fz w]=rb (rn n "put_beside" [.fz<|Zq<|.beside v,.fz o,.fz d,.fz w]) Zt:=Zv
theorem q2w(n:Nat)(a b:WW)(o d:a_)(w:List a_):rn (n+1) DI [.fz<|Zq<|.andThen a b,.fz o,.fz d,.fz<|.list w]=rb (aE (rn n DI) [κ<|Zq b,rn n DT [.fz<|Zq a,.fz o],κ d,Zy<|dZ .Add w<|.list [.int 1]]) λv=>rb (aE (rn n DI) [κ<|Zq a,κ o,bS v.cl,Zy<|dZ .Add w<|.list [.int 0]]) Zt:=Zv
end
theorem lK{w:List a_}(x:a_)(h:w.length<1000):dZ .Add w (.list [x])=.ok (.own<|.list<|w++[x]):=by show(if jG .Add=â/\w.length+[x].length<=a8 then P.ok (V.own<|.list<|w++[x]) else .no)=_;rw[if_pos ⟨rfl,by have:a8=16777216:=rfl;rw[cn];exact Md h this⟩]
theorem I0:∀{r:WW} {f:d_->Option TT} {new z:TT},r.AY=â->r.wf->aQ r (.br f) new=à z->∃g,z=.br g/\∀k,k∉r.parts->g k=f k:=by
 intro r;induction r with
 |bnil=>intro f new z _ _ h;obtain rfl:=si h;exact⟨_,rfl,λ_ _=>rfl⟩
 |bcons n p v r DM BU=>intro f new z _ hw h;obtain⟨o,h1,h⟩:=C_ h;obtain⟨x,h2,h⟩:=C_ h;obtain⟨y,h3,h⟩:=C_ h;obtain⟨z1,h4,h⟩:=C_ h;replace h:=si h;subst h;refine aD (BU hw.2.1.2 hw.2.1.1 h4) λg zq hg=>?_;subst h4 h zq;refine⟨_,rfl,λk hk=>?_⟩;rw[upd,if_neg (λe=>hk<|by simp[nG,lE,e]),eM];exact hg k λe=>hk (by simp[nG,lE,e])
 |_=>intro f new z h;exact zk h
def pj(vw old new way names:a_)(c:LP)(j:Option V×Option V×Option V):aA:=jZ (ζ vw) (ζ old) (ζ new) (ζ way) (ζ names) (à<|.own<|Zz c) j.1 j.2.1 j.2.2
theorem I4{r:List d_}{i:d_}(hs:xs.Pairwise DR)(hq:[]++xs=q++x::r)(hi:DR i x)(hm:i∈xs):i∈q:=by
 have hq:=hq;subst hq;rcases List.mem_append.mp hm with h|h
 ·exact h
 ·rcases List.mem_cons.mp h with rfl|h
  ·exact absurd hi<|nR _
  ·exact absurd (Aa hi<|(cu.mp<|(List.pairwise_append.mp hs).2.1).1 i h)<|nR _
inductive WY(m:Nat)(v:WW)(f q:d_->Option TT)(w:List a_)(e:X):Prop where
 |mk (k:d_) (x y:TT) (d:a_) (hl:LQ (λk=>∃x y,f k=à x/\q k=à y/\aQ v x y=á) k) (h1:f k=à x) (h2:q k=à y) (h3:aQ v x y=á) (he:e=BP (.list (aV v x y<|w++[.str k]).way) (.str (aV v x y<|w++[.str k]).kind) d) (hd:Sem m d (aV v x y<|w++[.str k]).part):WY m v f q w e
theorem q2x(n:Nat){v:WW}{f:d_->Option TT}{t:TT}{w:List a_}(hw:w.length<1000)(B:zl m l f)(hd:Sem (m+1) d t)(hn:m+1<=n)
  (ih:∀k o x to tx,f k=à to->Sem m o to->Sem m x tx->cK (m+g) (aQ v to tx) (aV v to tx<|w++[.str k]) (rn (n+2) DI [.fz<|Zq v,.fz o,.fz x,.fz<|.list<|w++[.str k]])) :
  cK (m+g+1) (aQ (.each v) (.br f) t) (aV (.each v) (.br f) t w) (rn (n+3) "put_each" [.fz<|Zq<|.each v,.fz<|Zz l,.fz d,.fz<|.list w]):=by
 ext l g d m n v f t w
 obtain⟨dp,BL,np⟩:=qB n hd hn;have BL:Sem (m+g+1) dp t:=BL.mono<|be<|am _ _;rw[Zg,np];obtain⟨j,rfl,rfl,hi⟩|⟨_,ln,q,e,rfl,rfl,C⟩:=hd.CP
 ·exact⟨dp,rfl,BL⟩
 cases e;rw[pP,cT,aF,Ad<|C.lt Zw,Ad<|B.lt Zw];obtain hc:aC (Zy<|.ok<|.own<|.list<|(aU<|ks ln).map .str) .Eq (Zy<|.ok<|.own<|.list<|(aU<|ks l).map .str)=κ (.bool<|EK (∀k,(q k).isSome=(f k).isSome)):=by
  show aS (Zy<|CU (.list<|(aU<|ks ln).map .str)<|.list<|(aU<|ks l).map .str)=_;rw[t0,qA C.nd B.nd];refine congrArg (λb=>Zt<|V.fz<|.bool b)<|fU<|cJ.trans ⟨λh k=>?_,λh k=>?_⟩
  ·have:=h k;rw[C.mem,B.mem] at this;exact fq.mpr this
  ·rw[C.mem,B.mem,h k]
 rw[hc,nS,np];show cK (m+g+1) (AS ((∀k,(q k).isSome=(f k).isSome)/\∀k x y,f k=à x->q k=à y->(aQ v x y).isSome=â)<|some<|.br λk=>(f k).bind λx=>(q k).bind λy=>aQ v x y) (HL (∀k,(q k).isSome=(f k).isSome) (((f<|eN v f q).bind λx=>(q<|eN v f q).map λy=>aV v x y<|w++[.str<|eN v f q]).getD ⟨w,bZ,.br q⟩) ⟨w,fN,.br q⟩) _
 by_cases AK:∀k,(q k).isSome=(f k).isSome
 case neg=>rw[cA λh=>AK h.1,dG.mpr AK,nI AK];exact⟨dp,rfl,BL⟩
 rw[cJ.mpr AK,cT,aF,nH AK];have:=Ig (m:=m+g) (S:=λ(a:LP) (j:Option V)=>iV (ζ<|Zq<|.each v) (ζ<|Zz l) (ζ<|Zz ln) (ζ<|.list w) (à<|.own<|Zz a) j) (b:=tC<|n+2) (t:=tD) (xs:=aU<|ks ln) (j:=á) (λk=>(f k).bind λx=>(q k).bind λy=>aQ v x y) (P:=λk=>((f k).bind λx=>(q k).bind λy=>aQ v x y).isSome=â) (E:=λe=>WY (m+g) v f q w e) λq0 k r0 U' hP a j ha=>by
  have hk:=nN U';obtain⟨dn,tn,h1,h2,h3⟩:=C.key<|cP.mp hk;have hf:(f k).isSome=â:=by rw[<- AK k,h2];rfl
  cases OL:f k with
  |none=>rw[OL] at hf;exact zk hf
  |some to=>
   obtain⟨TL,h4,h5⟩:=B.get OL;have hp:=ih k TL dn to tn OL h5 h3;refine⟨C.sub k<|cP.mp hk,?_⟩;have hb:∀kn kr,(rb (Zy<|a9 tD (.str k)<|iV (ζ<|Zq<|.each v) (ζ<|Zz l) (ζ<|Zz ln) (ζ<|.list w) (à<|.own<|Zz a) j) λσ=>tC (n+2) σ kn kr)=rb (rn (n+2) DI [.fz<|Zq v,.fz TL,.fz dn,.fz<|.list<|w++[.str k]]) λv'=>rb (Zy<|Internal.setItem (Zz a) (.str k)<|Zp v') λo1=>kn (iV (ζ<|Zq<|.each v) (ζ<|Zz l) (ζ<|Zz ln) (ζ<|.list w) (à<|.own o1)<|ζ<|.str k):=λkn kr=>by rw[Zh,aM,aF,Zi,bE h1,bE h4];show rb (aE (rn (n+2) DI) [κ<|Zq v,κ TL,κ dn,Zy<|dZ .Add w<|.list [.str k]]) _=_;rw[lK _ hw];rfl
   refine zn (aQ v to tn) (λCK=>?_) λz CK=>?_
   ·try rewrite[CK]
    rw[CK] at hp;obtain⟨d2,hp,GA⟩:=hp;exact .inr (.inr ⟨_,⟨k,to,tn,d2,⟨⟨to,tn,OL,h2,CK⟩,λi hi ⟨x,y,e1,e2,e3⟩=>by
     have:=hP i (I4 (pZ C.nd) U' hi<|cP.mpr<|C.mem.mpr<|by rw[e2];rfl);rw[e1,e2] at this;exact zk<|(congrArg qk e3).symm.trans this⟩,OL,h2,CK,rfl,GA⟩,λkn kr=>(hb kn kr).trans (by rw[hp];rfl)⟩)
   ·try rewrite[CK]
    rw[CK] at hp;obtain⟨v',d',e1,e2,e3⟩:=hp;exact .inr (.inl ⟨by rw[h2];exact(congrArg qk CK).trans rfl,d',z,à<|.fz<|.str k,by rw[h2];exact CK,e3,λkn kr=>(hb kn kr).trans (by
     rw[e1,aF,iE e2,cS k d' ha];rfl)⟩)
 obtain⟨a,j,hi,UI,e⟩|⟨_,⟨k,x,y,d2,hl,h1,h2,h3,rfl,GA⟩,e⟩:=this
 ·rw[dL ⟨AK,λk x y hx hy=>by
   have:=UI k (cP.mpr<|C.mem.mpr<|by rw[hy];rfl);rw[hx,hy] at this;exact this⟩]
  refine⟨.own<|Zz a,_,(e _ _).trans (Zj ..),rfl,(hi.ext λk=>?_).toSem⟩
  by_cases hk:k∈aU (ks ln)
  ·rw[if_pos hk]
  ·rw[if_neg hk];obtain this:q k=á:=by
    refine zn (q k) (λe=>?_) λt e=>?_
    ·try rewrite[e]
     rfl
    ·try rewrite[e]
     exact absurd (cP.mpr<|C.mem.mpr<|by rw[e];rfl) hk
   rw[this];cases f k<;>rfl
 ·rw[cA λh=>by have:=h.2 k x y h1 h2;rw[h3] at this;exact zk this];rw[show eN v f q=k from H0 Ab hl,h1,h2];exact⟨d2,e _ _,GA.mono<|ao _⟩
variable {m:Nat}
theorem II{a:Nat}(h:a+m+g<=n):m<=n:=aa (bx m a)<|aa (am _ g) h
theorem KI{a b:Nat}(h:a+b<=900):a<1000:=au (aa (am a b) h) Zw
theorem cK.mono{o:Option TT}{x:Rf}(h:cK m o x r)(hm:m<=m'):cK m' o x r:=by
 cases o with
 |none=>obtain⟨dp,e,h⟩:=h;exact⟨dp,e,h.mono hm⟩
 |some t=>obtain⟨v,d,e1,e2,e3⟩:=h;exact⟨v,d,e1,e2,e3.mono hm⟩
theorem eQ{o:Option α}(h:o.isSome=â):∃x,o=à x:=by
 cases o with
 |none=>exact zk h
 |some x=>exact⟨x,rfl⟩
def I5(M:Nat)(n:Nat)(w:WW)(o:Option TT)(x:Rf)(vw old new way names:a_)(c:LP)(g:d_->Option TT)(j:Option V×Option V×Option V):Prop:=match o with
 |some z=>∃c' j',zl M c' (λk=>if k∈w.parts then z.get k else g k)/\∀kn kr,aX (gW n) gY (bI w) (pj vw old new way names c j) kn kr=kn (pj vw old new way names c' j')
 |none=>∃dp,(∀kn kr,aX (gW n) gY (bI w) (pj vw old new way names c j) kn kr=.exc (BP (.list x.way) (.str x.kind) dp))/\Sem M dp x.part
theorem q2y(n:Nat){r:WW}(hr:r.AY=â)(ho:BV r){f:d_->Option TT}{t:TT}{w:List a_}(B:zl m l f)(hd:Sem (m+1) d t)(hn:m+1<=n)(hM:m<=M)(hl:r.names.length<=6)
  (ih:∀ln q names,d=Zz ln->zl m ln q->(∀k∈r.names,(q k).isSome=â)->t=.br q->I5 M (n+2) r (aQ r (.br f)<|.br q) (aV r (.br f) (.br q) w) (Zq<|.beside r) (Zz l) (Zz ln) (.list w) names l f (á,á,á)) :
  cK (M+1) (aQ (.beside r) (.br f) t) (aV (.beside r) (.br f) t w) (rn (n+3) "put_beside" [.fz<|Zq<|.beside r,.fz<|Zz l,.fz d,.fz<|.list w]):=by
 revert hr ho;ext l M d m n r f t w
 refine fO (zZ hr ho) λzt HP i5 i6=>?_;obtain⟨i1,i2⟩:=zt;obtain⟨i3,i4⟩:=HP;obtain⟨dp,BL,np⟩:=qB n hd hn;have BL:=BL.mono<|be hM;rw[Yz];obtain MK:aN (BD<|Zy<|Zx (Zq<|.beside r)<|.int 1) (λd1=>(.ok â)) (λd1=>(Zy<|Zx d1<|.int 0))=.ok (.own<|.list<|r.names.map .str):=by show rb (rb (Zy<|items<|Zq r) λl=>aZ (λ_=>.ok â) (λd=>Zy<|Zx d<|.int 0) l) (λr=>Zy<|own<|.list r)=_;rw[iF hr];show rb (aZ (λ_=>.ok â) (λd=>Zy<|Zx d<|.int 0)<|bI r) (λr=>Zy<|own<|.list r)=_;rw[i1];rfl
 rw[MK,aF];obtain⟨j,rfl,rfl,hi⟩|⟨_,ln,q,e,rfl,rfl,C⟩:=hd.CP
 ·rw[tV,Iz,nS,np];exact⟨dp,rfl,BL⟩
 cases e;rw[pP,q2l,Ad<|C.lt Zw];obtain hc:aC (Zy<|.ok<|.own<|.list<|(aU<|ks ln).map .str) .Eq (aK bX<|Zy<|zi<|Zr<|.own<|.list<|r.names.map .str)=κ (.bool<|EK (∀k,(q k).isSome=â↔k∈r.names)):=by
  show aS (rb (Zy<|eX<|r.names.map .str) λv=>Zy<|CU (.list<|(aU<|ks ln).map .str)<|Zp v)=_;rw[jA<|uQ hl];show aS (Zy<|CU (.list<|(aU<|ks ln).map .str)<|.list<|(aU r.names).map .str)=_;rw[t0,qA C.nd i3];refine congrArg (λb=>Zt<|V.fz<|.bool b)<|fU<|cJ.trans ⟨λh k=>?_,λh k=>?_⟩
  ·rw[<- C.mem];exact h k
  ·rw[C.mem];exact h k
 rw[hc,nS,np];show cK (M+1) (AS (∀k,(q k).isSome=â↔k∈r.names)<|aQ r (.br f)<|.br q) (HL (∀k,(q k).isSome=â↔k∈r.names) (aV r (.br f) (.br q) w) ⟨w,bZ,.br q⟩) _
 by_cases AK:∀k,(q k).isSome=â↔k∈r.names
 case neg=>rw[cA AK,nI AK];rw[dG.mpr AK];exact⟨dp,rfl,BL⟩
 rw[nH AK];rw[dL AK,cJ.mpr AK,cT,aF,Ae,aM,aF];have hI:=ih ln q (.list<|r.names.map .str) rfl C (λk hk=>(AK k).mpr hk) rfl;show cK (M+1) _ _ (rb (Zy<|items<|Zq r) _);rw[iF hr];refine zn (aQ r (.br f)<|.br q) (λhp=>?_) λz hp=>?_
 ·try rewrite[hp]
  simp only[hp] at hI;exact aD hI λd2 e h2=>⟨d2,e _ _,h2.mono<|ao _⟩
 ·try rewrite[hp]
  simp only[hp] at hI;refine AN λΘ θ=>cL hI λc j h1 h2=>aD (I0 hr ho.wf hp) λz' zq hz=>?_;subst hp hI zq;apply θ;refine⟨.own<|Zz c,_,(h2 _ _).trans (Y7 ..),rfl,(h1.ext λk=>?_).toSem⟩
  by_cases hk:k∈r.parts
  ·rw[if_pos hk];rfl
  ·rw[if_neg hk];exact(hz k hk).symm
def q2z(w:WW):Prop:=∀{m n o d to tn wl},2*w.AG+m+w.grow+8<=n->wl.length+w.AG<=900->Sem m o to->Sem m d tn->(aY w to).isSome=â->cK (m+w.grow) (aQ w to tn) (aV w to tn wl) (rn n DI [.fz<|Zq w,.fz o,.fz d,.fz<|.list wl])
def q20(w:WW):Prop:=∀{m n lo f ln q wl},2*w.AG+m+w.grow+8<=n->wl.length+w.AG+1<=900->zl m lo f->zl m ln q->(aY w<|.br f).isSome=â->(∀k∈w.names,(q k).isSome=â)->∀vw names M,m+w.grow<=M->∀c g j,zl M c g->I5 M n w (aQ w (.br f)<|.br q) (aV w (.br f) (.br q) wl) vw (Zz lo) (Zz ln) (.list wl) names c g j
structure Ϸ(w:WW):Prop where
 a:w.AY=ã->q2z w
 b:w.AY=â->q20 w
theorem q21:∀{w:WW},BV w->Ϸ w:=by
 intro w;induction w with
 |whole=>
  refine λ_=>⟨λ_ m n o d to tn wl hn hw hO hD hs=>?_,λh=>by exact zk h⟩
  exact AM (c:=1) n hn hn λn hn=>⟨_,_,q2p n _ _ _,rfl,hD⟩
 |pick x=>
  refine λho=>⟨λ_ m n o d to tn wl hn hw hO hD hs=>?_,λh=>by exact zk h⟩
  refine AM (c:=1) n hn hn λn hn=>?_;cases to with
  |num=>exact zk hs
  |br f=>
   revert hD hn;refine hO.EJ λm l B hD hn=>?_
   refine⟨.own<|Zz<|st l x d,_,?_,rfl,((B.mono<|ao _).set ho hD).toSem⟩;rw[q2q,Ae];show rb (Zy<|Internal.setItem (Zz l) (.str x) d) _=_;rw[cS x d<|B.lt Zw];rfl
 |call x y=>
  refine λho=>⟨λ_ m n o d to tn wl hn hw hO hD hs=>?_,λh=>by exact zk h⟩
  refine AM (c:=4) n hn hn λn hn=>?_;rw[q2r];exact(q2m n ho.1 hD (II<|fd (k:=4) (c:=4) hn) to wl).rb
 |sift x i=>
  refine λho=>⟨λ_ m n o d to tn wl hn hw hO hD hs=>?_,λh=>by exact zk h⟩
  refine AM (c:=4) n hn hn λn hn=>?_;cases to with
  |num=>exact zk hs
  |br f=>
   refine Zs (eQ hs) λs hs=>zj (j4 hs) λhc _=>?_
   revert hD hn;refine hO.EJ λm l B hD hn=>?_
   rw[q2s];exact(q2n n wl B hc hD<|II<|fd (k:=4) (c:=4) hn).rb
 |join a b fs=>
  refine λho=>⟨λ_ m n o d to tn wl hn hw hO hD hs=>?_,λh=>by exact zk h⟩
  refine AM (c:=4) n hn hn λn hn=>Zs (eQ hs) λs hs=>qL (tN hs) λg h ga ha F _=>?_;cases to with
  |num=>exact ns ga
  |br f=>
   revert hD hn;refine hO.EJ λm l B hD hn=>?_
   obtain⟨d1,q1,q2⟩:=B.get ga;obtain⟨d2,q3,q4⟩:=B.get ha;obtain⟨m,l1,B1⟩:=q2.NO;obtain⟨_,l2,e,zq,B2⟩:=q4.CR;subst q4 zq;cases e;rw[q2t];exact(q2o n ho.1.1 ho.1.2.1 wl B q1 q3 ga ha B1 B2 hD<|II<|fd (k:=4) (c:=4) hn).rb
 |each v ih=>
  refine λho=>⟨λ_ m n o d to tn wl hn hw hO hD hs=>?_,λh=>by exact zk h⟩
  have hn:=hn;have hw:=hw;refine AM (c:=4) n hn hn λn hn=>?_;cases to with
  |num=>exact zk hs
  |br f=>
   refine Zs (eQ hs) λs hs=>zj (j4 hs) λhc _=>?_
   revert hD hn;refine hO.EJ λm l B hD hn=>?_
   rw[q2u];refine cK.rb ?_;exact(q2x n (v:=v) (w:=wl) (KI hw) B hD (II<|fd (k:=4) (c:=4) hn) (g:=v.grow) λk o x to tx hk h1 h2=>(ih ho.1).1 ho.2 (n:=n+2) (A8 hn) (by rw[k_,cn];exact A9 hw) h1 h2<|hc k to hk).mono (bl<|bg _ _ _)
 |andThen a b HD HE=>
  refine λho=>⟨λ_ m n o d to tn wl hn hw hO hD hs=>?_,λh=>by exact zk h⟩
  have hn:=hn;have hw:=hw;refine AM (c:=1) n hn hn λn hn=>Zs (eQ hs) λs hs=>?_;obtain⟨mid,h1,h2⟩:=C_ hs;obtain⟨v1,d1,e1,e2,e3⟩:=(Iv ho.1.1).1 ho.1.2 (n:=n) (Me hn) hO h1;have hb:=(HE ho.2.1).1 ho.2.2 (n:=n) (wl:=wl++[.int 1]) (Ba hn) (by rw[k_,cn];exact Bb hw) e3 hD (by rw[h2];rfl);obtain CK:aQ (.andThen a b) to tn=(aQ b mid tn).bind λmid=>aQ a to mid:=by show((aY a to).bind λm=>_)=_;rw[h1];rfl
  obtain JG:aV (.andThen a b) to tn wl=(aQ b mid tn).elim (aV b mid tn<|wl++[.int 1]) λz=>aV a to z (wl++[.int 0]):=by show(aY a to).elim _ _=_;rw[h1];rfl
  rw[q2w,e1,lK _<|KI hw,lK _<|KI hw,CK,JG];show cK _ _ _ (rb (rn n DI [.fz<|Zq b,v1.cl,.fz d,.fz<|.list<|wl++[.int 1]]) _);rw[e2];cases hp:aQ b mid tn with
  |none=>simp only[hp] at hb;obtain⟨dp,hb,BL⟩:=hb;rw[hb];exact⟨dp,rfl,BL.mono<|by show m+b.grow<=m+(a.grow+b.grow);exact Bd⟩
  |some mt=>simp only[hp] at hb;obtain⟨v2,d2,g1,g2,g3⟩:=hb;rw[g1,aF,g2];exact((HD ho.1.1).1 ho.1.2 (n:=n) (wl:=wl++[.int 0]) (Be hn) (by rw[k_,cn];exact Bg hw) (hO.mono<|am m b.grow) g3<|by rw[h1];rfl).rb.mono (bl<|(fm m b.grow a.grow).trans (congrArg (m+·)<|Nat.add_comm _ _))
 |beside r ih=>
  refine λho=>⟨λ_ m n o d to tn wl hn hw hO hD hs=>?_,λh=>by exact zk h⟩
  have hn:=hn;refine AM (c:=4) n hn hn λn hn=>?_;have hs:=hs;cases to with
  |num i=>
   exfalso;cases r with
   |bcons=>exact zk hs
   |bnil=>have:=ho.2.1;simp[hV,hY] at this
   |_=>cases ho.1.2
  |br f=>
   revert hD hn;refine hO.EJ λm l B hD hn=>?_
   rw[q2v];refine cK.rb ?_;exact(q2y n (r:=r) (w:=wl) ho.1.2 ho.1.1 B hD (II<|fd (k:=4) (c:=4) hn) (M:=m+r.grow) (am _ _) ho.2.2 λln q names _ C hq _=>(ih ho.1.1).2 ho.1.2 (n:=n+2) (A8 hn) (Bh<|hw) B C hs hq _ _ _ (bv _) l f _<|B.mono Mf).mono (bl<|bg _ _ _)
 |bnil=>
  refine λho=>⟨λh=>(by cases h),λ_ m n lo f ln q wl hn hw B C hs hq vw names M hM c g j hc=>?_⟩
  exact⟨c,j,hc.ext λk=>by simp[nG,lE],λ_ _=>rfl⟩
 |bcons x p v r DM BU=>
  refine λho=>⟨λh=>(by cases h),λ_ m n lo f ln q wl hn hw B C hs hq vw names M hM c g j hc=>?_⟩
  have hn:=hn;have hw:=hw;have hM:=hM;refine Zs (eQ hs) λs hs=>?_;obtain⟨t1,h1,hs⟩:=C_ hs;obtain⟨y,h2,hs⟩:=C_ hs;obtain⟨z1,h3,hs⟩:=C_ hs;obtain⟨d1,q1,q2⟩:=B.get h1;refine Zs (eQ<|hq x<|by simp[hV,hY]) λxn h4=>?_;obtain⟨dn,q3,q4⟩:=C.get h4;have hv:=(DM ho.2.1.1).1 ho.2.1.2 (n:=n) (wl:=wl++[.str x]) (Bi hn) (by rw[k_,cn];exact Bj hw) q2 q4 (by rw[h2];rfl);have CK:aQ (.bcons x p v r) (.br f) (.br q)=(aQ v t1 xn).bind λy=>(aQ r (.br f)<|.br q).bind λz=>à (.br<|upd z.get p<|some y):=by show((f p).bind λo=>(q x).bind λx=>_)=_;have h1:f p=à t1:=h1;rw[h1,h4];rfl
  have JG:aV (.bcons x p v r) (.br f) (.br q) wl=(aQ v t1 xn).elim (aV v t1 xn<|wl++[.str x]) λ_=>aV r (.br f) (.br q) wl:=by show(f p).elim _ (λo=>(q x).elim _ _)=_;have h1:f p=à t1:=h1;rw[h1,h4];rfl
  rw[CK,JG];have hb:∀kn kr,aX (gW n) gY (bI<|.bcons x p v r) (pj vw (Zz lo) (Zz ln) (.list wl) names c j) kn kr=rb (rn n DI [.fz<|Zq v,.fz d1,.fz dn,.fz<|.list<|wl++[.str x]]) λv'=>rb (Zy<|Internal.setItem (Zz c) (.str p)<|Zp v') λo=>aX (gW n) gY (bI r) (jZ (ζ vw) (ζ<|Zz lo) (ζ<|Zz ln) (ζ<|.list wl) (ζ names) (à<|.own o) (ζ<|.str x) (ζ<|.str p)<|ζ<|Zq v) kn kr:=λkn kr=>by show rb (Zy<|a9 gY (.tuple [.str x,.str p,Zq v]) _) (λσ=>gW n σ (λσ=>aX (gW n) gY (bI r) σ kn kr) kr)=_;unfold pj;rw[Y5,aM,aF,Y6,bE q1,bE q3];show rb (aE (rn n DI) [κ<|Zq v,κ d1,κ dn,Zy<|dZ .Add wl<|.list [.str x]]) _=_;rw[lK _<|KI (b:=max v.AG r.AG+1) hw];rfl
  cases hp:aQ v t1 xn with
  |none=>simp only[hp] at hv;obtain⟨dp,hv,BL⟩:=hv;exact⟨dp,λkn kr=>(hb kn kr).trans (by rw[hv];rfl),BL.mono<|qN hM⟩
  |some yt=>
   simp only[hp] at hv;obtain⟨v',d',e1,e2,e3⟩:=hv;have hr:=(BU ho.2.2.1.1).2 ho.2.2.1.2 (n:=n) (wl:=wl) (Bk hn) (Bm hw) B C (by rw[h3];rfl) (λk hk=>hq k<|by simp[hV,hY,hk]) vw names M (Bn hM) (st c p d') (upd g p<|some yt) (à<|.fz<|.str x,à<|.fz<|.str p,à<|.fz<|Zq v)<|hc.set ho.1.2<|e3.mono<|qN hM;have BN:∀kn kr,aX (gW n) gY (bI<|.bcons x p v r) (pj vw (Zz lo) (Zz ln) (.list wl) names c j) kn kr=aX (gW n) gY (bI r) (pj vw (Zz lo) (Zz ln) (.list wl) names (st c p d') (à<|.fz<|.str x,à<|.fz<|.str p,à<|.fz<|Zq v)) kn kr:=λkn kr=>(hb kn kr).trans (by
    rw[e1,aF,iE e2,cS p d'<|hc.lt Zw];rfl)
   rw[uk];cases IG:aQ r (.br f) (.br q) with
   |none=>simp only[IG] at hr;exact aD hr λdp hr BL=>⟨dp,λkn kr=>(BN kn kr).trans (hr kn kr),BL⟩
   |some z=>
    simp only[IG] at hr;refine cL hr λc' j' i1 i2=>⟨c',j',i1.ext λk=>?_,λkn kr=>(BN kn kr).trans (i2 kn kr)⟩
    simp only[nG,lE,mo,eM,upd]
    by_cases e:k=p
    ·subst hq hn hw hM h1 hs q1 CK JG hb BN hr i1 i2 e;simp[ho.2.2.2.2]
    ·simp[e]
inductive SY(m:Nat)(o:Option TT)(x:Rf)(r:R V):Prop where
 |tree (t:TT) (d:a_) (h:o=à t) (e:r=.ok (.dp d)) (g:Sem m d t):SY m o x r
 |ref (d:a_) (h:o=á) (e:r=.exc (BP (.list x.way) (.str x.kind) d)) (g:Sem m d x.part):SY m o x r
theorem q22{w:WW}(ho:BV w)(hr:w.AY=ã){to tn:TT}(hn:3*w.AG+m+w.grow+10<=n)(hh:w.AG<=900)(hO:Sem m o to)(hD:Sem m d tn){s:TT}(hs:aY w to=à s):SY (m+w.grow) (aQ w to tn) (aV w to tn [])<|rn n "put" [.fz<|Zq w,.fz o,.fz d]:=by
 refine AM (c:=3) n hn hn λn hn=>?_;obtain⟨v,d1,e1,e2,e3⟩:=(Iv ho).1 hr (n:=n+2) (Mg hn) hO hs;have hp:=(q21 ho).1 hr (n:=n+2) (wl:=[]) (Mh hn) (by simpa using hh) hO hD (by rw[hs];rfl);rw[Zk,q2i _ _<|(q1x ho).1 hr (n+1)<|Mi hn,Iw _ _<|Ie hO<|Bp hn,Iw _ _<|Ie hD<|Bp hn,e1,aF,aF,aF,aF];refine zn (aQ w to tn) (λCK=>?_) λz CK=>?_
 ·try rewrite[CK]
  rw[CK] at hp;obtain⟨dp,hp,BL⟩:=hp;rw[hp];exact .ref dp rfl rfl BL
 ·try rewrite[CK]
  rw[CK] at hp;obtain⟨v',d',g1,g2,g3⟩:=hp;rw[q1g g1 g2];exact .tree z d' rfl (by rw[Ii g3<|Mj hn];rfl) g3
variable {m:Nat}
theorem q23(a:a_)(hv:v.cl=.fz d):aO [κ a,.ok v]=κ (.tuple [a,d]):=by show(if [V.fz a,v.cl].length<=a8 then Zt (V.fz<|.tuple<|cW [V.fz a,v.cl]) else .no)=_;rw[hv];rfl
theorem kA(a:a_)(hr:r=.ok v)(hv:v.cl=.fz d):aO [κ a,r]=κ (.tuple [a,d]):=by rw[hr,q23 a hv]
theorem t9{t:TT}(h:Sem m d t)(hn:m<=n):rn (n+1) DJ [.fz d]=.ok (.dp d):=by rw[Hi,Ih<|iY h<|jk hn]
theorem kB{t:TT}(h:Sem m d t)(hn:m<=n):Gives (rn (n+1) DJ [.fz d]) λd'=>Sem m d' t:=⟨_,d,t9 h hn,rfl,h⟩
theorem q24(n:Nat):rn (n+1) DJ [.fz .none]=κ .none:=(Hi n _).trans rfl
theorem list_dict(l:LP):dO (Zz l)=.ok (.own<|.list<|(ks l).map .str):=by show own (.list<|(AH l).map (·.1))=_;rw[tO];rfl
theorem uA:∀{m n:Nat} {d1 d2:a_} {t:TT},Sem m d1 t->Sem m d2 t->m<=n->rn (n+1) FE [.fz d1,.fz d2]=κ (.bool â):=by
 intro m;induction m with
 |zero=>
  intro n d1 d2 t h1 h2 hn;cases t with
  |num i=>refine zj h1.num_inv λzq _=>?_;subst h1 zq;refine zj h2.num_inv λzq _=>?_;subst h2 zq;rw[yR];show Zt (V.fz<|.bool<|i==i)=_;simp
  |br f=>obtain⟨_,_,e,_⟩:=h1.CR;cases e
 |succ m ih=>
  intro n d1 d2 t h1 h2 hn;cases t with
  |num i=>refine zj h1.num_inv λzq _=>?_;subst h1 zq;refine zj h2.num_inv λzq _=>?_;subst h2 zq;rw[yR];show Zt (V.fz<|.bool<|i==i)=_;simp
  |br f=>
   obtain⟨_,l1,e,zq,B1⟩:=h1.CR;subst h1 zq;cases e;obtain⟨_,l2,e,zq,B2⟩:=h2.CR;subst h2 zq;cases e;refine AM (c:=1) n hn hn λn hn=>?_;obtain e0:aC (aK bX<|Zy<|dO<|Zz l1) .NotEq (aK bX<|Zy<|dO<|Zz l2)=κ (.bool ã):=by rw[list_dict,list_dict];show rb (Zy<|eX<|(ks l1).map .str) (λa=>aS<|rb (Zy<|eX<|(ks l2).map .str) λv=>Zy<|BX .NotEq (Zp a)<|Zp v)=_;rw[jA (by rw[cO];exact B1.lt Zw),jA<|by rw[cO];exact B2.lt Zw];show aS (Zy<|b6<|CU (.list<|(aU<|ks l1).map .str)<|.list<|(aU<|ks l2).map .str)=_;rw[t0,qA B1.nd B2.nd,cJ.mpr λx=>by rw[B1.mem,B2.mem]];rfl
   obtain e1:=nJ (xs:=ks l2) (g:=λ_=>â) (e:=λd1=>aE (rn (n+1) FE) [Zy<|Zx (Zz l1) d1,Zy<|Zx (Zz l2) d1]) λk hk=>by obtain⟨dk,u,q1,q2,q3⟩:=B2.key hk;obtain⟨dk',q4,q5⟩:=B1.get q2;rw[bE q1,bE q4];exact ih q5 q3<|bp hn
   rw[yR,e0,bW,aM,e1];show Zt (V.fz<|.bool<|(ks l2).all λ_=>â)=_;simp
theorem qC(n:Nat){t:TT}(h:Sem m d t):rn (n+1) EB [.fz d]=κ (.bool<|DN t):=by
 rw[Hj];obtain⟨i,rfl,rfl,_⟩|⟨m,l,f,_,rfl,rfl,B⟩:=h.CP
 ·rfl
 ·rw[bW,aM,z8 (g:=λx=>match lk l x with | some d=>!b7 d | none=>ã) λx hx=>by
   obtain⟨d,t,h1,h2,h3⟩:=B.key hx;rw[bE h1,h1];rfl]
  refine congrArg (λb=>Zt<|V.fz<|.bool b)<|fU ?_;rw[iZ];constructor
  ·intro h k t hk;obtain⟨d,h1,h2⟩:=B.get hk;have:=h k<|lJ h1;rw[h1] at this;obtain⟨i,rfl,rfl,_⟩|⟨_,l',f',_,rfl,rfl,_⟩:=h2.CP
   ·exact FZ this
   ·exact⟨_,rfl⟩
  ·intro h x hx;obtain⟨d,t,h1,h2,h3⟩:=B.key hx;refine Zs (h x t h2) λg zq=>?_;subst h2 zq;obtain⟨_,l',_,zq,_⟩:=h3.CR;subst h3 zq;rw[h1];rfl
theorem q25(n:Nat):rn (n+1) EB [.fz .none]=κ (.bool ã):=(Hj n _).trans rfl
theorem q26(l:LP)(x:d_):gO (Zz l) [.str x]=.ok (.fz<|(lk l x).getD .none):=by show fz ((bV (AH l) x).getD .none)=_;rw[lI];rfl
theorem qD(l:LP)(x:d_):eU (so "get") (κ<|Zz l) [κ<|.str x]=κ ((lk l x).getD .none):=by show Zy (gO (Zz l) [.str x])=_;rw[q26];rfl
theorem Af(n:Nat){f:d_->Option TT}(B:zl m l f)(a:d_)(i:Int):rn (n+1) GV [.fz<|Zz l,.fz<|.str a,.fz<|.int i]=κ (.bool<|sb a i<|.br f):=by
 revert B;ext l m n f a i
 rw[Z4,qD,tU];refine zn (lk l a) (λe=>?_) λd e=>?_
 ·try rewrite[e]
  obtain this:sb a i (.br f)=ã:=iG.mpr λ⟨j,h,_⟩=>by have h:f a=à (.num j):=h;rw[B.JO.mpr e] at h;cases h
  rw[this];rfl
 ·try rewrite[e]
  obtain⟨t,h1,h2⟩:=B.get' e;obtain⟨j,rfl,rfl,_⟩|⟨_,l',f',_,rfl,rfl,_⟩:=h2.CP
  ·show Zt (V.fz<|.bool<|decide (i<=j))=_;rw[show decide (i<=j)=sb a i (.br f) from fU (decide_eq_true_iff.trans ⟨λh=>⟨j,h1,h⟩,λ⟨k,h,h'⟩=>by
    have h:f a=à (.num k):=h;rw[h1] at h;cases h;exact h'⟩)]
  ·obtain this:sb a i (.br f)=ã:=iG.mpr λ⟨j,h,_⟩=>by
    have h:f a=à (.num j):=h;rw[h1] at h;cases h
   rw[this];rfl
theorem I6(xs:List a_):CU (.list xs) (.list [])=.ok xs.isEmpty:=by
 cases xs with
 |nil=>rfl
 |cons x r=>rfl
theorem I7{g:a_->Bool}:∀{xs:List a_},(∀x∈xs,t x=.ok (g x))->aZ t (λd=>κ d) xs=.ok (xs.filter g):=by
 intro v0;induction v0 with
 |nil=>intro _;exact rfl
 |cons x r ih=>
  intro h;show rb (nx<|t x) (λb=>if b then rb (nx<|κ x) λv=>rb (aZ t (λd=>κ d) r) λxs=>.ok (Zp v::xs) else aZ t (λd=>κ d) r)=_;rw[h x (by simp),fF,aF,ih λd hd=>h d<|af _ hd];cases hg:g x
  ·rw[eO,xb<|by simp[hg]]
  ·rw[cT,w_ hg];rfl
theorem I8{xs:List a_}{g:a_->Bool}(h:∀x∈xs,t x=.ok (g x)):aC (aN (.ok xs) t λd=>κ d) .NotEq (.ok<|.own<|.list [])=κ (.bool (!(xs.filter g).isEmpty)):=by show rb (rb (aZ t (λd=>κ d) xs) λr=>Zy<|own<|.list r) _=_;rw[I7 h];show aS (Zy<|b6<|CU (.list<|xs.filter g)<|.list [])=_;rw[I6];rfl
def WF:a_->a_
 | .tuple [_,d]=>d
 |d=>d
theorem I9(n:Nat)(ps:LP):rn (n+1) HZ [.fz<|.list<|ps.map aT]=if ((ps.map aT).filter λd=>fV<|WF d).isEmpty=â then rb (Zy<|bA<|.list<|ps.map aT) Zt else κ .none:=by
 rw[q0i];show zp (aC (aN (.ok<|ps.map aT) (λd1=>zu<|aC (Zy<|Zx d1<|.int 1) .Is<|κ .none) λd1=>κ d1) .NotEq<|.ok<|.own<|.list []) _ _=_;rw[I8 (g:=λd=>fV<|WF d) λd hd=>by
  refine aD (ba.mp hd) λp _ zq=>?_;subst hd zq;rfl]
 cases ((ps.map aT).filter λd=>fV<|WF d).isEmpty<;>rfl
theorem Ja(n:Nat){p:d_×a_}(hp:p∈ps)(h:p.2=.none):rn (n+1) HZ [.fz<|.list<|ps.map aT]=κ .none:=by rw[I9,if_neg];intro he;rw[ph,jq] at he;exact he (aT p) (gq hp) (by show fV p.2=â;rw[h];rfl)
theorem Jb(n:Nat)(h:∀p∈ps,fV p.2=ã)(hl:ps.length<4096):rn (n+1) HZ [.fz<|.list<|ps.map aT]=.ok (.own<|Zz<|BI ps []):=by
 rw[I9,if_pos,iX hl]
 ·rfl
 ·rw[ph,jq];intro d hd;refine aD (ba.mp hd) λp hp zq=>?_;subst hd zq;show ¬fV p.2=â;rw[h p hp];exact ja
theorem Sem.RW{t:TT}(h:Sem m d t):fV d=ã:=by obtain⟨i,rfl,rfl,_⟩|⟨m,l,f,_,rfl,rfl,B⟩:=h.CP<;>rfl
variable {m:Nat}
def cU(m:Nat)(o:Option TT)(r:R V):Prop:=match o with
 |some s=>Gives r λd=>Sem m d s
 |none=>r=κ .none
theorem cU.rb{o:Option TT}(h:cU m o r):cU m o<|rb r Zt:=by
 cases o with
 |none=>have h:r=κ .none:=h;rw[h];rfl
 |some t=>exact Gives.rb (P:=λd=>Sem m d t) h
theorem Ag(l:LP):f0 (Zz l)=.ok (.own<|.list<|l.map aT):=by show own (.list<|(AH l).map λp=>.tuple [p.1,p.2])=_;rw[AH,qu];rfl
theorem Ah:∀(a b c:LP),BI (a++b) c=BI b (BI a c):=by
 intro v0;induction v0 with
 |nil=>intro _ _;exact rfl
 |cons p r ih=>intro b c;exact ih b<|st c p.1 p.2
def js(vw tr one other:a_)(j:Option V)(fo:Option V):aA:=dK (ζ vw) (ζ tr) (ζ one) (ζ other) j fo
theorem q27(n:Nat){f:d_->Option TT}(B:zl m l f)(hn:m<=n):cU (m+1) (aY (.join a b fs)<|.br f)<|rn (n+2) "_law_joins" [.fz<|Zq<|.join a b fs,.fz<|Zz l]:=by
 ext l fs b a m n f
 rw[Z8];show cU (m+1) _ (rb (eU (so "get") (κ<|Zz l) [κ<|.str a]) λv1=>rb (eU (so "get") (κ<|Zz l) [κ<|.str b]) λv2=>_);rw[qD,qD,aF,aF];have ht:∀x,(∃g,f x=à (.br g)/\cF g/\∃l' m',m=m'+1/\lk l x=à (Zz l')/\zl m' l' g/\rn (n+1) EB [.fz<|(lk l x).getD .none]=κ (.bool â))\/((∀g,f x=à (.br g)->¬cF g)/\rn (n+1) EB [.fz<|(lk l x).getD .none]=κ (.bool ã)):=λx=>by
  refine zn (lk l x) (λe=>?_) λd e=>?_
  ·try rewrite[e]
   exact .inr ⟨λg hg=>(by simp only[B.JO.mpr e] at hg;cases hg),q25 n⟩
  ·try rewrite[e]
   obtain⟨t,h1,h2⟩:=B.get' e;show(∃g,_/\_/\∃l' m',m=m'+1/\à d=à (Zz l')/\_/\rn (n+1) EB [.fz d]=_)\/(_/\rn (n+1) EB [.fz d]=_);rw[qC n h2];obtain⟨i,_⟩|⟨m',l',g,B'⟩:=h2.inv
   ·exact .inr ⟨λg hg=>(by simp only[h1] at hg;cases hg),rfl⟩
   ·by_cases hg:cF g
    ·exact .inl ⟨g,h1,hg,l',m',rfl,rfl,B',by rw[show DN (.br g)=â from cJ.mpr hg]⟩
    ·exact .inr ⟨λg' ZN=>(by simp only[h1] at ZN;cases ZN;exact hg),by rw[show DN (.br g)=ã from dG.mpr hg]⟩
 rw[cY,cY,cY,dS,dS];show cU (m+1) _ (zp (BH (zy .Not<|rn (n+1) EB [.fz<|(lk l a).getD .none])<|zy .Not<|rn (n+1) EB [.fz<|(lk l b).getD .none]) _ _);obtain⟨g,fa,ga,l1,m',rfl,e1,B1,q1⟩|⟨ha,q1⟩:=ht a
 case inr=>rw[q1,j9 λg h h1 h2 F=>ha g h1 F.ga];rfl
 obtain⟨h,fb,hb,l2,_,e,e2,B2,q2⟩|⟨hb,q2⟩:=ht b
 case inr=>rw[q1,q2,j9 λg h h1 h2 F=>hb h h2 F.ha];rfl
 cases e;rw[q1,q2,e1,e2];show cU (m'+1+1) _ (rb (Zy<|items<|Zz l1) λl3=>aX (tG<|n+1) tH l3 (js (Zq<|.join a b fs) (Zz l) (Zz l1) (Zz l2) á á) (λσ=>yS (n+1) σ (λ_=>κ .none) Zt) Zt);rw[bW,aM,aF];refine Zs (tW (S:=λ(j:Option V)=>js (Zq<|.join a b fs) (Zz l) (Zz l1) (Zz l2) j á) (b:=tG<|n+1) (t:=tH) (c:=j8 g (·∈fs)) (v:=.fz .none) (xs:=ks l1) (λx hx j=>⟨à<|.fz<|.str x,λkn kr=>by
  obtain⟨d,t,h1,h2,h3⟩:=B1.key hx;refine Zs (ga x t h2) λr1 zq=>?_;subst zq;obtain⟨_,lr,_,zq,Br⟩:=h3.CR;subst h3 zq;unfold js;rw[Z9,aM,aF,q0a];exact tY (Io a b fs) (Iq fs) Br h1 h2 _ _⟩) á) λj L1=>?_
 rw[L1,tX B1]
 by_cases c1:pY g (·∈fs)
 case neg=>rw[dG.mpr c1,j9 λg' h' h1 h2 F=>by rw[fa] at h1;cases h1;exact c1 F.gf];rfl
 rw[cJ.mpr c1,cT];unfold js;rw[q0b];show cU (m'+1+1) _ (rb (Zy<|items<|Zz l2) λl3=>aX (tI<|n+1) tJ l3 (js (Zq<|.join a b fs) (Zz l) (Zz l1) (Zz l2) j á) (λσ=>yT (n+1) σ (λ_=>κ .none) Zt) Zt);rw[bW,aM,aF];refine Zs (tW (S:=λ(j:Option V)=>js (Zq<|.join a b fs) (Zz l) (Zz l1) (Zz l2) j á) (b:=tI<|n+1) (t:=tJ) (c:=j8 h (·∉fs)) (v:=.fz .none) (xs:=ks l2) (λx hx j=>⟨à<|.fz<|.str x,λkn kr=>by
  obtain⟨d,t,h1,h2,h3⟩:=B2.key hx;refine Zs (hb x t h2) λr1 zq=>?_;subst zq;obtain⟨_,lr,_,zq,Br⟩:=h3.CR;subst h3 zq;unfold js;rw[q0c,aM,aF,q0d];exact tY (Ip a b fs) (Ir fs) Br h1 h2 _ _⟩) j) λj2 L2=>?_
 rw[L2,tX B2]
 by_cases c2:pY h (·∉fs)
 case neg=>rw[dG.mpr c2,j9 λg' h' h1 h2 F=>by rw[fb] at h2;cases h2;exact c2 F.hf];rfl
 rw[cJ.mpr c2,cT];unfold js;rw[q0e];show cU (m'+1+1) _ (rb (Zy<|items<|Zz l1) λl3=>aX (pI<|n+1) pJ l3 (js (Zq<|.join a b fs) (Zz l) (Zz l1) (Zz l2) j2<|some<|.own<|.dict []) (λσ=>yU (n+1) σ (λ_=>κ .none) Zt) Zt);rw[bW,aM,aF];rw[((Hz (t:=.br f) fa fb).trans (dL ⟨ga,hb,c1,c2⟩ _))];obtain L:=pV (m:=m') (S:=λ(c:LP) (j:Option V)=>js (Zq<|.join a b fs) (Zz l) (Zz l1) (Zz l2) j<|some<|.own<|Zz c) (b:=pI<|n+1) (t:=pJ) (xs:=ks l1) (j:=j2) (nE g h) (E:=λ_=>False) λk hk c j ha=>by
  obtain⟨d,t,h1,h2,h3⟩:=B1.key hk;refine Zs (ga k t h2) λr1 zq=>?_;subst zq;obtain⟨m',lr,Br⟩:=h3.NO;refine⟨B1.sub k hk,?_⟩;have BN:∀kn kr,(rb (Zy<|a9 pJ (.str k)<|js (Zq<|.join a b fs) (Zz l) (Zz l1) (Zz l2) j<|some<|.own<|Zz c) λσ=>pI (n+1) σ kn kr)=zp (κ<|.bool (lk l2 k).isSome) (bK (aK bA<|aB .Add (.ok<|.own<|.list<|lr.map aT)<|aK f0<|Zy<|Zx (Zz l2)<|.str k) (.ok<|Zz c) (κ<|.str k) λo3=>kn<|js (Zq<|.join a b fs) (Zz l) (Zz l1) (Zz l2) (ζ<|.str k)<|some<|.own o3) (kn<|js (Zq<|.join a b fs) (Zz l) (Zz l1) (Zz l2) (ζ<|.str k)<|some<|.own<|Zz c):=λkn kr=>by unfold js;rw[q0f,aM,aF,q0g];show zp (aS<|Zy<|Internal.contains (.str k)<|Zz l2) (bK (aK bA<|aB .Add (aK f0<|Zy<|Zx (Zz l1)<|.str k)<|aK f0<|Zy<|Zx (Zz l2)<|.str k) _ _ _) _=_;rw[eE,bE h1,show aK f0 (Zy<|.ok<|.fz<|Zz lr)=.ok (.own<|.list<|lr.map aT) from congrArg Zy<|Ag lr];rfl
  refine zn (lk l2 k) (λBO=>?_) λd2 BO=>?_
  ·refine .inl ⟨?_,à<|.fz<|.str k,λkn kr=>(BN kn kr).trans (by rw[BO];rfl)⟩;show(g k).bind (λr=>(h k).bind _)=á;rw[h2,B2.JO.mpr BO];rfl
  ·refine AN λ_ θ=>?_;obtain⟨t2,q1,q2⟩:=B2.get' BO;refine Zs (hb k t2 q1) λr2 zq=>?_;subst zq;obtain⟨_,lr2,e,zq,M_⟩:=q2.CR;subst q2 zq;apply θ;cases e;have MK:=Br.len;have ZV:=M_.len;have hN:=HW.len;refine .inr<|.inl ⟨Zz<|BI (lr++lr2) [],y7 (.br r1)<|.br r2,à<|.fz<|.str k,?_,?_,λkn kr=>(BN kn kr).trans ?_⟩
   ·show(g k).bind (λr=>(h k).bind _)=_;rw[h2,q1];rfl
   ·rw[Ah];exact(((zl.nil.upd Br).upd M_).ext λx=>by simp[eM]).toSem
   ·rw[BO,bE BO,show aK f0 (Zy<|.ok<|.fz<|Zz lr2)=.ok (.own<|.list<|lr2.map aT) from congrArg Zy<|Ag lr2];show rb (rb (Zy<|dZ .Add (lr.map aT)<|.list<|lr2.map aT) λv=>Zy<|bA<|Zp v) _=_;rw[show dZ .Add (lr.map aT) (.list<|lr2.map aT)=.ok (.own<|.list<|(lr++lr2).map aT) from by
     show(if jG .Add=â/\(lr.map aT).length+(lr2.map aT).length<=a8 then P.ok (V.own<|.list<|lr.map aT++lr2.map aT) else .no)=_;rw[if_pos ⟨rfl,by have:a8=16777216:=rfl;simp only[j_];exact Ml MK ZV hN this⟩,ej]]
    show rb (Zy<|bA<|.list<|(lr++lr2).map aT) _=_;rw[iX<|by rw[k_];exact Mc MK ZV hN];show rb (Zy<|Internal.setItem (Zz c) (.str k) _) _=_;rw[cS k _ ha];rfl
 obtain⟨c,j,hi,e⟩|⟨_,hx,_⟩:=L
 ·rw[show js (Zq<|.join a b fs) (Zz l) (Zz l1) (Zz l2) j2 (à<|.own<|.dict [])=js (Zq<|.join a b fs) (Zz l) (Zz l1) (Zz l2) j2 (à<|.own<|Zz []) from rfl,e];unfold js;rw[q0h];obtain⟨v,d,g1,g2,g3⟩:=(kB ((B1.all (λk h=>by show(g k).bind _=á;rw[h];rfl) hi).toSem) (n:=n) hn).rb;exact⟨v,d,g1,g2,g3.mono<|ao _⟩
 ·exact hx.elim
variable {m:Nat}
section
theorem q28(n:Nat)(d:a_):rn (n+1) BJ [.fz<|Zq .whole,.fz d]=rb (rn n DJ [.fz d]) Zt:=Zv
theorem q29(n:Nat)(a b:WW)(d:a_):rn (n+1) BJ [.fz<|Zq<|.andThen a b,.fz d]=rb (rn n BJ [.fz<|Zq a,.fz d]) λv=>rb (fC (aC (Zy<|zi v.cl) .Is<|κ .none) (κ .none)<|aE (rn n BJ) [κ<|Zq b,bS v.cl]) Zt:=Zv
theorem q3a(n:Nat)(x:d_)(i:Int):rn (n+1) BJ [.fz<|Zq<|.pick x,.fz<|.int i]=κ .none:=Zv
theorem q3b(n:Nat)(x y:d_)(i:Int):rn (n+1) BJ [.fz<|Zq<|.call x y,.fz<|.int i]=κ .none:=Zv
theorem q3c(n:Nat)(x:d_)(y i:Int):rn (n+1) BJ [.fz<|Zq<|.sift x y,.fz<|.int i]=κ .none:=Zv
theorem q3d(n:Nat)(x y:d_)(fs:List d_)(i:Int):rn (n+1) BJ [.fz<|Zq<|.join x y fs,.fz<|.int i]=κ .none:=Zv
theorem q3e(n:Nat)(v:WW)(i:Int):rn (n+1) BJ [.fz<|Zq<|.each v,.fz<|.int i]=κ .none:=Zv
theorem q3f(n:Nat)(v:WW)(i:Int):rn (n+1) BJ [.fz<|Zq<|.beside v,.fz<|.int i]=κ .none:=Zv
theorem q3g(n:Nat)(x:d_)(l:List<|PyData×a_):rn (n+1) BJ [.fz<|Zq<|.pick x,.fz<|.dict l]=rb (aE (rn n DJ) [eU (so "get") (κ<|.dict l) [κ<|.str x]]) Zt:=Zv
theorem q3h(n:Nat)(x y:d_)(l:List<|PyData×a_):rn (n+1) BJ [.fz<|Zq<|.call x y,.fz<|.dict l]=zp (BH (aS<|Zy<|b6<|Internal.contains (.str x)<|.dict l)<|aS<|Zy<|Internal.contains (.str y)<|.dict l) (κ .none) (rb (aN (Zy<|items<|.dict l) (λd3=>zu<|aS<|Zy<|BX .NotEq d3<|.str x) λd3=>aO [κ d3,aE (rn n DJ) [Zy<|Zx (.dict l) d3]]) λv4=>rb (aK bA<|aB .Add (Zy<|zi v4.cl)<|cH [aO [κ<|.str y,aE (rn n DJ) [Zy<|Zx (.dict l)<|.str x]]]) Zt):=Zv
theorem q3i(n:Nat)(r:WW)(l:List<|PyData×a_):rn (n+1) BJ [.fz<|Zq<|.beside r,.fz<|.dict l]=zp (aC (aN (Zy<|items<|Zq r) (λd5=>zu<|aC (Zy<|Zx d5<|.int 1) .NotIn<|κ<|.dict l) λd5=>κ d5) .NotEq<|.ok<|.own<|.list []) (κ .none) (rb (aE (rn n HZ) [aN (Zy<|items<|Zq r) (λd7=>.ok â) λd7=>aO [Zy<|Zx d7<|.int 0,aE (rn n BJ) [Zy<|Zx d7<|.int 2,aI (.ok<|.dict l)<|Zy<|Zx d7<|.int 1]]]) Zt):=Zv
theorem q3j(n:Nat)(v:WW)(l:List<|PyData×a_):rn (n+1) BJ [.fz<|Zq<|.each v,.fz<|.dict l]=rb (aE (rn n HZ) [aN (Zy<|items<|.dict l) (λd9=>.ok â) λd9=>aO [κ d9,aE (rn n BJ) [κ<|Zq v,Zy<|Zx (.dict l) d9]]]) Zt:=Zv
theorem q3k(n:Nat)(x y:d_)(fs:List d_)(l:List<|PyData×a_):rn (n+1) BJ [.fz<|Zq<|.join x y fs,.fz<|.dict l]=rb (rn n "_law_joins" [.fz<|Zq<|.join x y fs,.fz<|.dict l]) Zt:=Zv
theorem q3l(n:Nat)(x:d_)(i:Int)(l:List<|PyData×a_):rn (n+1) BJ [.fz<|Zq<|.sift x i,.fz<|.dict l]=zp (zy .Not<|rn n EB [.fz<|.dict l]) (κ .none) (rb (aK bA<|aN (Zy<|items<|.dict l) (λIV=>zu<|aE (rn n GV) [Zy<|Zx (.dict l) IV,κ<|.str x,κ<|.int i]) λIV=>aO [κ IV,aE (rn n DJ) [Zy<|Zx (.dict l) IV]]) Zt):=Zv
end
theorem q3m:∀{r:WW} {f:d_->Option TT} {z:TT},r.AY=â->r.wf->aY r (.br f)=à z->∀p∈r.parts,(f p).isSome=â:=by
 intro r;induction r with
 |bnil=>intro f z _ _ _ p hp;exact cB hp
 |bcons n p v r DM BU=>
  intro f z _ hw h q hq;obtain⟨x,h1,h⟩:=C_ h;obtain⟨y,h2,h⟩:=C_ h;obtain⟨z1,h3,h⟩:=C_ h;rcases List.mem_cons.mp (hq:q∈p::r.parts) with rfl|hq
  ·have h1:f q=à x:=h1;rw[h1];rfl
  ·exact BU hw.2.1.2 hw.2.1.1 h3 q hq
 |_=>intro f z h;exact zk h
def Ai:a_->d_
 | .tuple [_,.str p,_]=>p
 |_=>⟨#[]⟩
theorem q3n:∀{r:WW},r.AY=â->BV r->(∀d∈bI r,zu (aC (Zy<|Zx d<|.int 1) .NotIn<|κ<|Zz l)=.ok (!(lk l<|Ai d).isSome))/\(((bI r).filter λd=>!(lk l<|Ai d).isSome).isEmpty=â↔∀p∈r.parts,(lk l p).isSome=â):=by
 intro r;induction r with
 |bnil=>intro _ _;exact⟨λd hd=>(cB hd),⟨λ_ _ h=>cB h,λ_=>rfl⟩⟩
 |bcons n p v r DM BU=>
  intro _ ho;refine zj (BU ho.2.2.1.2 ho.2.2.1.1) λi1 i2=>⟨λd hd=>?_,?_⟩
  ·rcases List.mem_cons.mp (hd:d∈.tuple [.str n,.str p,Zq v]::bI r) with rfl|hd
   ·show zu (aS<|Zy<|b6<|Internal.contains (.str p)<|Zz l)=_;rw[eE];rfl
   ·exact i1 d hd
  ·rw[ph] at i2 ⊢;show List.filter _ (.tuple [.str n,.str p,Zq v]::bI r)=[]↔∀q∈p::r.parts,_;rw[io,<- i2,zd];show(if (!(lk l p).isSome)=â then _ else _)=[]↔_;cases (lk l p).isSome<;>simp
 |_=>intro h;exact zk h
def Aj(n:Nat)(l:LP):a_->R V:=λd7=>aO [Zy<|Zx d7<|.int 0,aE (rn n BJ) [Zy<|Zx d7<|.int 2,aI (.ok<|Zz l)<|Zy<|Zx d7<|.int 1]]
inductive XU(m:Nat)(r:R<|List a_)(nm:List d_)(o:Option TT):Prop where
 |mk (ps:LP) (e1:r=.ok (ps.map aT)) (e2:ks ps=nm) (e3:(∃z,o=à z/\∀p∈ps,p.1∈NN/\∃u,z.get p.1=à u/\Sem m p.2 u)\/o=á/\∃p∈ps,p.2=.none):XU m r nm o
def q3o(w:WW):Prop:=∀{m n d t},w.AG+m+3<=n->Sem m d t->cU m (aY w t) (rn n BJ [.fz<|Zq w,.fz d])
def q3p(w:WW):Prop:=∀{m n l f},w.AG+m+3<=n->zl m l f->(∀p∈w.parts,(f p).isSome=â)->XU m (aZ (λ_=>.ok â) (Aj n l)<|bI w) w.names (aY w<|.br f)
structure ϸ(w:WW):Prop where
 a:w.AY=ã->q3o w
 b:w.AY=â->q3p w
theorem Jc:∀{w:WW},BV w->ϸ w:=by
 intro w;induction w with
 |whole=>
  refine λ_=>⟨λ_ m n d t hn hd=>?_,λh=>by exact zk h⟩
  refine AM (c:=2) n hn hn λn hn=>?_;rw[q28];exact(kB hd<|Mm hn).rb
 |pick x=>
  refine λ_=>⟨λ_ m n d t hn hd=>?_,λh=>by exact zk h⟩
  refine AM (c:=2) n hn hn λn hn=>?_
  revert hn;refine hd.by (λm i _ hn=>?_) λm l f B hn=>?_
  ·exact q3a _ _ _
  ·rw[q3g,qD];refine cU.rb ?_;show cU (m+1) (f x) (rn (n+1) DJ [.fz<|(lk l x).getD .none]);refine zn (f x) (λe=>?_) λu e=>?_
   ·try rewrite[e]
    rw[B.JO.mp e];exact q24 n
   ·try rewrite[e]
    obtain⟨d,h1,h2⟩:=B.get e;rw[h1];obtain⟨v,d',g1,g2,g3⟩:=kB h2 (n:=n)<|qO hn;exact⟨v,d',g1,g2,g3.mono<|ao _⟩
 |call x y=>
  refine λho=>⟨λhz m n d t hN hd=>?_,λh=>by exact zk h⟩
  revert ho hz hN hd;ext x y m n d t
  refine AM (c:=2) n hN hN λn hn=>?_
  revert hn;refine hd.by (λm i _ hn=>?_) λm l f B hn=>?_
  ·rw[show aY (.call x y) (.num i:TT)=á from cA (λh=>by cases h.1) _];exact q3b _ _ _ _
  ·ext n m l f
   rw[q3h,eE,eE,B.dom,B.dom];show cU (m+1) (AS ((f x).isSome=â/\f y=á)<|some<|.br<|fM x y f) _
   by_cases hc:(f x).isSome=â/\f y=á
   case neg=>
    rw[cA hc];cases e1:f x with
    |none=>rfl
    |some u=>
     refine zn (f y) (λe2=>?_) λv e2=>?_
     ·exact absurd ⟨by rw[e1];rfl,e2⟩ hc
     ·try rewrite[e2]
      rfl
   rw[dL hc,hc.1,hc.2];refine AN λΘ θ=>Zs (eQ hc.1) λu hu=>?_;obtain⟨dx,q1,q2⟩:=B.get hu;obtain⟨v,HT,g1,g2,g3⟩:=kB q2 (n:=n)<|qO hn;refine gM (zW (m:=m) (F:=λk=>if k=x then á else f k) (t:=λd3=>zu<|aS<|Zy<|BX .NotEq d3<|.str x) (e:=λd3=>aO [κ d3,aE (rn (n+1) DJ) [Zy<|Zx (Zz l) d3]]) (xs:=ks l) λk hk=>by
    obtain⟨d,u,h1,h2,h3⟩:=B.key hk;refine⟨B.sub k hk,?_⟩;show(Zt (!(k==x))=_/\_)\/Zt (!(k==x))=_/\_
    by_cases e:k=x
    ·exact .inl ⟨by simp[e],by simp[e]⟩
    ·obtain⟨v,d',e1,e2,e3⟩:=kB h3 (n:=n)<|qO hn;refine .inr ⟨by simp[e],.fz<|.tuple [.str k,d'],d',u,?_,rfl,by rw[if_neg e];exact h2,e3⟩;rw[bE h1];exact kA _ e1 e2) λps e1 e2 e3 e4=>?_
   apply θ;have hl:=B.lt (k:=1000) Zw;rw[cO] at e2;refine⟨.own<|Zz<|BI (ps++[(y,HT)]) [],_,?_,rfl,?_⟩
   ·rw[bW,bE q1];show rb (rb (aZ _ _<|(ks l).map .str) λr=>Zy<|own<|.list r) (λv4=>rb (aK bA<|aB .Add (Zy<|zi v4.cl)<|cH [aO [κ<|.str y,rn (n+1) DJ [.fz dx]]]) Zt)=_;rw[e1,kA _ g1 g2];show rb (rb (Zy<|dZ .Add (ps.map aT)<|.list [.tuple [.str y,HT]]) λv=>Zy<|bA<|Zp v) Zt=_;rw[show dZ .Add (ps.map aT) (.list [.tuple [.str y,HT]])=.ok (.own<|.list<|(ps++[(y,HT)]).map aT) from by
     show(if jG .Add=â/\(ps.map aT).length+1<=a8 then P.ok (V.own<|.list<|ps.map aT++[.tuple [.str y,HT]]) else .no)=_;rw[if_pos ⟨rfl,by have:a8=16777216:=rfl;rw[j_];exact Mo e2 hl this⟩,ej];rfl]
    show rb (Zy<|bA<|.list<|(ps++[(y,HT)]).map aT) Zt=_;rw[iX<|by rw[k_];rw[cn];exact Mp e2 hl];rfl
   ·rw[Ah];refine(((gJ (F:=λk=>if k=x then á else f k) zl.nil e4).set ho.2.1 g3).ext λk=>?_).toSem;rw[upd,fM]
    by_cases ky:k=y
    ·rw[if_pos ky,if_pos ky,hu]
    ·rw[if_neg ky,if_neg ky]
     by_cases kx:k=x
     ·rw[if_pos kx];simp[kx]
     ·rw[if_neg kx]
      by_cases hk:k∈ks ps
      ·rw[if_pos hk]
      ·rw[if_neg hk];refine zn (f k) (λef=>?_) λu ef=>?_
       ·try rewrite[ef]
        rfl
       ·exact absurd ((e3 k).mpr ⟨B.mem.mpr (by rw[ef];rfl),by simp[kx,ef]⟩) hk
 |sift x i=>
  refine λhy=>⟨λhz m n d t hN hd=>?_,λh=>by exact zk h⟩
  revert hy hz hN hd;ext x i m n d t
  refine AM (c:=2) n hN hN λn hn=>?_
  revert hn;refine hd.by (λm i _ hn=>?_) λm l f B hn=>?_
  ·exact q3c _ _ _ _
  ·ext n m l f
   rw[q3l,qC n B.toSem];show cU (m+1) (AS (cF f)<|some<|.br<|lG x i f) _
   by_cases hc:cF f
   case neg=>rw[cA hc,show DN (.br f)=ã from dG.mpr hc];rfl
   rw[dL hc,show DN (.br f)=â from cJ.mpr hc];refine aD (Id (m:=m) (F:=lG x i f) (t:=λIV=>zu<|aE (rn (n+1) GV) [Zy<|Zx (Zz l) IV,κ<|.str x,κ<|.int i]) (e:=λIV=>aO [κ IV,aE (rn (n+1) DJ) [Zy<|Zx (Zz l) IV]]) (xs:=ks l) (by rw[cO];exact B.lt Zw) λk hk=>by
    obtain⟨d,u,h1,h2,h3⟩:=B.key hk;refine Zs (hc k u h2) λg zq=>?_;subst zq;obtain⟨_,lr,_,rfl,Br⟩:=h3.CR;refine⟨B.sub k hk,?_⟩;rw[bE h1,show lG x i f k=AS (dF x i<|.br g) (à<|.br g) from by show(f k).bind _=_;rw[h2];rfl];show(zu (rn (n+1) GV [.fz<|Zz lr,.fz<|.str x,.fz<|.int i])=_/\_)\/zu (rn (n+1) GV [.fz<|Zz lr,.fz<|.str x,.fz<|.int i])=_/\_;rw[Af n Br x i];refine DO (sb x i<|.br g) (λhs=>?_) λhs=>?_
    ·try rewrite[hs]
     exact .inl ⟨rfl,cA (iG.mp hs) _⟩
    ·try rewrite[hs]
     obtain⟨v,d',e1,e2,e3⟩:=kB h3 (n:=n)<|qO hn;exact .inr ⟨rfl,.fz<|.tuple [.str k,d'],d',.br g,kA _ e1 e2,rfl,dL (nP.mp hs) _,e3⟩) λl' e C=>?_
   refine⟨.own<|Zz l',_,?_,rfl,(B.all (λk h=>by show(f k).bind _=á;rw[h];rfl) C).toSem⟩;rw[bW,aM,e];rfl
 |join a b fs=>
  refine λ_=>⟨λ_ m n d t hn hd=>?_,λh=>by exact zk h⟩
  refine AM (c:=3) n hn hn λn hn=>?_
  revert hn;refine hd.by (λm i _ hn=>?_) λm l f B hn=>?_
  ·exact q3d _ _ _ _ _
  ·rw[q3k];exact(q27 n B<|Mq hn).rb
 |each v ih=>
  refine λho=>⟨λhz m n d t hN hd=>?_,λh=>by exact zk h⟩
  revert ih ho hz hN hd;ext v m n d t
  have hN:=hN;refine AM (c:=2) n hN hN λn hn=>?_
  revert hn;refine hd.by (λm i _ hn=>?_) λm l f B hn=>?_
  ·exact q3e _ _ _
  ·ext n m l f
   have key:∀xs:List d_,(∀x∈xs,x∈ks l)->∃ps:LP,aZ (λ_=>.ok â) (λd9=>aO [κ d9,aE (rn (n+1) BJ) [κ<|Zq v,Zy<|Zx (Zz l) d9]]) (xs.map .str)=.ok (ps.map aT)/\ks ps=xs/\∀p∈ps,(p.2=.none/\(f p.1).bind (aY v)=á/\(f p.1).isSome=â)\/∃u,(f p.1).bind (aY v)=à u/\Sem m p.2 u:=by
    intro xs;induction xs with
    |nil=>exact λ_=>⟨[],rfl,rfl,λp hp=>by exact cB hp⟩
    |cons x r PB=>
     intro hx;refine bN (PB λy hy=>hx y<|af _ hy) λps e1 e2 e3=>?_;obtain⟨d,u,h1,h2,h3⟩:=B.key (hx x<|by simp);have hv:=(ih ho.1).1 ho.2 (n:=n+1) (Bq hn) h3;have hs:aZ (λ_=>.ok â) (λd9=>aO [κ d9,aE (rn (n+1) BJ) [κ<|Zq v,Zy<|Zx (Zz l) d9]]) ((x::r).map .str)=rb (nx<|aO [κ<|.str x,aE (rn (n+1) BJ) [κ<|Zq v,Zy<|Zx (Zz l)<|.str x]]) λw=>rb (.ok<|ps.map aT) λxs=>.ok (Zp w::xs):=by rw[<- e1];rfl
     rw[hs,bE h1];refine zn (aY v u) (λHA=>?_) λs HA=>?_
     ·rw[HA] at hv;refine⟨(x,.none)::ps,?_,by rw[<- e2];rfl,λp hp=>?_⟩
      ·rw[kA (.str x) (show aE (rn (n+1) BJ) [.ok<|.fz<|Zq v,Zy<|.ok<|.fz d]=.ok (.fz .none) from hv) rfl];rfl
      ·rcases List.mem_cons.mp hp with rfl|hp
       ·exact .inl ⟨rfl,by show(f x).bind _=á;rw[h2];exact HA,by show(f x).isSome=â;rw[h2];rfl⟩
       ·exact e3 p hp
     ·rw[HA] at hv;obtain⟨w,d',g1,g2,g3⟩:=hv;refine⟨(x,d')::ps,?_,by rw[<- e2];rfl,λp hp=>?_⟩
      ·rw[kA (.str x) (show aE (rn (n+1) BJ) [.ok<|.fz<|Zq v,Zy<|.ok<|.fz d]=.ok w from g1) g2];rfl
      ·rcases List.mem_cons.mp hp with rfl|hp
       ·exact .inr ⟨s,by show(f x).bind _=_;rw[h2];exact HA,g3⟩
       ·exact e3 p hp
   refine bN (key (ks l) λ_ h=>h) λps e1 e2 e3=>?_;have hl:ps.length<4096:=by have:=congrArg nq e2;rw[cO,cO] at this;exact this▸B.lt Zw
   rw[q3j,bW];refine cU.rb ?_;show cU (m+1) (AS _ _) (aE (rn (n+1) HZ) [rb (aZ _ _<|(ks l).map .str) λr=>Zy<|own<|.list r]);rw[e1];show cU (m+1) (AS _ _) (rn (n+1) HZ [.fz<|.list<|ps.map aT])
   by_cases hc:∀k x,f k=à x->(aY v x).isSome=â
   ·rw[dL hc];have e4:∀p∈ps,∃u,(f p.1).bind (aY v)=à u/\Sem m p.2 u:=λp hp=>by
     rcases e3 p hp with ⟨_,h2,h3⟩|h
     ·refine Zs (eQ h3) λu hu=>?_;rw[hu] at h2;have:=hc p.1 u hu;rw[show aY v u=á from h2] at this;exact zk this
     ·exact h
    refine⟨_,_,Jb n (λp hp=>?_) hl,rfl,((gJ (F:=λk=>(f k).bind (aY v)) zl.nil λp hp=>⟨?_,e4 p hp⟩).ext λk=>?_).toSem⟩
    ·exact aD (e4 p hp) λu _ h=>h.RW
    ·exact B.sub p.1<|e2▸gq (f:=(·.1)) hp
    ·rw[e2]
     by_cases hk:k∈ks l
     ·rw[if_pos hk]
     ·rw[if_neg hk];refine zn (f k) (λef=>?_) λu ef=>?_
      ·try rewrite[ef]
       rfl
      ·try rewrite[ef]
       exact absurd (B.mem.mpr<|by rw[ef];rfl) hk
   ·rw[cA hc];simp only[Classical.not_forall] at hc;obtain⟨k,x,hk,hx⟩:=hc;have EQ:=e2▸B.mem.mpr (by rw[hk];rfl);refine aD (ba.mp EQ) λp hp zq=>?_;subst EQ zq;rcases e3 p hp with ⟨h1,_,_⟩|⟨u,h,_⟩
    ·exact Ja n hp h1
    ·rw[hk] at h;rw[show aY v x=à u from h] at hx;exact absurd rfl hx
 |andThen a b HD HE=>
  refine λho=>⟨λ_ m n d t hn hd=>?_,λh=>by exact zk h⟩
  have hn:=hn;refine AM (c:=1) n hn hn λn hn=>?_;have ha:=(HD ho.1.1).1 ho.1.2 (n:=n) (Mr hn) hd;rw[q29];show cU m ((aY a t).bind (aY b)) _;refine zn (aY a t) (λhs=>?_) λmid hs=>?_
  ·try rewrite[hs]
   rw[hs] at ha;rw[(ha)];rfl
  ·try rewrite[hs]
   rw[hs] at ha;obtain⟨v,d',g1,g2,g3⟩:=ha;rw[g1,aF,g2,uk];refine cU.rb ?_;show cU m _ (fC (κ<|.bool<|fV d') (κ .none)<|rn n BJ [.fz<|Zq b,.fz d']);rw[g3.RW];exact(HE ho.2.1).1 ho.2.2 (n:=n) (Ms hn) g3
 |beside r ih=>
  refine λho=>⟨λhz m n d t hN hd=>?_,λh=>by exact zk h⟩
  revert ih ho hz hN hd;ext r m n d t
  have hN:=hN;refine AM (c:=2) n hN hN λn hn=>?_
  revert hn;refine hd.by (λm i _ hn=>?_) λm l f B hn=>?_
  ·have:aY (.beside r) (.num i:TT)=á:=by
    cases r with
    |bcons=>rfl
    |bnil=>have:=ho.2.1;simp[hV,hY] at this
    |_=>cases ho.1.2
   rw[this];exact q3f _ _ _
  ·ext n m l f
   refine zj (q3n (l:=l) ho.1.2 ho.1.1) λf1 f2=>?_;rw[q3i,iF ho.1.2];show cU (m+1) (aY r<|.br f) (zp (aC (aN (.ok<|bI r) _ _) _ _) _ _);rw[I8 f1]
   by_cases hp:∀p∈r.parts,(f p).isSome=â
   case neg=>
    have:((bI r).filter λd=>!(lk l<|Ai d).isSome).isEmpty=ã:=by rw[qg];exact λh=>hp λp hp=>by rw[<- B.dom];exact f2.mp h p hp
    rw[this];refine zn (aY r<|.br f) (λhs=>?_) λz hs=>?_
    ·try rewrite[hs]
     rfl
    ·try rewrite[hs]
     exact absurd (q3m ho.1.2 ho.1.1.wf hs) hp
   rw[f2.mpr λp h=>by rw[B.dom];exact hp p h];obtain⟨ps,e1,e2,e3⟩:=(ih ho.1.1).2 ho.1.2 (n:=n+1) (Bq hn) B hp;have hl:ps.length<4096:=by have:=congrArg nq e2;rw[cO] at this;have:=ho.2.2;lia
   show cU (m+1) _ (rb (aE (rn (n+1) HZ) [rb (aZ (λ_=>.ok â) (Aj (n+1) l)<|bI r) λr=>Zy<|own<|.list r]) Zt);refine cU.rb ?_;rw[e1];show cU (m+1) _ (rn (n+1) HZ [.fz<|.list<|ps.map aT]);rcases e3 with ⟨z,hz,e4⟩|⟨hz,p,hp,h0⟩
   ·refine aD (z9 ho.1.2 ho.1.1.wf hz) λzf zq hd=>?_;subst zq;rw[hz];refine⟨_,_,Jb n (λp hp=>?_) hl,rfl,((gJ (F:=zf) zl.nil e4).ext λk=>?_).toSem⟩
    ·exact iK (e4 p hp) λ_ u _ h=>h.RW
    ·rw[e2]
     by_cases hk:k∈r.names
     ·rw[if_pos hk]
     ·rw[if_neg hk];refine zn (zf k) (λef=>?_) λu ef=>?_
      ·try rewrite[ef]
       rfl
      ·try rewrite[ef]
       exact absurd ((hd k).mp (by rw[ef];rfl)) hk
   ·rw[hz];exact Ja n hp h0
 |bnil=>exact λ_=>⟨λh=>(by cases h),λ_ m n l f hn B hp=>⟨[],rfl,rfl,.inl ⟨_,rfl,λp hp=>by cases hp⟩⟩⟩
 |bcons x p v r DM BU=>
  refine λho=>⟨λh=>(FZ h),λ_ m n l f hn B hp=>?_⟩
  have hn:=hn;obtain⟨ps,e1,e2,e3⟩:=(BU ho.2.2.1.1).2 ho.2.2.1.2 (n:=n) (Mt hn) B λq hq=>hp q<|af _ hq;refine Zs (eQ<|hp p<|by simp[nG,lE]) λu hu=>?_;obtain⟨d,h1,h2⟩:=B.get hu;have hv:=(DM ho.2.1.1).1 ho.2.1.2 (n:=n) (Mu hn) h2;have hs:aZ (λ_=>.ok â) (Aj n l) (bI<|.bcons x p v r)=rb (nx<|aO [κ<|.str x,aE (rn n BJ) [κ<|Zq v,Zy<|Zx (Zz l)<|.str p]]) λw=>rb (.ok<|ps.map aT) λxs=>.ok (Zp w::xs):=by rw[<- e1];rfl
  have AP:aY (.bcons x p v r) (.br f)=(aY v u).bind λy=>(aY r<|.br f).bind λz=>à (.br<|upd z.get x<|some y):=by show(f p).bind _=_;rw[hu];rfl
  rw[hs,bE h1,AP];refine zn (aY v u) (λHA=>?_) λs HA=>?_
  ·try rewrite[HA]
   rw[HA] at hv;refine⟨(x,.none)::ps,?_,by rw[show ks ((x,PyData.none)::ps)=x::ks ps from rfl,e2];rfl,.inr ⟨rfl,(x,.none),by simp,rfl⟩⟩;rw[kA (.str x) (show aE (rn n BJ) [.ok<|.fz<|Zq v,Zy<|.ok<|.fz d]=.ok (.fz .none) from hv) rfl];rfl
  ·try rewrite[HA]
   rw[HA] at hv;obtain⟨w,d',g1,g2,g3⟩:=hv;refine⟨(x,d')::ps,?_,by rw[show ks ((x,d')::ps)=x::ks ps from rfl,e2];rfl,?_⟩
   ·rw[kA (.str x) (show aE (rn n BJ) [.ok<|.fz<|Zq v,Zy<|.ok<|.fz d]=.ok w from g1) g2];rfl
   ·rcases e3 with ⟨z,hz,e4⟩|⟨hz,q,hq,h0⟩
    ·rw[hz];refine .inl ⟨_,rfl,λq hq=>?_⟩;rcases List.mem_cons.mp hq with rfl|hq
     ·exact⟨ho.1.1,s,by simp[eM,upd],g3⟩
     ·refine iK (e4 q hq) λi1 u' i2 i3=>⟨i1,u',?_,i3⟩
      rw[eM,upd,if_neg (λe=>ho.2.2.2.1 (e▸e2▸gq (f:=(·.1)) hq):q.1≠x)];exact i2
    ·rw[hz];exact .inr ⟨rfl,q,af _ hq,h0⟩
theorem iH(x:Int){y:Int}(h:y≠0):aG .Mod (.int x) (.int y)=.ok (.fz<|.int<|x.fmod y):=if_pos h
theorem kC(x:Int){y:Int}(h:y.natAbs<2 ^ 63):aG .Mult (.int x) (.int y)=.ok (.fz<|.int<|x*y):=if_pos<|.inr h
theorem uB(l:List a_)(t:a_->R Bool)(e:a_->R V):aN (.ok l) t e=rb (aZ t e l) λr=>Zy (own<|.list r):=rfl
theorem qE{x:Int}(y:Int)(h:x.natAbs<2 ^ 63):aG .Mult (.int x) (.int y)=.ok (.fz<|.int<|x*y):=if_pos<|.inl h
theorem uC{l:List a_}{k:Int}(h0:0<=k)(h:l[k.toNat]?=à d):Zx (.list l) (.int k)=.ok (.fz d):=by show(if 0<=k then (if 0<=k/\k<l.length then frz l[k.toNat]? else .no) else YH l k)=_;rw[if_pos h0,if_pos ⟨h0,by exact Mw<|(bw.mp h).1⟩,h];rfl
def cV(k:Int):Int:=(hU (2+k.fmod 24)*48271+7919*k+12345).fmod 2147483647
theorem Ak(n:Nat){k:Int}(hk:0<=k):rn (n+1) MA [.fz Li,.fz<|.int k]=.ok (.fz<|.int<|hU k):=by
 rw[Zl];show(if decide (k<((sC.map rq).length:Int))=â then rb (Zy<|Zx (.list<|sC.map .int)<|.int k) Zt else κ (.int 0))=_;rw[j_];unfold hU
 by_cases h:k<sC.length
 ·have hl:=Mx hk h;rw[if_pos<|decide_eq_true h,if_pos h,uC hk (by rw[lz,ai hl];rfl),ai hl];rfl
 ·rw[if_neg (by simpa using h),if_neg h]
theorem qF(n:Nat)(k:Int):rn (n+2) IX [.fz Li,.fz<|.int k]=.ok (.fz<|.int<|cV k):=by rw[Zm];refine Eq.trans (b:=rb (aB .Mod (aB .Add (aB .Add (aB .Mult (rn (n+1) MA [.fz Li,.fz<|.int<|2+k.fmod 24])<|κ<|.int 48271)<|Zy<|aG .Mult (.int 7919)<|.int k)<|κ<|.int 12345)<|κ<|.int 2147483647) Zt) (by kernel_rfl) ?_;rw[Ak n<|My<|(bB k (n:=24) Zw).1,show aB .Mult (κ<|.int<|hU<|2+k.fmod 24) (κ<|.int 48271)=κ (.int<|hU (2+k.fmod 24)*48271) from congrArg Zy<|kC _ Zw,qE _ Zw];rfl
theorem Jd{m:Int}(h0:0<=m)(h1:m<n):∃k:Nat,k∈oy n/\m=k:=by refine Zs (ik h0) λk zq=>?_;subst h0 zq;exact⟨k,List.mem_range.mpr<|ca.mp h1,rfl⟩
theorem q3q{m:Int}(h:0<=m/\m<14):∃i:Int,aK fH (aB .Mult (κ<|.str<|so "37")<|κ<|.int<|1+m)=κ (.int i)/\0<=i/\i<10 ^ 28:=by
 obtain all:∀k∈oy 14,∃i:Int,aK fH (aB .Mult (κ<|.str<|so "37")<|κ<|.int<|1+(k:Int))=κ (.int i)/\0<=i/\i<10 ^ 28:=by
  rw[show oy 14=[0,1,2,3,4,5,6,7,8,9,10,11,12,13] from rfl]
  repeat rw[io]
  exact⟨⟨37,by kernel_rfl,by decide⟩,⟨3737,by kernel_rfl,by decide⟩,⟨373737,by kernel_rfl,by decide⟩,⟨37373737,by kernel_rfl,by decide⟩,⟨3737373737,by kernel_rfl,by decide⟩,⟨373737373737,by kernel_rfl,by decide⟩,⟨37373737373737,by kernel_rfl,by decide⟩,⟨3737373737373737,by kernel_rfl,by decide⟩,⟨373737373737373737,by kernel_rfl,by decide⟩,⟨37373737373737373737,by kernel_rfl,by decide⟩,⟨3737373737373737373737,by kernel_rfl,by decide⟩,⟨373737373737373737373737,by kernel_rfl,by decide⟩,⟨37373737373737373737373737,by kernel_rfl,by decide⟩,⟨3737373737373737373737373737,by kernel_rfl,by decide⟩,λ_ h=>nomatch h⟩
 refine aD (Jd h.1 h.2) λk hk zq=>?_;subst h zq;exact all k hk
inductive IR(r:R V)(b:Nat):Prop where
 |mk (i:Int) (e:r=κ (.int i)) (h:i.natAbs<b):IR r b
theorem IR.of{r':R V}{b:Nat}(h:r=r')(x:IR r' b):IR r b:=h▸x
theorem nb4{m q:Int}(hm:0<=m/\m<4)(hq:0<=q/\q<3):IR (rb (aB .Add (aI (cI<|cH [(Zy<|aG .Pow (.int 10)<|.int 20),(zy .USub<|Zy<|aG .Pow (.int 10)<|.int 20),(Zy<|aG .Pow (.int 10)<|.int 12),(κ<|.int 0)])<|κ<|.int m)<|κ<|.int q) Zt) IT:=by
 obtain all:∀k∈oy 4,∃i:Int,rb (aB .Add (aI (cI<|cH [(Zy<|aG .Pow (.int 10)<|.int 20),(zy .USub<|Zy<|aG .Pow (.int 10)<|.int 20),(Zy<|aG .Pow (.int 10)<|.int 12),(κ<|.int 0)])<|κ<|.int (k:Int))<|κ<|.int q) Zt=κ (.int<|i+q)/\i.natAbs<=10 ^ 20:=by
  rw[show oy 4=[0,1,2,3] from rfl]
  repeat rw[io]
  exact⟨⟨10 ^ 20,by kernel_rfl,by decide⟩,⟨-10 ^ 20,by kernel_rfl,by decide⟩,⟨10 ^ 12,by kernel_rfl,by decide⟩,⟨0,by kernel_rfl,by decide⟩,λ_ h=>nomatch h⟩
 refine aD (Jd hm.1 hm.2) λk hk zq=>?_;subst hm zq;exact aD (all k hk) λi e hi=>⟨i+q,e,az4 hi hq⟩
theorem uD(n:Nat)(c:Int):IR (rn (n+1) FM [.fz<|.int c]) IT:=by
 ext n c
 rw[q0A];refine IR.of (r':=(if (c.fmod 5==4)=â then rb (aB .Add (aI (cI<|cH [(Zy<|aG .Pow (.int 10)<|.int 20),(zy .USub<|Zy<|aG .Pow (.int 10)<|.int 20),(Zy<|aG .Pow (.int 10)<|.int 12),(.ok<|.fz<|.int 0)])<|.ok<|.fz<|.int<|(c.fdiv 5).fmod 4)<|.ok<|.fz<|.int<|(c.fdiv 20).fmod 3) Zt else if (c.fmod 5==3)=â then rb (aB .Sub (aB .Mod (Zy<|aG .Mult (.int<|c.fdiv 5)<|.int 48271)<|.ok<|.fz<|.int 2000003)<|.ok<|.fz<|.int 1000001) Zt else if (c.fmod 15==2)=â then rb (aB .Mult (aK fH<|aB .Mult (.ok<|.fz<|.str<|so "37")<|.ok<|.fz<|.int<|1+(c.fdiv 15).fmod 14)<|aB .Sub (.ok<|.fz<|.int 1)<|Zy<|aG .Mult (.int<|(c.fdiv 210).fmod 2)<|.int 2) Zt else κ (.int<|(c.fdiv 5).fmod 9 - 4))) (by kernel_rfl) ?_
 split
 ·exact nb4 (bB _ Zw)<|bB _ Zw
 split
 ·rw[kC _ Zw];refine⟨(c.fdiv 5*48271).fmod 2000003 - 1000001,rfl,?_⟩;exact NJ (c:=1000001) (bB _ Zw) Zw
 split
 ·refine aD (q3q<|bB (c.fdiv 15) (n:=14) Zw) λi hi hb=>?_;have hq:=bB (c.fdiv 210) (n:=2) Zw;rw[hi,kC _ Zw];refine⟨i*(1 - (c.fdiv 210).fmod 2*2),?_,?_⟩
  ·show rb (Zy<|aG .Mult (.int i)<|.int<|1 - (c.fdiv 210).fmod 2*2) Zt=_;rw[kC _<|az7 hq];rfl
  ·exact az6 hb hq
 ·refine⟨_,rfl,?_⟩;exact NJ (c:=4) (bB _ Zw) Zw
theorem q3r:∀(r:List Nat) (acc:Array Nat),(r.map λc=>(⟨#[c]⟩:d_)).foldl (λacc p=>acc++(so "").cps++p.cps) acc=acc++r.toArray:=by
 intro v0;induction v0 with
 |nil=>intro acc;simp
 |cons c r ih=>intro acc;rw[qp,vq];rw[ih];rw[(rfl:(so "").cps=#[])];simp
theorem q3s(cs:List Nat):Txt.join (so "") (cs.map λc=>⟨#[c]⟩)=⟨cs.toArray⟩:=by
 show ww _ _=_;unfold ww;cases cs with
 |nil=>rfl
 |cons c r=>rw[qp,List.drop_succ_cons,List.drop_zero,List.headD_cons];rw[q3r];simp
theorem Je:∀cs:List Nat,CI (cs.map cQ)=à (cs.map λc=>⟨#[c]⟩)
 | []=>rfl
 |c::r=>by show(CI<|r.map cQ).map (_::·)=_;rw[Je r];rfl
theorem q3t:∀(cs:List Nat) (a:Nat),(cs.map λc=>(⟨#[c]⟩:d_)).foldl (λx y=>x+y.length+(so "").length) a=a+cs.length:=by
 intro v0;induction v0 with
 |nil=>intro a;simp
 |cons c r ih=>intro a;rw[qp,vq];rw[ih];rw[(rfl:(so "").length=0),(rfl:(⟨#[c]⟩:d_).length=1)];simp;exact Mz
theorem Jf(h:cs.length<=1000):gO (.str<|so "") [.list<|cs.map cQ]=.ok (.fz<|.str ⟨cs.toArray⟩):=by
 rw[(rfl:gO (.str<|so "") [.list<|cs.map cQ]=(AT<|CI<|cs.map cQ).bind λl=>if yu (so "") l then fz (.str<|Txt.join (so "") l) else .no),Je,iC,iB];obtain hj:yu (so "") (cs.map λc=>⟨#[c]⟩)=â:=by unfold yu Builtin.Str.tooLong;rw[List.foldl_toArray',q3t]<;>simp[g_];exact M0 h
 rw[if_pos hj,q3s];rfl
theorem uE{a:Int}(h0:0<=a)(h1:a<=n):clipAt n a=a.toNat:=by unfold clipAt;rw[if_neg<|fy.mpr h0,Int.min_eq_left h1,Int.max_eq_right h0]
theorem Jg{a:Int}(h0:0<=a)(h1:(n:Int)<=a):clipAt n a=n:=by unfold clipAt;rw[if_neg<|fy.mpr h0,Int.min_eq_right h1,Int.max_eq_right<|jh n,jm]
theorem Jh(l:List α){k:Int}(h:0<=k):slice l á (à k)=l.take k.toNat:=by
 show(l.drop 0).take (clipAt l.length k - 0)=_;rw[List.drop_zero,xl];rcases Int.le_total k l.length with hk|hk
 ·rw[uE h hk]
 ·rw[Jg h hk,xe<|bv _,xe];obtain this:=yv hk
  rwa [jm] at this
theorem Al(x:Int):Zx (.str<|so "abcdefghijklmnopqrstuvwxyz") (.int<|x.fmod 26)=.ok (.fz<|cQ<|HJ<|x.fmod 26):=by
 have h:=bB x (n:=26) Zw;show(if 0<=x.fmod 26/\x.fmod 26<IQ.cps.size then frz (IQ.cps[(x.fmod 26).toNat]?.map cQ) else .no)=_;rw[if_pos ⟨h.1,by show _<((26:Nat):Int);exact M1 h⟩];have hs:=(Hu ⟨(x.fmod 26).toNat,by exact qP h⟩).1;unfold HJ;cases e:IQ.cps[(x.fmod 26).toNat]? with
 |none=>rw[e] at hs;exact zk hs
 |some c=>rfl
theorem Ji{k:Int}(h:0<=k/\k<cs.length)(x:Nat):Internal.setItem (.list<|cs.map cQ) (.int k) (cQ x)=.ok (.list<|(cs.set k.toNat x).map cQ):=by show(if 0<=k/\k<(cs.map cQ).length then P.ok (ur<|(cs.map cQ).set k.toNat (cQ x)) else .no)=_;rw[if_pos (by simpa using h),List.map_set]
theorem q3u(c:Int):aN (ES<|κ<|.int 8) (λd2=>(.ok â)) (λd2=>(aI (.ok<|.str<|so "abcdefghijklmnopqrstuvwxyz")<|aB .Mod (aB .Add (Zy<|aG .FloorDiv (.int c)<|.int 8)<|Zy<|aG .Mult (.int 5) d2)<|κ<|.int 26))=.ok (.own<|.list<|(gH c).map cQ):=by
 rw[show ES (κ<|.int 8)=.ok ([0,1,2,3,4,5,6,7].map rq) from Zv,uB,pQ (g:=λd=>match d with | .int j=>cQ (HJ<|(c.fdiv 8+5*j).fmod 26) | d=>d)]
 ·rfl
 ·intro d hd;refine aD (ba.mp hd) λj _ zq=>?_;subst hd zq;refine⟨rfl,.fz<|cQ<|HJ<|(c.fdiv 8+5*j).fmod 26,?_,rfl⟩;refine Eq.trans (b:=Zy<|Zx (.str<|so "abcdefghijklmnopqrstuvwxyz")<|.int<|(c.fdiv 8+5*j).fmod 26) (by kernel_rfl) ?_;rw[Al];rfl
theorem q3v(n:Nat)(c k:Int):rn (n+1) "_law_name" [.fz<|.int c,.fz<|.int k]=κ (.str ⟨(nm c k).toArray⟩):=by
 ext n c k
 rw[Zn];have h8:=bB c (n:=8) Zw;rw[q3u c];refine Eq.trans (b:=if ((c.fdiv 1664).fmod 3==1)=â then rb (Zy<|Zx (.str<|so "abcdefghijklmnopqrstuvwxyz")<|.int<|(c.fdiv 8+k.fdiv 8).fmod 26) (λv=>rb (Zy<|Internal.setItem (.list<|(gH c).map cQ) (.int 0)<|Zp v) λo=>rb (rb (rb (Zy<|lV o á<|some<|1+k.fmod 8) λv=>.ok [v.cl]) λas=>Zy<|gO (.str<|so "")<|cW as) Zt) else rb (Zy<|Zx (.str<|so "abcdefghijklmnopqrstuvwxyz")<|.int<|(c.fdiv 8+7+k).fmod 26) (λv=>rb (Zy<|aG .Mod (.int<|c.fdiv 208)<|.int<|1+c.fmod 8) λi=>rb (Zy<|Internal.setItem (.list<|(gH c).map cQ) (Zp i)<|Zp v) λo=>rb (rb (rb (Zy<|lV o á<|some<|1+c.fmod 8) λv=>.ok [v.cl]) λas=>Zy<|gO (.str<|so "")<|cW as) Zt)) (by kernel_rfl) ?_;unfold nm
 by_cases h:(c.fdiv 1664).fmod 3=1
 ·rw[if_pos (by simpa using h),if_pos h,Al,aM,aF,gI,Ji (by simp[lD]),aM,aF];show rb (Zy<|gO (.str<|so "") [.list<|slice (((gH c).set 0 _).map cQ) á<|some<|1+k.fmod 8]) Zt=_;rw[Jh _<|Bs<|bB k (n:=8) Zw,<- tz,Jf<|by simp[lD];exact Bt];rfl
 ·rw[if_neg (by simpa using h),if_neg h,Al,aM,aF,gI,iH _<|M4 h8,aM,aF,gI,Ji (by simp[lD];exact M5 h8<|bB (c.fdiv 208) (n:=1+c.fmod 8)<|M3 h8),aM,aF];show rb (Zy<|gO (.str<|so "") [.list<|slice (((gH c).set _ _).map cQ) á<|some<|1+c.fmod 8]) Zt=_;rw[Jh _<|Bs h8,<- tz,Jf<|by simp[lD];exact Bt];rfl
theorem q3w(n:Nat):rn (n+2) "_law_names" [.fz Li]=.ok (.own NL):=by
 rw[Zo];rw[show ES (κ<|.int 14)=.ok (V'.map rq) from Zv,uB,pQ (g:=λd=>match d with | .int k=>.str ⟨(nm (hU 0) k).toArray⟩ | d=>d)]
 ·rfl
 ·intro d hd;refine aD (ba.mp hd) λj _ zq=>?_;subst hd zq;refine⟨rfl,.fz<|.str ⟨(nm (hU 0) j).toArray⟩,?_,rfl⟩;rw[Ak n Zw];exact q3v n _ _
theorem Am(x y:Int):aG .Add (.int x) (.int y)=.ok (.fz<|.int<|x+y):=rfl
theorem An(x y:Int):aG .Sub (.int x) (.int y)=.ok (.fz<|.int<|x - y):=rfl
theorem kD(x:Int){y:Int}(h:y≠0/\y.natAbs<2 ^ 63):aG .FloorDiv (.int x) (.int y)=.ok (.fz<|.int<|x.fdiv y):=if_pos h
theorem Ao(x y:Int):BX .Lt (.int x) (.int y)=.ok (decide (x<y)):=rfl
theorem Ap(x y:Int):BX .Gt (.int x) (.int y)=.ok (decide (y<x)):=rfl
theorem Aq(x y:Int):BX .Eq (.int x) (.int y)=.ok (x==y):=rfl
variable {m:Nat}
def Tr(m:Nat)(d:a_):Prop:=∃t,Sem m d t
def BT(m:Nat)(l:LP):Prop:=∃f,zl m l f
theorem BT.nil:BT m []:=⟨_,zl.nil⟩
theorem BT.set(B:BT m l)(hk:k∈NN)(h:Tr m d):BT m<|st l k d:=by exact Zs B λf B=>Zs h λt h=>⟨_,B.set hk h⟩
theorem BT.ET(B:BT m l):Tr (m+1)<|Zz l:=by refine Zs B λf B=>?_;exact⟨_,B.toSem⟩
theorem BT.lt(B:BT m l){k:Nat}(hk:14<k):l.length<k:=by refine Zs B λf B=>?_;exact B.lt hk
theorem Tr.int(h:i.natAbs<IT):Tr m<|.int i:=⟨_,.num h⟩
theorem Tr.mono(h:Tr m d)(hm:m<=m'):Tr m' d:=by refine Zs h λt h=>?_;exact⟨t,h.mono hm⟩
inductive XK(i:Int)(r:P V):Prop where
 |mk (x:d_) (h:x∈NN) (g:NN[i.toNat]?=à x) (e:r=.ok (.fz<|.str x)):XK i r
theorem eF(h:0<=i/\i<14):XK i<|Zx NL<|.int i:=by
 have hl:i.toNat<NN.length:=by rw[HW.len];exact Na h
 refine⟨NN[i.toNat],go hl,ai hl,uC h.1 ?_⟩;rw[lz,ai hl];rfl
theorem q3x:∀{fs:List d_} {i:Int} {d:a_},d∈eA i (fs.map .str)->∃j f,d=.tuple [.int j,.str f]/\f∈fs:=by
 intro v0;induction v0 with
 |nil=>intro _ _ h;exact cB h
 |cons x r ih=>
  intro i d h;rcases List.mem_cons.mp (h:d∈.tuple [.int i,.str x]::eA (i+1) (r.map .str)) with rfl|h
  ·exact⟨i,x,rfl,by simp⟩
  ·exact cL (ih h) λj f e hf=>⟨j,f,e,by simp[hf]⟩
theorem Jj{q r l:List a_}{x:a_}(h:[]++l=q++x::r):x∈l:=by
 have:x∈q++x::r:=by simp
 rw[<- h] at this;simpa using this
def tS(k:Int)(fs:List d_)(c:LP)(j:a_)(row:Option V)(o:Option V×Option V×Option V):aA:=dJ (ζ Li) (ζ<|.int k) (ζ NL) (ζ<|.list<|fs.map .str) (à<|.own<|Zz c) (ζ j) row o.1 o.2.1 o.2.2
theorem q3y(n:Nat)(k j:Int)(hf:∀x∈fs,x∈NN)(c:LP)(o:Option V×Option V×Option V):∃r o',BT 1 r/\∀kn kr,aX (pE<|n+2) pF (eA 0<|fs.map .str) (tS k fs c (.int j) (à<|.own<|.dict []) o) kn kr=kn (tS k fs c (.int j) (à<|.own<|Zz r) o'):=by
 revert hf;ext fs n k j c o
 obtain L:=pM (S:=λ(r:LP) (o:Option V×Option V×Option V)=>tS k fs c (.int j) (à<|.own<|Zz r) o) (b:=pE<|n+2) (t:=pF) (l:=eA 0<|fs.map .str) (p:=[]) (a:=[]) (j:=o) (I:=λ_ r=>BT 1 r) (E:=λ_=>False) (Q:=λ_=>False) (λq d r a o hq hi=>by
  refine cL (q3x<|Jj hq) λi f zq ZL=>?_;subst hq zq;obtain⟨x0,PA,_,DE⟩:=eF (i:=0) Zw;have hb:∀kn kr,(rb (Zy<|a9 pF (.tuple [.int i,.str f])<|tS k fs c (.int j) (à<|.own<|Zz a) o) λσ=>pE (n+2) σ kn kr)=if decide (0<(cV<|k+10*j+i+1).fmod 4)=â then rb (rn (n+2) FM [.fz<|.int<|(cV<|k+10*j+i+1).fdiv 4]) (λv=>rb (Zy<|Internal.setItem (Zz a) (.str f)<|Zp v) λo2=>kn<|tS k fs c (.int j) (à<|.own o2) (à<|.fz<|.int i,à<|.fz<|.str f,à<|.fz<|.int<|cV<|k+10*j+i+1)) else if ((cV<|k+10*j+i+1).fmod 12==0)=â then rb (Zy<|Internal.setItem (Zz a) (.str f)<|Zz [(x0,.int<|((cV<|k+10*j+i+1).fdiv 12).fmod 5)]) λo2=>kn (tS k fs c (.int j) (à<|.own o2) (à<|.fz<|.int i,à<|.fz<|.str f,à<|.fz<|.int<|cV<|k+10*j+i+1)) else kn (tS k fs c (.int j) (à<|.own<|Zz a) (à<|.fz<|.int i,à<|.fz<|.str f,à<|.fz<|.int<|cV<|k+10*j+i+1)):=λkn kr=>by
   unfold tS;rw[q0F,aM,aF,q0G,DE];simp(decide:=â) only [aB,zy,bD,BH,zp,fC,aC,iU,aI,dX,fT,aK,pA,aE,BD,ES,HU,cI,bK,pB,
  aF,zB,aM,fF,iB,iC,cT,eO,tR,zC,gI,pN,cY,iW,zD,zE,dS,dT,j6,zF,zG,zH,pO,zI,zJ,zK,zL,zM,zN,zO,tT,zP,zQ,zR,pP,tV,zS,zT,zU,zV,Am,An,kC,qE,kD,iH,Ao,Ap,Aq,qF,fS,yA]
   rfl
  have h0:0<=((cV<|k+10*j+i+1).fdiv 12).fmod 5/\((cV<|k+10*j+i+1).fdiv 12).fmod 5<5:=bB _ Zw;obtain⟨v,MT,LG⟩:=uD (n+1)<|(cV<|k+10*j+i+1).fdiv 4;cases c1:decide (0<(cV<|k+10*j+i+1).fmod 4) with
  |true=>refine BM.kn (st a f<|.int v) (à<|.fz<|.int i,à<|.fz<|.str f,à<|.fz<|.int<|cV<|k+10*j+i+1) (hi.set (hf f ZL)<|.int LG) λkn kr=>(hb kn kr).trans ?_;rw[c1,cT,MT,aF,gI,cS f _<|hi.lt Zw];rfl
  |false=>
   cases c2:((cV<|k+10*j+i+1).fmod 12==0) with
   |true=>refine BM.kn (st a f<|Zz [(x0,.int<|((cV<|k+10*j+i+1).fdiv 12).fmod 5)]) (à<|.fz<|.int i,à<|.fz<|.str f,à<|.fz<|.int<|cV<|k+10*j+i+1) (hi.set (hf f ZL) ((BT.nil (m:=0)).set PA (.int (i:=((cV<|k+10*j+i+1).fdiv 12).fmod 5)<|LW (bB _ Zw) Zw)).ET) λkn kr=>(hb kn kr).trans ?_;rw[c1,eO,c2,cT,cS f _<|hi.lt Zw];rfl
   |false=>
    refine BM.kn a (à<|.fz<|.int i,à<|.fz<|.str f,à<|.fz<|.int<|cV<|k+10*j+i+1) hi λkn kr=>(hb kn kr).trans ?_;rw[c1,eO,c2,eO]) BT.nil
 obtain⟨r,o',h1,h2⟩|⟨_,hx,_⟩|⟨_,hv,_⟩:=L
 ·exact⟨r,o',h1,h2⟩
 ·exact hx.elim
 ·exact hv.elim
inductive XZ(r:R V):Prop where
 |mk (l:LP) (B:BT 2 l) (e:r=.ok (.own<|Zz l)):XZ r
theorem uF(n:Nat)(k:Int)(hf:∀x∈fs,x∈NN):XZ<|rn (n+3) JW [.fz Li,.fz<|.int k,.fz NL,.fz<|.list<|fs.map .str]:=by
 ext fs n k
 obtain L:=pM (S:=λ(c:LP) (o:Option V×Option V×Option V×Option V×Option V)=>dJ (ζ Li) (ζ<|.int k) (ζ NL) (ζ<|.list<|fs.map .str) (à<|.own<|Zz c) o.1 o.2.1 o.2.2.1 o.2.2.2.1 o.2.2.2.2) (b:=tE<|n+2) (t:=tF) (l:=[.int 0,.int 1,.int 2,.int 3]) (p:=[]) (a:=[]) (j:=(á,á,á,á,á)) (I:=λ_ r=>BT 2 r) (E:=λ_=>False) (Q:=λ_=>False) (λq d r c o hq hi=>by
  have hd:=Jj hq;obtain⟨j,hj,rfl⟩:∃j:Int,(0<=j/\j<4)/\d=.int j:=by
   simp only[mo,ql,or_false] at hd;rcases hd with rfl|rfl|rfl|rfl
   ·exact⟨0,by decide,rfl⟩
   ·exact⟨1,by decide,rfl⟩
   ·exact⟨2,by decide,rfl⟩
   ·exact⟨3,by decide,rfl⟩
  obtain⟨x,hx,_,hg⟩:=eF (i:=9+j) (by exact Bv hj);refine cL (q3y n k j hf c (o.2.2.1,o.2.2.2.1,o.2.2.2.2)) λr' o' hr L2=>?_;have hb:∀kn kr,(rb (Zy<|a9 tF (.int j)<|dJ (ζ Li) (ζ<|.int k) (ζ NL) (ζ<|.list<|fs.map .str) (à<|.own<|Zz c) o.1 o.2.1 o.2.2.1 o.2.2.2.1 o.2.2.2.2) λσ=>tE (n+2) σ kn kr)=if decide (0<(cV<|k+10*j).fmod 3)=â then rb (Zy<|Internal.setItem (Zz c) (.str x)<|Zz r') (λo1=>kn<|dJ (ζ Li) (ζ<|.int k) (ζ NL) (ζ<|.list<|fs.map .str) (à<|.own o1) (ζ<|.int j) (ζ<|Zz r') o'.1 o'.2.1 o'.2.2) else kn (dJ (ζ Li) (ζ<|.int k) (ζ NL) (ζ<|.list<|fs.map .str) (à<|.own<|Zz c) (ζ<|.int j) o.2.1 o.2.2.1 o.2.2.2.1 o.2.2.2.2):=λkn kr=>by
   rw[q0C,aM,aF,q0D,show HU (κ<|.list<|fs.map .str)=.ok (eA 0<|fs.map .str) from rfl,aF];have:=L2 (λσ=>yQ (n+2) σ (λσ=>CH BB (so "_law_table") (n+2) 23 (List.drop 1<|bR<|List.drop 1<|aR BB<|so "_law_table") σ kn kr) kr) kr;unfold tS at this;rw[this,q0H];simp(decide:=â) only [aB,zy,bD,BH,zp,fC,aC,iU,aI,dX,fT,aK,pA,aE,BD,ES,HU,cI,bK,pB,
  aF,zB,aM,fF,iB,iC,cT,eO,tR,zC,gI,pN,cY,iW,zD,zE,dS,dT,j6,zF,zG,zH,pO,zI,zJ,zK,zL,zM,zN,zO,tT,zP,zQ,zR,pP,tV,zS,zT,zU,zV,Am,An,kC,qE,kD,iH,Ao,Ap,Aq,qF,hg]
   rfl
  cases c1:decide (0<(cV<|k+10*j).fmod 3) with
  |true=>refine BM.kn (st c x<|Zz r') (à<|.fz<|.int j,à<|.fz<|Zz r',o'.1,o'.2.1,o'.2.2) (hi.set hx hr.ET) λkn kr=>(hb kn kr).trans ?_;rw[c1,cT,cS x _<|hi.lt Zw];rfl
  |false=>
   refine BM.kn c (à<|.fz<|.int j,o.2.1,o.2.2.1,o.2.2.2.1,o.2.2.2.2) hi λkn kr=>(hb kn kr).trans ?_;rw[c1,eO]) BT.nil
 obtain⟨l,o',h1,h2⟩|⟨_,hx,_⟩|⟨_,hv,_⟩:=L
 ·refine⟨l,h1,?_⟩;rw[q0B,show ES (κ<|.int 4)=.ok [.int 0,.int 1,.int 2,.int 3] from Zv];exact(h2 _ _).trans (q0E ..)
 ·exact hx.elim
 ·exact hv.elim
variable {m:Nat}
theorem Ar(ps:LP):lW (AH ps)=.ok (.own<|Zz<|BI ps []):=by show((AT<|DX<|AH ps).bind λl=>own<|.dict<|eB l<|AH [])=_;rw[RT,iC,iB,y9];rfl
theorem As(a:d_)(hr:r=.ok v)(hv:v.cl=.fz d):fS [(κ<|.str a,r)]=.ok (.own<|Zz<|BI [(a,d)] []):=by rw[hr,<- iE hv];exact congrArg Zy<|Ar [(a,Zp v)]
theorem qG(a b:d_){v1 v2:V}{d2:a_}(hr1:r1=.ok v1)(MT:v1.cl=.fz d1)(hr2:r2=.ok v2)(LG:v2.cl=.fz d2):fS [(κ<|.str a,r1),(κ<|.str b,r2)]=.ok (.own<|Zz<|BI [(a,d1),(b,d2)] []):=by rw[hr1,hr2,<- iE MT,<- iE LG];exact congrArg Zy<|Ar [(a,Zp v1),(b,Zp v2)]
theorem Jk(lo hi:Option Int):lV NL lo hi=.ok (.own<|.list<|(slice NN lo hi).map .str):=by show P.ok (V.own<|.list<|slice (NN.map l_) lo hi)=_;unfold slice;rw[j_,tz,List.map_drop]
theorem qH{l:List α}{lo:Option Int}{x:α}(h:x∈slice l lo hi):x∈l:=List.mem_of_mem_drop<|List.mem_of_mem_take h
theorem Jl{a b c:a_}(h:0<=i/\i<3):∃d,Zx (.list [a,b,c]) (.int i)=.ok (.fz d)/\(d=a\/d=b\/d=c):=by
 obtain this:=Nb h;rcases this with rfl|rfl|rfl
 ·exact⟨a,rfl,.inl rfl⟩
 ·exact⟨b,rfl,.inr<|.inl rfl⟩
 ·exact⟨c,rfl,.inr<|.inr rfl⟩
theorem Jm(l:LP)(x:d_)(d:a_):gO (Zz l) [.str x,d]=.ok (.fz<|(lk l x).getD d):=by show fz ((bV (AH l) x).getD d)=_;rw[lI];rfl
theorem BT.get(B:BT m l)(hd:Tr m d):Tr m<|(lk l x).getD d:=by
 refine Zs B λf B=>zn (lk l x) (λe=>?_) λu e=>?_
 ·try rewrite[e]
  exact hd
 ·try rewrite[e]
  obtain⟨t,_,h⟩:=B.get' e;exact⟨t,h⟩
theorem q3z(n:Nat)(B:BT m l)(hl:∀i x,i<5->NN[i]?=à x->(lk l x).isSome=â):
  ∃l' o,BT m l'/\∀kn kr,aX (pG<|n+2) pH [.int 0,.int 1,.int 2,.int 3,.int 4] (eW (ζ Li) (ζ NL) (à<|.own<|Zz l) á) kn kr=kn (eW (ζ Li) (ζ NL) (à<|.own<|Zz l') o):=by
 ext l m n
 obtain L:=pM (S:=λ(c:LP) (o:Option V)=>eW (ζ Li) (ζ NL) (à<|.own<|Zz c) o) (b:=pG<|n+2) (t:=pH) (l:=[.int 0,.int 1,.int 2,.int 3,.int 4]) (p:=[]) (a:=l) (j:=á) (I:=λp c=>BT m c/\∀i x,p.length<=i->i<5->NN[i]?=à x->(lk c x).isSome=â) (E:=λ_=>False) (Q:=λ_=>False) (λq d r c o hq hi=>by
  have hg:([.int 0,.int 1,.int 2,.int 3,.int 4]:List a_)[q.length]?=à d:=by rw[show([.int 0,.int 1,.int 2,.int 3,.int 4]:List a_)=q++d::r from hq];simp
  have zw:=(bw.mp hg).1;obtain hd:d=.int q.length:=by generalize q.length=k at hg zw;obtain this:=Bx zw;rcases this with rfl|rfl|rfl|rfl|rfl<;>simpa using hg.symm
  subst hq hg hd;obtain⟨x,hx,hN,ZQ⟩:=eF (i:=(q.length:Int))<|Nc zw;have hN:NN[q.length]?=à x:=by simpa using hN
  refine Zs (eQ<|hi.2 q.length x (bv _) zw hN) λdx IE=>?_;have hb:∀kn kr,(rb (Zy<|a9 pH (.int q.length)<|eW (ζ Li) (ζ NL) (à<|.own<|Zz c) o) λσ=>pG (n+2) σ kn kr)=if ((cV<|200+q.length).fmod 9==0)=â then kn (eW (ζ Li) (ζ NL) (à<|.own<|Zz<|dl c x)<|ζ<|.int q.length) else kn (eW (ζ Li) (ζ NL) (à<|.own<|Zz c)<|ζ<|.int q.length):=λkn kr=>by
   rw[q0J,aM,aF,q0K,ZQ];obtain e:fD (.ok<|Zz c) (so "pop") [Zy<|.ok<|.fz<|.str x] (λo1=>kn<|eW (ζ Li) (ζ NL) (à<|.own o1)<|ζ<|.int q.length)=kn (eW (ζ Li) (ζ NL) (à<|.own<|Zz<|dl c x)<|ζ<|.int q.length):=by show rb (Zy<|if (bV (AH c) x).isSome then P.ok (sw<|eR (AH c) x) else .no) _=_;rw[lI,IE,y8];rfl
   rw[e];simp(decide:=â) only [aB,zy,bD,BH,zp,fC,aC,iU,aI,dX,fT,aK,pA,aE,BD,ES,HU,cI,bK,pB,
  aF,zB,aM,fF,iB,iC,cT,eO,tR,zC,gI,pN,cY,iW,zD,zE,dS,dT,j6,zF,zG,zH,pO,zI,zJ,zK,zL,zM,zN,zO,tT,zP,zQ,zR,pP,tV,zS,zT,zU,zV,Am,An,kC,qE,kD,iH,Ao,Ap,Aq,qF]
  cases c1:((cV<|200+q.length).fmod 9==0) with
  |true=>
   refine zj hi λzt h2=>?_;obtain⟨f,Bf⟩:=zt;refine BM.kn (dl c x) (ζ<|.int q.length) ⟨⟨_,Bf.del x⟩,λi y h3 h4 h5=>?_⟩ λkn kr=>(hb kn kr).trans (by rw[c1,cT]);rw[k_,cn] at h3;rw[(H7 x Bf.nd).2.2,if_neg]
   ·exact h2 i y (By h3) h4 h5
   ·intro e;subst hx ZQ IE hb e;have h6:=bw.mp h5;have h7:=bw.mp hN;have:=(jr (h₀:=h6.1) (h₁:=h7.1) HW.nd).mp (h6.2.trans h7.2.symm);lia
  |false=>
   refine BM.kn c (ζ<|.int q.length) ⟨hi.1,λi y h3 h4 h5=>?_⟩ λkn kr=>(hb kn kr).trans (by rw[c1,eO]);rw[k_,cn] at h3;exact hi.2 i y (By h3) h4 h5) ⟨B,λi x _ h1 h2=>hl i x h1 h2⟩
 obtain⟨l',o',h1,h2⟩|⟨_,hx,_⟩|⟨_,hv,_⟩:=L
 ·exact⟨l',o',h1.1,h2⟩
 ·exact hx.elim
 ·exact hv.elim
theorem q30(n:Nat):Gives (rn (n+4) QP [.fz Li,.fz NL]) λd=>Tr 5 d:=by
 refine AN λ_ θ=>?_;obtain⟨x0,m0,i0,g0⟩:=eF (i:=0) Zw;obtain⟨x1,m1,i1,g1⟩:=eF (i:=1) Zw;obtain⟨x2,m2,i2,g2⟩:=eF (i:=2) Zw;obtain⟨x3,m3,i3,g3⟩:=eF (i:=3) Zw;obtain⟨x4,m4,i4,g4⟩:=eF (i:=4) Zw;obtain⟨x5,m5,_,g5⟩:=eF (i:=5) Zw;obtain⟨x6,m6,_,g6⟩:=eF (i:=6) Zw;obtain⟨v1,a1,b1⟩:=uD (n+2)<|cV 1;obtain⟨v2,a2,b2⟩:=uD (n+2)<|cV 2;obtain⟨l2,t2,e2⟩:=uF n 20 (fs:=slice NN (à 5)<|some 7) λx hx=>qH hx;obtain⟨l3,t3,e3⟩:=uF n 70 (fs:=slice NN (à 7)<|some 9) λx hx=>qH hx;obtain⟨l4,t4,e4⟩:=uF n 120 (fs:=slice NN (à 5)<|some 9) λx hx=>qH hx;obtain q1:aE (rn (n+3) FM) [rn (n+3) IX [.fz Li,.fz<|.int 1]]=κ (.int v1):=by rw[qF<|n+1];exact a1
 obtain q2:aE (rn (n+3) FM) [rn (n+3) IX [.fz Li,.fz<|.int 2]]=κ (.int v2):=by rw[qF<|n+1];exact a2
 have tt:∀(k:Int) lo hi {l:LP},rn (n+3) JW [.fz Li,.fz<|.int k,.fz NL,.fz<|.list<|(slice NN (à lo)<|some hi).map .str]=.ok (.own<|Zz l)->aE (rn (n+3) JW) [κ Li,κ<|.int k,κ NL,dX (.ok NL) (à<|κ<|.int lo)<|some<|κ<|.int hi]=.ok (.own<|Zz l):=λk lo hi l h=>by rw[show dX (.ok NL) (à<|κ<|.int lo) (à<|κ<|.int hi)=.ok (.own<|.list<|(slice NN (à lo)<|some hi).map .str) from congrArg Zy<|Jk _ _];exact h
 have sl:∀(l:LP) (x:d_) (r:R V) (v:V) (d:a_) (k:a_->R V),r=.ok v->v.cl=.fz d->l.length<a8->bK r (.ok<|Zz l) (κ<|.str x) k=k (Zz<|st l x d):=λl x r v d k h1 h2 h3=>by rw[h1];show rb (Zy<|Internal.setItem (Zz l) (.str x)<|Zp v) k=_;rw[iE h2,cS x d h3];rfl
 have B0:BT 4<|BI [(x0,.int v1)] []:=BT.nil.set m0<|.int b1;obtain T1:Tr 4 (Zz<|BI [(x5,.int v2),(x6,Zz<|BI [(x0,.int 3)] [])] []):=
  Tr.mono (BT.ET (m:=1)<|(BT.nil.set m5<|.int b2).set m6 (BT.ET (m:=0)<|BT.nil.set m0<|.int Zw)) Zw
 have B1:=B0.set m1 T1;have B2:=B1.set m2<|t2.ET.mono Zw;have B3:=B2.set m3<|t3.ET.mono Zw;obtain T4:Tr 4<|Zz<|BI [(x2,Zz l4),(x0,.int 1)] []:=BT.ET (m:=3)<|(BT.nil.set m2 t4.ET).set m0 (.int Zw);obtain B4:=B3.set m4 T4;refine cL (q3z (n+1) B4 λi x hi hx=>by
  have h1:∀{y z:d_} {d:a_} {l:LP},(lk l y).isSome=â->(lk (st l z d) y).isSome=â:=λ{y z d l} h=>by
   rw[tQ];split
   ·rfl
   ·exact h
  have h2:∀{y:d_} {d:a_} {l:LP},(lk (st l y d) y).isSome=â:=λ{y d l}=>by rw[tQ,if_pos rfl];rfl
  obtain this:i=0\/i=1\/i=2\/i=3\/i=4:=Bx hi;rcases this with rfl|rfl|rfl|rfl|rfl
  ·rw[show NN[0]?=à x0 from i0] at hx;replace hx:=si hx;subst hx;exact h1<|h1<|h1<|h1 h2
  ·rw[show NN[1]?=à x1 from i1] at hx;replace hx:=si hx;subst hx;exact h1<|h1<|h1 h2
  ·rw[show NN[2]?=à x2 from i2] at hx;replace hx:=si hx;subst hx;exact h1<|h1 h2
  ·rw[show NN[3]?=à x3 from i3] at hx;replace hx:=si hx;subst hx;exact h1 h2
  ·rw[show NN[4]?=à x4 from i4] at hx;replace hx:=si hx;subst hx;exact h2) λl' o hB hL=>?_
 refine aD (Jl (a:=Zz l') (b:=(lk l' x2).getD (.dict [])) (c:=(lk l' x4).getD (.int 5))<|bB ((hU 1).fmod 5) (n:=3) Zw) λd J_ GA=>θ ?_;refine⟨.fz d,d,?_,rfl,?_⟩
 ·rw[q0I,g0,g1,g2,g3,g4,g5,g6];simp only[aM];rw[As x0 q1 rfl,aF,As x0 (r:=κ<|.int 3) rfl rfl,qG x5 x6 q2 rfl rfl rfl,pO,aM,sl _ _ _ _ _ _ rfl rfl (B0.lt Zw),
   sl _ _ _ _ _ _ (tt 20 5 7 e2) rfl (B1.lt Zw),sl _ _ _ _ _ _ (tt 70 7 9 e3) rfl (B2.lt Zw),qG x2 x0 (tt 120 5 9 e4) rfl rfl rfl,sl _ _ _ _ _ _ rfl rfl (B3.lt Zw),
   show ES (κ<|.int 5)=.ok [.int 0,.int 1,.int 2,.int 3,.int 4] from Zv,aF]
  refine(hL _ _).trans ((Z0 ..).trans ?_);rw[g2,g4,aM,aM,Ak (n+2) Zw];obtain h1:eU (so "get") (κ<|Zz l') [κ<|.str x2,.ok<|.own<|.dict []]=κ ((lk l' x2).getD (.dict [])):=congrArg Zy<|Jm l' x2<|.dict [];obtain h2:eU (so "get") (κ<|Zz l') [κ<|.str x4,κ<|.int 5]=κ ((lk l' x4).getD (.int 5)):=congrArg Zy<|Jm l' x4<|.int 5;rw[h1,h2];refine Eq.trans (b:=rb (Zy<|Zx (.list [Zz l',(lk l' x2).getD (.dict []),(lk l' x4).getD (.int 5)])<|.int<|((hU 1).fmod 5).fmod 3) Zt) (by kernel_rfl) ?_;rw[J_];rfl
 ·rcases GA with rfl|rfl|rfl
  ·exact hB.ET
  ·exact Tr.mono (hB.get<|(BT.nil (m:=3)).ET) Zw
  ·exact Tr.mono (hB.get<|.int Zw) Zw
variable {m:Nat}
theorem Jn{Q:a_->Prop}:∀{l:List a_},(∀d∈l,t d=.ok ã\/t d=.ok â/\∃v,e d=.ok v/\Q (Zp v))->∃xs,aZ t e l=.ok xs/\∀x∈xs,Q x:=by
 intro v0;induction v0 with
 |nil=>intro _;exact⟨[],rfl,by simp⟩
 |cons d r ih=>
  intro h;refine aD (ih λd hd=>h d<|af _ hd) λxs e1 e2=>?_;have hs:aZ t e (d::r)=rb (nx<|t d) (λb=>if b then rb (nx<|e d) λv=>rb (aZ t e r) λxs=>.ok (Zp v::xs) else aZ t e r):=rfl;rcases h d (by simp) with h1|⟨h1,v,h2,h3⟩
  ·exact⟨xs,by rw[hs,h1,fF,aF,eO,e1],e2⟩
  ·refine⟨Zp v::xs,by rw[hs,h1,fF,aF,cT,h2,fF,aF,e1,aF],λx hx=>?_⟩;rcases List.mem_cons.mp hx with rfl|hx
   ·exact h3
   ·exact e2 x hx
theorem qI{f:d_->Option TT}(B:zl m l f):aK bX (Zy<|dO<|Zz l)=.ok (.own<|.list<|(aU<|ks l).map .str):=by rw[list_dict];show Zy (eX<|(ks l).map .str)=_;rw[jA<|by rw[cO];exact B.lt Zw];rfl
theorem Jo{xs:List a_}(h:xs≠[])(a:Int):∃x,x∈xs/\rb (Zy<|aG .Mod (.int a)<|.int xs.length) (λi=>Zy<|Zx (.list xs)<|Zp i)=κ x:=by have hl:=List.length_pos_iff.mpr h;have hr:=bB a (n:=(xs.length:Int))<|uS hl;have hk:=Nd hr;refine⟨xs[(a.fmod xs.length).toNat],go hk,?_⟩;rw[iH _<|Bz hl,aM,aF,gI,uC hr.1<|ai hk];rfl
theorem Jp(h:S≠[])(a:Int):∃x,x∈S/\rb (Zy<|aG .Mod (.int a)<|.int (S.map l_).length) (λi=>Zy<|Zx (.list<|S.map .str)<|Zp i)=κ (.str x):=by refine aD (Jo (xs:=S.map l_) (by simpa using h) a) λd hd e=>aD (ba.mp hd) λx hx zq=>?_;subst hd zq;exact⟨x,hx,e⟩
theorem Jq(n:Nat)(c:Int){f:d_->Option TT}(B:zl m l f)(fl:d_):IR (rn (n+1) H_ [.fz<|.int c,.fz<|Zz l,.fz<|.str fl])<|10 ^ 30:=by
 revert B;ext l m n c f fl
 refine aD (Jn (l:=(aU<|ks l).map .str) (t:=λd1=>zu<|fT (so "dict")<|Zy<|Zx (Zz l) d1) (e:=λd1=>Zy<|Zx (Zz l) d1) (Q:=λd=>∃m' lr g,d=Zz lr/\zl m' lr g) λd hd=>by
  refine aD (ba.mp hd) λk hk zq=>?_;subst hd zq;obtain⟨d,t,q1,q2,q3⟩:=B.key<|cP.mp hk;rw[bE q1];obtain⟨i,rfl,rfl,_⟩|⟨m',lr,g,_,rfl,rfl,C⟩:=q3.CP
  ·exact .inl rfl
  ·exact .inr ⟨rfl,_,rfl,m',lr,g,rfl,C⟩) λrows e1 h1=>?_
 refine aD (Jn (l:=rows) (t:=λd3=>zu<|fT (so "int")<|eU (so "get") (κ d3) [κ<|.str fl]) (e:=λd3=>Zy<|Zx d3<|.str fl) (Q:=λd=>∃i:Int,d=.int i/\i.natAbs<IT) λd hd=>by
  refine dN (h1 d hd) λm' lr g zq C=>?_;subst hd zq;rw[qD];refine zn (lk lr fl) (λe=>?_) λd e=>?_
  ·try rewrite[e]
   exact .inl rfl
  ·try rewrite[e]
   obtain⟨t,q1,q2⟩:=C.get' e;obtain⟨i,rfl,rfl,hi⟩|⟨_,lr,g,_,rfl,rfl,_⟩:=q2.CP
   ·exact .inr ⟨rfl,.fz<|.int i,by rw[bE e];rfl,i,rfl,hi⟩
   ·exact .inl rfl) λxs e2 h2=>?_
 rw[q0j,qI B];obtain E:∀X:R V,X=(if (xs.isEmpty||c.fmod 3==0)=â then κ (.int<|(c.fdiv 3).fmod 7 - 3) else rb (aB .Sub (aB .Add (rb (Zy<|aG .Mod (.int<|c.fdiv 3)<|.int xs.length) λi=>Zy<|Zx (.list xs)<|Zp i)<|aB .Mod (Zy<|aG .FloorDiv (.int c)<|.int 12)<|κ<|.int 3)<|κ<|.int 1) Zt)->IR X (10 ^ 30):=by
  rintro _ rfl
  refine DO ((xs.isEmpty||c.fmod 3==0)) (λhc=>?_) λhc=>?_
  ·try rewrite[hc]
   obtain zh:xs≠[]:=λe=>by rw[e] at hc;simp at hc
   refine aD (Jo zh<|c.fdiv 3) λx hx e=>aD (h2 x hx) λi zq hi=>?_;subst hx zq;refine⟨i+(c.fdiv 12).fmod 3 - 1,by rw[eO,e];kernel_rfl,?_⟩;exact az8 hi<|bB (c.fdiv 12) (n:=3) Zw
  ·try rewrite[hc]
   exact⟨(c.fdiv 3).fmod 7 - 3,by rw[cT],NJ (c:=3) (bB (c.fdiv 3) (n:=7) Zw) Zw⟩
 refine E _ ?_;show rb (rb (aZ _ _<|(aU<|ks l).map .str) λr=>Zy<|own<|.list r) (λv2=>rb (aN (BD<|Zy<|zi<|Zr v2) _ _) _)=_;rw[e1];show rb (rb (aZ _ _ rows) λr=>Zy<|own<|.list r) (λv4=>_)=_;rw[e2];obtain hb:aC (Zy<|zi<|Zr<|.own<|.list xs) .Eq (.ok<|.own<|.list [])=κ (.bool xs.isEmpty):=by show aS (Zy<|CU (.list xs)<|.list [])=_;rw[I6];rfl
 show zp (BH (aC (Zy<|zi<|Zr<|.own<|.list xs) .Eq<|.ok<|.own<|.list []) _) _ _=_;rw[hb];cases xs.isEmpty with
 |true=>kernel_rfl
 |false=>
  show(if (c.fmod 3==0)=â then _ else _)=_;cases (c.fmod 3==0) with
  |true=>kernel_rfl
  |false=>rw[eO];generalize hZ:rb (Zy<|aG .Mod (.int<|c.fdiv 3)<|.int xs.length) (λi=>Zy<|Zx (.list xs)<|Zp i)=Z;rw[(hZ▸by kernel_rfl:aI (bG<|Zr<|Zr<|.own<|.list xs) (aB .Mod (Zy<|aG .FloorDiv (.int c)<|.int 3)<|aK bQ<|Zy<|zi<|Zr<|Zr<|.own<|.list xs)=Z)];rfl
inductive BS(h g:Nat)(r:R V):Prop where
 |mk (w:WW) (e:r=κ (Zq w)) (o:BV w) (i:w.AY=ã) (a:w.AG<=h) (b:w.grow<=g):BS h g r
theorem BS.whole:BS h g<|κ<|.tuple [.str<|so "whole"]:=⟨.whole,rfl,trivial,rfl,ay _,ay _⟩
theorem BS.ite{c a b:R V}{t:Bool}(hc:c=κ (.bool t))(ha:t=â->BS h g a)(hb:t=ã->BS h g b):BS h g<|zp c a b:=by
 rw[hc];cases t with
 |true=>exact ha rfl
 |false=>exact hb rfl
theorem q31(a b c:a_):aO [κ a,κ b,κ c]=κ (.tuple [a,b,c]):=rfl
theorem Jr(n:Nat)(c:Int){f:d_->Option TT}(B:zl m l f):BS 0 1<|zp (rn (n+1) EB [.fz<|Zz l]) (rb (aI (.ok NL)<|aB .Add (κ<|.int 5)<|aB .Mod (Zy<|aG .FloorDiv (.int c)<|.int 4)<|κ<|.int 4) λv3=>(rb (aO [(κ<|.str<|so "sift"),(Zy<|zi<|Zr v3),(aE (rn (n+1) H_) [(Zy<|aG .FloorDiv (.int c)<|.int 16),(κ<|Zz l),(bS<|Zr v3)])]) Zt))<|κ<|.tuple [(.str<|so "whole")]:=by
 refine BS.ite (qC n B.toSem) (λ_=>?_) λ_=>BS.whole;obtain⟨x,hx,_,hg⟩:=eF (i:=5+(c.fdiv 4).fmod 4)<|B5<|bB (c.fdiv 4) (n:=4) Zw;obtain⟨i,hi,hb⟩:=Jq n (c.fdiv 16) B x;rw[((by kernel_rfl:_=Zy (Zx NL<|.int<|5+(c.fdiv 4).fmod 4)).trans (by rw[hg];rfl):aI (.ok NL) (aB .Add (κ<|.int 5)<|aB .Mod (Zy<|aG .FloorDiv (.int c)<|.int 4)<|κ<|.int 4)=κ (.str x)),aF,
  ((by kernel_rfl:_=rn (n+1) H_ [.fz<|.int<|c.fdiv 16,.fz<|Zz l,.fz<|.str x]).trans hi:aE (rn (n+1) H_) [(Zy<|aG .FloorDiv (.int c)<|.int 16),(κ<|Zz l),(bS<|Zr<|.fz<|.str x)]=κ (.int i))]
 exact⟨.sift x i,rfl,⟨hx,hb⟩,rfl,bv _,ay _⟩
theorem Js(n:Nat)(c:Int){nl:a_}(h:b7 d=ã):rn (n+1) GW [.fz<|.int c,.fz d,.fz nl]=κ (.tuple [.str<|so "whole"]):=by rw[Hk,h];rfl
theorem q32(n:Nat)(c:Int){f:d_->Option TT}(B:zl m l f):BS 0 1<|rn (n+2) GW [.fz<|.int c,.fz<|Zz l,.fz NL]:=by
 ext l m n c f
 rw[Hk];refine BS.ite (t:=c.fmod 4==0) (by kernel_rfl) (λ_=>BS.whole) λ_=>?_;rw[qI B,aF];have hmem:∀x∈aU (ks l),x∈ks l:=λx hx=>cP.mp hx;generalize aU (ks l)=S at hmem;obtain hc:bD (aC (Zy<|zi<|Zr<|.own<|.list<|S.map .str) .NotEq<|.ok<|.own<|.list []) (aC (Zy<|aG .Mod (.int c)<|.int 4) .Lt<|κ<|.int 3)=κ (.bool (!S.isEmpty&&decide (c.fmod 4<3))):=by rw[show aC (Zy<|zi<|Zr<|.own<|.list<|S.map .str) .NotEq (.ok<|.own<|.list [])=κ (.bool (!S.isEmpty)) from (congrArg (λp=>aS<|Zy<|b6 p)<|pR S).trans rfl];cases S.isEmpty<;>kernel_rfl
 refine BS.ite hc (λht=>?_) λ_=>Jr n c B;obtain hS:S≠[]:=λe=>by rw[e] at ht;simp at ht
 refine aD (Jp hS<|c.fdiv 4) λx hx hix=>?_;rw[((by kernel_rfl:_=rb (Zy<|aG .Mod (.int<|c.fdiv 4)<|.int (S.map l_).length) (λi=>Zy<|Zx (.list<|S.map .str)<|Zp i)).trans hix:aI (bG<|Zr<|Zr<|.own<|.list<|S.map .str) (aB .Mod (Zy<|aG .FloorDiv (.int c)<|.int 4) (aK bQ<|Zy<|zi<|Zr<|Zr<|.own<|.list<|S.map .str) )=κ (.str x))];refine BS.ite (t:=c.fmod 4==1) (by kernel_rfl) (λ_=>⟨.pick x,rfl,B.sub x<|hmem x hx,rfl,bv _,bv _⟩) λ_=>?_;obtain⟨y,hy,_,hg⟩:=eF (i:=(c.fdiv 16).fmod 14)<|bB (c.fdiv 16) (n:=14) Zw;rw[((by kernel_rfl:_=Zy (Zx NL<|.int<|(c.fdiv 16).fmod 14)).trans (by rw[hg];rfl):aI (.ok NL) (aB .Mod (Zy<|aG .FloorDiv (.int c)<|.int 16)<|κ<|.int 14)=κ (.str y)),aF];refine BS.ite (t:=!(lk l y).isSome) ((congrArg (λp=>aS<|Zy<|b6 p)<|eE l y).trans rfl) (λhn=>?_) λ_=>Jr n c B;refine⟨.call x y,rfl,⟨B.sub x<|hmem x hx,hy,λe=>?_⟩,rfl,bv _,ay _⟩;subst hy hg e;rw[pL.mpr<|hmem x hx] at hn;exact zk hn
variable {m:Nat}
theorem q33(n:Nat)(c:Int)(h:(∃m t,Sem m d t)\/d=.none):BS 0 1<|rn (n+2) GW [.fz<|.int c,.fz d,.fz NL]:=by
 rcases h with ⟨m,t,h⟩|rfl
 ·obtain⟨i,_⟩|⟨m,l,f,B⟩:=h.inv
  ·rw[Js (n+1) c rfl];exact BS.whole
  ·exact q32 n c B
 ·rw[Js (n+1) c rfl];exact BS.whole
inductive XT(m:Nat)(o:Option TT)(r:R V):Prop where
 |mk (v:V) (d':a_) (e:r=.ok v) (c:v.cl=.fz d') (h:(∃s,o=à s/\Sem m d' s)\/o=á/\d'=.none):XT m o r
theorem q34{w:WW}(ho:BV w)(hr:w.AY=ã){t:TT}(hn:w.AG+m+3<=n)(hd:Sem m d t):XT m (aY w t)<|rn n BJ [.fz<|Zq w,.fz d]:=by
 have h:=(Jc ho).1 hr hn hd;cases hs:aY w t with
 |none=>rw[hs] at h;exact⟨_,_,h,rfl,.inr ⟨rfl,rfl⟩⟩
 |some s=>rw[hs] at h;obtain⟨v,d',a,b,c⟩:=h;exact⟨v,d',a,b,.inl ⟨s,rfl,c⟩⟩
theorem q35{l:List d_}{a b:Int}(h0:0<=a)(h1:a<=b)(h2:b<=l.length):(slice l (à a)<|some b).length=b.toNat - a.toNat:=by show((l.drop<|clipAt l.length a).take (clipAt l.length b - clipAt l.length a)).length=_;rw[uE h0<|cj h1 h2,uE (cj h0 h1) h2,oh,jl,sy];have:=yv h2;rw[jm] at this;exact Nat.sub_le_sub_right this _
theorem q36{l:List d_}{lo:Option Int}(h:l.Nodup):(slice l lo hi).Nodup:=((List.take_sublist _ _).trans (List.drop_sublist _ _)).nodup h
theorem Jt{i j:Nat}(ha:NN[i]?=à a)(hb:NN[j]?=à b)(MI:i≠j){lo hi:Int}(h0:0<=lo)(h1:lo<hi)(h2:hi<=lo+6)(h3:hi<=14):BV<|.join a b<|slice NN (à lo)<|some hi:=by have hl:=q35 (l:=NN) h0 (ij h1) (by rw[HW.len];exact h3);refine Zs (bw.mp ha) λp1 p2=>?_;refine Zs (bw.mp hb) λq1 q2=>?_;refine⟨⟨p2▸go p1,q2▸go q1,λe=>MI ?_⟩,⟨by exact Nf h0 h1 hl,by exact Ng h2 hl⟩,q36 HW.nd,λf hf=>qH hf⟩;exact(jr (h₀:=p1) (h₁:=q1) HW.nd).mp (p2.trans<|e.trans q2.symm)
theorem q37(a:WW):aO [κ<|.str<|so "each",κ<|Zq a]=κ (Zq<|.each a):=rfl
theorem Ju(a b:d_)(fs:List d_):aO [κ<|.str<|so "join",κ<|.str a,κ<|.str b,κ<|.tuple<|fs.map .str]=κ (Zq<|.join a b fs):=rfl
theorem q38(a:d_):aO [κ<|.str<|so "pick",κ<|.str a]=κ (Zq<|.pick a):=rfl
theorem q39(a b:d_):aO [κ<|.str<|so "call",κ<|.str a,κ<|.str b]=κ (Zq<|.call a b):=rfl
theorem q4a(a:d_)(i:Int):aO [κ<|.str<|so "sift",κ<|.str a,κ<|.int i]=κ (Zq<|.sift a i):=rfl
theorem Jv(n:Nat)(c:Int){t:TT}(hd:Sem m d t)(hn:m+4<=n):BS 1 2<|rn (n+1) GW [.fz<|.int c,.fz d,.fz NL]:=by refine AM (c:=1) n hn hn λn hn=>?_;obtain⟨w,e,o,r,h,g⟩:=q33 n c<|.inl ⟨m,t,hd⟩;exact⟨w,e,o,r,aa h Zw,aa g Zw⟩
variable {m:Nat}
def gK:List (d_×d_×WW)->WW
 | []=>.bnil
 |x::r=>.bcons x.1 x.2.1 x.2.2<|gK r
def jB(x:d_×d_×WW):a_:=.tuple [.str x.1,.str x.2.1,Zq x.2.2]
theorem At:∀L:List (d_×d_×WW),(gK L).AY=â
 | []=>rfl
 |_::_=>rfl
theorem Jw:∀L:List (d_×d_×WW),bI (gK L)=L.map jB
 | []=>rfl
 |x::r=>by show .tuple [.str x.1,.str x.2.1,Zq x.2.2]::bI (gK r)=_;rw[Jw r];rfl
theorem nU:∀L:List (d_×d_×WW),(gK L).names=L.map (·.1)/\(gK L).parts=L.map (·.2.1)
 | []=>⟨rfl,rfl⟩
 |x::r=>⟨congrArg (x.1::·) (nU r).1,congrArg (x.2.1::·) (nU r).2⟩
theorem q4b:∀{L:List<|Str×d_×WW},(∀x∈L,x.1∈NN/\x.2.1∈NN/\BV x.2.2/\x.2.2.AY=ã/\x.2.2.AG<=h/\x.2.2.grow<=g)->(L.map (·.1)).Nodup->(L.map (·.2.1)).Nodup->BV (gK L)/\(gK L).AG<=h/\(gK L).grow<=g:=by
 intro v0;induction v0 with
 |nil=>intro _ _ _;exact⟨trivial,ay _,ay _⟩
 |cons x r ih=>
  intro hx h1 h2;refine AN λΘ θ=>zj (bh.mp h1) λa1 a2=>zj (bh.mp h2) λb1 b2=>bP (ih (λy hy=>hx y<|af _ hy) a2 b2) λi1 i2 i3=>uO (hx x<|by simp) λc1 c2 c3 c4 c5 c6=>θ ?_;refine⟨⟨⟨c1,c2⟩,⟨c3,c4⟩,⟨i1,At r⟩,?_,?_⟩,Nat.max_le.mpr ⟨c5,i2⟩,Nat.max_le.mpr ⟨c6,i3⟩⟩
  ·rw[(nU r).1];exact a1
  ·rw[(nU r).2];exact b1
theorem Jx:∀{k:Nat} {i:Int} {q r:List a_} {d:a_},fW i k=q++d::r->d=.int (i+q.length)/\q.length<k
 |0,i,q,r,d,h=>by cases q<;>cases h
 |k+1,i,[],r,d,h=>by have h:=h;cases h;exact⟨by simp,by simp⟩
 |k+1,i,x::q,r,d,h=>by
  refine zj (Jx (yi<|h).2) λh1 h2=>⟨?_,by simpa using h2⟩
  rw[h1,pg];congr 1;exact Nh
theorem q4c:∀(k:Nat) (i:Int),(fW i k).length=k:=by
 intro v0;induction v0 with
 |zero=>intro _;exact rfl
 |succ k ih=>intro i;exact congrArg (·+1)<|ih<|i+1
theorem Au{a:Int}{n:Int}(hn:n=xs.length)(h:0<n):∃x,x∈xs/\xs[(a.fmod n).toNat]?=à x/\Zx (.list<|xs.map .str) (.int<|a.fmod n)=.ok (.fz<|.str x):=by have hr:=bB a h;have hk:=Ni hn hr;refine⟨xs[(a.fmod n).toNat],go hk,ai hk,uC hr.1 ?_⟩;rw[lz,ai hk];rfl
theorem q4d{a n:Int}{i j:Nat}(hn:0<n)(hj:(j:Int)<n)(MI:i<j):(a+i).fmod n≠(a+j).fmod n:=by
 rw[jc _<|uR hn,jc _<|uR hn];intro e;have:=Int.emod_emod_of_dvd (a+j - (a+i))<|Int.dvd_refl n;have h1:(a+j - (a+i)) % n=0:=by rw[Int.sub_emod,e,xo,Int.zero_emod]
 rw[(Nj),uw (Nk MI)<|Nl hj] at h1;exact az9 MI h1
theorem Jy{ys:List d_}{n a:Int}(hx:xs.Nodup)(hn:n=xs.length)(DP:0<n)(hl:(ys.length:Int)<=n)(h:∀(i:Nat) y,ys[i]?=à y->xs[((a+i).fmod n).toNat]?=à y):ys.Nodup:=by refine List.pairwise_iff_getElem.mpr λi j hi hj MI e=>?_;have h2:=h j _<|ai hj;rw[<- e] at h2;refine Zs (bw.mp<|h i _<|ai hi) λp1 p2=>?_;refine Zs (bw.mp h2) λq1 q2=>?_;exact q4d (a:=a) DP (Nm hl hj) MI<|Nn ((jr (h₀:=p1) (h₁:=q1) hx).mp (p2.trans q2.symm)) (bB (a+i) DP)<|bB (a+j) DP
theorem q4e(n:Nat)(c:Int){f:d_->Option TT}(B:zl m l f)(hn:m+4<=n)(hS:aU (ks l)≠[]):BS 2 2<|rn (n+2) QR [.fz<|.int c,.fz<|Zz l,.fz<|.list<|(aU<|ks l).map .str,.fz NL]:=by
 ext l m n c f
 have IF:=Iy B.nd;have hmem:∀x∈aU (ks l),x∈ks l:=λx hx=>cP.mp hx;obtain hlen:(aU<|ks l).length<=14:=by rw[tZ B.nd,cO];have:=B.len;rw[HW.len] at this;exact this
 generalize aU (ks l)=S at hS IF hmem hlen;have KB:=List.length_pos_iff.mpr hS;rw[q0k];refine AN λ_ θ=>?_;obtain⟨K,hK1,UF,hK3,hK⟩:∃K:Nat,1<=K/\K<=6/\K<=S.length/\ES (pA [Zy<|bQ<|.list<|S.map .str,aB .Add (κ<|.int 1)<|aB .Mod (Zy<|aG .FloorDiv (.int c)<|.int 16)<|κ<|.int 6])=.ok (fW 0 K):=by
  obtain⟨K,h1,h2,h3,e⟩:=Oi (bB (c.fdiv 16) (n:=6) Zw) KB;refine⟨K,h1,h2,h3,?_⟩
  ·refine Eq.trans (b:=Zy<|uZ<|.int<|if 1+(c.fdiv 16).fmod 6<((S.map l_).length:Int) then 1+(c.fdiv 16).fmod 6 else ((S.map l_).length:Int)) (by kernel_rfl) ?_;rw[j_,e];exact congrArg Zy<|if_pos<|Oj h2
 apply θ;rw[hK,aF];obtain L:=pM (S:=λ(a:List<|Str×d_×WW) (o:Option V×Option V)=>lC (ζ<|.int c) (ζ<|Zz l) (ζ<|.list<|S.map .str) (ζ NL) (à<|.own<|.list<|a.map jB) o.1 o.2) (b:=yV<|n+1) (t:=yW) (l:=fW 0 K) (p:=[]) (a:=[]) (j:=(á,á))
  (I:=λp a=>a.length=p.length/\(∀x∈a,x.1∈NN/\x.2.1∈NN/\BV x.2.2/\x.2.2.AY=ã/\x.2.2.AG<=1/\x.2.2.grow<=2)/\(∀(i:Nat) y,(a.map (·.1))[i]?=à y->NN[((c.fdiv 64+i).fmod 14).toNat]?=à y)/\∀(i:Nat) y,(a.map (·.2.1))[i]?=à y->S[((c+i).fmod S.length).toNat]?=à y) (E:=λ_=>False) (Q:=λ_=>False) (λq d r a o hq hi=>by
   refine AN λΘ θ=>zj (Jx (hq:fW 0 K=q++d::r)) λhd hqk=>?_;rw[Int.zero_add] at hd;subst hq hd;refine fO hi λh1 h2 h3 h4=>bN (Au (xs:=S) (a:=c+q.length) (n:=S.length) rfl (uS KB)) λx hx ix gx=>bN (Au (xs:=NN) (a:=c.fdiv 64+q.length) (n:=14) (by rw[HW.len];rfl) Zw) λy hy iy gy=>?_;obtain⟨dx,tx,q1,q2,q3⟩:=B.key<|hmem x hx;obtain⟨w,e,ow,DS,hw,gw⟩:=Jv n (c.fdiv 7+5*q.length) q3 hn;apply θ;refine BM.kn (a++[(y,x,w)]) (à<|.fz<|.int q.length,à<|.fz<|.str x) ⟨by simp[h1],λz hz=>?_,λi z hz=>?_,λi z hz=>?_⟩ λkn kr=>?_
   ·rcases List.mem_append.mp hz with hz|hz
    ·exact h2 z hz
    ·rw[List.mem_singleton.mp hz];exact⟨hy,B.sub x<|hmem x hx,ow,DS,hw,gw⟩
   ·rw[ej,xu] at hz
    split at hz
    ·exact h3 i z hz
    ·rename_i zw;rw[j_,h1] at zw hz;have hi:i - q.length=0:=by
      rcases yq (i - q.length) with h|h
      ·exact h
      ·rw[dg<|by simp;exact B6 h] at hz;exact ns hz
     obtain this:=B7 zw hi;subst zw this;rw[hi] at hz;replace hz:=si hz;subst hz;exact iy
   ·rw[ej,xu] at hz
    split at hz
    ·exact h4 i z hz
    ·rename_i zw;rw[j_,h1] at zw hz;have hi:i - q.length=0:=by
      rcases yq (i - q.length) with h|h
      ·exact h
      ·rw[dg<|by simp;exact B6 h] at hz;exact ns hz
     obtain this:=B7 zw hi;subst zw this;rw[hi] at hz;replace hz:=si hz;subst hz;exact ix
   ·rw[q0l,aM,aF,q0m];obtain z1:aI (.ok<|.list<|S.map .str) (aB .Mod (Zy<|aG .Add (.int c)<|.int q.length)<|Zy<|bQ<|.list<|S.map .str)=κ (.str x):=by
     refine Eq.trans (b:=rb (Zy<|aG .Mod (.int<|c+q.length)<|.int (S.map l_).length) λi=>Zy<|Zx (.list<|S.map .str)<|Zp i) (by kernel_rfl) ?_;rw[j_,iH _<|Bz KB,aM,aF,gI,gx];rfl
    obtain z2:aI (.ok NL) (aB .Mod (aB .Add (Zy<|aG .FloorDiv (.int c)<|.int 64)<|κ<|.int q.length)<|κ<|.int 14)=κ (.str y):=by refine Eq.trans (b:=Zy<|Zx NL<|.int<|(c.fdiv 64+q.length).fmod 14) (by kernel_rfl) ?_;rw[show Zx NL (.int<|(c.fdiv 64+q.length).fmod 14)=_ from gy];rfl
    obtain z3:aE (rn (n+1) GW) [(aB .Add (Zy<|aG .FloorDiv (.int c)<|.int 7)<|Zy<|aG .Mult (.int 5)<|.int q.length),(aI (.ok<|Zz l)<|κ<|.str x),(κ NL)]=κ (Zq w):=by rw[show aI (.ok<|Zz l) (κ<|.str x)=κ dx from congrArg Zy<|bE q1];exact(by kernel_rfl:_=rn (n+1) GW [.fz<|.int<|c.fdiv 7+5*q.length,.fz dx,.fz NL]).trans e
    rw[z1,aF,cY,dT,aM,z2,z3,q31];show rb (Zy<|if (a.map jB).length<a8 then P.ok (ur<|a.map jB++[jB (y,x,w)]) else .no) _=_;rw[if_pos (by rw[j_,h1];have:a8=16777216:=rfl;exact No UF hqk this),(by simp:a.map jB++[jB (y,x,w)]=(a++[(y,x,w)]).map jB)];rfl) ⟨rfl,λx hx=>(by cases hx),λi y h=>(by cases i<;>cases h),λi y h=>(by cases i<;>cases h)⟩
 obtain⟨a,o,⟨h1,h2,h3,h4⟩,e⟩|⟨_,hx,_⟩|⟨_,hv,_⟩:=L
 ·rw[su,q4c] at h1;refine AN λΘ θ=>bP (q4b h2 (Jy (xs:=NN) (n:=14) HW.nd (by rw[HW.len];rfl) Zw (by rw[j_];exact Np UF h1) h3)<|Jy (xs:=S) (n:=S.length) IF rfl (uS KB) (by rw[j_];exact Nq hK3 h1) h4) λk1 k2 k3=>θ ?_;refine⟨.beside<|gK a,?_,⟨⟨k1,At a⟩,?_,?_⟩,rfl,be k2,k3⟩
  ·refine(e _ _).trans ((q0n ..).trans ?_);show Zt (V.fz<|.tuple [.str<|so "beside",.tuple<|a.map jB])=Zt (V.fz<|.tuple [.str<|so "beside",Zq<|gK a]);rw[iF<|At a,Jw]
  ·rw[(nU a).1,j_];exact h1▸hK1
  ·rw[(nU a).1,j_];exact h1▸UF
 ·exact hx.elim
 ·exact hv.elim
variable {m:Nat}
theorem q4f(S:List d_):aC (κ<|.list<|S.map .str) .NotEq (.ok<|.own<|.list [])=κ (.bool (!S.isEmpty)):=(congrArg (λp=>aS<|Zy<|b6 p)<|pR S).trans rfl
inductive XM(i:Int)(r:R V):Prop where
 |mk (x:d_) (h:x∈NN) (g:NN[i.toNat]?=à x) (e:r=κ (.str x)):XM i r
theorem lL{e:R V}(he:e=κ (.int i))(h:0<=i/\i<14):XM i<|aI (.ok NL) e:=by obtain⟨x,hx,ix,gx⟩:=eF h;exact⟨x,hx,ix,by rw[he];exact congrArg Zy gx⟩
theorem uG(h:S≠[])(M:Int):∃x,x∈S/\aI (.ok<|.list<|S.map .str) (aB .Mod (κ<|.int M)<|aK bQ<|κ<|.list<|S.map .str)=κ (.str x):=by exact aD (Jp h M) λx hx e=>⟨x,hx,(by kernel_rfl:_=rb (Zy<|aG .Mod (.int M)<|.int (S.map l_).length) (λi=>Zy<|Zx (.list<|S.map .str)<|Zp i)).trans e⟩
theorem Av{lo hi:R V}{a b:Int}(h1:lo=κ (.int a))(h2:hi=κ (.int b)):dX (.ok NL) (à lo) (à hi)=.ok (.own<|.list<|(slice NN (à a)<|some b).map .str):=by rw[h1,h2];exact congrArg Zy<|Jk _ _
set_option maxHeartbeats 1000000 in
theorem q4g(n:Nat)(c:Int){t:TT}(hd:Sem m d t)(hn:m+4<=n):BS 2 2<|rn (n+3) "_law_piece" [.fz<|.int c,.fz d,.fz NL]:=by
 ext d m n c t
 rw[q0o,(iH _ Zw:aG .Mod (.int c) (.int 10)=.ok (.fz<|.int<|c.fmod 10)),(kD _ Zw:aG .FloorDiv (.int c) (.int 10)=.ok (.fz<|.int<|c.fdiv 10))];simp only[aM,aF,cY,dT,dS];generalize c.fmod 10=K;generalize c.fdiv 10=M;obtain⟨i,_⟩|⟨m,l,f,B⟩:=hd.inv
 ·exact BS.whole
 refine BS.ite (t:=K==0) (by kernel_rfl) (λ_=>BS.whole) λ_=>?_;rw[qI B];simp only[aF,iW,cY,dT,aM,dS,j6];have ψ:=q4e n M B<|Nr hn;have hmem:∀x∈aU (ks l),x∈ks l:=λx hx=>cP.mp hx;generalize aU (ks l)=S at hmem ψ;obtain⟨x4,m4,_,g4⟩:=lL (e:=aB .Add (.ok<|.fz<|.int 5)<|aB .Mod (.ok<|.fz<|.int M)<|.ok<|.fz<|.int 4) (i:=5+M.fmod 4) (by kernel_rfl)<|B5<|bB M (n:=4) Zw;obtain⟨i5,hi5,hb5⟩:=Jq (n+1) (M.fdiv 4) B x4;rw[g4];rw[aF,cY,dT,aM,dS];rw[((by kernel_rfl:_=rn (n+2) H_ [.fz<|.int<|M.fdiv 4,.fz<|Zz l,.fz<|.str x4]).trans hi5:aE (rn (n+2) H_) [(aB .FloorDiv (.ok<|.fz<|.int M)<|.ok<|.fz<|.int 4),(.ok<|.fz<|Zz l),.ok<|.fz<|.str x4]=.ok (.fz<|.int i5)),q4a,q4f];rw[aF];refine BS.ite (t:=decide (K<3)&&!S.isEmpty) (by
  rw[show aC (Zt<|V.fz<|.int K) .Lt (.ok<|.fz<|.int 3)=.ok (.fz<|.bool<|decide (K<3)) from Zv];cases decide (K<3)<;>rfl) (λht=>?_) λ_=>?_
 ·obtain hS:S≠[]:=λe=>by rw[e] at ht;simp at ht
  refine aD (uG hS M) λx hx e=>?_;rw[e,q38];exact⟨.pick x,rfl,B.sub x<|hmem x hx,rfl,ay _,ao _⟩
 obtain⟨y,hy,_,gy⟩:=lL (e:=aB .Mod (aB .FloorDiv (.ok<|.fz<|.int M)<|.ok<|.fz<|.int 16)<|.ok<|.fz<|.int 14) (i:=(M.fdiv 16).fmod 14) (by kernel_rfl)<|bB (M.fdiv 16) (n:=14) Zw;rw[gy,show aC (Zt<|V.fz<|.str y) .NotIn (Zt<|V.fz<|.list<|S.map .str)=.ok (.fz<|.bool !(S.contains y)) from by
  show aS (Zy<|b6<|(AT<|CI<|S.map .str).bind λss=>P.ok<|ss.contains y)=_;rw[iD];rfl]
 refine BS.ite (t:=K==3&&(!S.isEmpty&&!(S.contains y))) (by
  rw[show aC (Zt<|V.fz<|.int K) .Eq (.ok<|.fz<|.int 3)=.ok (.fz<|.bool<|K==3) from Zv];cases (K==3)<;>cases S.isEmpty<;>rfl) (λht=>?_) λ_=>?_
 ·obtain hS:S≠[]:=λe=>by rw[e] at ht;simp at ht
  refine aD (uG hS M) λx hx e=>?_;rw[e,q39];exact⟨.call x y,rfl,⟨B.sub x<|hmem x hx,hy,λe=>(λh=>by simp[h] at ht)<|e▸hx⟩,rfl,ay _,ay _⟩
 refine BS.ite (t:=K==4&&!S.isEmpty) (by
  rw[show aC (Zt<|V.fz<|.int K) .Eq (.ok<|.fz<|.int 4)=.ok (.fz<|.bool<|K==4) from Zv];cases (K==4)<;>rfl) (λht=>?_) λ_=>?_
 ·obtain hS:S≠[]:=λe=>by rw[e] at ht;simp at ht
  obtain⟨w,e,a1,a2,a3,a4⟩:=ψ hS;rw[show aE (rn (n+2) QR) [.ok<|.fz<|.int M,(.ok<|.fz<|Zz l),.ok<|.fz<|.list<|S.map .str,(.ok<|.fz NL)]=.ok (.fz<|Zq w) from e];exact⟨w,rfl,a1,a2,a3,a4⟩
 refine BS.ite (t:=K==7||K==8) (by
  rw[show aC (Zt<|V.fz<|.int K) .Eq (.ok<|.fz<|.int 7)=.ok (.fz<|.bool<|K==7) from Zv];cases (K==7)<;>kernel_rfl) (λ_=>?_) λ_=>?_
 ·have r2:=bB M (n:=2) Zw;have r8:=bB (M.fdiv 8) (n:=4) Zw;have WE:=bB (M.fdiv 32) (n:=6) Zw;obtain⟨a,ma,ia,ga⟩:=lL (e:=aB .Add (.ok<|.fz<|.int 2)<|aB .Mod (.ok<|.fz<|.int M)<|.ok<|.fz<|.int 2) (i:=2+M.fmod 2) (by kernel_rfl)<|Nt r2;obtain⟨b,mb,ib,gb⟩:=lL (e:=aB .Sub (.ok<|.fz<|.int 3)<|aB .Mod (.ok<|.fz<|.int M)<|.ok<|.fz<|.int 2) (i:=3 - M.fmod 2) (by kernel_rfl)<|Nu r2;have I_:(2+M.fmod 2).toNat≠(3 - M.fmod 2).toNat:=Nv<|bB _ Zw;rw[ga,gb,show aB .Add (Zt<|V.fz<|.int 5) (aB .Mult (.ok<|.fz<|.int 2)<|aB .Mod (.ok<|.fz<|.int M)<|.ok<|.fz<|.int 2)=.ok (.fz<|.int<|5+2*M.fmod 2) from Zv];rw[aF,cY,dT,aM];rw[Av (a:=5+2*M.fmod 2) (b:=5+2*M.fmod 2+2) rfl (by kernel_rfl)];rw[aF,iW,dT,aM];refine BS.ite (t:=(M.fdiv 2).fmod 4==1) (by kernel_rfl) (λ_=>?_) λ_=>?_
  ·rw[show aB .Add (Zt<|V.fz<|.int 4) (aB .Mod (aB .FloorDiv (.ok<|.fz<|.int M)<|.ok<|.fz<|.int 8)<|.ok<|.fz<|.int 4)=.ok (.fz<|.int<|4+(M.fdiv 8).fmod 4) from Zv];rw[aF,cY,dT,aM];rw[Av (a:=4+(M.fdiv 8).fmod 4) (b:=4+(M.fdiv 8).fmod 4+1+(M.fdiv 32).fmod 6) rfl (by kernel_rfl)];rw[aF,iW,dT,aM];rw[show aK kH (Zt<|V.fz<|.list<|(slice NN (à<|4+(M.fdiv 8).fmod 4)<|some<|4+(M.fdiv 8).fmod 4+1+(M.fdiv 32).fmod 6).map .str)=.ok (.fz<|.tuple<|(slice NN (à<|4+(M.fdiv 8).fmod 4)<|some<|4+(M.fdiv 8).fmod 4+1+(M.fdiv 32).fmod 6).map .str) from rfl,Ju];exact⟨.join a b _,rfl,Jt ia ib I_ (Nw r8) (Nx WE) (Ny WE)<|Nz r8 WE,rfl,ay _,ao _⟩
  ·rw[show aK kH (Zt<|V.fz<|.list<|(slice NN (à<|5+2*M.fmod 2)<|some<|5+2*M.fmod 2+2).map .str)=.ok (.fz<|.tuple<|(slice NN (à<|5+2*M.fmod 2)<|some<|5+2*M.fmod 2+2).map .str) from rfl,Ju];exact⟨.join a b _,rfl,Jt ia ib I_ (N0 r2) N2 N3<|N4 r2,rfl,ay _,ao _⟩
 refine BS.ite (t:=K==9) (by kernel_rfl) (λ_=>?_) λ_=>⟨.sift x4 i5,rfl,⟨m4,hb5⟩,rfl,ay _,ay _⟩
 obtain⟨dx,IE,tx,hx⟩:∃dx,fC (.ok<|.fz<|.bool (!S.isEmpty)) (aI (.ok<|Zz l)<|aI (.ok<|.list<|S.map .str)<|aB .Mod (.ok<|.fz<|.int M)<|aK bQ<|.ok<|.fz<|.list<|S.map .str) (.ok<|.fz<|.int 0)=.ok (.fz dx)/\∃tx,Sem m dx tx:=by
  cases hE:S.isEmpty with
  |true=>exact⟨.int 0,rfl,_,.num Zw⟩
  |false=>
   obtain hS:S≠[]:=λe=>by rw[e] at hE;exact FZ hE
   refine aD (uG hS M) λx hx e=>?_;obtain⟨dx,tx,q1,q2,q3⟩:=B.key<|hmem x hx;refine⟨dx,?_,tx,q3⟩;rw[e];exact congrArg Zy<|bE q1
 obtain⟨w,e,ow,DS,hw,gw⟩:=Jv (n+1) (M.fdiv 5) hx<|N5 hn;rw[IE,((by kernel_rfl:_=rn (n+2) GW [.fz<|.int<|M.fdiv 5,.fz dx,.fz NL]).trans e:aE (rn (n+2) GW) [(aB .FloorDiv (.ok<|.fz<|.int M)<|.ok<|.fz<|.int 5),.ok<|.fz dx,(.ok<|.fz NL)]=.ok (.fz<|Zq w)),q37];exact⟨.each w,rfl,⟨ow,DS⟩,rfl,be hw,gw⟩
inductive SP(h g:Nat)(t:TT)(r:R V):Prop where
 |mk (w:WW) (e:r=κ (Zq w)) (o:BV w/\w.AY=ã) (a:w.AG<=h/\w.grow<=g) (s:TT) (i:aY w t=à s):SP h g t r
theorem q4h(n:Nat)(c:Int){t:TT}(hd:Sem m d t)(hn:m+4<=n):SP 2 2 t<|rn (n+4) TO [.fz<|.int c,.fz d,.fz NL]:=by
 obtain⟨w,e,ow,DS,hw,gw⟩:=q4g n c hd hn;obtain⟨v,d',s1,s2,s3⟩:=q34 ow DS (n:=n+3) (N6 hn hw) hd;rw[q0p,e];rw[aF,cY,dS,dT,aM];rw[show aE (rn (n+3) BJ) [κ<|Zq w,κ d]=.ok v from s1];show SP 2 2 t (rb (if fV (Zp v)=â then _ else _) Zt);rw[iE s2];rcases s3 with ⟨s,h1,h2⟩|⟨h1,h2⟩
 ·rw[h2.RW];exact⟨w,rfl,⟨ow,DS⟩,⟨hw,gw⟩,s,h1⟩
 ·rw[h2];exact⟨.whole,rfl,⟨trivial,rfl⟩,⟨ay _,ay _⟩,t,rfl⟩
variable {m:Nat}
theorem q4i(l:List<|PyData×a_):JQ (.dp<|.dict l)=.own (.dict l):=rfl
theorem Gives.ite{P:a_->Prop}{c a b:R V}{t:Bool}(hc:c=κ (.bool t))(ha:t=â->Gives a P)(hb:t=ã->Gives b P):Gives (zp c a b) P:=by
 rw[hc];cases t with
 |true=>exact ha rfl
 |false=>exact hb rfl
theorem q4j{a b:a_}(h:0<=i/\i<2):∃d,Zx (.list [a,b]) (.int i)=.ok (.fz d)/\(d=a\/d=b):=by
 obtain this:=nX h;rcases this with rfl|rfl
 ·exact⟨a,rfl,.inl rfl⟩
 ·exact⟨b,rfl,.inr rfl⟩
theorem Aw{a b:R V}(ha:a=.ok va)(HB:va.cl=.fz da)(hb:b=.ok vb)(VG:vb.cl=.fz db){e:R V}(he:e=κ (.int i))(h:0<=i/\i<2):∃d,aI (cI<|cH [a,b]) e=κ d/\(d=da\/d=db):=by
 refine aD (q4j (a:=da) (b:=db) h) λd h1 h2=>⟨d,?_,h2⟩
 rw[ha,hb,he];show Zy (Zx (.list [Zp va.cl,Zp vb.cl])<|.int i)=_;rw[HB,VG];exact congrArg Zy h1
theorem q4k{a b c:R V}{vc:V}{dc:a_}(ha:a=.ok va)(HB:va.cl=.fz da)(hb:b=.ok vb)(VG:vb.cl=.fz db)(hc:c=.ok vc)(hvc:vc.cl=.fz dc){e:R V}(he:e=κ (.int i))(h:0<=i/\i<3):∃d,aI (cI<|cH [a,b,c]) e=κ d/\(d=da\/d=db\/d=dc):=by
 refine aD (Jl (a:=da) (b:=db) (c:=dc) h) λd h1 h2=>⟨d,?_,h2⟩
 rw[ha,hb,hc,he];show Zy (Zx (.list [Zp va.cl,Zp vb.cl,Zp vc.cl])<|.int i)=_;rw[HB,VG,hvc];exact congrArg Zy h1
set_option maxHeartbeats 1000000 in
theorem Ax:∀{m n:Nat} {c:Int} {d:a_},Tr m d->m+3<=n->Gives (rn (n+1) IA [.fz d,.fz<|.int c,.fz NL]) λd'=>Tr (m+1) d':=by
 intro m;induction m using Nat.strongRecOn with
 |_ m ih=>
 intro n c d hd hn;refine AM (c:=2) n hn hn λn hn=>?_;rw[q0q,(iH _ Zw:aG .Mod (.int c) (.int 8)=.ok (.fz<|.int<|c.fmod 8)),(kD _ Zw:aG .FloorDiv (.int c) (.int 8)=.ok (.fz<|.int<|c.fdiv 8))];simp only[aM,aF,cY,dT,dS];generalize c.fmod 8=K;generalize c.fdiv 8=M;refine Zs hd λt hs=>Gives.ite (t:=K==0) (by kernel_rfl) (λ_=>?_) λ_=>?_
 ·obtain⟨v,d',e1,e2,e3⟩:=(kB hs (n:=n+1)<|N7 hn).rb;exact⟨v,d',e1,e2,t,e3.mono<|ao _⟩
 obtain⟨vn,an,bn⟩:=uD (n+1) M;obtain⟨ϧ,m14,_,g14⟩:=lL (e:=aB .Mod (κ<|.int M)<|κ<|.int 14) (i:=M.fmod 14) (by kernel_rfl)<|bB M (n:=14) Zw;have place:Gives (rb (aI (cI<|cH [aE (rn (n+2) FM) [κ<|.int M],.ok<|.own<|.dict [],fS [(aI (.ok NL)<|aB .Mod (κ<|.int M)<|κ<|.int 14,κ<|.int 1)]])<|aB .Mod (aB .FloorDiv (κ<|.int M)<|κ<|.int 14)<|κ<|.int 3) Zt) λd'=>Tr (m+1) d':=by
  rw[g14,As ϧ (r:=κ<|.int 1) rfl rfl];refine aD (q4k (a:=aE (rn (n+2) FM) [κ<|.int M]) an rfl (b:=.ok<|.own<|.dict []) rfl rfl (c:=.ok<|.own<|Zz<|BI [(ϧ,.int 1)] []) rfl rfl (e:=aB .Mod (aB .FloorDiv (κ<|.int M)<|κ<|.int 14)<|κ<|.int 3) (i:=(M.fdiv 14).fmod 3) (by kernel_rfl) (bB _ Zw)) λd e hd=>?_;rw[e];refine⟨_,d,rfl,rfl,?_⟩;rcases hd with rfl|rfl|rfl
  ·exact .int bn
  ·exact Tr.mono (BT.ET (m:=0) (l:=[]) BT.nil) qQ
  ·exact Tr.mono (BT.ET (m:=0)<|(BT.nil (m:=0)).set m14 (.int (i:=1) Zw)) qQ
 obtain⟨i,_⟩|⟨m,l,f,B⟩:=hs.inv
 ·exact place
 refine Gives.ite (t:=K==1&&M.fmod 3==0) (by
  rw[show aC (Zt<|V.fz<|.int K) .Eq (κ<|.int 1)=κ (.bool<|K==1) from Zv];cases (K==1)<;>kernel_rfl) (λ_=>place) λ_=>?_
 have C:=B;rw[t9 B.toSem (n:=n+1)<|be<|N8 hn,qI B];simp only[q4i,aF,iW,cY,dT,aM,dS,j6,pO];have hmem:∀x∈aU (ks l),x∈ks l:=λx hx=>cP.mp hx;generalize aU (ks l)=S at hmem;have C1:=C.mono<|ao m;have putIn:∀{x:d_} {d:a_} {r:R V} {v:V} {k:R V},r=.ok v->v.cl=.fz d->x∈NN->Tr (m+1) d->k=κ (.str x)->Gives (bK r (.ok<|Zz l) k λo=>Zt<|.own o) λd'=>Tr (m+1+1) d':=λ{x d r v k} h1 h2 h3 h4 h5=>by
  refine Zs h4 λt h4=>⟨.own<|Zz<|st l x d,_,?_,rfl,_,(C1.set h3 h4).toSem⟩
  rw[h1,h5];show rb (Zy<|Internal.setItem (Zz l) (.str x)<|Zp v) _=_;rw[iE h2,cS x d<|C.lt Zw];rfl
 refine Gives.ite (t:=K==2||S.isEmpty) (by
  rw[show aC (Zt<|V.fz<|.int K) .Eq (κ<|.int 2)=κ (.bool<|K==2) from Zv,show aC (Zt<|V.fz<|.list<|S.map .str) .Eq (.ok<|.own<|.list [])=κ (.bool S.isEmpty) from (congrArg (λp=>aS<|Zy p)<|pR S).trans rfl];cases (K==2)<;>rfl) (λ_=>?_) λht=>?_
 ·obtain⟨x5,m5,_,g5⟩:=eF (i:=5) Zw;obtain⟨x6,m6,_,g6⟩:=eF (i:=6) Zw;obtain⟨x7,m7,_,g7⟩:=eF (i:=7) Zw;obtain⟨x8,m8,_,g8⟩:=eF (i:=8) Zw;rw[g5,g6,g7,g8];simp only[aM];rw[show fS [(κ<|.str x5,aB .Sub (aB .Mod (κ<|.int M)<|κ<|.int 9)<|κ<|.int 2),(κ<|.str x7,aB .Sub (aB .Mod (aB .FloorDiv (κ<|.int M)<|κ<|.int 9)<|κ<|.int 9)<|κ<|.int 2),(κ<|.str x6,κ<|.int 2),(κ<|.str x8,κ<|.int 3)]=.ok (.own<|Zz<|BI [(x5,.int<|M.fmod 9 - 2),(x7,.int<|(M.fdiv 9).fmod 9 - 2),(x6,.int 2),(x8,.int 3)] []) from
   (by kernel_rfl:_=Zy (lW<|AH [(x5,.int<|M.fmod 9 - 2),(x7,.int<|(M.fdiv 9).fmod 9 - 2),(x6,.int 2),(x8,.int 3)])).trans (congrArg Zy<|Ar _)]
  have WM:BT 0 (BI [(x5,.int<|M.fmod 9 - 2),(x7,.int<|(M.fdiv 9).fmod 9 - 2),(x6,.int 2),(x8,.int 3)] []):=
   (((BT.nil.set m5<|.int (i:=M.fmod 9 - 2)<|NJ (c:=2) (bB M (n:=9) Zw) Zw).set m7 (.int (i:=(M.fdiv 9).fmod 9 - 2)<|NJ (c:=2) (bB (M.fdiv 9) (n:=9) Zw) Zw)).set m6 (.int (i:=2) Zw)).set m8 (.int (i:=3) Zw)
  generalize BI [(x5,.int<|M.fmod 9 - 2),(x7,.int<|(M.fdiv 9).fmod 9 - 2),(x6,.int 2),(x8,.int 3)] []=ϝ at WM;rw[aF,iW,dT,aM];refine AN λΘ θ=>aD (Aw (a:=aB .Add (κ<|.int 9)<|aB .Mod (aB .FloorDiv (κ<|.int M)<|κ<|.int 81)<|κ<|.int 4) (va:=.fz<|.int<|9+(M.fdiv 81).fmod 4) (by kernel_rfl) rfl (b:=aB .Mod (aB .FloorDiv (κ<|.int M)<|κ<|.int 81)<|κ<|.int 14) (vb:=.fz<|.int<|(M.fdiv 81).fmod 14) (by kernel_rfl) rfl (e:=aB .Mod (κ<|.int M)<|κ<|.int 2) (i:=M.fmod 2) (by kernel_rfl) (bB _ Zw)) λdi ei hi=>?_;obtain⟨ii,hii,rfl⟩:∃ii:Int,(0<=ii/\ii<14)/\di=.int ii:=by
   rcases hi with rfl|rfl
   ·exact⟨_,by exact Bv<|bB (M.fdiv 81) (n:=4) Zw,rfl⟩
   ·exact⟨_,(bB (M.fdiv 81) (n:=14) Zw),rfl⟩
  obtain⟨y,my,_,gy⟩:=lL ei hii;apply θ;rw[gy];rw[aF,dT,aM];refine aD (Aw (a:=κ<|Zz ϝ) (va:=.fz<|Zz ϝ) rfl rfl (b:=aB .Mod (κ<|.int M)<|κ<|.int 7) (vb:=.fz<|.int<|M.fmod 7) (by kernel_rfl) rfl (e:=aK fH<|aC (aB .Mod (aB .FloorDiv (κ<|.int M)<|κ<|.int 3)<|κ<|.int 5) .Eq<|κ<|.int 1) (i:=if ((M.fdiv 3).fmod 5==1)=â then 1 else 0) (by kernel_rfl) (by split<;>decide)) λdv ev hv=>putIn ev rfl my ?_ rfl;rcases hv with rfl|rfl
  ·exact WM.ET.mono qQ
  ·exact .int<|LW (bB M (n:=7) Zw) Zw
 obtain hS:S≠[]:=λe=>by rw[e] at ht;simp at ht
 refine AN λΘ θ=>aD (uG hS M) λx hx ex=>?_;obtain⟨dx,tx,q1,q2,q3⟩:=B.key<|hmem x hx;obtain⟨HT,q4,q5⟩:=C.get q2;apply θ;have mx:=B.sub x<|hmem x hx;rw[ex];rw[aF,cY,dT,aM];refine Gives.ite (t:=K==3) (by kernel_rfl) (λ_=>?_) λ_=>?_
 ·refine⟨.own<|Zz<|dl l x,_,?_,rfl,_,(C1.del x).toSem⟩;show rb (Zy<|if (bV (AH l) x).isSome then P.ok (sw<|eR (AH l) x) else .no) _=_;rw[lI,q4,y8];rfl
 refine Gives.ite (t:=K==4) (by kernel_rfl) (λ_=>?_) λ_=>?_
 ·obtain⟨y,my,_,gy⟩:=lL (e:=aB .Mod (aB .FloorDiv (κ<|.int M)<|κ<|.int 16)<|κ<|.int 14) (i:=(M.fdiv 16).fmod 14) (by kernel_rfl)<|bB _ Zw;refine⟨.own<|Zz<|st (dl l x) y HT,_,?_,rfl,_,((C1.del x).set my (q5.mono<|ao _)).toSem⟩;rw[gy,show(P.ok<|Zz l).bind rB=.ok (AH l) from rfl];show rb (Zy<|(AT<|bV (AH l) x).bind λd=>P.ok (d,sw<|eR (AH l) x)) _=_;rw[lI,q4,y8];show rb (Zy<|Internal.setItem (Zz<|dl l x) (.str y) HT) _=_;rw[cS y HT<|(C.del x).lt Zw];rfl
 refine Gives.ite (t:=K==5) (by kernel_rfl) (λ_=>?_) λ_=>?_
 ·refine aD (Aw (a:=aE (rn (n+2) FM) [κ<|.int M]) an rfl (b:=.ok<|.own<|.dict []) (vb:=.own<|.dict []) rfl rfl (e:=aB .Mod (aB .FloorDiv (κ<|.int M)<|κ<|.int 8)<|κ<|.int 2) (i:=(M.fdiv 8).fmod 2) (by kernel_rfl) (bB _ Zw)) λdv ev hv=>putIn ev rfl mx ?_ rfl;rcases hv with rfl|rfl
  ·exact .int bn
  ·exact Tr.mono (BT.ET (m:=0) (l:=[]) BT.nil) qQ
 obtain⟨v,d',e1,e2,e3⟩:=ih m (fk m) (n:=n+1) (c:=M.fdiv 8) ⟨tx,q3⟩<|N9 hn;refine putIn (v:=v) ?_ e2 mx e3 rfl;rw[show aI (.ok<|Zz l) (κ<|.str x)=κ dx from congrArg Zy<|bE q1];exact(by kernel_rfl:_=rn (n+2) IA [.fz dx,.fz<|.int<|M.fdiv 8,.fz NL]).trans e1
variable {m:Nat}
def dM:d_:=so "tree"
def dC:d_:=so "refused"
structure Wy(ws:List a_):Prop where
 l:ws.length<=900
 e:∀d∈ws,(∃s,s∈NN/\d=.str s)\/d=.int 0\/d=.int 1
inductive BG(m:Nat)(o:Option TT)(x:Rf)(r:R V):Prop where
 |tree (t:TT) (d:a_) (h:o=à t) (e:r=κ (.tuple [.str dM,d])) (g:Sem m d t):BG m o x r
 |ref (d:a_) (h:o=á) (e:r=κ (.tuple [.str dC,.list x.way,.str x.kind,d])) (g:Sem m d x.part) (y:Wy x.way):BG m o x r
theorem BG.mono{o:Option TT}{x:Rf}(h:BG m o x r)(hm:m<=m'):BG m' o x r:=by
 rcases h with ⟨t,d,h,e,g⟩|⟨d,h,e,g,y⟩
 ·exact .tree t d h e<|g.mono hm
 ·exact .ref d h e (g.mono hm) y
theorem BG.rb{o:Option TT}{x:Rf}(h:BG m o x r):BG m o x<|rb r Zt:=by
 rcases h with ⟨t,d,h,rfl,g⟩|⟨d,h,rfl,g,y⟩
 ·exact .tree t d h rfl g
 ·exact .ref d h rfl g y
theorem kE(n:Nat){t:TT}(h:Sem m d t)(hn:m<=n){way:List a_}(hy:Wy way)(k:d_):BG m á ⟨way,k,t⟩<|rn (n+2) E_ [.fz<|.list way,.fz<|.str k,.fz d]:=by obtain⟨v,d',e1,e2,e3⟩:=kB h hn;refine .ref d' rfl ?_ e3 hy;rw[q0r,e1];show Zt (V.fz<|.tuple [.str dC,.list way,.str k,Zp v.cl])=_;rw[e2];rfl
inductive XQ(m:Nat)(f:d_->Option TT)(xs:List d_)(r:R V):Prop where
 |mk (ps:LP) (e:r=.ok (.own<|.list<|ps.map aT)) (l:ps.length<=xs.length) (k:∀k,k∈ks ps↔k∈xs) (h:∀p∈ps,p.1∈NN/\∃u,f p.1=à u/\Sem m p.2 u):XQ m f xs r
theorem uH{f:d_->Option TT}(B:zl m l f)(hx:∀x∈xs,x∈ks l)(he:∀k d,lk l k=à d->e (.str k)=κ (.tuple [.str k,d])):
  XQ m f xs (aN (.ok<|xs.map .str) (λ_=>.ok â) e):=by
 refine gM (zW (m:=m) (F:=f) (t:=λ_=>.ok â) (e:=e) (xs:=xs) λx HC=>by
  obtain⟨d,u,h1,h2,h3⟩:=B.key<|hx x HC;exact⟨B.sub x<|hx x HC,.inr ⟨rfl,_,d,u,he x d h1,rfl,h2,h3⟩⟩) λps e1 e2 e3 e4=>?_
 refine⟨ps,?_,e2,λk=>(e3 k).trans ⟨λh=>h.1,λh=>⟨h,B.mem.mp<|hx k h⟩⟩,e4⟩;show rb (aZ (λ_=>.ok â) e<|xs.map .str) (λr=>Zy<|own<|.list r)=_;rw[e1];rfl
theorem Jz{pa pb:LP}(h:pa.length+pb.length<4096){u:V}(hu:Zp u=.list (pa.map aT))(hv:Zp v=.list (pb.map aT)):aK bA (aB .Add (.ok u)<|.ok v)=.ok (.own<|Zz<|BI pb<|BI pa []):=by
 show rb (Zy<|aG .Add (Zp u)<|Zp v) (λv=>Zy<|bA<|Zp v)=_;rw[hu,hv];show rb (Zy<|dZ .Add (pa.map aT)<|.list<|pb.map aT) (λv=>Zy<|bA<|Zp v)=_;rw[show dZ .Add (pa.map aT) (.list<|pb.map aT)=.ok (.own<|.list<|(pa++pb).map aT) from by
  show(if jG .Add=â/\(pa.map aT).length+(pb.map aT).length<=a8 then P.ok (V.own<|.list<|pa.map aT++pb.map aT) else .no)=_;rw[if_pos ⟨rfl,by have:a8=16777216:=rfl;simp only[j_];exact Oa h this⟩,ej]]
 show Zy (bA<|.list<|(pa++pb).map aT)=_;rw[iX (by rw[k_];exact h),Ah];rfl
theorem J0(k:d_)(d:a_)(h:lk l k=à d):aO [κ<|.str k,Zy<|Zx (Zz l)<|.str k]=κ (.tuple [.str k,d]):=t6 h
theorem q4l(n:Nat){f:d_->Option TT}{t:TT}{way:List a_}(hy:Wy way)(B:zl m ln f)(hf:cF f)(h:Sem (m+1) d t)(hn:m+1<=n):BG (m+1) (aQ (.sift x i) (.br f) t) (aV (.sift x i) (.br f) t way)<|rn (n+3) TP [.fz<|Zq<|.sift x i,.fz<|Zz ln,.fz d,.fz<|.list way]:=by
 ext i ln d x m n f t way
 rw[q0s,qC (n+1) h];have N1:=kE n h hn hy bZ;obtain⟨j,rfl,rfl,hi⟩|⟨_,l,g,e,rfl,rfl,C⟩:=h.CP
 ·rw[show aV (.sift x i) (.br f) (.num j) way=⟨way,frm _ dR,_⟩ from rfl,iA (p:=j5 x i<|.num j) λh=>h];exact N1.rb
 cases e
 by_cases ha:cF g
 case neg=>rw[show DN (.br g)=ã from dG.mpr ha,show aQ (.sift x i) (.br f) (.br g)=á from cA (λh=>ha h.1.1) _,show aV (.sift x i) (.br f) (.br g) way=⟨way,frm _ dR,_⟩ from rfl,iA (p:=j5 x i<|.br g) λh=>ha h.1];exact N1.rb
 rw[show DN (.br g)=â from cJ.mpr ha];obtain UI:=nJ (xs:=ks l) (g:=λk=>match g k with|some u=>sb x i u|none=>â) (e:=λd1=>(aE (rn (n+2) GV) [(Zy<|Zx (Zz l) d1),(Zy<|Zx (Zq<|.sift x i)<|.int 1),(Zy<|Zx (Zq<|.sift x i)<|.int 2)])) λk hk=>by refine AN λ_ θ=>?_;obtain⟨d,u,h1,h2,h3⟩:=C.key hk;refine Zs (ha k u h2) λr zq=>?_;subst zq;obtain⟨_,lr,_,zq,Br⟩:=h3.CR;subst h3 zq;apply θ;rw[bE h1,h2];exact Af (n+1) Br x i
 rw[bW,aM,UI,show(ks l).all (λk=>match g k with | some u=>sb x i u | none=>â)=EK (∀k u,g k=à u->dF x i u) from fU (by
  rw[ak];constructor
  ·intro h k u hk;have:=h k (C.mem.mpr<|by rw[hk];rfl);rw[hk] at this;exact nP.mp this
  ·intro h k hk;obtain⟨d,u,h1,h2,h3⟩:=C.key hk;rw[h2];exact nP.mpr<|h k u h2)]
 by_cases AK:∀k u,g k=à u->dF x i u
 case neg=>rw[dG.mpr AK,show aQ (.sift x i) (.br f) (.br g)=á from cA (λh=>AK h.1.2) _,show aV (.sift x i) (.br f) (.br g) way=⟨way,frm _ dR,_⟩ from rfl,iA (p:=j5 x i<|.br g) λh=>AK h.2];exact N1.rb
 rw[cJ.mpr AK];obtain hh:aN (Zy<|items<|Zz ln) (λd2=>(zu<|zy .Not<|aE (rn (n+2) GV) [(Zy<|Zx (Zz ln) d2),(Zy<|Zx (Zq<|.sift x i)<|.int 1),(Zy<|Zx (Zq<|.sift x i)<|.int 2)])) (λd2=>(κ d2))=.ok (.own<|.list<|((ks ln).filter λk=>match f k with|some u=>!sb x i u|none=>ã).map .str):=by
  rw[bW];show rb (aZ _ _<|(ks ln).map .str) (λr=>Zy<|own<|.list r)=_;rw[nK (g:=λk=>match f k with | some u=>!sb x i u | none=>ã) λk hk=>by
   obtain⟨d,u,h1,h2,h3⟩:=B.key hk;refine Zs (hf k u h2) λr zq=>?_;subst zq;obtain⟨_,lr,_,zq,Br⟩:=h3.CR;subst h3 zq;rw[bE h1,h2];show zu (zy .Not<|rn (n+2) GV [.fz<|Zz lr,.fz<|.str x,.fz<|.int i])=_;rw[Af (n+1) Br x i];rfl]
  rfl
 rw[hh];generalize hH:((ks ln).filter λk=>match f k with | some u=>!sb x i u | none=>ã)=hs;have hmem:∀k,k∈hs↔∃u,f k=à u/\¬dF x i u:=λk=>by
  rw[<- hH,eq];constructor
  ·rintro⟨h1,h2⟩
   obtain⟨d,u,_,h4,_⟩:=B.key h1;rw[h4] at h2;exact⟨u,h4,iG.mp<|by simpa using h2⟩
  ·rintro⟨u,h1,h2⟩
   refine⟨B.mem.mpr (by rw[h1];rfl),?_⟩;rw[h1];simpa using iG.mpr h2
 obtain hsub:∀k∈hs,k∈ks ln:=λk hk=>by rw[<- hH] at hk;exact(eq.mp hk).1
 show BG (m+1) _ _ (zp (aC (aN (.ok<|hs.map .str) (λd4=>zu<|aS<|Zy<|Internal.contains d4<|Zz l) λd4=>κ d4) .NotEq<|.ok<|.own<|.list []) _ _);rw[z7 (g:=λk=>(lk l k).isSome) λk hk=>by rw[eE];rfl]
 by_cases CV:∀k u,(g k).isSome=â->f k=à u->dF x i u
 case neg=>
  rw[show(hs.filter λk=>(lk l k).isSome).isEmpty=ã from by
   rw[qg];intro he;refine CV λk u h1 h2=>Classical.byContradiction λh3=>?_;have:=iZ.mp he k<|(hmem k).mpr ⟨u,h2,h3⟩;rw[C.dom,h1] at this;exact FZ this,show aQ (.sift x i) (.br f) (.br g)=á from cA (λh=>CV h.2) _,show aV (.sift x i) (.br f) (.br g) way=⟨way,frm _ dR,_⟩ from rfl,pK (p:=j5 x i<|.br g) ⟨ha,AK⟩]
  exact(kE n h hn hy dR).rb
 rw[show(hs.filter λk=>(lk l k).isSome).isEmpty=â from iZ.mpr λk hk=>by
  refine aD ((hmem k).mp hk) λu h1 h2=>?_;rw[C.dom];refine DO (g k).isSome (λe=>e) λe=>absurd (CV k u e h1) h2]
 obtain⟨pa,a1,a2,a3,a4⟩:=uH B hsub (e:=λd5=>aO [κ d5,Zy<|Zx (Zz ln) d5]) J0;obtain⟨pb,b1,b2,b3,b4⟩:=uH C (λk hk=>hk:∀k∈ks l,k∈ks l) (e:=λd8=>aO [κ d8,Zy<|Zx (Zz l) d8]) J0;show BG (m+1) _ _ (rb (aN (.ok<|hs.map .str) (λ_=>.ok â) λd5=>aO [κ d5,Zy<|Zx (Zz ln) d5]) λv6=>rb (aO [κ<|.str dM,aK bA<|aB .Add (Zy<|zi<|Zr v6)<|aN (.ok<|(ks l).map .str) (λ_=>.ok â) λd8=>aO [κ d8,Zy<|Zx (Zz l) d8]]) Zt);rw[a1,aF,b1];show BG (m+1) _ _ (rb (aO [κ<|.str dM,aK bA<|aB .Add (κ<|.list<|pa.map aT)<|.ok<|.own<|.list<|pb.map aT]) Zt);obtain hlen:pa.length+pb.length<4096:=by
  obtain q4:hs.length<=ln.length:=by rw[<- hH];exact aa (fx _ _)<|bl<|cO ln
  exact Ob a2 b2 (B.len) (C.len) (HW.len) q4<|cO l
 rw[Jz hlen rfl rfl];refine .tree (.br λk=>(g k).or ((f k).bind λu=>AS (¬dF x i u)<|some u)) _ (dL ⟨⟨ha,AK⟩,CV⟩ _) rfl ((gJ (F:=g) (gJ (F:=f) zl.nil a4) b4).ext λk=>?_).toSem
 by_cases hk:k∈ks pb
 ·rw[if_pos hk];obtain⟨d,u,_,h2,_⟩:=C.key<|(b3 k).mp hk;rw[h2];rfl
 ·rw[if_neg hk,(zn (g k) (λe=>e) λu e=>absurd ((b3 k).mpr (C.mem.mpr<|by rw[e];rfl)) hk),Option.none_or]
  by_cases BO:k∈ks pa
  ·rw[if_pos BO];refine aD ((hmem k).mp ((a3 k).mp BO)) λu h1 h2=>?_;rw[h1];exact(dL h2 _).symm
  ·rw[if_neg BO];refine zn (f k) (λe=>by rw[e];rfl) λu e=>?_;rw[e];exact(cA (λh=>BO<|(a3 k).mpr ((hmem k).mpr ⟨u,e,h⟩)) _).symm
variable {m:Nat}
def pS(vw old new way:a_)(tb:V)(al:a_)(k key fo rows fields:Option V):aA:=dQ (ζ vw) (ζ old) (ζ new) (ζ way) (à tb) (à<|.own al) k key fo rows fields
def iI(l1 l2:LP):V:=.own<|.list [Zz l1,Zz l2]
def cG(l:List d_):a_:=.list<|l.map .str
theorem q4m(d:a_):eZ (so "append") (.list []) [d]=.ok (.list [d]):=Zv
theorem q4n(e d:a_):eZ (so "append") (.list [e]) [d]=.ok (.list [e,d]):=Zv
theorem q4o(p:d_×a_)(h:ps.length<a8):eZ (so "append") (.list<|ps.map aT) [aT p]=.ok (.list<|(ps++[p]).map aT):=by show(if (ps.map aT).length<a8 then P.ok (ur<|ps.map aT++[aT p]) else .no)=_;rw[j_,if_pos h,ej];rfl
theorem qJ{l:List a_}{y:a_}(h:eZ (so "append") (.list l) [Zp v.cl]=.ok y)(k:a_->R V):fD (.ok<|.list l) (so "append") [.ok v] k=k y:=by show(if mB (so "append") (.list l)=â then rb (Zy<|eZ (so "append") (.list l) [Zp v.cl]) k else .no)=_;rw[show mB (so "append") (.list l)=â from Zv,h];rfl
theorem J1(l1 l2:LP):aI (bG<|iI l1 l2) (κ<|.int 0)=κ (Zz l1):=rfl
theorem J2(l1 l2:LP):aI (bG<|iI l1 l2) (κ<|.int 1)=κ (Zz l2):=rfl
theorem q4p(l1 l2:LP):aI (bG<|iI l1 l2) (Zy<|aG .Sub (.int 1)<|.int 0)=κ (Zz l2):=rfl
theorem q4q(l1 l2:LP):aI (bG<|iI l1 l2) (Zy<|aG .Sub (.int 1)<|.int 1)=κ (Zz l1):=rfl
def bH(l1 l2:LP):List d_:=(ks l1).filter λk=>!(lk l2 k).isSome
theorem J3(l1 l2:LP):aN (BD<|κ<|Zz l1) (λd2=>zu<|aC (κ d2) .NotIn<|κ<|Zz l2) (λd2=>κ d2)=.ok (.own<|cG<|bH l1 l2):=by
 show aN (Zy<|items<|Zz l1) _ _=_;rw[bW];show rb (aZ _ _<|(ks l1).map .str) (λr=>Zy<|own<|.list r)=_;rw[nK (g:=λk=>!(lk l2 k).isSome) λk hk=>by
  show zu (aS<|Zy<|b6<|Internal.contains (.str k)<|Zz l2)=_;rw[eE];rfl]
 rfl
theorem q4r(n:Nat){vw new way:a_}(kn:KN)(kr:KR):aX (mX n) mY [.int 0,.int 1] (pS vw old new way (iI l1 l2) (.list []) á á á á á) kn kr=kn (pS vw old new way (iI l1 l2) (.list [cG<|bH l1 l2,cG<|bH l2 l1]) (ζ<|.int 1) á á á á):=by show rb (Zy<|a9 mY (.int 0) _) (λσ=>mX n σ (λσ=>rb (Zy<|a9 mY (.int 1) σ) λσ=>mX n σ (λσ=>kn σ) kr) kr)=_;unfold pS;rw[Hn,aM,aF,Ho,J1,q4p,J3,qJ<|q4m _,Hn,aM,aF,Ho,J2,q4q,J3,qJ<|q4n _ _];rfl
theorem uI{g h:d_->Option TT}(B:zl m lx g)(C:zl m ly h)(k:d_):k∈bH lx ly↔(g k).isSome=â/\h k=á:=by unfold bH;rw[eq,B.mem,C.dom];cases h k<;>simp
inductive QB(m:Nat)(G:d_->Option TT)(xs p:List d_)(ps:LP):Prop where
 |mk (l:ps.length<=xs.length+p.length) (k:∀k,k∈ks ps↔k∈xs\/k∈p) (h:∀pr∈ps,pr.1∈NN/\∃u,G pr.1=à u/\Sem m pr.2 u):QB m G xs p ps
theorem q4s{r:d_->Option TT}(B:zl m lr r){F:d_->Option TT}(hF:∀k,F k=if c k=â then r k else á){T:a_->R Bool}(hT:∀y,T (.str y)=.ok (c y))(d0:a_){gi:R V}(hg:gi=κ (Zz lr)):
  ∃l' v2 fl,aN (BD gi) T (λd1=>κ d1)=.ok v2/\v2.cl=.fz fl/\aK bA (aN (BD<|Zy<|zi<|Zr v2) (λ_=>.ok â) λd5=>aO [κ d5,aI (cI gi)<|κ d5])=.ok (.own<|Zz l')/\zl m l' F:=by
 obtain e1:aN (BD gi) T (λd1=>κ d1)=.ok (.own<|cG<|(ks lr).filter c):=by rw[hg];show aN (Zy<|items<|Zz lr) _ _=_;rw[bW];show rb (aZ _ _<|(ks lr).map .str) (λr=>Zy<|own<|.list r)=_;rw[nK λk _=>hT k];rfl
 obtain⟨ps,a1,a2,a3,a4⟩:=uH B (xs:=(ks lr).filter c) (λk hk=>(eq.mp hk).1) (e:=λd5=>aO [κ d5,aI (cI gi)<|κ d5]) λk d hk=>by rw[hg];exact t6 hk
 refine⟨BI ps [],_,_,e1,rfl,?_,(gJ (F:=r) zl.nil a4).ext λk=>?_⟩
 ·show rb (aN (.ok<|((ks lr).filter c).map .str) _ _) (λv=>Zy<|bA<|Zp v)=_;rw[a1];show Zy (bA<|.list<|ps.map aT)=_;rw[iX<|au a2<|au (aa (fx _ _)<|bl<|cO lr)<|B.lt Zw];rfl
 ·rw[hF]
  by_cases hk:k∈ks ps
  ·rw[if_pos hk,if_pos (eq.mp<|(a3 k).mp hk).2]
  ·rw[if_neg hk]
   by_cases hc:c k=â
   ·rw[if_pos hc];exact zn (r k) (λe=>e.symm) λu e=>absurd ((a3 k).mpr (eq.mpr ⟨B.mem.mpr (by rw[e];rfl),hc⟩)) hk
   ·rw[if_neg hc]
theorem q4t(n:Nat){vw way:a_}{fo:V}(hT:∀y,zu (aC (aC (κ<|.str y) .In<|Zy<|Zx vw<|.int 3) .Eq<|aS<|Zy<|BX .Eq (.int kk)<|.int 0)=.ok (c y)){q G:d_->Option TT}(C:zl (m+1) l q)(hq:cF q)(hG:∀k r,q k=à (.br r)->G k=à (.br λy=>if c y=â then r y else á)){ps0:LP}(R0:QB (m+1) G xs [] ps0)(HC:xs.length<4096)(key fields:Option V):
  ∃ps PF TW,QB (m+1) G xs (ks l) ps/\∀kn kr,aX (tK n) tL ((ks l).map .str) (pS vw old (Zz l) way tb al (ζ<|.int kk) key (à fo) (à<|.own<|.list<|ps0.map aT) fields) kn kr=kn (pS vw old (Zz l) way tb al (ζ<|.int kk) PF (à fo) (à<|.own<|.list<|ps.map aT) TW):=by
 revert hT C hq hG R0 HC;revert ps0 key fields;ext kk l xs old al c tb m n vw way fo q G;ext ps0 key fields
 obtain L:=pU (S:=λ(ps:LP) (j:Option V×Option V)=>pS vw old (Zz l) way tb al (ζ<|.int kk) j.1 (à fo) (à<|.own<|.list<|ps.map aT) j.2) (b:=tK n) (t:=tL) (l:=ks l) (p:=[]) (a:=ps0) (j:=(key,fields)) (I:=λp ps=>p.length<=l.length/\QB (m+1) G xs p ps) (E:=λ_=>False) (Q:=λ_=>False) (λp k r ps j hp hi=>by
  obtain⟨d,u,h1,h2,h3⟩:=C.key<|nN hp;refine Zs (hq k u h2) λDS zq=>?_;subst zq;obtain⟨_,lr,e,zq,Br⟩:=h3.CR;subst h3 zq;cases e;refine lR (q4s Br (c:=c) (F:=λy=>if c y=â then DS y else á) (λ_=>rfl) (T:=λd1=>zu<|aC (aC (κ d1) .In<|Zy<|Zx vw<|.int 3) .Eq<|aS<|Zy<|BX .Eq (.int kk)<|.int 0) hT (.str k) (gi:=Zy<|Zx (Zz l)<|.str k)<|by rw[bE h1];rfl) λl' v2 fl e1 e2 e3 B'=>zj hi λhl hR=>?_;obtain⟨r1,r2,r3⟩:=hR;obtain DL:(p++[k]).length<=l.length:=by
   have q1:(p++k::r).length=l.length:=by rw[<- hp,su,cO]
   simp only[k_,pg] at q1;rw[k_,cn];exact Oc q1
  obtain GH:ps.length<a8:=by exact Od HC hl r1 (C.lt<|show 14<4096 by decide)<|rfl
  refine BM.kn (ps++[(k,Zz l')]) (à<|.fz<|.str k,à<|.fz fl) ⟨DL,?_,λz=>?_,λpr IG=>?_⟩ λkn kr=>?_
  ·rw[k_,k_];exact aa (aj r1 1)<|bl<|fm ..
  ·obtain this:ks (ps++[(k,Zz l')])=ks ps++[k]:=by unfold ks;rw[ej];rfl
   rw[this,pw,pw,r2 z,or_assoc]
  ·rcases List.mem_append.mp IG with h|h
   ·exact r3 pr h
   ·rw[List.mem_singleton.mp h];exact⟨C.sub k<|nN hp,_,hG k DS h2,B'.toSem⟩
  ·unfold pS;rw[q0y,aM,aF,q0z,e1,aF,e3,show aO [κ<|.str k,.ok<|.own<|Zz l']=κ (aT (k,Zz l')) from rfl];show fD (.ok<|.list<|ps.map aT) (so "append") [κ<|aT (k,Zz l')] _=_;rw[qJ (v:=.fz<|aT (k,Zz l'))<|q4o (k,Zz l') GH,e2]) ⟨ay _,R0⟩
 obtain⟨ps,j,hi,e⟩|⟨_,hx,_⟩|⟨_,hv,_⟩:=L
 ·exact⟨ps,j.1,j.2,hi.2,e⟩
 ·exact hx.elim
 ·exact hv.elim
variable {m:Nat}
theorem q4u{P:d_->Prop}{g h q:d_->Option TT}(hc:∀y,c y=â↔P y)(k:d_)(r:d_->Option TT)(e:q k=à (.br r)):dB P g h q k=à (.br λy=>if c y=â then r y else á):=by
 show(match q k with | some x=>à (T.br λf=>AS (P f)<|x.get f) | none=>if (h k).isSome then á else g k)=_;rw[e];refine congrArg (λz=>à<|T.br z)<|funext λy=>?_
 by_cases hp:P y
 ·rw[if_pos<|(hc y).mpr hp];exact dL hp _
 ·rw[if_neg λz=>hp<|(hc y).mp z];exact cA hp _
theorem J5{P:d_->Prop}{g h q:d_->Option TT}(e:q k=á):dB P g h q k=if (h k).isSome then á else g k:=by show(match q k with | some x=>à (T.br λf=>AS (P f)<|x.get f) | none=>if (h k).isSome then á else g k)=_;rw[e]
theorem J6(n:Nat){vw way:a_}{P:d_->Prop}(hT:∀y,zu (aC (aC (κ<|.str y) .In<|Zy<|Zx vw<|.int 3) .Eq<|aS<|Zy<|BX .Eq (.int kk)<|.int 0)=.ok (c y))(hc:∀y,c y=â↔P y){cf:LP}{q g h fc:d_->Option TT}(C:zl (m+1) l q)(hq:cF q)(B1:zl m lx g)(B2:zl m ly h)
  (hal:∀k,k∈bH lx ly->q k=á) (hw:aI (bG tb) (.ok<|.fz<|.int kk)=.ok (.fz<|Zz lx)) (ha:Zx al (.int kk)=.ok (.fz<|cG<|bH lx ly)) {z:d_} (hz:aI (.ok vw) (Zy<|aG .Add (.int 1)<|.int kk)=.ok (.fz<|.str z)) (hzN:z∈NN) (Bc:zl (m+2) cf fc) (k0 key rows fields:Option V) :
  ∃c' PF q2A TW,zl (m+2) c' (upd fc z<|some<|.br<|dB P g h q)/\∀kn kr,(rb (Zy<|a9 yY (.int kk)<|pS vw old (Zz l) way tb al k0 key (à<|.own<|Zz cf) rows fields) λσ=>yX n σ kn kr)=kn (pS vw old (Zz l) way tb al (ζ<|.int kk) PF (à<|.own<|Zz c') q2A TW):=by
 obtain q0R:∀k,k∈bH lx ly->dB P g h q k=g k:=λk hk=>by rw[J5<|hal k hk,((uI B1 B2 k).mp hk).2];rfl
 refine AN λ_ θ=>?_;obtain⟨pa,a1,a2,a3,a4⟩:=uH B1 (λk hk=>(eq.mp hk).1:∀k∈bH lx ly,k∈ks lx) (e:=λd1=>aO [κ d1,aI (cI<|aI (bG tb)<|κ<|.int kk)<|κ d1]) λk d hk=>by rw[hw];exact t6 hk
 obtain HC:(bH lx ly).length<4096:=au (aa (fx _ _)<|bl<|cO lx)<|B1.lt Zw;refine dN (q4t n (old:=old) (way:=way) (tb:=tb) (al:=al) (fo:=.own<|Zz cf) hT C hq (G:=dB P g h q) (q4u hc) (xs:=bH lx ly) (ps0:=pa) ⟨aa a2<|am _ _,λk=>(a3 k).trans ⟨λh=>.inl h,λh=>h.elim id λh=>cB h⟩,λp hp=>by
  refine iK (a4 p hp) λh1 u h2 h3=>?_;obtain hk:=(a3 _).mp (gq (f:=(·.1)) hp);exact⟨h1,u,(q0R _ hk).trans h2,h3.mono<|ao _⟩⟩ HC (Option.map Zr key) fields) λps PF fl' zt L=>?_;obtain⟨r1,r2,r3⟩:=zt
 apply θ;obtain hB:=(gJ (F:=dB P g h q) zl.nil r3).ext λk=>by
  by_cases hk:k∈ks ps
  ·rw[if_pos hk]
  ·rw[if_neg hk];obtain n1:k∉bH lx ly:=λh=>hk<|(r2 k).mpr (.inl h);obtain RI:=zn (q k) (λe=>e) λu e=>absurd ((r2 k).mpr (.inr<|C.mem.mpr<|by rw[e];rfl)) hk;rw[J5 RI];refine zn (h k) (λe=>?_) λu e=>by rw[e];rfl
   rw[e];exact zn (g k) (λe'=>e'.symm) λu e'=>absurd ((uI B1 B2 k).mpr ⟨by rw[e'];rfl,e⟩) n1
 obtain hlen:ps.length<4096:=by obtain q1:=B1.len;obtain q2:=C.len;obtain q3:=HW.len;obtain q4:=aa (fx _ _)<|bl<|cO lx;obtain q5:=cO l;exact Oe r1 q1 q2 q3 q4 q5
 refine⟨st cf z<|Zz<|BI ps [],PF,à<|.fz<|.list<|ps.map aT,fl',Bc.set hzN hB.toSem,λkn kr=>?_⟩;unfold pS at L ⊢;rw[q0v,aM,aF,q0w,ha];show rb (aN (.ok<|(bH lx ly).map .str) _ _) _=_;rw[a1,aF,bW,aM,aF,L,q00,hz];show rb (Zy<|bA<|.list<|ps.map aT) _=_;rw[iX hlen,aM,aF];show rb (Zy<|Internal.setItem (Zz cf) (.str z)<|Zz<|BI ps []) _=_;rw[cS z _<|Bc.lt Zw];rfl
theorem q4v(l:LP):bA (Zz l)=.ok (.own<|Zz l):=rfl
theorem q4w(n:Nat)(ha:a∈NN)(hb:b∈NN){way:List a_}(hy:Wy way){f g h:d_->Option TT}{t:TT}(Bo:zl (m+1) lo f)(e1:lk lo a=à (Zz l1))(e2:lk lo b=à (Zz l2))(fa:f a=à (.br g))(fb:f b=à (.br h))(B1:zl m l1 g)(B2:zl m l2 h)(hd:Sem (m+2) d t)(hn:m+2<=n):
  BG (m+3) (aQ (.join a b fs) (.br f) t) (aV (.join a b fs) (.br f) t way) (rn (n+3) TQ [.fz<|Zq<|.join a b fs,.fz<|Zz lo,.fz d,.fz<|.list way]):=by
 revert ha hb hy;ext l1 l2 lo fs d b a m n way f g h t
 have N1:=(kE n hd hn hy bZ).mono (ao<|m+2);rw[q0t,qC (n+1) hd];obtain⟨j,rfl,rfl,hi⟩|⟨_,l,q,e,rfl,rfl,C⟩:=hd.CP
 ·rw[show aV (.join a b fs) (.br f) (.num j) way=⟨way,frm _ dR,_⟩ from rfl,iA (p:=lH<|.num j) λh=>h];exact N1.rb
 cases e;obtain hp:aQ (.join a b fs) (.br f) (.br q)=AS (cF q/\∀k,(q k).isSome=â->((g k).isSome=(h k).isSome)) (à<|.br<|upd (upd f a<|some<|.br<|dB (λf=>f∈fs) g h q) b<|some<|.br<|dB (λf=>f∉fs) h g q):=by show((f a).bind λone=>(f b).bind λother=>_)=_;rw[fa,fb];rfl
 rw[hp]
 by_cases AK:cF q
 case neg=>rw[cA λh=>AK h.1,show DN (.br q)=ã from dG.mpr AK,show aV (.join a b fs) (.br f) (.br q) way=⟨way,frm _ dR,_⟩ from rfl,iA (p:=lH<|.br q) AK];exact N1.rb
 rw[show DN (.br q)=â from cJ.mpr AK];show BG (m+3) _ _ (rb (cH [Zy<|Zx (Zz lo)<|.str a,Zy<|Zx (Zz lo)<|.str b]) λv1=>_);rw[bE e1,bE e2,show cH [Zy<|.ok<|.fz<|Zz l1,Zy<|.ok<|.fz<|Zz l2]=.ok (iI l1 l2) from Zv,aF];show BG (m+3) _ _ (aX (mX<|n+2) mY [.int 0,.int 1] (pS (Zq<|.join a b fs) (Zz lo) (Zz l) (.list way) (iI l1 l2) (.list []) á á á á á) _ _);rw[q4r];unfold pS;rw[q0u];obtain AO:∀k,zu (aC (.ok<|.fz<|.str k) .In<|aB .Add (Zy<|Zx (.list [cG<|bH l1 l2,cG<|bH l2 l1])<|.int 0)<|Zy<|Zx (.list [cG<|bH l1 l2,cG<|bH l2 l1])<|.int 1)=.ok ((bH l1 l2++bH l2 l1).contains k):=λk=>by
  show zu (aS<|rb (Zy<|dZ .Add ((bH l1 l2).map .str)<|.list<|(bH l2 l1).map .str) λv=>Zy<|Internal.contains (.str k)<|Zp v)=_;rw[show dZ .Add ((bH l1 l2).map .str) (.list<|(bH l2 l1).map .str)=.ok (.own<|.list<|(bH l1 l2++bH l2 l1).map .str) from by
   show(if jG .Add=â/\((bH l1 l2).map l_).length+((bH l2 l1).map l_).length<=a8 then P.ok (V.own<|.list<|(bH l1 l2).map .str++(bH l2 l1).map .str) else .no)=_;rw[if_pos ⟨rfl,by
    simp only[j_];exact Of (B1.len) (B2.len) (HW.len) (aa (fx _ _)<|bl<|cO l1) (aa (fx _ _)<|bl<|cO l2)<|rfl⟩,ej]]
  show zu (aS<|Zy<|(AT<|CI<|(bH l1 l2++bH l2 l1).map .str).bind λss=>P.ok<|ss.contains k)=_;rw[iD];rfl
 rw[bW,aM,z7 (g:=λk=>(bH l1 l2++bH l2 l1).contains k) λk _=>AO k];have hmem:∀k,k∈bH l1 l2++bH l2 l1↔(g k).isSome≠(h k).isSome:=λk=>by rw[pw,uI B1 B2,uI B2 B1];cases g k<;>cases h k<;>simp
 by_cases CV:∀k,(q k).isSome=â->((g k).isSome=(h k).isSome)
 case neg=>
  rw[cA λh=>CV h.2,show((ks l).filter λk=>(bH l1 l2++bH l2 l1).contains k).isEmpty=ã from by
   rw[qg];intro he;refine CV λk hk=>Classical.byContradiction λh3=>?_;have:=iZ.mp he k<|C.mem.mpr hk;rw[(List.contains_iff_mem.mpr ((hmem k).mpr h3):(bH l1 l2++bH l2 l1).contains k=â)] at this;exact FZ this,show aV (.join a b fs) (.br f) (.br q) way=⟨way,frm _ dR,_⟩ from rfl,pK (p:=lH<|.br q) AK]
  exact((kE n hd hn hy dR).mono (ao<|m+2)).rb
 rw[dL ⟨AK,CV⟩,show((ks l).filter λk=>(bH l1 l2++bH l2 l1).contains k).isEmpty=â from iZ.mpr λk hk=>by
  refine DO ((bH l1 l2++bH l2 l1).contains k) (λe=>e) λe=>absurd (CV k<|C.mem.mp hk)<|(hmem k).mp (List.contains_iff_mem.mp e)]
 obtain hT0:∀y,zu (aC (aC (.ok<|.fz<|.str y) .In<|Zy<|Zx (Zq<|.join a b fs)<|.int 3) .Eq<|aS<|Zy<|BX .Eq (.int 0)<|.int 0)=.ok (fs.contains y):=λy=>by show zu (rb (aS<|Zy<|Internal.contains (.str y)<|.tuple<|fs.map .str) λv=>aS<|Zy<|CU (Zp v)<|.bool â)=_;rw[nQ];cases fs.contains y<;>rfl
 obtain hT1:∀y,zu (aC (aC (.ok<|.fz<|.str y) .In<|Zy<|Zx (Zq<|.join a b fs)<|.int 3) .Eq<|aS<|Zy<|BX .Eq (.int 1)<|.int 0)=.ok (!fs.contains y):=λy=>by show zu (rb (aS<|Zy<|Internal.contains (.str y)<|.tuple<|fs.map .str) λv=>aS<|Zy<|CU (Zp v)<|.bool ã)=_;rw[nQ];cases fs.contains y<;>rfl
 refine AN λΘ θ=>eH (J6 (n+2) (old:=Zz lo) (way:=.list way) (tb:=iI l1 l2) (al:=.list [cG<|bH l1 l2,cG<|bH l2 l1]) (P:=λf=>f∈fs) hT0 (λy=>xm) C AK B1 B2 (λk hk=>zn (q k) (λe=>e) λu e=>absurd (CV k<|by rw[e];rfl)<|(hmem k).mp (List.mem_append.mpr<|.inl hk)) (J1 l1 l2) rfl (z:=a) rfl ha (Bo.mono<|ao _) (ζ<|.int 1) á á á) λc1 k1 r1 f1 D1 L1=>eH (J6 (n+2) (old:=Zz lo) (way:=.list way) (tb:=iI l1 l2) (al:=.list [cG<|bH l1 l2,cG<|bH l2 l1]) (P:=λf=>f∉fs) hT1 (λy=>by simp) C AK B2 B1 (λk hk=>zn (q k) (λe=>e) λu e=>absurd (CV k<|by rw[e];rfl)<|(hmem k).mp (List.mem_append.mpr<|.inr hk)) (J2 l1 l2) rfl (z:=b) rfl hb D1 (ζ<|.int 0) k1 r1 f1) λc2 k2 r2 f2 D2 L2=>θ ?_;refine .tree _ (Zz c2) rfl ?_ D2.toSem;rw[q4v,aM,aF];refine(L1 _ _).trans ((L2 _ _).trans ?_);show yZ (n+2) (pS _ _ _ _ _ _ _ _ _ _ _) _ _=_;unfold pS;rw[q0x];rfl
variable {m:Nat}
def GN(d:a_):R V:=fC (κ<|.bool<|b7 d) (aK bX<|Zy<|dO d)<|κ .none
theorem uJ(i:Int):GN (.int i)=κ .none:=rfl
theorem uK(h:l.length<64):GN (Zz l)=.ok (.own<|cG<|aU<|ks l):=by show aK bX (Zy<|dO<|Zz l)=_;rw[list_dict];show Zy (eX<|(ks l).map .str)=_;rw[jA<|by rw[cO];exact h];rfl
theorem q4x(n:Nat)(o d w:a_):rn (n+1) CM [.fz<|Zq .whole,.fz o,.fz d,.fz w]=rb (GN d) λv2=>κ (.tuple [.str dM,d]):=Zv
theorem q4y(n:Nat)(x:d_)(o d w:a_):rn (n+1) CM [.fz<|Zq<|.pick x,.fz o,.fz d,.fz w]=rb (GN d) λv2=>rb (aO [κ<|.str dM,aK bA<|aB .Add (Zy<|f0 o)<|cH [aO [κ<|.str x,κ d]]]) Zt:=Zv
theorem q4z(n:Nat)(x y:d_)(o d w:a_):rn (n+1) CM [.fz<|Zq<|.call x y,.fz o,.fz d,.fz w]=rb (GN d) λv2=>zp (BH (aC (Zy<|zi<|Zr v2) .Is<|κ .none)<|BH (aC (κ<|.str y) .NotIn<|Zy<|zi<|Zr v2)<|aC (κ<|.str x) .In<|Zy<|zi<|Zr v2) (rb (rn n E_ [.fz w,.fz<|.str bZ,.fz d]) Zt) (rb (aN (BD<|Zy<|zi<|Zr<|Zr v2) (λd3=>.ok â) λd3=>aO [fC (aC (κ d3) .Eq<|κ<|.str y) (κ<|.str x)<|κ d3,Zy<|Zx d d3]) λv4=>rb (aO [κ<|.str dM,aK bA<|Zy<|zi<|Zr v4]) Zt):=Zv
theorem q40(n:Nat)(x:d_)(i:Int)(o d w:a_):rn (n+1) CM [.fz<|Zq<|.sift x i,.fz o,.fz d,.fz w]=rb (GN d) λv2=>rb (rn n TP [.fz<|Zq<|.sift x i,.fz o,.fz d,.fz w]) Zt:=Zv
theorem q41(n:Nat)(x y:d_)(fs:List d_)(o d w:a_):rn (n+1) CM [.fz<|Zq<|.join x y fs,.fz o,.fz d,.fz w]=rb (GN d) λv2=>rb (rn n TQ [.fz<|Zq<|.join x y fs,.fz o,.fz d,.fz w]) Zt:=Zv
theorem q42(n:Nat)(r:WW)(o d w:a_):rn (n+1) CM [.fz<|Zq<|.beside r,.fz o,.fz d,.fz w]=rb (GN d) λv2=>zp (aC (Zy<|zi<|Zr v2) .NotEq<|aK bX<|aN (Zy<|items<|Zq r) (λd5=>.ok â) λd5=>Zy<|Zx d5<|.int 0) (rb (rn n E_ [.fz w,.fz<|.str bZ,.fz d]) Zt) (rb (rn n NS [.fz<|Zq r,.fz o,.fz d,.fz w]) Zt):=Zv
theorem q43(n:Nat)(v:WW)(o d w:a_):rn (n+1) CM [.fz<|Zq<|.each v,.fz o,.fz d,.fz w]=rb (GN d) λv2=>zp (BH (aC (Zy<|zi<|Zr v2) .Is<|κ .none)<|aC (Zy<|zi<|Zr v2) .NotEq<|aK bX<|Zy<|dO o) (rb (aE (rn n E_) [κ w,aI (cI<|cH [κ<|.str fN,κ<|.str bZ])<|aK fH<|aC (Zy<|zi<|Zr<|Zr v2) .Is<|κ .none,κ d]) Zt) (rb (aE (rn n NS) [aN (BD<|Zy<|zi<|Zr<|Zr v2) (λd7=>.ok â) λd7=>aO [κ d7,κ d7,κ<|Zq v],κ o,κ d,κ w]) Zt):=Zv
theorem q44(n:Nat)(a b:WW)(o d:a_)(w:List a_):rn (n+1) CM [.fz<|Zq<|.andThen a b,.fz o,.fz d,.fz<|.list w]=rb (GN d) λv2=>rb (aE (rn n CM) [κ<|Zq b,rn n BJ [.fz<|Zq a,.fz o],κ d,Zy<|dZ .Add w<|.list [.int 1]]) λv8=>zp (aC (aI (bG v8)<|κ<|.int 0) .Eq<|κ<|.str dC) (eV v8 Zt) (rb (aE (rn n CM) [κ<|Zq a,κ o,aI (bG v8)<|κ<|.int 1,Zy<|dZ .Add w<|.list [.int 0]]) Zt):=Zv
variable {m:Nat}
def kF(x:Rf)(d:a_):V:=.fz<|.tuple [.str dC,.list x.way,.str x.kind,d]
def jC(d:a_):V:=.fz<|.tuple [.str dM,d]
theorem J7(d:a_):aC (aI (bG<|jC d)<|κ<|.int 0) .Eq (κ<|.str dC)=κ (.bool ã):=Zv
theorem J8(x:Rf)(d:a_):aC (aI (bG<|kF x d)<|κ<|.int 0) .Eq (κ<|.str dC)=κ (.bool â):=Zv
theorem J9(d:a_):aI (bG<|jC d) (κ<|.int 1)=κ d:=rfl
noncomputable abbrev J4:=Option V×Option V×Option V×Option V
def eS(rows old new way:a_)(c:LP)(j:J4):aA:=j0 (ζ rows) (ζ old) (ζ new) (ζ way) (à<|.own<|Zz c) j.1 j.2.1 j.2.2.1 j.2.2.2
def gL(x p:d_)(v:WW):a_:=.tuple [.str x,.str p,Zq v]
theorem Ka(n:Nat){w:List a_}(hw:w.length<1000){p:d_}{v:WW}(q1:lk lo p=à d1)(q3:lk ln x=à dn)(c:LP)(j:J4)(kn:KN)(kr:KR):
  (rb (Zy<|a9 hJ (gL x p v)<|eS rows (Zz lo) (Zz ln) (.list w) c j) λσ=>gZ n σ kn kr)=rb (rn n CM [.fz<|Zq v,.fz d1,.fz dn,.fz<|.list<|w++[.str x]]) λv1=>zp (aC (aI (bG v1)<|κ<|.int 0) .Eq<|κ<|.str dC) (eV v1 kr) (bK (aI (bG v1)<|κ<|.int 1) (.ok<|Zz c) (κ<|.str p) λo2=>kn<|j0 (ζ rows) (ζ<|Zz lo) (ζ<|Zz ln) (ζ<|.list w) (à<|.own o2) (ζ<|.str x) (ζ<|.str p) (ζ<|Zq v)<|some v1):=by
 unfold eS gL;rw[q01,aM,aF,q02,bE q1,bE q3];show rb (aE (rn n CM) [κ<|Zq v,κ d1,κ dn,Zy<|dZ .Add w<|.list [.str x]]) _=_;rw[lK _ hw];rfl
theorem Kc(n:Nat){w:List a_}(hw:w.length<1000){p:d_}{v:WW}(q1:lk lo p=à d1)(q3:lk ln x=à dn){c:LP}(j:J4)(hr:rn n CM [.fz<|Zq v,.fz d1,.fz dn,.fz<|.list<|w++[.str x]]=.ok (jC d'))(hc:c.length<a8)(kn:KN)(kr:KR):
  (rb (Zy<|a9 hJ (gL x p v)<|eS rows (Zz lo) (Zz ln) (.list w) c j) λσ=>gZ n σ kn kr)=kn (eS rows (Zz lo) (Zz ln) (.list w) (st c p d') (à<|.fz<|.str x,à<|.fz<|.str p,à<|.fz<|Zq v,à<|jC d')):=by
 rw[Ka n hw q1 q3,hr,aF,J7,J9];show rb (Zy<|Internal.setItem (Zz c) (.str p) d') _=_;rw[cS p d' hc];rfl
theorem Kd(n:Nat){w:List a_}(hw:w.length<1000){p:d_}{v:WW}{y:Rf}(q1:lk lo p=à d1)(q3:lk ln x=à dn){c:LP}(j:J4)(hr:rn n CM [.fz<|Zq v,.fz d1,.fz dn,.fz<|.list<|w++[.str x]]=.ok (kF y d'))(kn:KN)(kr:KR):
  (rb (Zy<|a9 hJ (gL x p v)<|eS rows (Zz lo) (Zz ln) (.list w) c j) λσ=>gZ n σ kn kr)=kr (kF y d'):=by
 rw[Ka n hw q1 q3,hr,aF,J8];rfl
def jD(v:WW)(f q:d_->Option TT)(k:d_):Option TT:=(f k).bind λx=>(q k).bind λy=>aQ v x y
inductive SO(M n:Nat)(v:WW)(f q:d_->Option TT)(w:List a_)(rows:a_)(lo ln:LP)(xs:List d_)(c:LP)(g:d_->Option TT)(j:J4):Prop where
 |all (c':LP) (j':J4) (h:∀k∈xs,(jD v f q k).isSome=â) (B:zl M c' λk=>if k∈xs then jD v f q k else g k) (e:∀kn kr,aX (gZ n) hJ (xs.map λk=>gL k k v) (eS rows (Zz lo) (Zz ln) (.list w) c j) kn kr=kn (eS rows (Zz lo) (Zz ln) (.list w) c' j')):SO M n v f q w rows lo ln xs c g j
 |ref (q0 r0:List d_) (k:d_) (x y:TT) (d:a_) (e0:xs=q0++k::r0) (h:∀i∈q0,(jD v f q i).isSome=â) (h1:f k=à x) (h2:q k=à y) (h3:aQ v x y=á) (s:Sem M d (aV v x y<|w++[.str k]).part) (yy:Wy (aV v x y<|w++[.str k]).way) (e:∀kn kr,aX (gZ n) hJ (xs.map λk=>gL k k v) (eS rows (Zz lo) (Zz ln) (.list w) c j) kn kr=kr (kF (aV v x y<|w++[.str k]) d)):SO M n v f q w rows lo ln xs c g j
theorem q45(n:Nat){v:WW}{f q:d_->Option TT}{w:List a_}(hw:w.length<1000)(B:zl m lo f)(C:zl m ln q)(rows:a_)
  (ih:∀k o x to tx,f k=à to->Sem m o to->Sem m x tx->BG M (aQ v to tx) (aV v to tx<|w++[.str k]) (rn n CM [.fz<|Zq v,.fz o,.fz x,.fz<|.list<|w++[.str k]])) :
  ∀{xs:List d_},(∀k∈xs,k∈ks lo/\k∈ks ln)->∀{c:LP} {g:d_->Option TT} (j:J4),zl M c g->SO M n v f q w rows lo ln xs c g j:=by
 intro xs;induction xs with
 |nil=>exact λ_ c g j hc=>.all c j (λk hk=>cB hk) (hc.ext λk=>by rw[if_neg ql]) λ_ _=>rfl
 |cons k xs IH=>
  intro hx c g j hc;obtain⟨dx,x,a1,a2,a3⟩:=B.key (hx k ag).1;obtain⟨dy,y,b1,b2,b3⟩:=C.key (hx k ag).2;have hF:jD v f q k=aQ v x y:=by unfold jD;rw[a2,b2];rfl
  rcases ih k dx dy x y a2 a3 b3 with ⟨t,d,h,e,s⟩|⟨d,h,e,s,yy⟩
  ·have hk:=Kc n hw (rows:=rows) a1 b1 j e<|hc.lt Zw;rcases IH (λi hi=>hx i<|af _ hi) (à<|.fz<|.str k,à<|.fz<|.str k,à<|.fz<|Zq v,à<|jC d) (hc.set (B.sub k<|lJ a1) s) with ⟨c',j',h1,B',e'⟩|⟨q0,r0,k',x',y',d',e0,h1,h2,h3,h4,s',yy',e'⟩
   ·refine .all c' j' (λi hi=>?_) (B'.ext λi=>?_) λkn kr=>(hk _ kr).trans (e' kn kr)
    ·rcases List.mem_cons.mp hi with rfl|hi
     ·rw[hF,h];rfl
     ·exact h1 i hi
    ·by_cases hi:i∈xs
     ·rw[if_pos hi,if_pos<|af _ hi]
     ·rw[if_neg hi]
      by_cases ei:i=k
      ·subst hx a1 a2 b1 b2 e hk B' e' ei;rw[if_pos ag,hF,h];simp only[upd,if_true]
      ·rw[if_neg λz=>(List.mem_cons.mp z).elim ei hi];rw[upd,if_neg ei]
   ·refine .ref (k::q0) r0 k' x' y' d' (by rw[e0];rfl) (λi hi=>?_) h2 h3 h4 s' yy' λkn kr=>(hk _ kr).trans (e' kn kr);rcases List.mem_cons.mp hi with rfl|hi
    ·rw[hF,h];rfl
    ·exact h1 i hi
  ·exact .ref [] xs k x y d rfl (λi hi=>cB hi) a2 b2 h s yy λkn kr=>Kd n hw a1 b1 j e _ kr
theorem q46(n:Nat){v:WW}{f q:d_->Option TT}{w:List a_}(hw:w.length<1000)(B:zl m lo f)(C:zl m ln q)(hM:m<=M)(hc:∀k,(q k).isSome=(f k).isSome)
  (ih:∀k o x to tx,f k=à to->Sem m o to->Sem m x tx->BG M (aQ v to tx) (aV v to tx<|w++[.str k]) (rn n CM [.fz<|Zq v,.fz o,.fz x,.fz<|.list<|w++[.str k]])) :
  BG (M+1) (aQ (.each v) (.br f)<|.br q) (aV (.each v) (.br f) (.br q) w) (rn (n+1) NS [.fz<|.list<|(aU<|ks ln).map λk=>gL k k v,.fz<|Zz lo,.fz<|Zz ln,.fz<|.list w]):=by
 ext ln lo M m n v f q w
 rw[Hr];have hmem:∀k,k∈aU (ks ln)↔(q k).isSome=â:=λk=>cP.trans C.mem;obtain L:=q45 n hw B C (M:=M) (.list<|(aU<|ks ln).map λk=>gL k k v) ih (xs:=aU<|ks ln) (λk hk=>⟨B.mem.mpr (by rw[<- hc k];exact(hmem k).mp hk),cP.mp hk⟩) (á,á,á,á)<|B.mono hM;show BG (M+1) (AS ((∀k,(q k).isSome=(f k).isSome)/\∀k x y,f k=à x->q k=à y->(aQ v x y).isSome=â)<|some<|.br<|jD v f q) (HL (∀k,(q k).isSome=(f k).isSome) (((f<|eN v f q).bind λx=>(q<|eN v f q).map λy=>aV v x y<|w++[.str<|eN v f q]).getD ⟨w,bZ,.br q⟩) ⟨w,fN,.br q⟩) (aX (gZ n) hJ ((aU<|ks ln).map λk=>gL k k v) (eS (.list<|(aU<|ks ln).map λk=>gL k k v) (Zz lo) (Zz ln) (.list w) lo (á,á,á,á)) _ _);rw[nH hc];rcases L with ⟨c',j',h1,B',e⟩|⟨q0,r0,k,x,y,d,e0,h1,h2,h3,h4,s,yy,e⟩
 ·rw[e,dL ⟨hc,λk x y hx hy=>by
   have:=h1 k<|(hmem k).mpr (by rw[hy];rfl);unfold jD at this;rw[hx,hy] at this;exact this⟩]
  refine .tree _ (Zz c') rfl ?_ (B'.ext λk=>?_).toSem
  ·unfold eS;rw[Hs];rfl
  ·by_cases hk:k∈aU (ks ln)
   ·rw[if_pos hk]
   ·rw[if_neg hk];obtain hf:=zn (f k) (λe=>e) λu e=>by have:=hc k;rw[(zn (q k) (λe=>e) λu e=>absurd ((hmem k).mpr (by rw[e];rfl)) hk),e] at this;exact zk this
    unfold jD;rw[hf];rfl
 ·obtain hl:eN v f q=k:=H0 Ab ⟨⟨x,y,h2,h3,h4⟩,λi hi hP=>by
   refine eG hP λx' y' e1 e2 e3=>?_;have:=h1 i<|I4 (pZ C.nd) (e0:[]++aU (ks ln)=_) hi<|(hmem i).mpr (by rw[e2];rfl);unfold jD at this;rw[e1,e2] at this;exact zk<|(congrArg qk e3).symm.trans this⟩
  rw[e,cA λh=>by have:=h.2 k x y h2 h3;rw[h4] at this;exact zk this,hl,h2,h3];exact .ref d rfl rfl (s.mono<|ao _) yy
variable {m:Nat}
inductive XN(d:a_):Prop where
 |mk (v:V) (e:GN d=.ok v):XN d
theorem q47{t:TT}(h:Sem m d t):XN d:=by
 obtain⟨i,rfl,rfl,_⟩|⟨_,l,f,_,rfl,rfl,B⟩:=h.CP
 ·exact⟨_,uJ i⟩
 ·exact⟨_,uK<|B.lt Zw⟩
theorem qK{t:TT}(h:Sem m d t)(r:R V):rb (GN d) (λ_=>r)=r:=by obtain⟨v,e⟩:=q47 h;rw[e];rfl
theorem q48(n:Nat)(hx:x∈NN){f:d_->Option TT}(B:zl m l f){w:a_}{t:TT}(hd:Sem (m+1) d t)(y:Rf):BG (m+2) (aQ (.pick x) (.br f) t) y<|rn (n+1) CM [.fz<|Zq<|.pick x,.fz<|Zz l,.fz d,.fz w]:=by
 rw[q4y,qK hd,Ag,aM,show cH [aO [κ<|.str x,κ d]]=.ok (.own<|.list<|[(x,d)].map aT) from Zv,Jz (pa:=l) (pb:=[(x,d)]) (by
  exact Ol B.len HW.len) rfl rfl]
 exact .tree _ (Zz<|st (BI l []) x d) rfl rfl ((((zl.nil.upd B).mono (ao _)).set hx hd).ext λk=>by
  simp only[Option.or_none];rfl).toSem
theorem q49{f:d_->Option TT}(B:zl m l f)(hx:x∈NN)(hfx:f x=á):∀{xs:List d_},(∀k∈xs,k∈ks l) ->
  ∃ps:LP,aZ (λ_=>.ok â) (λd3=>aO [fC (aC (κ d3) .Eq<|κ<|.str y) (κ<|.str x)<|κ d3,Zy<|Zx (Zz l) d3]) (xs.map .str)=.ok (ps.map aT)/\ps.length=xs.length/\(∀k,k∈ks ps↔∃z∈xs,k=if z=y then x else z)/\∀p∈ps,p.1∈NN/\∃u,fM y x f p.1=à u/\Sem m p.2 u:=by
 intro xs;induction xs with
 |nil=>exact λ_=>⟨[],rfl,rfl,λk=>⟨λh=>cB h,λ⟨z,hz,_⟩=>cB hz⟩,λp hp=>cB hp⟩
 |cons z xs ih=>
  intro h;refine gM (ih λk hk=>h k<|af _ hk) λps e1 e2 e3 e4=>?_;obtain⟨d,u,h1,h2,h3⟩:=B.key<|h z ag;obtain hzx:z≠x:=λe=>by rw[e,hfx] at h2;exact ns h2
  have et:aO [fC (aC (κ<|.str z) .Eq<|κ<|.str y) (κ<|.str x)<|κ<|.str z,Zy<|Zx (Zz l)<|.str z]=κ (aT (if z=y then x else z,d)):=by
   rw[bE h1];show aO [rb (Zt<|z==y) λc=>if c=â then _ else _,_]=_
   by_cases e:z=y
   ·rw[beq_iff_eq.mpr e,if_pos e];rfl
   ·rw[beq_false_of_ne e,if_neg e];rfl
  refine⟨(if z=y then x else z,d)::ps,?_,congrArg qh e2,λk=>?_,λp hp=>?_⟩
  ·show rb (nx<|Zt â) (λb=>if b then rb (nx<|aO [fC (aC (κ<|.str z) .Eq<|κ<|.str y) (κ<|.str x)<|κ<|.str z,Zy<|Zx (Zz l)<|.str z]) λv=>rb (aZ _ _<|xs.map .str) λxs=>.ok (Zp v::xs) else _)=_;rw[et,e1];rfl
  ·show k∈(if z=y then x else z)::ks ps↔_;rw[mo,e3];constructor
   ·rintro(hh | ⟨z',hz,hh⟩)
    ·exact⟨z,ag,hh⟩
    ·exact⟨z',af _ hz,hh⟩
   ·rintro⟨z',hz,hh⟩
    rcases List.mem_cons.mp hz with rfl|hz
    ·exact .inl hh
    ·exact .inr ⟨z',hz,hh⟩
  ·rcases List.mem_cons.mp hp with rfl|hp
   ·by_cases e:z=y
    ·subst ih e1 e3 e4 et hp e;simp only[if_true];exact⟨hx,u,by simp only[fM,if_true];exact h2,h3⟩
    ·rw[if_neg e];exact⟨B.sub z<|lJ h1,u,by rw[fM,if_neg hzx,if_neg e];exact h2,h3⟩
   ·exact e4 p hp
theorem Ke(l:List d_)(y:d_):Internal.contains (.str y) (cG l)=.ok (l.contains y):=by show((AT<|CI<|l.map .str).bind λss=>P.ok<|ss.contains y)=_;rw[iD];rfl
theorem q5a(n:Nat)(hx:x∈NN){t:TT}(h:Sem m d t)(hn:m<=n)(to:TT){way:List a_}(hy:Wy way):BG m (aQ (.call x y) to t) (aV (.call x y) to t way)<|rn (n+3) CM [.fz<|Zq<|.call x y,.fz o,.fz d,.fz<|.list way]:=by
 revert hx h hn;ext d o x y m n t to way
 have N1:=kE n h hn hy bZ;rw[q4z];obtain⟨i,rfl,rfl,_⟩|⟨m,l,f,rfl,rfl,rfl,B⟩:=h.CP
 ·rw[uJ,show aQ (.call x y) to (.num i)=á from cA (λh=>zk h.1) _];exact N1.rb
 rw[uK<|B.lt Zw,aF];obtain hc:BH (aC (Zy<|zi<|Zr<|.own<|cG<|aU<|ks l) .Is<|κ .none) (BH (aC (κ<|.str y) .NotIn<|Zy<|zi<|Zr<|.own<|cG<|aU<|ks l)<|aC (κ<|.str x) .In<|Zy<|zi<|Zr<|.own<|cG<|aU<|ks l)=κ (.bool (!((f y).isSome&&!(f x).isSome))):=by show BH (κ<|.bool ã) (BH (aS<|Zy<|b6<|Internal.contains (.str y)<|cG<|aU<|ks l)<|aS<|Zy<|Internal.contains (.str x)<|cG<|aU<|ks l)=_;rw[Ke,Ke,(fq.mpr (List.contains_iff_mem.trans<|cP.trans B.mem):(aU<|ks l).contains y=(f y).isSome),(fq.mpr (List.contains_iff_mem.trans<|cP.trans B.mem):(aU<|ks l).contains x=(f x).isSome)];cases (f y).isSome<;>cases (f x).isSome<;>rfl
 rw[hc]
 by_cases DC:(f y).isSome=â/\f x=á
 case neg=>
  rw[show aQ (.call x y) to (.br f)=á from cA DC _,show((f y).isSome&&!(f x).isSome)=ã from by
   refine zn (f y) (λe1=>?_) λu e1=>?_
   ·try rewrite[e1]
    rfl
   ·try rewrite[e1]
    exact zn (f x) (λe2=>absurd ⟨by rw[e1];rfl,e2⟩ DC) λv e2=>by rw[e2];rfl]
  exact N1.rb
 rw[show aQ (.call x y) to (.br f)=à (.br<|fM y x f) from dL DC _,DC.1,DC.2];refine gM (q49 B (y:=y) hx DC.2 (xs:=aU<|ks l) λk hk=>cP.mp hk) λps e1 e2 e3 e4=>?_;show BG (m+1) _ _ (rb (rb (aZ (λ_=>.ok â) (λd3=>aO [fC (aC (κ d3) .Eq<|κ<|.str y) (κ<|.str x)<|κ d3,Zy<|Zx (Zz l) d3])<|(aU<|ks l).map .str) λr=>Zy<|own<|.list r) λv4=>_);rw[e1];show BG (m+1) _ _ (rb (aO [κ<|.str dM,Zy<|bA<|.list<|ps.map aT]) Zt);rw[iX<|by rw[e2,tZ B.nd,cO];exact B.lt Zw];refine .tree _ (Zz<|BI ps []) rfl rfl ((gJ (F:=fM y x f) zl.nil e4).ext λk=>?_).toSem
 by_cases hk:k∈ks ps
 ·rw[if_pos hk]
 ·rw[if_neg hk];have nk:∀z,(f z).isSome=â->k≠if z=y then x else z:=λz hz e=>hk<|(e3 k).mpr ⟨z,cP.mpr<|B.mem.mpr hz,e⟩;unfold fM
  by_cases e:k=x
  ·exact absurd (e.trans (if_pos rfl).symm)<|nk y DC.1
  ·rw[if_neg e]
   by_cases e':k=y
   ·rw[if_pos e']
   ·rw[if_neg e'];exact zn (f k) (λz=>z.symm) λu z=>absurd (if_neg e').symm (nk k<|by rw[z];rfl)
variable {m:Nat}
theorem Kf(a b:List d_):aC (Zy<|zi<|Zr<|.own<|cG a) .NotEq (Zy<|.ok<|.own<|cG b)=κ (.bool (!(a==b))):=by show aS (Zy<|b6<|CU (cG a)<|cG b)=_;rw[show CU (cG a) (cG b)=.ok (a==b) from t0 a b];rfl
theorem q5b(v:WW)(xs:List d_):aN (.ok<|xs.map .str) (λ_=>.ok â) (λd7=>aO [κ d7,κ d7,κ<|Zq v])=.ok (.own<|.list<|xs.map λk=>gL k k v):=by show rb (aZ _ _<|xs.map .str) (λr=>Zy<|own<|.list r)=_;rw[pQ (t:=λ_=>.ok â) (e:=λd7=>aO [κ d7,κ d7,κ<|Zq v]) (g:=λd=>.tuple [d,d,Zq v]) λd hd=>⟨rfl,_,rfl,rfl⟩,qu];rfl
theorem q5c(n:Nat)(w d:a_):aE (rn n E_) [κ w,aI (cI<|cH [κ<|.str fN,κ<|.str bZ])<|aK fH<|κ<|.bool â,κ d]=rn n E_ [.fz w,.fz<|.str bZ,.fz d]:=Zv
theorem q5d(n:Nat)(w d:a_):aE (rn n E_) [κ w,aI (cI<|cH [κ<|.str fN,κ<|.str bZ])<|aK fH<|κ<|.bool ã,κ d]=rn n E_ [.fz w,.fz<|.str fN,.fz d]:=Zv
theorem q5e(n:Nat){v:WW}{f:d_->Option TT}{t:TT}{w:List a_}(hw:w.length<1000)(hy:Wy w)(B:zl m l f)(hd:Sem (m+1) d t)(hn:m+1<=n)
  (ih:∀k o x to tx,f k=à to->Sem m o to->Sem m x tx->BG (m+g) (aQ v to tx) (aV v to tx<|w++[.str k]) (rn (n+1) CM [.fz<|Zq v,.fz o,.fz x,.fz<|.list<|w++[.str k]])) :
  BG (m+g+1) (aQ (.each v) (.br f) t) (aV (.each v) (.br f) t w) (rn (n+3) CM [.fz<|Zq<|.each v,.fz<|Zz l,.fz d,.fz<|.list w]):=by
 ext l g d m n v f t w
 have hm:m+1<=m+g+1:=be<|am _ _;rw[q43];obtain⟨j,rfl,rfl,hi⟩|⟨_,ln,q,e,rfl,rfl,C⟩:=hd.CP
 ·rw[uJ];show BG _ _ _ (rb (aE (rn (n+2) E_) [κ<|.list w,aI (cI<|cH [κ<|.str fN,κ<|.str bZ])<|aK fH<|κ<|.bool â,κ<|.int j]) Zt);rw[q5c];exact((kE n hd hn hy bZ).mono hm).rb
 cases e;rw[uK<|C.lt Zw,aF,list_dict];obtain hs:aK bX (Zy<|.ok<|.own<|.list<|(ks l).map .str)=Zy (.ok<|.own<|cG<|aU<|ks l):=by show Zy (eX<|(ks l).map .str)=_;rw[jA<|by rw[cO];exact B.lt Zw];rfl
 rw[hs,Kf,qA C.nd B.nd];have hiff:(∀k,k∈ks ln↔k∈ks l)↔∀k,(q k).isSome=(f k).isSome:=⟨λh k=>by have:=h k;simp only[C.mem,B.mem] at this;exact fq.mpr this,λh k=>by rw[C.mem,B.mem,h k]⟩
 by_cases hc:∀k,(q k).isSome=(f k).isSome
 case neg=>rw[dG.mpr λh=>hc<|hiff.mp h,show aQ (.each v) (.br f) (.br q)=á from cA (λh=>hc h.1) _,show aV (.each v) (.br f) (.br q) w=HL _ _ ⟨w,fN,.br q⟩ from rfl,nI (p:=∀k,(q k).isSome=((T.br f).get k).isSome) hc];show BG _ _ _ (rb (aE (rn (n+2) E_) [κ<|.list w,aI (cI<|cH [κ<|.str fN,κ<|.str bZ])<|aK fH<|κ<|.bool ã,κ<|Zz ln]) Zt);rw[q5d];exact((kE n hd hn hy fN).mono hm).rb
 rw[cJ.mpr<|hiff.mpr hc];show BG _ _ _ (rb (aE (rn (n+2) NS) [aN (.ok<|(aU<|ks ln).map .str) (λ_=>.ok â) λd7=>aO [κ d7,κ d7,κ<|Zq v],κ<|Zz l,κ<|Zz ln,κ<|.list w]) Zt);rw[q5b];exact(q46 (n+1) hw B C (am m g) hc ih).rb
def Kg(M n:Nat)(w:WW)(o:Option TT)(x:Rf)(rows:a_)(lo ln:LP)(wl:List a_)(c:LP)(g:d_->Option TT)(j:J4):Prop:=match o with
 |some z=>∃c' j',zl M c' (λk=>if k∈w.parts then z.get k else g k)/\∀kn kr,aX (gZ n) hJ (bI w) (eS rows (Zz lo) (Zz ln) (.list wl) c j) kn kr=kn (eS rows (Zz lo) (Zz ln) (.list wl) c' j')
 |none=>∃d,(∀kn kr,aX (gZ n) hJ (bI w) (eS rows (Zz lo) (Zz ln) (.list wl) c j) kn kr=kr (kF x d))/\Sem M d x.part/\Wy x.way
theorem q5f(n:Nat){r:WW}(hr:r.AY=â)(ho:BV r){f:d_->Option TT}{t:TT}{w:List a_}(hy:Wy w)(B:zl m l f)(hd:Sem (m+1) d t)(hn:m+1<=n)(hM:m<=M)(hl:r.names.length<=6)
  (ih:∀ln q,zl m ln q->(∀k∈r.names,(q k).isSome=â)->Kg M (n+1) r (aQ r (.br f)<|.br q) (aV r (.br f) (.br q) w) (Zq r) l ln w l f (á,á,á,á)) :
  BG (M+1) (aQ (.beside r) (.br f) t) (aV (.beside r) (.br f) t w) (rn (n+3) CM [.fz<|Zq<|.beside r,.fz<|Zz l,.fz d,.fz<|.list w]):=by
 revert hr ho;ext l M d m n r f t w
 have N1:=(kE n hd hn hy bZ).mono (be hM);refine fO (zZ hr ho) λzt HP i5 i6=>?_;obtain⟨i1,i2⟩:=zt;obtain⟨i3,i4⟩:=HP;rw[q42];obtain MK:aK bX (aN (Zy<|items<|Zq r) (λd5=>.ok â) λd5=>Zy<|Zx d5<|.int 0)=Zy (.ok<|.own<|cG<|aU r.names):=by rw[iF hr];show rb (rb (aZ (λ_=>.ok â) (λd=>Zy<|Zx d<|.int 0)<|bI r) λr=>Zy<|own<|.list r) (λv=>Zy<|bX<|Zp v)=_;rw[i1];show Zy (eX<|r.names.map .str)=_;rw[jA<|au hl Zw];rfl
 rw[MK];obtain⟨j,rfl,rfl,hi⟩|⟨_,ln,q,e,rfl,rfl,C⟩:=hd.CP
 ·rw[uJ];exact N1.rb
 cases e;rw[uK<|C.lt Zw,aF,Kf,qA C.nd i3];have hiff:(∀k,k∈ks ln↔k∈r.names)↔∀k,(q k).isSome=â↔k∈r.names:=⟨λh k=>by rw[<- C.mem];exact h k,λh k=>by rw[C.mem];exact h k⟩
 show BG (M+1) (AS (∀k,(q k).isSome=â↔k∈r.names)<|aQ r (.br f)<|.br q) (HL (∀k,(q k).isSome=â↔k∈r.names) (aV r (.br f) (.br q) w) ⟨w,bZ,.br q⟩) _
 by_cases hc:∀k,(q k).isSome=â↔k∈r.names
 case neg=>rw[dG.mpr λh=>hc<|hiff.mp h,cA hc,nI hc];exact N1.rb
 rw[cJ.mpr<|hiff.mpr hc,dL hc,nH hc];have hI:=ih ln q C λk hk=>(hc k).mpr hk;refine BG.rb ?_;rw[Hr,iF hr];rw[iF hr] at hI;refine zn (aQ r (.br f)<|.br q) (λhp=>?_) λz hp=>?_
 ·rw[hp] at hI;refine bN hI λd2 e h2 yy=>?_;rw[hp];exact .ref d2 rfl (e _ _) (h2.mono<|ao _) yy
 ·rw[hp] at hI;refine cL hI λc j h1 h2=>aD (I0 hr ho.wf hp) λz' zq hz=>?_;subst hI zq;rw[hp];refine .tree _ (Zz c) rfl ((h2 _ _).trans ?_) (h1.ext λk=>?_).toSem
  ·unfold eS;rw[Hs];rfl
  ·by_cases hk:k∈r.parts
   ·rw[if_pos hk];rfl
   ·rw[if_neg hk];exact(hz k hk).symm
variable {m:Nat}
def q5g(w:WW):Prop:=∀{m n o d to tn wl},2*w.AG+m+w.grow+8<=n->wl.length+w.AG<=900->Wy wl->Sem m o to->Sem m d tn->(aY w to).isSome=â->BG (m+w.grow) (aQ w to tn) (aV w to tn wl) (rn n CM [.fz<|Zq w,.fz o,.fz d,.fz<|.list wl])
def q5h(w:WW):Prop:=∀{m n lo f ln q wl},2*w.AG+m+w.grow+8<=n->wl.length+w.AG+1<=900->Wy wl->zl m lo f->zl m ln q->(aY w<|.br f).isSome=â->(∀k∈w.names,(q k).isSome=â)->∀rows M,m+w.grow<=M->∀c g j,zl M c g->Kg M n w (aQ w (.br f)<|.br q) (aV w (.br f) (.br q) wl) rows lo ln wl c g j
structure ϩ(w:WW):Prop where
 a:w.AY=ã->q5g w
 b:w.AY=â->q5h w
theorem Kh{w:WW}(ho:BV w)(hr:w.AY=ã){t s:TT}(hn:w.AG+m+3<=n)(hd:Sem m d t)(hs:aY w t=à s):Gives (rn n BJ [.fz<|Zq w,.fz d]) λd'=>Sem m d' s:=by have:=(Jc ho).1 hr hn hd;simp only[hs] at this;exact this
theorem SE{a b:Nat}(h:a+(b+1)<=900):a+1<=900:=aa (bo (be<|ay b) a) h
theorem uL{l:List a_}(h:Wy l)(hl:l.length+1<=900){x:a_}(hx:(∃s,s∈NN/\x=.str s)\/x=.int 0\/x=.int 1):Wy<|l++[x]:=⟨by rw[k_];exact hl,λd hd=>by
 rcases List.mem_append.mp hd with hd|hd
 ·exact h.e d hd
 ·rw[List.mem_singleton.mp hd];exact hx⟩
theorem q5i(y:Rf)(d:a_)(B:R V):zp (aC (aI (bG<|kF y d)<|κ<|.int 0) .Eq<|κ<|.str dC) (eV (kF y d) Zt) B=.ok (kF y d):=by rw[J8];rfl
theorem q5j:∀{w:WW},BV w->ϩ w:=by
 intro w;induction w with
 |whole=>
  refine λ_=>⟨λ_ m n o d to tn wl hn hw hy hO hD hs=>?_,λh=>by exact zk h⟩
  refine AM (c:=1) n hn hn λn hn=>?_;rw[q4x,qK hD];exact .tree tn d rfl rfl hD
 |pick x=>
  refine λho=>⟨λ_ m n o d to tn wl hn hw hy hO hD hs=>?_,λh=>by exact zk h⟩
  refine AM (c:=1) n hn hn λn hn=>?_;cases to with
  |num=>exact zk hs
  |br f=>
   revert hD hn;refine hO.EJ λm l B hD hn=>?_
   exact q48 n ho B hD _
 |call x y=>
  refine λho=>⟨λ_ m n o d to tn wl hn hw hy hO hD hs=>?_,λh=>by exact zk h⟩
  exact AM (c:=3) n hn hn λn hn=>q5a n ho.1 hD (II<|fd (k:=5) (c:=3) hn) to hy
 |sift x i=>
  refine λho=>⟨λ_ m n o d to tn wl hn hw hy hO hD hs=>?_,λh=>by exact zk h⟩
  refine AM (c:=4) n hn hn λn hn=>?_;cases to with
  |num=>exact zk hs
  |br f=>
   refine Zs (eQ hs) λs hs=>zj (j4 hs) λhc _=>?_;rw[q40,qK hD]
   revert hD hn;refine hO.EJ λm l B hD hn=>?_
   exact(q4l n hy B hc hD<|II<|fd (k:=4) (c:=4) hn).rb
 |join a b fs=>
  refine λho=>⟨λ_ m n o d to tn wl hn hw hy hO hD hs=>?_,λh=>by exact zk h⟩
  refine AM (c:=4) n hn hn λn hn=>Zs (eQ hs) λs hs=>qL (tN hs) λg h ga ha F _=>?_;cases to with
  |num=>exact ns ga
  |br f=>
   rw[q41,qK hD]
   revert hD hn;refine hO.EJ λm l B hD hn=>?_
   refine AN λ_ θ=>?_;obtain⟨d1,q1,q2⟩:=B.get ga;obtain⟨d2,q3,q4⟩:=B.get ha;obtain⟨m,l1,B1⟩:=q2.NO;obtain⟨_,l2,e,zq,B2⟩:=q4.CR;subst q4 zq;apply θ;cases e;exact(q4w n ho.1.1 ho.1.2.1 hy B q1 q3 ga ha B1 B2 hD<|II<|fd (k:=4) (c:=4) hn).rb
 |each v ih=>
  refine λho=>⟨λ_ m n o d to tn wl hn hw hy hO hD hs=>?_,λh=>by exact zk h⟩
  have hn:=hn;have hw:=hw;refine AM (c:=3) n hn hn λn hn=>?_;cases to with
  |num=>exact zk hs
  |br f=>
   refine Zs (eQ hs) λs hs=>zj (j4 hs) λhc _=>?_
   revert hD hn;refine hO.EJ λm l B hD hn=>?_
   exact(q5e n (v:=v) (w:=wl) (KI hw) hy B hD (II<|fd (k:=5) (c:=3) hn) (g:=v.grow) λk o x to tx hk h1 h2=>(ih ho.1).1 ho.2 (n:=n+1) (B8 hn) (by rw[k_,cn];exact A9 hw) (uL hy (SE hw)<|.inl ⟨k,B.sub k (B.mem.mpr<|by rw[hk];rfl),rfl⟩) h1 h2<|hc k to hk).mono (bl<|bg _ _ _)
 |andThen a b HD HE=>
  refine λho=>⟨λ_ m n o d to tn wl hn hw hy hO hD hs=>?_,λh=>by exact zk h⟩
  have hn:=hn;have hw:=hw;refine AM (c:=1) n hn hn λn hn=>Zs (eQ hs) λs hs=>?_;obtain⟨mid,h1,h2⟩:=C_ hs;obtain⟨v1,d1,e1,e2,e3⟩:=Kh ho.1.1 ho.1.2 (n:=n) (Og hn) hO h1;obtain hb:=(HE ho.2.1).1 ho.2.2 (n:=n) (wl:=wl++[.int 1]) (Ba hn) (by rw[k_,cn];exact Bb hw) (uL hy (SE hw)<|.inr<|.inr rfl) e3 hD (by rw[h2];rfl);obtain CK:aQ (.andThen a b) to tn=(aQ b mid tn).bind λmid=>aQ a to mid:=by show((aY a to).bind λm=>_)=_;rw[h1];rfl
  obtain JG:aV (.andThen a b) to tn wl=(aQ b mid tn).elim (aV b mid tn<|wl++[.int 1]) λz=>aV a to z (wl++[.int 0]):=by show(aY a to).elim _ _=_;rw[h1];rfl
  rw[q44,qK hD,e1,lK _<|KI hw,lK _<|KI hw,CK,JG];show BG _ _ _ (rb (rn n CM [.fz<|Zq b,v1.cl,.fz d,.fz<|.list<|wl++[.int 1]]) _);rw[e2];rcases hb with ⟨mt,dm,hp,e,s⟩|⟨dm,hp,e,s,yy⟩
  ·rw[e,hp];show BG _ _ _ (zp (aC (aI (bG<|jC dm)<|κ<|.int 0) .Eq<|κ<|.str dC) (eV (jC dm) Zt)<|rb (aE (rn n CM) [κ<|Zq a,κ o,aI (bG<|jC dm)<|κ<|.int 1,.ok<|.own<|.list<|wl++[.int 0]]) Zt);rw[J7,J9];exact((HD ho.1.1).1 ho.1.2 (n:=n) (wl:=wl++[.int 0]) (Be hn) (by rw[k_,cn];exact Bg hw) (uL hy (SE hw)<|.inr<|.inl rfl) (hO.mono<|am m b.grow) s<|by rw[h1];rfl).rb.mono (bl<|(fm m b.grow a.grow).trans (congrArg (m+·)<|Nat.add_comm _ _))
  ·rw[e,hp];refine .ref dm rfl ?_ (s.mono<|by show m+b.grow<=m+(a.grow+b.grow);exact Bd) yy;exact q5i (aV b mid tn<|wl++[.int 1]) dm .no
 |beside r ih=>
  refine λho=>⟨λ_ m n o d to tn wl hn hw hy hO hD hs=>?_,λh=>by exact zk h⟩
  have hn:=hn;refine AM (c:=3) n hn hn λn hn=>?_;have hs:=hs;cases to with
  |num i=>
   exfalso;cases r with
   |bcons=>exact zk hs
   |bnil=>have:=ho.2.1;simp[hV,hY] at this
   |_=>cases ho.1.2
  |br f=>
   revert hD hn;refine hO.EJ λm l B hD hn=>?_
   exact(q5f n (r:=r) (w:=wl) ho.1.2 ho.1.1 hy B hD (II<|fd (k:=5) (c:=3) hn) (M:=m+r.grow) (am _ _) ho.2.2 λln q C hq=>(ih ho.1.1).2 ho.1.2 (n:=n+1) (B8 hn) (Bh<|hw) hy B C hs hq _ _ (bv _) l f _<|B.mono<|am _ _).mono (bl<|bg _ _ _)
 |bnil=>
  refine λho=>⟨λh=>(by cases h),λ_ m n lo f ln q wl hn hw hy B C hs hq rows M hM c g j hc=>?_⟩
  exact⟨c,j,hc.ext λk=>by simp[nG,lE],λ_ _=>rfl⟩
 |bcons x p v r DM BU=>
  refine λho=>⟨λh=>(by cases h),λ_ m n lo f ln q wl hn hw hy B C hs hq rows M hM c g j hc=>?_⟩
  have hn:=hn;have hw:=hw;have hM:=hM;refine Zs (eQ hs) λs hs=>?_;obtain⟨t1,h1,hs⟩:=C_ hs;obtain⟨y,h2,hs⟩:=C_ hs;obtain⟨z1,h3,hs⟩:=C_ hs;obtain⟨d1,q1,q2⟩:=B.get h1;refine Zs (eQ<|hq x<|by simp[hV,hY]) λxn h4=>?_;obtain⟨dn,q3,q4⟩:=C.get h4;obtain hv:=(DM ho.2.1.1).1 ho.2.1.2 (n:=n) (wl:=wl++[.str x]) (Bi hn) (by rw[k_,cn];exact Bj hw) (uL hy (SE (b:=max v.AG r.AG) hw)<|.inl ⟨x,ho.1.1,rfl⟩) q2 q4 (by rw[h2];rfl);have CK:aQ (.bcons x p v r) (.br f) (.br q)=(aQ v t1 xn).bind λy=>(aQ r (.br f)<|.br q).bind λz=>à (.br<|upd z.get p<|some y):=by show((f p).bind λo=>(q x).bind λx=>_)=_;have h1:f p=à t1:=h1;rw[h1,h4];rfl
  have JG:aV (.bcons x p v r) (.br f) (.br q) wl=(aQ v t1 xn).elim (aV v t1 xn<|wl++[.str x]) λ_=>aV r (.br f) (.br q) wl:=by show(f p).elim _ (λo=>(q x).elim _ _)=_;have h1:f p=à t1:=h1;rw[h1,h4];rfl
  rw[CK,JG];have RN:=KI (b:=max v.AG r.AG+1) hw;rcases hv with ⟨yt,d',hp,e,s⟩|⟨d',hp,e,s,yy⟩
  ·rw[hp];have hk:=Kc n RN (rows:=rows) q1 q3 j e<|hc.lt Zw;have hR:=(BU ho.2.2.1.1).2 ho.2.2.1.2 (n:=n) (wl:=wl) (Bk hn) (Bm hw) hy B C (by rw[h3];rfl) (λk hk=>hq k<|by simp[hV,hY,hk]) rows M (Bn hM) (st c p d') (upd g p<|some yt) (à<|.fz<|.str x,à<|.fz<|.str p,à<|.fz<|Zq v,à<|jC d')<|hc.set ho.1.2<|s.mono<|qN hM;rw[uk,Option.elim_some];refine zn (aQ r (.br f)<|.br q) (λIG=>?_) λz IG=>?_
   ·rw[IG] at hR;refine AN λΘ θ=>aD hR λdp hr BL=>θ ?_;rw[IG];exact⟨dp,λkn kr=>(hk _ kr).trans (hr kn kr),BL⟩
   ·rw[IG] at hR;refine cL hR λc' j' i1 i2=>?_;rw[IG];refine⟨c',j',i1.ext λk=>?_,λkn kr=>(hk _ kr).trans (i2 kn kr)⟩;simp only[lE,mo,eM,upd]
    by_cases e:k=p
    ·subst hq hn hw hM h1 hs q1 CK JG hk hR i1 i2 e;simp[ho.2.2.2.2]
    ·simp[e]
  ·rw[hp];exact⟨d',λkn kr=>Kd n RN q1 q3 j e _ kr,s.mono<|qN hM,yy⟩
variable {m:Nat}
structure EX(k:d_):Prop where
 t:k≠dM
 l:k.cps.size<=8
 c:(k.cps.toList.all λc=>decide (c<16 ^ 8))=â
theorem iJ:EX bZ:=⟨by decide +kernel,by decide +kernel,by decide +kernel⟩
theorem q5k:EX dR:=⟨by decide +kernel,by decide +kernel,by decide +kernel⟩
theorem q5l:EX fN:=⟨by decide +kernel,by decide +kernel,by decide +kernel⟩
theorem Ki(p:Prop):EX<|frm p dR:=by
 by_cases hp:p
 ·rw[pK hp];exact q5k
 ·rw[iA hp];exact iJ
theorem q5m:∀{w:WW} {t b:TT} {wl:List a_},EX (aV w t b wl).kind:=by
 intro w;induction w with
 |sift a l=>intro t b wl;exact Ki _
 |join x y fs=>intro t b wl;exact Ki _
 |each v ih=>
  intro t b wl;cases b with
  |num i=>exact iJ
  |br q=>
   show EX (HL (∀k,(q k).isSome=(t.get k).isSome) (((t.get<|eN v t.get q).bind λx=>(q<|eN v t.get q).map λy=>aV v x y<|wl++[.str<|eN v t.get q]).getD ⟨wl,bZ,.br q⟩) ⟨wl,fN,.br q⟩).kind
   by_cases hc:∀k,(q k).isSome=(t.get k).isSome
   ·rw[nH hc];cases t.get (eN v t.get q) with
    |none=>exact iJ
    |some x=>
     cases q (eN v t.get q) with
     |none=>exact iJ
     |some y=>exact ih
   ·rw[nI hc];exact q5l
 |andThen x y PB VL=>
  intro t b wl;show EX ((aY x t).elim _ _:Rf).kind;cases aY x t with
  |none=>exact iJ
  |some mt=>
   show EX ((aQ y mt b).elim _ _:Rf).kind;cases aQ y mt b with
   |none=>exact VL
   |some z=>exact PB
 |beside r ih=>
  intro t b wl;cases b with
  |num i=>exact iJ
  |br q=>
   show EX (HL (∀k,(q k).isSome=â↔k∈r.names) (aV r t (.br q) wl) ⟨wl,bZ,.br q⟩).kind
   by_cases hc:∀k,(q k).isSome=â↔k∈r.names
   ·rw[nH hc];exact ih
   ·rw[nI hc];exact iJ
 |bcons x p v r DM BU=>
  intro t b wl;show EX ((t.get p).elim _ _:Rf).kind;cases t.get p with
  |none=>exact iJ
  |some o=>
   show EX ((b.get x).elim _ _:Rf).kind;cases b.get x with
   |none=>exact iJ
   |some y=>
    show EX ((aQ v o y).elim _ _:Rf).kind;cases aQ v o y with
    |none=>exact DM
    |some z=>exact BU
 |_=>intro t b wl;exact iJ
structure Ϫ(l:List a_):Prop where
 a:sj 8 l=â
 w:yf l<=9*l.length
 f:l.all (gN 23)=â
theorem q5n{l:List a_}(h:∀d∈l,(∃s,s∈NN/\d=.str s)\/d=.int 0\/d=.int 1):Ϫ l:=by
 induction l with
 |nil=>exact⟨rfl,bv _,rfl⟩
 |cons d l ih=>
  obtain⟨a,w,f⟩:=ih λd hd=>h d<|af _ hd;obtain key:d.leavesShort 8=â/\d.weight<=8/\gN 23 d=â:=by
   rcases h d ag with ⟨s,hs,rfl⟩|rfl|rfl
   ·have ok:=HW.ok s hs;exact⟨ak.mpr λc hc=>decide_eq_true (ok.let_ c hc).2,ok.hi,rfl⟩
   ·exact⟨by decide +kernel,by decide +kernel,rfl⟩
   ·exact⟨by decide +kernel,by decide +kernel,rfl⟩
  refine bP key λk1 k2 k3=>⟨?_,?_,?_⟩
  ·show(d.leavesShort 8&&sj 8 l)=â;rw[k1,a];rfl
  ·show d.weight+1+yf l<=9*(l.length+1);simp only[qw,sr<|9*l.length];exact ax (be k2) w
  ·show(gN 23 d&&l.all (gN 23))=â;rw[k3,f];rfl
theorem q5o{l:List a_}(h:Wy l)(hk:EX k):kI (.tuple [.list l,.str k])=.ok (.fz<|.str<|PyData.shown<|.tuple [.list l,.str k]):=by
 obtain⟨a,w,f⟩:=q5n h.e;refine if_pos ⟨?_,PyData.shown_fits (B:=8) Zw Zw ?_ ?_⟩
 ·show(l.all (gN 23)&&(â&&â))=â;rw[f];rfl
 ·show(sj 8 l&&((k.cps.toList.all λc=>decide (c<16 ^ 8))&&â))=â;rw[a,hk.c];rfl
 ·exact Oh w (h.l) (hk.l) Zw
theorem Kj:∀{n:Nat} {d:a_},bJ n d=â->noL n d=â:=by
 intro n;induction n with
 |zero=>intro d h;exact zk h
 |succ n ih=>
  intro d h;cases d with
  |dict l=>exact ak.mpr λp hp=>ih<|ak.mp (h:l.all (λp=>bJ n p.2)=â) p hp
  |int i=>rfl
  |_=>exact zk h
theorem q5p(n:Nat)(fs:List d_):((fs.map l_).all (noL<|n+1))=â:=ak.mpr λd hd=>by refine aD (ba.mp hd) λx _ zq=>?_;subst hd zq;rfl
structure ϵ(w:WW):Prop where
 a:w.AY=ã->∀{n},3*w.AG+3<=n->noL n (Zq w)=â
 b:w.AY=â->∀{n},3*w.AG+4<=n->(bI w).all (noL n)=â
theorem q5q:∀{w:WW},BV w->ϵ w:=by
 intro w;induction w with
 |whole=>exact λ_=>⟨λ_ n hn=>by refine Zs (dw hn) λk zq=>?_;subst hn zq;rfl,λh=>zk h⟩
 |pick a=>exact λ_=>⟨λ_ n hn=>by refine Zs (dw hn) λk zq=>?_;subst hn zq;rfl,λh=>zk h⟩
 |call a b=>exact λ_=>⟨λ_ n hn=>by refine Zs (dw hn) λk zq=>?_;subst hn zq;rfl,λh=>zk h⟩
 |sift a l=>exact λ_=>⟨λ_ n hn=>by refine Zs (dw hn) λk zq=>?_;subst hn zq;rfl,λh=>zk h⟩
 |join a b fs=>exact λ_=>⟨λ_ n hn=>by
   refine Zs (dw hn) λk zq=>?_;subst hn zq;show(â&&(â&&(â&&((fs.map l_).all (noL<|k+1)&&â))))=â;rw[q5p];rfl,λh=>zk h⟩
 |each v ih=>
  exact λho=>⟨λ_ n hn=>by
   refine Zs (dw<|aa (bx 1 _) hn) λk zq=>?_;subst zq;have h:=(ih ho.1).a ho.2 (n:=k) (by have:(W.each v).AG=v.AG+1:=rfl;exact ay0 hn this);cases k with
   |zero=>exact(B9 hn).elim
   |succ k=>
    show(â&&(noL (k+1) (Zq v)&&â))=â;rw[h];rfl,λh=>zk h⟩
 |andThen x y PB VL=>
  exact λho=>⟨λ_ n hn=>by
   refine Zs (dw<|aa (bx 1 _) hn) λk zq=>?_;subst zq;have hh:(W.andThen x y).AG=max x.AG y.AG+1:=rfl;obtain h1:=(PB ho.1.1).a ho.1.2 (n:=k) (by exact ay1 hn hh);obtain h2:=(VL ho.2.1).a ho.2.2 (n:=k) (by exact ay2 hn hh);cases k with
   |zero=>exact(B9 hn).elim
   |succ k=>
    show(â&&(noL (k+1) (Zq x)&&(noL (k+1) (Zq y)&&â)))=â;rw[h1,h2];rfl,λh=>zk h⟩
 |beside r ih=>
  exact λho=>⟨λ_ n hn=>by
   refine Zs (dw<|show 2<=n by exact ay3 hn) λk zq=>?_;subst zq;have h:=(ih ho.1.1).b ho.1.2 (n:=k) (by exact ay4 (rfl) hn);show(â&&(noL (k+1) (Zq r)&&â))=â;rw[iF ho.1.2];show(â&&((bI r).all (noL k)&&â))=â;rw[h];rfl,λh=>zk h⟩
 |bnil=>exact λ_=>⟨λh=>zk h.symm,λ_ n _=>rfl⟩
 |bcons a b v r DM BU=>
  exact λho=>⟨λh=>zk h.symm,λ_ n hn=>by
   have hh:(W.bcons a b v r).AG=max v.AG r.AG:=rfl;refine Zs (dw<|show 1<=n by exact ay5 hn) λk zq=>?_;subst zq;obtain h1:=(DM ho.2.1.1).a ho.2.1.2 (n:=k) (by exact ay6 hh hn);obtain h2:=(BU ho.2.2.1.1).b ho.2.2.1.2 (n:=k+1) (by exact ay7 hh hn);cases k with
   |zero=>exact(Ok hn).elim
   |succ k=>
    show((â&&(â&&(noL (k+1) (Zq v)&&â)))&&(bI r).all (noL<|k+1+1))=â;rw[h1,h2];rfl⟩
inductive QD(m:Nat)(o:Option TT)(x:Rf)(r:R V):Prop where
 |tree (t:TT) (d:a_) (h:o=à t) (e:r=.ok (.dp<|.tuple [.str dM,d])) (g:Sem m d t):QD m o x r
 |ref (d:a_) (h:o=á) (e:r=.ok (.dp<|.tuple [.str dC,.list x.way,.str x.kind,d])) (g:Sem m d x.part):QD m o x r
def WC:a_:=.tuple [.str<|so "refused",.str<|so "put"]
theorem q5r(n:Nat)(w k d:a_):run BB (n+1) â (so "_law_word") [.ex<|BP w k d]=κ WC:=Zv
theorem q5s:aC (κ WC) .NotEq (κ WC)=κ (.bool ã):=Zv
theorem q5t:fJ BB (so "BadPut") (so "ViewError")=à â:=Zv
theorem q5u:(bO (so "BadPut") BB).map (·.2)=à (à [so "way",so "kind",so "part"]):=Zv
theorem q5v{w:List a_}(hw:w.all oH=â)(k:d_)(d:a_){q:X->R V}(hq:q (BP (.list w) (.str k) d)=κ (.bool ã)):sV BB (so "ViewError") (so "refused") (so "way") (so "kind") (so "part") q (BP (.list w) (.str k) d) Zt=.ok (.dp<|.tuple [.str dC,.list w,.str k,d]):=by unfold sV;rw[show fJ BB (BP (.list w) (.str k) d).cls (so "ViewError")=à â from q5t,hq];show rb (Zy<|xZ BB _ _ _ _ _) Zt=_;obtain this:xZ BB (so "refused") (so "way") (so "kind") (so "part") (BP (.list w) (.str k) d)=.ok (.dp<|.tuple [.str dC,.list w,.str k,d]):=if_pos ⟨rfl,rfl,rfl,rfl,q5u,hw,rfl⟩;rw[this];rfl
theorem q5w{l:List a_}(h:Wy l):l.all oH=â:=ak.mpr λd hd=>by rcases h.e d hd with ⟨s,_,rfl⟩|rfl|rfl<;>rfl
theorem q5x{s c t m1 m2 m3:d_}{a1 a2 a3:a_}{cl:R V}{q:X->R V}{kr:V->R V}(h1:noL n a1=â)(h2:noL n a2=â)(h3:noL n a3=â):Gx BB n s c t m1 m2 m3 [à<|.fz a1,à<|.fz a2,à<|.fz a3,á] cl q kr=(match cl with | .no=>.no | .ok v=>rb (Zy<|EA v) λd=>kr (.dp<|.tuple [.str s,d]) | .exc y=>sV BB c t m1 m2 m3 q y kr):=
 if_pos (show(noL n a1&&(noL n a2&&(noL n a3&&(â&&â))))=â by rw[h1,h2,h3];rfl)
theorem q5y{w:WW}(ho:BV w)(hr:w.AY=ã){to tn:TT}(hn:3*w.AG+m+w.grow+10<=n)(hh:w.AG<=900)(hO:Sem m o to)(hD:Sem m d tn){s:TT}(hs:aY w to=à s)(hy:aQ w to tn=á->Wy (aV w to tn []).way):QD (m+w.grow) (aQ w to tn) (aV w to tn [])<|rn (n+1) QS [.fz<|Zq w,.fz o,.fz d]:=by
 obtain hp:=q22 ho hr hn hh hO hD hs;rw[q03,q5x ((q5q ho).a hr (by exact ay8 hn)) (Kj<|iY hO<|by exact YK hn)<|Kj<|iY hD<|by exact YK hn];rcases hp with ⟨t,d',h1,h2,h3⟩|⟨d',h1,h2,h3⟩
 ·rw[h2];exact .tree t d' h1 rfl h3
 ·rw[h2];refine .ref d' h1 (q5v (q5w<|hy h1) _ _ ?_) h3;refine Zs (dw<|show 1<=n by exact Om hn) λk zq=>?_;subst hn h2 zq;rw[q5r];exact q5s
inductive Ϩ(n:Nat)(r1 r2:R V):Prop where
 |mk (a b:a_) (h1:r1=κ a) (h2:r2=κ b) (e:rn n FN [.fz a,.fz b]=κ (.bool â)):Ϩ n r1 r2
theorem q5z{t:TT}(g:Sem m d t)(g':Sem m' d' t)(hn:m+m'<=n):rn (n+2) FN [.fz<|.tuple [.str dM,d],.fz<|.tuple [.str dM,d']]=κ (.bool â):=by rw[Ht];show rb (rn (n+1) FE [.fz d,.fz d']) Zt=_;rw[uA (g.mono<|am m m') (g'.mono<|bx m' m) hn];rfl
theorem q50{x:Rf}(g:Sem m d x.part)(g':Sem m' d' x.part)(hy:Wy x.way)(hk:EX x.kind)(hn:m+m'<=n):rn (n+2) FN [.fz<|.tuple [.str dC,.list x.way,.str x.kind,d],.fz<|.tuple [.str dC,.list x.way,.str x.kind,d']]=κ (.bool â):=by rw[Ht];show zp (BH (κ<|.bool ã)<|aC (Zy<|kI<|.tuple [.list x.way,.str x.kind]) .NotEq<|Zy<|kI<|.tuple [.list x.way,.str x.kind]) _ (rb (rn (n+1) FE [.fz d,.fz d']) Zt)=_;rw[q5o hy hk,uA (g.mono<|am m m') (g'.mono<|bx m' m) hn];show zp (κ (.bool (!(wt (.tuple [.list x.way,.str x.kind])==wt (.tuple [.list x.way,.str x.kind])))) ) _ _=_;rw[beq_self_eq_true];rfl
inductive SG(n:Nat)(r1 r2:R V):Prop where
 |tree (d:a_) (b:a_) (h1:r1=.ok (.dp<|.tuple [.str dM,d])) (h2:r2=κ b) (c:bJ n d=â) (e:rn n FN [.fz<|.tuple [.str dM,d],.fz b]=κ (.bool â)):SG n r1 r2
 |ref (w:List a_) (k:d_) (d b:a_) (h1:r1=.ok (.dp<|.tuple [.str dC,.list w,.str k,d])) (h2:r2=κ b) (c:bJ n d=â) (e:rn n FN [.fz<|.tuple [.str dC,.list w,.str k,d],.fz b]=κ (.bool â)):SG n r1 r2
theorem q51{o:Option TT}{x:Rf}(h1:QD m o x r1)(h2:BG m' o x r2)(hk:EX x.kind)(hn:m+m'<=n):SG (n+2) r1 r2:=by
 rcases h1 with ⟨t,d,rfl,rfl,g⟩|⟨d,rfl,rfl,g⟩
 ·rcases h2 with ⟨t',d',h',rfl,g'⟩|⟨d',h',_,_,_⟩
  ·replace h':=si h';subst h';exact .tree d _ rfl rfl (iY g<|by exact Cb hn) (q5z g g' hn)
  ·exact sn h'
 ·rcases h2 with ⟨t',d',h',_,_⟩|⟨d',_,rfl,g',hy⟩
  ·exact ns h'
  ·exact .ref _ _ d _ rfl rfl (iY g<|by exact Cb hn) (q50 g g' hy hk hn)
theorem BG.way{o:Option TT}{x:Rf}(h:BG m o x r)(ho:o=á):Wy x.way:=by
 rcases h with ⟨t,d,h,_,_⟩|⟨d,_,_,_,y⟩
 ·rw[ho] at h;exact ns h
 ·exact y
theorem jE(h:r=κ (.bool â)):zy .Not r=κ (.bool ã):=by rw[h];rfl
theorem Kk{l:List a_}(d:a_)(h:l.length<a8):eZ (so "append") (.list l) [d]=.ok (.list<|l++[d]):=by show(if l.length<a8 then P.ok (ur<|l++[d]) else .no)=_;rw[if_pos h]
theorem q52(s:List Int)(lo hi:Option Int):slice (s.map rq) lo hi=(slice s lo hi).map .int:=by unfold slice;rw[j_,tz,List.map_drop]
variable {m:Nat}
theorem lM(f:List V->R V)(a b:a_):aE f [κ a,κ b]=f [.fz a,.fz b]:=rfl
theorem uM(f:List V->R V)(a:a_):aE f [κ a]=f [.fz a]:=rfl
theorem lN(f:List V->R V)(a b c:a_):aE f [κ a,κ b,κ c]=f [.fz a,.fz b,.fz c]:=rfl
theorem q53(f:List V->R V){a:a_}(h:v.cl=.fz a)(b c:a_):aE f [.ok v,κ b,κ c]=f [.fz a,.fz b,.fz c]:=by show f [v.cl,.fz b,.fz c]=_;rw[h]
theorem Ay(f:List V->R V)(a b c d:a_):aE f [κ a,κ b,κ c,.ok<|.own d]=f [.fz a,.fz b,.fz c,.fz d]:=rfl
theorem Kl(t:Bool)(a b:R V):zp (κ<|.bool t) a b=if t=â then a else b:=rfl
theorem Km{fu:Nat}{a1 a2 e2:R V}{e3 e4:a_->a_->a_->R V}{c5:a_->a_->a_->a_->R V}{c8 c10:a_->a_->a_->R V}{kn:a_->a_->R V}{p1 p2 JV d3:a_}{l3:List a_}{b:Bool}
  (h1:a1=.ok (.dp p1)) (h2:a2=.ok (.dp p2)) (h3:e2=κ JV) (h4:e3 p1 p2 JV=.ok (.dp<|.tuple l3)) (h5:e4 p1 p2 JV=.ok (.dp<|.tuple l3)) (h6:c5 p1 p2 JV (.tuple l3)=κ (.bool ã)) (g1:bJ fu p1=â) (g2:bJ fu p2=â) (h7:c8 JV (.tuple l3) (.tuple l3)=κ (.bool ã))
  (hl:l3.getLast?=à d3) (g3:bJ fu d3=â) (h8:c10 JV (.tuple l3) (.tuple<|l3.dropLast++[emp d3])=κ (.bool b)) (hb:b=â->VW l3[1]?=â/\2<l3.length) :
  WH fu a1 a2 e2 e3 e4 c5 (κ<|.int 0) (κ<|.int 1) c8 (zy .USub<|κ<|.int 1) c10 (κ<|.int 1) (κ<|.int 0) kn=kn JV (.tuple l3):=by
 ext fu a1 a2 e2 e3 e4 c5 c8 c10 kn p1 p2 JV d3 l3 b
 unfold WH;rw[h1,aF,show EA (.dp p1)=.ok p1 from rfl,aM,aF,h2,aF,show EA (.dp p2)=.ok p2 from rfl,aM,aF,h3,aF,gI,h4,aF,show rJ (.dp<|.tuple l3)=.ok l3 from rfl,aM,aF,h5,aF,show EA (.dp<|.tuple l3)=.ok (.tuple l3) from rfl,aM,aF,h6];rw[if_pos ⟨g1,g2⟩];rw[h7];rw[hl];show(if bJ fu d3=â then _ else _)=_;rw[if_pos g3];rw[h8];cases b with
 |false=>rfl
 |true=>rw[if_pos<|hb rfl];rfl
inductive Pr(p:a_):Prop where
 |mk (a b:a_) (e:p=.tuple [a,b]) (h:rn 399 FN [.fz a,.fz b]=κ (.bool â)):Pr p
def Kn(hs:List a_):Prop:=∀p∈hs,Pr p
def lS(w2 w3:V)(hs:List a_)(o5 o6 o7 o8 o9 AC AE AQ AF:Option V):aA:=eL (ζ Li) (à w2) (à w3) (à<|.own<|.list hs) o5 o6 o7 o8 o9 AC AE AQ AF
inductive XE(hs:List a_)(r:KN->R V)(S:List a_->a_->a_->aA):Prop where
 |mk (d x y:a_) (h:Pr d) (e:∀kn,r kn=kn (S (hs++[d]) x y)):XE hs r S
theorem q54{w:WW}(ho:BV w)(hr:w.AY=ã)(hh:w.AG<=2)(hg:w.grow<=2){w8 w9:V}{x5 x6:a_}(AC AE AQ AF:Option V)(hl:hs.length<a8){q:a_}{t tn s0:TT}(hp:Sem 8 p t)(hq:Sem 8 q tn)(FI:aY w t=à s0)(h7:w7.cl=.fz p)(h8:w8.cl=.fz (Zq w))(h9:w9.cl=.fz q)(kr:KR):
  XE hs (λkn=>nD 399 (lS w2 w3 hs (ζ x5) (ζ x6) (à w7) (à w8) (à w9) AC AE AQ AF) kn kr) λhs x y=>lS w2 w3 hs (ζ x5) (ζ x6) (ζ p) (ζ<|Zq w) (ζ q) á (ζ x) á (ζ y):=by
 revert ho hr hh hg hl hp hq FI h7 h8 h9;revert tn s0 kr;ext hs p w2 w3 w7 w w8 w9 x5 x6 AC AE AQ AF q t;ext tn s0 kr
 have T4:=(q5j ho).a hr (n:=399) (wl:=[]) (by exact On hh hg) (by simp;exact Cc hh) ⟨ay _,λd hd=>cB hd⟩ hp hq (by rw[FI];rfl);obtain A:=q51 (n:=397) (q5y ho hr (n:=398) (by exact Oo hh hg) (by exact Cc hh) hp hq FI λe=>T4.way e) T4 q5m (by exact Op hg);have cp:=t9 (n:=398) hp Zw;have cq:=t9 (n:=398) hq Zw;have sp:=uA (n:=398) hp hp Zw;have sq:=uA (n:=398) hq hq Zw;have g1:bJ 399 p=â:=iY hp Zw;have g2:bJ 399 q=â:=iY hq Zw;have hb:∀kn,nD 399 (lS w2 w3 hs (ζ x5) (ζ x6) (à w7) (à w8) (à w9) AC AE AQ AF) kn kr=_:=λkn=>by unfold lS;rw[q1a,h7,h8,h9]
 rcases A with ⟨d,b,e1,e2,c,e⟩|⟨wy,kd,d,b,e1,e2,c,e⟩
 ·refine⟨.tuple [.tuple [.str dM,d],b],b,.tuple [.str dM,d],⟨_,_,rfl,e⟩,λkn=>(hb kn).trans ?_⟩;refine(Km (b:=ã) (l3:=[.str dM,d]) (d3:=d) ((uM _ _).trans cp) ((uM _ _).trans cq) ((Ay _ _ _ _ _).trans e2) ((lN _ _ _ _).trans e1) ((lN _ _ _ _).trans e1) ?_ g1 g2 (jE e) rfl c rfl (λh=>zk h)).trans ?_
  ·show BH (zy .Not<|aE (rn 399 FE) [κ p,κ p]) (BH (zy .Not<|aE (rn 399 FE) [κ q,κ q])<|zy .Not<|rn 399 FN [.fz<|.tuple [.str dM,d],.fz b])=_;rw[lM,lM,jE sp,jE sq,jE e];rfl
  ·show fD (.ok<|.list hs) (so "append") [κ<|.tuple [.tuple [.str dM,d],b]] _=_;rw[qJ (v:=.fz<|.tuple [.tuple [.str dM,d],b])<|Kk _ hl];rfl
 ·refine⟨.tuple [.tuple [.str dC,.list wy,.str kd,d],b],b,.tuple [.str dC,.list wy,.str kd,d],⟨_,_,rfl,e⟩,λkn=>(hb kn).trans ?_⟩;refine(Km (b:=â) (l3:=[.str dC,.list wy,.str kd,d]) (d3:=d) ((uM _ _).trans cp) ((uM _ _).trans cq) ((Ay _ _ _ _ _).trans e2) ((lN _ _ _ _).trans e1) ((lN _ _ _ _).trans e1) ?_ g1 g2 (jE e) rfl c rfl (λ_=>⟨rfl,by show 2<4;decide⟩)).trans ?_
  ·show BH (zy .Not<|aE (rn 399 FE) [κ p,κ p]) (BH (zy .Not<|aE (rn 399 FE) [κ q,κ q])<|zy .Not<|rn 399 FN [.fz<|.tuple [.str dC,.list wy,.str kd,d],.fz b])=_;rw[lM,lM,jE sp,jE sq,jE e];rfl
  ·show fD (.ok<|.list hs) (so "append") [κ<|.tuple [.tuple [.str dC,.list wy,.str kd,d],b]] _=_;rw[qJ (v:=.fz<|.tuple [.tuple [.str dC,.list wy,.str kd,d],b])<|Kk _ hl];rfl
theorem q55:∀{xs:List d_} {i:Int},(∀x∈xs,x∈NN/\∀j:Int,∃v d,e (.tuple [.int j,.str x])=.ok v/\Zp v=.tuple [.str x,d]/\Tr m d)->∃ps:LP,aZ (λd=>LK d λ_ _=>.ok â) e (eA i<|xs.map .str)=.ok (ps.map aT)/\ps.length=xs.length/\∀p∈ps,p.1∈NN/\Tr m p.2:=by
 intro xs;induction xs with
 |nil=>exact λ_=>⟨[],rfl,rfl,λp hp=>cB hp⟩
 |cons x xs ih=>
  intro i h;refine bN (ih (i:=i+1) λy hy=>h y<|af _ hy) λps e1 e2 e3=>zj (h x ag) λhx hj=>eG (hj i) λv d g1 g2 g3=>⟨(x,d)::ps,?_,by rw[pg,pg,e2],λp hp=>?_⟩
  ·show rb (nx<|e<|.tuple [.int i,.str x]) (λv=>rb (aZ (λd=>LK d λ_ _=>.ok â) e<|eA (i+1)<|xs.map .str) λxs=>.ok<|Zp v::xs)=_;rw[g1,fF,aF,e1,aF,g2];rfl
  ·rcases List.mem_cons.mp hp with rfl|hp
   ·exact⟨hx,g3⟩
   ·exact e3 p hp
theorem q56:∀{ps acc:LP},BT m acc->(∀p∈ps,p.1∈NN/\Tr m p.2)->BT m (BI ps acc):=by
 intro ps;induction ps with
 |nil=>exact λh _=>h
 |cons p ps ih=>exact λ{acc} h hp=>ih (h.set (hp p ag).1 (hp p ag).2) λq hq=>hp q<|af _ hq
theorem q57{f:d_->Option TT}(B:zl 6 l f)(c:Int):∃l',BT 7 l'/\aK bA (aN (HU<|aK bX<|κ<|Zz l) (λd4=>LK d4 λd5 d6=>.ok â) λd4=>LK d4 λd5 d6=>aO [κ d6,aE (rn 399 IA) [aI (.ok<|Zz l)<|κ d6,aB .Add (Zy<|aG .FloorDiv (.int c)<|.int 6)<|Zy<|aG .Mult (.int 5) d5,κ NL]])=.ok (.own<|Zz l'):=by
 revert B;ext l f c
 refine bN (q55 (m:=7) (i:=0) (xs:=aU<|ks l) (e:=λd4=>LK d4 λd5 d6=>aO [.ok<|.fz d6,aE (rn 399 IA) [aI (.ok<|Zz l)<|.ok<|.fz d6,aB .Add (Zy<|aG .FloorDiv (.int c)<|.int 6)<|Zy<|aG .Mult (.int 5) d5,.ok<|.fz NL]]) λx hx=>by
  have hx:=cP.mp hx;obtain⟨d,t,q1,q2,q3⟩:=B.key hx;refine⟨B.sub x hx,λj=>?_⟩;obtain⟨v,d',a1,a2,a3⟩:=Ax (n:=398) (c:=c.fdiv 6+5*j) ⟨t,q3⟩ Zw;refine⟨.fz<|.tuple [.str x,d'],d',?_,rfl,a3⟩;show aO [κ<|.str x,aE (rn 399 IA) [aI (.ok<|Zz l)<|κ<|.str x,aB .Add (Zy<|aG .FloorDiv (.int c)<|.int 6)<|Zy<|aG .Mult (.int 5)<|.int j,κ NL]]=_;rw[show aI (.ok<|Zz l) (.ok<|.fz<|.str x)=.ok (.fz d) from congrArg Zy<|bE q1,show aG .FloorDiv (.int c) (.int 6)=.ok (.fz<|.int<|c.fdiv 6) from kD _ Zw,show aG .Mult (.int 5) (.int j)=.ok (.fz<|.int<|5*j) from qE _ Zw,show aB .Add (Zy<|.ok<|.fz<|.int<|c.fdiv 6) (Zy<|.ok<|.fz<|.int<|5*j)=.ok (.fz<|.int<|c.fdiv 6+5*j) from rfl,lN,a1];exact kA _ rfl a2) λps e1 e2 e3=>?_
 refine⟨BI ps [],q56 BT.nil e3,?_⟩;rw[show aK bX (κ<|Zz l)=.ok (.own<|.list<|(aU<|ks l).map .str) from (congrArg Zy<|show bX (Zz l)=eX ((AH l).map (·.1)) from rfl).trans (by rw[tO,jA<|by rw[cO];exact B.lt Zw];rfl),
  show HU (.ok<|.own<|.list<|(aU<|ks l).map .str)=.ok (eA 0<|(aU<|ks l).map .str) from rfl,uB,e1]
 show Zy (bA<|.list<|ps.map aT)=_;rw[iX<|by rw[e2,tZ B.nd,cO];exact B.lt Zw];rfl
theorem Ko(l:LP)(b:Bool):bD (κ<|.bool b) (bD (κ<|.bool â)<|aC (aK bQ<|κ<|Zz l) .Gt<|κ<|.int 0)=κ (.bool<|b&&decide (0<(l.length:Int))):=by rw[show aC (aK bQ<|κ<|Zz l) .Gt (κ<|.int 0)=κ (.bool<|decide (0<((AH l).length:Int))) from Zv,tP];cases b<;>rfl
theorem q58{f:d_->Option TT}(B:zl m l f)(c:Int)(hl:0<(l.length:Int)):∃p t,Sem m p t/\aI (.ok<|Zz l) (aI (cI<|aK bX<|aK dO<|κ<|Zz l)<|aB .Mod (κ<|.int c)<|aK bQ<|κ<|Zz l)=κ p:=by refine bN (Au (xs:=aU<|ks l) (a:=c) (n:=l.length) (by rw[tZ B.nd,cO]) hl) λx hx ix gx=>?_;obtain⟨p,t,q1,q2,q3⟩:=B.key<|cP.mp hx;refine⟨p,t,q3,?_⟩;rw[show aK dO (κ<|Zz l)=Zy (dO<|Zz l) from rfl,qI B];show rb (rb (Zy<|aG .Mod (.int c)<|.int ((AH l).length:Nat)) λi=>Zy<|Zx (.list<|(aU<|ks l).map .str)<|Zp i) (λi=>Zy<|Zx (Zz l)<|Zp i)=_;rw[tP,iH _ (by exact Oq hl),aM,aF,gI,gx,aM,aF];exact congrArg Zy<|bE q1
inductive SX(d:a_)(r:KN->R V)(S:V->V->V->KN->R V):Prop where
 |mk (p:a_) (t:TT) (h:Sem 5 p t) (w2 w3 w7:V) (c2:w2.cl=.fz NL) (c3:w3.cl=.fz d) (c7:w7.cl=.fz p) (e:∀kn,r kn=S w2 w3 w7 kn):SX d r S
theorem q59{c:Int}{t:TT}(hd:Sem 5 d t)(h2:w2.cl=.fz NL)(h3:w3.cl=.fz d)(hs:List a_)(o5 o6 o7 o8 o9 AC AE AQ AF:Option V)(kr:KR):
  SX d (λkn=>rb (Zy<|a9 nA (.tuple [.int j,.int c])<|lS w2 w3 hs o5 o6 o7 o8 o9 AC AE AQ AF) λσ=>mZ 399 σ kn kr) λw2 w3 w7 kn=>nB 399 (lS w2 w3 hs (ζ<|.int j) (ζ<|.int c) (à w7) o8 o9 AC AE AQ AF) kn kr:=by
 revert hd h2 h3;revert AQ AF kr;ext j d w2 w3 c t hs o5 o6 o7 o8 o9 AC AE;ext AQ AF kr
 have hb:∀kn,(rb (Zy<|a9 nA (.tuple [.int j,.int c])<|lS w2 w3 hs o5 o6 o7 o8 o9 AC AE AQ AF) λσ=>mZ 399 σ kn kr)=_:=λkn=>by unfold lS;rewrite[q05,aM,aF,q06,h3];simp only[cY,dS,dT,aM,j6,aF];rw[show aC (Zy<|aG .Mod (.int c)<|.int 5) .Eq (.ok<|.fz<|.int 1)=.ok (.fz<|.bool<|c.fmod 5==1) from Zv,(kD _ Zw:aG .FloorDiv (.int c) (.int 5)=.ok (.fz<|.int<|c.fdiv 5)),aM]
 obtain⟨i,rfl,rfl,hi⟩|⟨_,l,f,e,rfl,rfl,B⟩:=hd.CP
 ·exact⟨.int i,_,hd,w2,.fz<|.int i,.fz<|.int i,h2,rfl,rfl,λkn=>(hb kn).trans (by cases (c.fmod 5==1)<;>rfl)⟩
 ·cases e;refine DO (c.fmod 5==1&&decide (0<(l.length:Int))) (λh=>?_) λh=>?_
  ·exact⟨_,_,hd,w2,.fz<|Zz l,.fz<|Zz l,h2,rfl,rfl,λkn=>(hb kn).trans (Eq.trans (congrArg (λx=>zp x _ _)<|(Ko l _).trans (by rw[h])) rfl)⟩
  ·exact cL (q58 B (c.fdiv 5)<|of_decide_eq_true (ml _ _▸h:_/\_).2) λp' t' q1 q2=>⟨p',t',q1.mono Zw,w2,.fz<|Zz l,.fz p',h2,rfl,rfl,λkn=>(hb kn).trans (Eq.trans (congrArg (λx=>zp x _ _)<|(Ko l _).trans (by rw[h]))<|by rw[Kl,if_pos rfl,q2,aF];rfl)⟩
theorem q6a{c:Int}{t:TT}(hp:Sem 5 p t)(h2:w2.cl=.fz NL)(h3:w3.cl=.fz d)(h7:w7.cl=.fz p)(hs:List a_)(o8 o9 AC AE AQ AF:Option V)(kr:KR):
  SX d (λkn=>nB 399 (lS w2 w3 hs (ζ<|.int j) (ζ<|.int c) (à w7) o8 o9 AC AE AQ AF) kn kr) λw2 w3 w7 kn=>nC 399 (lS w2 w3 hs (ζ<|.int j) (ζ<|.int c) (à w7) o8 o9 AC AE AQ AF) kn kr:=by
 revert hp h2 h3 h7;ext j d p w2 w3 w7 c t hs o8 o9 AC AE AQ AF kr
 obtain⟨l',Bl,et⟩:=uF 396 (20+j) (fs:=slice NN (à 5)<|some 9) λx hx=>qH hx;have hb:∀kn,nB 399 (lS w2 w3 hs (ζ<|.int j) (ζ<|.int c) (à w7) o8 o9 AC AE AQ AF) kn kr=_:=λkn=>by unfold lS;rewrite[q08,h2];simp only[cY,dS,j6];rw[show aG .Add (.int 20) (.int j)=.ok (.fz<|.int<|20+j) from Zv,aM,Av (a:=5) (b:=9) rfl rfl,Ay,et,aF,show aC (Zy<|aG .Mod (.int c)<|.int 5) .Eq (.ok<|.fz<|.int 2)=.ok (.fz<|.bool<|c.fmod 5==2) from Zv,Kl]
 refine DO (c.fmod 5==2) (λh=>?_) λh=>?_
 ·exact⟨p,t,hp,w2,w3,w7,h2,h3,h7,λkn=>(hb kn).trans (by rw[h,if_neg Zw];rfl)⟩
 ·exact Zs (Bl.ET.mono<|show 2+1<=5 by decide) λtl hl=>⟨_,tl,hl,.fz NL,w3,.own<|Zz l',rfl,h3,rfl,λkn=>(hb kn).trans (by rw[h,if_pos rfl];rfl)⟩
theorem q6b(b:Bool)(i:Int)(X Y:R V):zp (bD (κ<|.bool b)<|sX BB 399 (so "dict")<|.fz<|.int i) X Y=Y:=by cases b<;>rfl
theorem Kq(b:Bool)(l:LP)(X Y:R V):zp (bD (κ<|.bool b)<|sX BB 399 (so "dict")<|.fz<|Zz l) X Y=if b=â then X else Y:=by cases b<;>rfl
inductive YD(d p:a_)(t:TT)(r:KN->R V)(S:V->V->V->V->V->KN->R V):Prop where
 |mk (w:WW) (o:BV w/\w.AY=ã/\w.AG<=2/\w.grow<=2) (s0:TT) (hs:aY w t=à s0) (q:a_) (tn:TT) (hq:Sem 8 q tn) (w2 w3 w7 w8 w9:V) (c2:w2.cl=.fz NL) (c3:w3.cl=.fz d) (c7:w7.cl=.fz p) (c8:w8.cl=.fz (Zq w)) (c9:w9.cl=.fz q) (e:∀kn,r kn=S w2 w3 w7 w8 w9 kn):YD d p t r S
theorem q6c{c:Int}{t:TT}(hp:Sem 5 p t)(h2:w2.cl=.fz NL)(h3:w3.cl=.fz d)(h7:w7.cl=.fz p)(hs:List a_)(o8 o9 AC AE AQ AF:Option V)(kr:KR):
  YD d p t (λkn=>nC 399 (lS w2 w3 hs (ζ<|.int j) (ζ<|.int c) (à w7) o8 o9 AC AE AQ AF) kn kr) λw2 w3 w7 w8 w9 kn=>nD 399 (lS w2 w3 hs (ζ<|.int j) (ζ<|.int c) (à w7) (à w8) (à w9) AC AE AQ AF) kn kr:=by
 revert hp h2 h3 h7;ext j d p w2 w3 w7 c t hs o8 o9 AC AE AQ AF kr
 obtain⟨w,e,⟨ow,DS⟩,⟨hw,gw⟩,s0,FI⟩:=q4h 395 (c.fdiv 3+j) hp Zw;obtain⟨v1,d1,a1,a2,a3⟩:=Kh ow DS (n:=399) (by exact Os hw) hp FI;obtain⟨v2,d2,b1,b2,b3⟩:=Ax (n:=398) (c:=c.fdiv 7+j) ⟨s0,a3⟩ Zw;obtain⟨v3,d3,c1,c2,tn,c3⟩:=Ax (n:=398) (c:=c.fdiv 11*c.fmod 2) b3 Zw;have hb:∀kn,nC 399 (lS w2 w3 hs (ζ<|.int j) (ζ<|.int c) (à w7) o8 o9 AC AE AQ AF) kn kr=_:=λkn=>by
  unfold lS;rewrite[q09,h7,h2];simp only[cY,dS];rw[show aB .Add (Zy<|aG .FloorDiv (.int c)<|.int 3) (κ<|.int j)=κ (.int<|c.fdiv 3+j) from Zv,lN,e,aF,cY,dS,lM,a1,show aB .Add (Zy<|aG .FloorDiv (.int c)<|.int 7) (κ<|.int j)=κ (.int<|c.fdiv 7+j) from Zv,q53 _ a2,b1,aF,b2,dS,
   show aB .Mult (Zy<|aG .FloorDiv (.int c)<|.int 11) (Zy<|aG .Mod (.int c)<|.int 2)=.ok (.fz<|.int<|c.fdiv 11*c.fmod 2) from by
    rw[(kD _ Zw:aG .FloorDiv (.int c) (.int 11)=.ok (.fz<|.int<|c.fdiv 11)),(iH _ Zw:aG .Mod (.int c) (.int 2)=.ok (.fz<|.int<|c.fmod 2))];exact congrArg Zy<|kC _<|LW (bB c (n:=2) Zw) Zw,lN,c1,aF,c2,show aC (Zy<|aG .Mod (.int c)<|.int 6) .Eq (κ<|.int 1)=κ (.bool<|c.fmod 6==1) from Zv]
 obtain⟨i,rfl,rfl,hi⟩|⟨_,l,f,ee,rfl,rfl,B⟩:=c3.CP
 ·exact⟨w,⟨ow,DS,hw,gw⟩,s0,FI,_,_,c3.mono Zw,.fz NL,w3,.fz p,.fz<|Zq w,.fz<|.int i,rfl,h3,rfl,rfl,rfl,λkn=>(hb kn).trans ((q6b _ _ _ _).trans (by unfold lS;rfl))⟩
 ·cases ee;refine aD (q57 B c) λl' B' e'=>DO (c.fmod 6==1) (λh=>?_) λh=>?_
  ·exact⟨w,⟨ow,DS,hw,gw⟩,s0,FI,_,_,c3.mono Zw,.fz NL,w3,.fz p,.fz<|Zq w,.fz<|Zz l,rfl,h3,rfl,rfl,rfl,λkn=>(hb kn).trans ((Kq _ _ _ _).trans (by rw[h,if_neg Zw];unfold lS;rfl))⟩
  ·exact Zs B'.ET λtl hl=>⟨w,⟨ow,DS,hw,gw⟩,s0,FI,_,tl,hl,.fz NL,w3,.fz p,.fz<|Zq w,.own<|Zz l',rfl,h3,rfl,rfl,rfl,λkn=>(hb kn).trans ((Kq _ _ _ _).trans (by
    rw[h,if_pos rfl];simp only[cY,j6,dS,dT,aM];rw[e',aF];unfold lS;rfl))⟩
inductive LT(d:a_)(hs:List a_)(r:KN->R V)(S:V->V->List a_->Option V->Option V->Option V->Option V->Option V->Option V->Option V->aA):Prop where
 |mk (w2 w3:V) (x:a_) (o5 o6 o7 o8 o9 AE AF:Option V) (h:Pr x) (c2:w2.cl=.fz NL) (c3:w3.cl=.fz d) (e:∀kn,r kn=kn (S w2 w3 (hs++[x]) o5 o6 o7 o8 o9 AE AF)):LT d hs r S
theorem q6d{c:Int}{t:TT}(hd:Sem 5 d t)(h2:w2.cl=.fz NL)(h3:w3.cl=.fz d)(hl:hs.length<a8)(o5 o6 o7 o8 o9 AC AE AQ AF:Option V)(kr:KR):
  LT d hs (λkn=>rb (Zy<|a9 nA (.tuple [.int j,.int c])<|lS w2 w3 hs o5 o6 o7 o8 o9 AC AE AQ AF) λσ=>mZ 399 σ kn kr) (λw2 w3 hs o5 o6 o7 o8 o9 AE AF=>lS w2 w3 hs o5 o6 o7 o8 o9 á AE á AF):=by
 revert hd h2 h3 hl;revert AQ AF kr;ext j hs d w2 w3 c t o5 o6 o7 o8 o9 AC AE;ext AQ AF kr
 obtain⟨p,tp,hp,w2,w3,w7,c2,c3,c7,e⟩:=q59 (c:=c) (j:=j) hd h2 h3 hs o5 o6 o7 o8 o9 AC AE AQ AF kr;obtain⟨p,tp,hp,w2,w3,w7,c2,c3,c7,e'⟩:=q6a (c:=c) (j:=j) hp c2 c3 c7 hs o8 o9 AC AE AQ AF kr;obtain⟨w,⟨a1,a2,a3,a4⟩,s0,FI,q,tn,hq,w2,w3,w7,w8,w9,c2,c3,c7,c8,c9,e2⟩:=q6c (c:=c) (j:=j) hp c2 c3 c7 hs o8 o9 AC AE AQ AF kr;obtain⟨x,y,z,hx,e3⟩:=q54 a1 a2 a3 a4 (w2:=w2) (w3:=w3) (x5:=.int j) (x6:=.int c) AC AE AQ AF hl (hp.mono Zw) hq FI c7 c8 c9 kr;exact⟨w2,w3,x,_,_,_,_,_,_,_,hx,c2,c3,λkn=>(e kn).trans ((e' kn).trans ((e2 kn).trans (e3 kn)))⟩
theorem q6e{t:TT}(hd:Sem 5 d t)(kn:KN)(kr:KR):∀(cs:List Int) (j:Int) {w2 w3:V} (hs:List a_) (o5 o6 o7 o8 o9 AC AE AQ AF:Option V),Kn hs->hs.length+cs.length<a8->w2.cl=.fz NL->w3.cl=.fz d ->
  ∃w2' w3' AZ p5 p6 p7 p8 p9 CT GO PP RY,Kn AZ/\aX (mZ 399) nA (eA j<|cs.map .int) (lS w2 w3 hs o5 o6 o7 o8 o9 AC AE AQ AF) kn kr=kn (lS w2' w3' AZ p5 p6 p7 p8 p9 CT GO PP RY):=by
 intro cs;induction cs with
 |nil=>exact λj {w2 w3} hs o5 o6 o7 o8 o9 AC AE AQ AF hH _ _ _=>⟨w2,w3,hs,o5,o6,o7,o8,o9,AC,AE,AQ,AF,hH,rfl⟩
 |cons c cs ih=>intro j w2 w3 hs o5 o6 o7 o8 o9 AC AE AQ AF hH hl h2 h3;rw[pg] at hl;obtain⟨w2,w3,x,p5,p6,p7,p8,p9,GO,RY,hx,c2,c3,e⟩:=q6d (c:=c) (j:=j) hd h2 h3 (hs:=hs) (by exact Ot hl) o5 o6 o7 o8 o9 AC AE AQ AF kr;obtain⟨x2,x3,KC,q5,q6,q7,q8,q9,EF,IM,IN,LL,i,e'⟩:=ih (j+1) (hs++[x]) p5 p6 p7 p8 p9 á GO á RY (λp hp=>(List.mem_append.mp hp).elim (hH p) λhp=>List.mem_singleton.mp hp▸hx) (by rw[k_,cn];exact Ou hl) c2 c3;exact⟨x2,x3,KC,q5,q6,q7,q8,q9,EF,IM,IN,LL,i,Eq.trans (e _) e'⟩
theorem q6f:(slice sC (à 2)<|some 26).length<64:=by
 obtain h:∀k n:Nat,clipAt n 26 - k<=26:=λk n=>aa (Nat.sub_le _ _) (by
  rcases Int.le_total 26 n with h|h
  ·rw[uE Zw h];exact bv _
  ·rw[Jg Zw h];exact cz.mp h)
 unfold slice;rw[oh];exact au (aa (Nat.min_le_left _ _)<|h _ _) Zw
theorem q6g:rn 400 "law" [.fz Li]=κ (.bool â):=by
 obtain⟨v2,d0,e1,e2,t,e3⟩:=q30 395;rw[q04,q3w 397,aF,iW,dS,((lM _ _ _).trans e1:aE (rn 399 QP) [κ Li,κ NL]=.ok v2),aF,
  show HU (dX (.ok Li) (à<|κ<|.int 2)<|some<|κ<|.int 26)=.ok (eA 0<|(slice sC (à 2)<|some 26).map .int) from by
   show Zt (eA 0<|slice (sC.map rq) (à 2)<|some 26)=_;rw[q52],aF]
 obtain⟨w2,w3,AZ,o5,o6,o7,o8,o9,AC,AE,AQ,AF,hH,e⟩:=q6e e3 (λσ=>y0 399 σ (λ_=>κ .none) Zt) Zt (slice sC (à 2)<|some 26) 0 (w2:=.fz NL) (w3:=v2) [] á á á á á á á á á (λp hp=>by exact cB hp) (by show 0+_<16777216;exact Ov<|q6f) rfl e2;refine Eq.trans e ?_;unfold lS;rw[q07];show rb (aC (aN (.ok AZ) _ _) .Eq<|.ok<|.own<|.list []) Zt=_;rw[uB,I7 (g:=λ_=>ã) λp hp=>by
  obtain⟨a,b,zq,h⟩:=hH p hp;subst hp zq;show zu (zy .Not<|aE (rn 399 FN) [κ a,κ b])=_;rw[lM,jE h];rfl]
 rw[(by simp:AZ.filter (λ_=>ã)=[])];rfl
theorem q6h(s:List Int):rn 400 "law" [.fz<|.list<|s.map .int]=κ (.bool â):=q1e q6g s
def Az(k:Nat):Option<|Arguments×List me×mh:=(BB.drop k).head?.bind λs=>match sv s with
 | .fn _ a b sc=>à (a,b,sc)
 |_=>á
theorem shp:NI BB where
 cp:=.mk _ _ _ ((by kernel_rfl:cX "_law_copy" BB=Az 52).trans rfl) (.mk _ _ _ _ _ _ _ _ _ _ _ _ _ _ _ _ _ _ _ _ _ _ _ _ rfl (by kernel_rfl) (by kernel_rfl) (by kernel_rfl) (by kernel_rfl) (by kernel_rfl) (by kernel_rfl) (by kernel_rfl) (by kernel_rfl) (by decide +kernel) (by decide +kernel) rfl)
 cd:=.mk _ _ _ ((by kernel_rfl:cX "copied" BB=Az 13).trans rfl) (.mk _ _ _ _ _ _ _ _ _ _ _ _ _ _ _ _ _ _ _ _ _ _ _ _ _ _ _ _ rfl (by kernel_rfl) (by kernel_rfl) (by kernel_rfl) (by kernel_rfl) (by kernel_rfl) (by kernel_rfl) (by decide +kernel) (by decide +kernel) rfl)
 em:=.mk _ _ _ ((by kernel_rfl:cX "_law_emptied" BB=Az 73).trans rfl)<|.mk _ _ _ _ _ _ _ _ _ _ _ _ _ _ _ _ _ _ _ _ _ _ (by kernel_rfl) rfl (by kernel_rfl) (by kernel_rfl) (by kernel_rfl) (by kernel_rfl) (by kernel_rfl) (by kernel_rfl) (by decide +kernel) (by decide +kernel) rfl
end Mine.Internal
namespace Mine.Internal
open PySem PySem.W PyProof.Rows
set_option maxHeartbeats 8000000 in
theorem q6i:zg.wellSaid=â:=by
 unfold OpenLaw.wellSaid OpenRow.wellSaid OpenRow.partSaid looksOpen
 with_reducible repeat' (refine look_both ?_ ?_)
 all_goals decide +kernel
theorem q6j:Gv zg.row.prog.main.body:=λc b ps h p hp=>by
 have hc:=xX h;rw[show oN zg.row.prog.main.body=[e_ "ViewError",e_ "BadTree",e_ "BadView",e_ "BadText",e_ "BadPut"] from Zv] at hc;simp only[mo,ql,or_false] at hc;rcases hc with rfl|rfl|rfl|rfl|rfl
 ·rw[show bO (e_ "ViewError") zg.row.prog.main.body=à (e_ "ValueError",á) from Zv] at h;cases h
 ·rw[show bO (e_ "BadTree") zg.row.prog.main.body=à (e_ "ViewError",á) from Zv] at h;cases h
 ·rw[show bO (e_ "BadView") zg.row.prog.main.body=à (e_ "ViewError",á) from Zv] at h;cases h
 ·rw[show bO (e_ "BadText") zg.row.prog.main.body=à (e_ "ViewError",á) from Zv] at h;cases h
 ·rw[show bO (e_ "BadPut") zg.row.prog.main.body=à (e_ "ViewError",à [e_ "way",e_ "kind",e_ "part"]) from Zv] at h;cases h;simp only[mo,ql,or_false] at hp;rcases hp with rfl|rfl|rfl<;>(rw[tj,qr];kernel_rfl)
end Mine.Internal
end
open PySem PySem.W PyProof.Rows Mine.Internal
set_option tactic.hygienic true in
set_option maxHeartbeats 8000000 in
theorem PySem.Challenge.cw_uf010037_05_holds : PySem.Challenge.rw_uf010037_05.Holds := by
 refine holds_law q6i λq2B=>?_;refine holds_open (q:=EI) (loose:=[]) (Xt:=λs=>(xlAt EI [] s&&recOk (RowW.records zg.row.toRowW) s)&&rR s.heap zg.row.prog.main.body) (XP:=λmg h=>XL EI [] mg h/\mU zg.row.prog.main.body mg h) (Yf:=Hook.obs Hook.none) (Ya:=Hook.val Hook.none) (YP:=Hook.says Hook.none) (N:=6064)
  Qa (Hook.of Hook.none) (Hook.keeps Hook.none) (λs e=>⟨xl_of s (cm.mp (cm.mp e).1).1,W8 (cm.mp e).2⟩) (λmg h h' x k=>⟨XL.keeps mg h h' x.1 k,x.2.keeps k⟩) (by rfl) (by rfl) (by rfl) (λs e=>recFacts_of (cm.mp (cm.mp e).1).2) (by rfl) q2B (by decide +kernel) ⟨rfl,rfl,rfl,rfl,rfl,by decide +kernel⟩ ?hw ?hc
 case hw=>w_witness2
 intro w jw jv mg mb G Y fa o pm cd doc dV kV ho hd FF hD LC hg args vals as q1M q1B hrd RN hlo;have GL:NF zg.row.prog w mg mb jv.heap:=Xf G.T G.X.2 q6j (λf=>by kernel_rfl) (by kernel_rfl) (by kernel_rfl) (by kernel_rfl);replace LC:mg (e_ "law")=some (.ref fa):=LC;clear ho hd FF hD G Y
 wrow_args q1M q1B hrd RN hlo
 rename_i ns _ _ _ _ _ _ _ l _ _ _ _ hw _ _ _ hn _;refine Xi shp GL LC hw (by omega) (by kernel_rfl) (N:=400) (by decide) (q6h ns) λs' k=>?_;obtain⟨h',tk,rfl,hk⟩:=k;exact GoodW.toG ⟨.inl ⟨_,.bool true,[],rfl,λ_=>by kernel_rfl,.bool true,by kernel_rfl,λ_=>⟨fg,by simp⟩⟩,hk,rfl,hg⟩
