import PyProof.Rows.All
import Wide.All
import OpenK.AllK
import Wide.FinOn
import PyProof.TableCode
import PySem.Challenge.RW_nt0065_01
set_option autoImplicit false
set_option maxRecDepth 100000
set_option genInjectivity false
set_option genSizeOf false
set_option genSizeOfSpec false
set_option genCtorIdx false
open PySem renaming cameBackBy->Gx,Value->ai,DictEntry->gI,sizeLine->jD,sizeLine_eq->bN,Program->jj,World->se,mainGlobals->fU,builtinsNs->p9,Model->CB,model->dF,KeyKind->tE,strKind->tG,strKind_is->tH,valueAt->mZ,stored->gY,Shared->ak,Env->aI,Around->b9,wpAny->aJ,recursionLimit->Gm,cLine->qU,binaryOp->Gn,call_meets->kQ,Builtin->bl,isSubtype->J8,isSubtype_type->iB,Gives->kT,call_gives->mK,wpAny_of_eq->nS,wpAny_holding->aZ,wpAny_ite_split->D5,wpAny_bind->af,wpAny_truthy_bool->gV,compareOp->sf,typeLookup->Gp,getItem->Eb,seqIndex?->J9,slot_dict_getitem->Vz,wpAny_getItem_of->XN,wpAny_getItem_list_slice->rb,slicePick_plain->Yn,Slot->qe,typeLookup_type->n5,builtinLookup_eq_fast->jf,typeOf->yr,builtinType->CD,builtinType_eq_fast->oE,entryFor->Gq,entryFor_of_tree->si,argsOk->yt,wpAny_pure->ay,isInstance->tI,wpAny_isInstance->Br,wpAny_rule->tJ,wpAny_typeOf->AR,wpAny_mkBytes->IJ,wpAny_newList->kJ,wpAny_specialOf->t7,wpAny_seqItems->wy,byteArr->VB,Scope->dM,wpAny_Name->Gr,wpAny_loadName_local->nT,isTrue->tw,wpAny_mono->aY,truthy->Ub,holding->Mz,NameKind->eb,Const->QZ,wpAny_Constant_int->yv,wpAny_Constant_str->kR,wpAny_UnaryOp->IK,behindInMarks->IL,isTrue_Compare1->Yp,evalPart_none->xT,evalPart_some->IM,wpAny_Slice->Q1,starEach->wA,backTo->MA,spliced->VC,wpAny_Call_ofName->jk,keywordEach->Q2,Keyword->MB,wpAny_Call_method_late->tK,arm_eval_Attribute->Uc,wpAny_List->XQ,wpAny_Tuple->VD,pairTrees_nil_walk->Ud,pairTrees_cons_walk->xk,wpAny_Dict_walk->Yq,BoolOp->yw,wpAny_standAt->cY,storeName->Bs,wpAny_storeName_local->MT,assignEach->tL,assignInOrder->xU,wpAny_assign_Name->qX,assign->gZ,pyNext->Ue,letOwnedTupleGo->kM,pyIter->MC,Walks->Gs,wpAny_pyIter_list->VE,closureFor->Uh,Result->Ui,codeAny->Ed,noteFrame->wD,IsRange->VF,foldedSetIterable->AW,wpAny_list_append_plain->Kb,wpAny_newObj_type->VG,rawInt->n6,swapsWith->Bt,wpAny_Return_some->qY,wpAny_Expr_any->Gu,execs->qf,wpAny_execs_nil->ei,wpAny_execs_cons->jU,wpAny_Assign_Name->VH,any_of_findIdx_some->xl,setItem->rf,wpAny_sequenceKey->VI,wpAny_callSpecial?_slot->Kd,wpAny_call_entry->mP,setAttr->IQ,wpAny_loadPart->wB,wpAny_askSetting->XU,wpAny_mkText->MD,aRefKeyMayBeTheName->Rv,wpAny_updatePart->XW,wpAny_lookBehind->XX,pastItsLine_dict->XY,unpackItems->CE,swappedStores->dQ,wpAny_release->rg,wpAny_unpackItems_tuple->Ke,wpAny_Assign_stores->Rx,wpAny_setField->Gv,wpAny_field->qZ,setFlight->Kg,FuncData->qg,cellsFrom->Kh,wpAny_newFunctionEnv_cells->Gy,mem_of_lookup->ri,wpAny_call->Gz,codeAny_call_function->MV,excClassObj->q0,raiseStmt->XZ,wpAny_loadPart_at->jl,wpAny_isSubtype_exc->xm,ExcBaseFacts->ME,wpAt_bind->Yr,wpAt_of_wpAny->Ry,checkBuiltinCall->sj,codeAny_call_builtin->Q4,getAttrByItsOwn->Ys,ExceptHandler->g8,wpAny_Try_except->X0,checkCount->Uj,wpAny_eqBool_int->Bw,Comprehension->IT,bootBuiltins->AY,callerA->VK
open PySem.Shared renaming mk->Yl
open List renaming cons->XM,replicate->bL,rec->dE,casesOn->AM,range->eM,getElem?_eq_some_iff->aU,getElem?_eq_getElem->aX,reverse_cons->AP,mem_append->bk,mem_append_left->ct,mem_append_right->cx,mem_of_getElem?->dp,mem_singleton->ao,any_cons->IH,map_cons->aM,nodup_cons->gJ,nodup_nil->qa,mem_filterMap->eP,getElem?_append_left->dG,getElem?_eq_none->uR,length_append->ah,length_set->t6,getElem?_set_self->My,getElem?_set_ne->QY,flatten_cons->Vy,length_map->aj,size_toArray->aN,cons_beq_cons->T9,zip_cons_cons->yq,all_cons->bP,length_cons->aO,all_eq_true->bj,getElem?_zip_eq_some->GI,mem_range->iC,getD_eq_getElem?_getD->bQ,getElem?_map->bV,length_take->cW,length_drop->cX,append_nil->aT,length->cZ,range'->e8,range'_succ->jT,range'_zero->sg,reverse_reverse->jE,take_append_drop->MR,drop_append_of_le_length->CC,drop_eq_getElem_cons->j8,extract_eq_take_drop->qJ,foldl_cons->fy,nil_append->dS,range_eq_range'->wx,take_of_length_le->lS,map_nil->fP,isEmpty_iff->XO,drop_zero->qb,length_range'->qc,map->qd,contains_cons->iR,map_reverse->iD,isSuffixOf->eh,map_append->ba,find?_cons->D7,dropWhile_cons->ke,length_reverse->ef,dropWhile->jF,take->Ka,zipIdx_cons->mM,map_map->bE,foldl_toArray'->Rp,length_eq_one_iff->lT,take_succ_eq_append_getElem->AS,push_toArray->AU,take_length->XP,not_mem_nil->bJ,mem_cons->av,length_nil->i6,toList_toArray->Rt,lookup_cons->bc,nodup_append->qW,mem_map->aL,any_eq_true->XR,getElem?_append_right->ec,cons_ne_nil->eQ,mem_cons_self->bC,mem_cons_of_mem->bw,getElem?_toArray->uS,length_zipIdx->Ug,forall_mem_cons->Q3,contains_iff_mem->jg,length_range->lX,getElem?_range->Ru,map_congr_left->da,getElem?_eq_none_iff->j9,drop_length->XT,append_assoc->aG,take_succ_cons->Rw,filterMap_cons_some->rh,length_replicate->MU,mem_map_of_mem->dH,pairwise_cons->bG,pairwise_singleton->iE,mem_flatMap->mQ,filter_cons->dZ,length_filter_le->gm,getElem_mem->Bv,pairwise_map->ee,toArray->AX,filter_eq_nil_iff->MH,map_inj_left->VL,mem_filter->cC,set_append_right->MZ,length_take_le'->Q6,filter_cons_of_pos->kU,filter_cons_of_neg->sk,getElem?_take->Uk,filter_append->gj,filter_filter->Ul,filter_congr->VM,pairwise_append->jG,countP_eq_length_filter->D9,cons_append->b8,filterMap_cons->kg,filterMap_eq_map'->tO,isPrefixOf->cU,flatMap_cons->gW,map_id->Q8,filterMap_eq_nil_iff->eA,perm_append_comm->M0,reverse_append->kh,all_append->Yx,filterMap_append->M1,append_eq_nil_iff->cF,append_cons->sq,filter_sublist->Rz,flatMap_def->su,mem_reverse->Ya,filterMap->GA,filterMap_map->yz,length_singleton->M3,map_eq_nil_iff->il,mem_of_mem_take->Q9,flatMap_append->xo
open Option.some renaming inj->bu
open Bool renaming and_eq_true_iff->bF,false_ne_true->aK,false_or->II,eq_iff_iff->n4,not_eq_true'->dJ,and_eq_true->ax,and_false->lU,eq_false_iff->qV,or_eq_true->i7,false_eq_true->iS,not_eq_true->X7,casesOn->MG,noConfusion->mR,not_eq_false'->Um
open Int renaming fdiv->QW,le_trans->bM,ofNat_le->bW,ofNat_lt->bX,sub_zero->tx,not_le->cu,not_lt->bY,le_of_lt->eZ,lt_add_one_of_le->cQ,sub_le_self->tZ,le_sub_one_of_lt->wm,lt_trans->ea,lt_of_le_of_lt->dT,self_le_toNat->Vv,toNat_lt->tA,add_lt_add_right->wo,zero_add->AN,add_comm->pb,sub_add_cancel->T8,natCast_add->n0,add_assoc->xS,lt_of_lt_of_le->cR,le_refl->gU,natCast_nonneg->bb,le_add_one->wq,le_of_eq->Mx,sub_lt_self->D4,toNat_of_nonneg->Rm,lt_irrefl->m9,le_antisymm->D8,fmod_nonneg_of_pos->tM,fmod_lt_of_pos->yy,lt_of_le_sub_one->Q7,ofNat_sub->rj,natCast_pos->t8
open Nat renaming rec->oZ,le_of_not_lt->iz,le_succ_of_le->b7,le_trans->aa,le_of_lt->bT,lt_of_succ_lt->cL,not_le->gi,min_le_right->mH,add_right_comm->bg,lt_succ_self->cB,lt_of_le_of_lt->aA,add_le_add_right->ar,le_of_eq->bA,add_le_add_left->aD,not_lt->jB,zero_add->bO,mul_le_mul_left->bo,lt_of_lt_of_le->aw,sub_le->jC,lt_add_of_pos_right->bI,succ_pos->iQ,sub_lt_left_of_lt_add->j7,le_of_lt_succ->gR,lt_of_lt_of_eq->kP,le_of_succ_le->ji,sub_add_cancel->eN,le_add_left->kL,le_add_right->aR,lt_of_succ_lt_succ->tB,le_refl->bf,succ_le_succ->aB,lt_irrefl->fT,add_sub_cancel'->fK,le_of_succ_le_succ->lR,add_assoc->cM,sub_lt->tC,min_le_left->nZ,add_sub_cancel_left->sd,lt_succ_of_le->qT,lt_of_sub_pos->Vx,le_antisymm->gH,le_of_sub_eq_zero->MQ,zero_lt_one->t5,add_comm->cE,add_zero->Mw,add_le_add->aW,pos_of_ne_zero->p8,lt_trans->pe,add_sub_cancel->yo,lt_succ_of_lt->gT,ne_of_lt->cq,ne_of_gt->pf,lt_sub_of_add_lt->QX,mul_succ->tD,not_succ_le_self->wt,zero_le->cy,sub_self->lW,le_succ->e9,succ_ne_self->XS,lt_of_succ_le->VJ,blt->m8,blt_eq->kS,ble->kN,le_of_ble_eq_true->aE,not_succ_le_zero->Q5,ble_eq_true_of_le->MY,exists_eq_succ_of_ne_zero->CF,not_le_of_lt->X8,zero_lt_succ->jV,succ_lt_succ->X9,not_lt_zero->Yw,succ_add_eq_add_succ->rl
open Nat.succ renaming inj->AO
open Ne renaming symm->dB
open Array renaming toList_inj->mJ,length_toList->aV,any_toList->Bq,toList_extract->wu,contains_toList->MS,size_extract->Ua,isEmpty_iff->VA,getElem?_toList->uT,getElem?_eq_some_iff->Gw
open UInt8 renaming toNat_inj->Ym
open Option renaming isSome_iff_exists->cV,toList_none->yx,bind_some->Bu,casesOn->wC,bind->q6,map->dI
open Eq renaming symm->AQ
open Int.ofNat renaming inj->m7
open List.cons renaming injEq->Yo
open PySem.Env renaming kindOf->fX
open PyProof.Rows renaming neg_int->Q0,Fr->Yu
open PySem.W renaming getL->AV
open ForInStep renaming yield->gK
open PySem.F renaming plainAttrs_list->Kc,slot_list_extend->IP,slot_dict_get->MW,slot_list_pop->MX
open List.Perm renaming of_eq->Yt,trans->Yv
open List.Pairwise renaming imp_of_mem->IS,sublist->mz,imp->VN
open Prod.mk renaming injEq->xV
noncomputable section
set_option tactic.hygienic false
set_option bootstrap.genMatcherCode false
set_option backward.dsimp.proofs true
set_option linter.all false
namespace Internal
namespace R
universe u
@[elab_as_elim]theorem zl{c:Sort u}{b:c}{P:c->Prop}{a:c}(h:a=b)(x:P b):P a:=h▸x
@[elab_as_elim]theorem zr{c:Sort u}{b:c}{P:c->Prop}{a:c}(h:b=a)(x:P b):P a:=h▸x
end R
namespace R
universe u0 u1 u2 u3 u4 u5 u6 u7
theorem zA{P Q g:Prop}(h:P/\Q)(k:P->Q->g):g:=k h.1 h.2
theorem zE{a:Sort u0}{P:a->Prop}{g:Prop}(h:∃b:a,P b)(k:∀b:a,P b->g):g:=h.elim λc h0=>k c h0
theorem uU{P Q R g:Prop}(h:P/\Q/\R)(k:P->Q->R->g):g:=k h.1 h.2.1 h.2.2
theorem dq{a:Sort u0}{P Q:a->Prop}{g:Prop}(h:∃b:a,P b/\Q b)(k:∀b:a,P b->Q b->g):g:=h.elim λc h0=>k c h0.1 h0.2
theorem zEE{b:Sort u0}{a:Sort u1}{P:b->a->Prop}{g:Prop}(h:∃d:b,∃c:a,P d c)(k:∀d:b,∀c:a,P d c->g):g:=h.elim λf h0=>h0.elim λe h1=>k f e h1
theorem t9{P Q R S g:Prop}(h:P/\Q/\R/\S)(k:P->Q->R->S->g):g:=k h.1 h.2.1 h.2.2.1 h.2.2.2
theorem pg{b:Sort u0}{P Q R:b->Prop}{g:Prop}(h:∃a:b,P a/\Q a/\R a)(k:∀a:b,P a->Q a->R a->g):g:=h.elim λc h0=>k c h0.1 h0.2.1 h0.2.2
theorem lB{b:Sort u0}{a:Sort u1}{P Q:b->a->Prop}{g:Prop}(h:∃d:b,∃c:a,P d c/\Q d c)(k:∀d:b,∀c:a,P d c->Q d c->g):g:=h.elim λf h0=>h0.elim λe h1=>k f e h1.1 h1.2
theorem aaW{b:Sort u0}{c:Sort u1}{a:Sort u2}{P:b->c->a->Prop}{g:Prop}(h:∃f:b,∃e:c,∃d:a,P f e d)(k:∀f:b,∀e:c,∀d:a,P f e d->g):g:=h.elim λi h0=>h0.elim λl h1=>h1.elim λm j=>k i l m j
theorem qK{P Q R S T g:Prop}(h:P/\Q/\R/\S/\T)(k:P->Q->R->S->T->g):g:=k h.1 h.2.1 h.2.2.1 h.2.2.2.1 h.2.2.2.2
theorem Un{b:Sort u0}{P Q R S:b->Prop}{g:Prop}(h:∃a:b,P a/\Q a/\R a/\S a)(k:∀a:b,P a->Q a->R a->S a->g):g:=h.elim λc h0=>k c h0.1 h0.2.1 h0.2.2.1 h0.2.2.2
theorem d0{d:Sort u0}{a:Sort u1}{P Q R:d->a->Prop}{g:Prop}(h:∃c:d,∃b:a,P c b/\Q c b/\R c b)(k:∀c:d,∀b:a,P c b->Q c b->R c b->g):g:=h.elim λf h0=>h0.elim λe h1=>k f e h1.1 h1.2.1 h1.2.2
theorem IU{b:Sort u0}{c:Sort u1}{a:Sort u2}{P Q:b->c->a->Prop}{g:Prop}(h:∃f:b,∃e:c,∃d:a,P f e d/\Q f e d)(k:∀f:b,∀e:c,∀d:a,P f e d->Q f e d->g):g:=h.elim λj h0=>h0.elim λl h1=>h1.elim λm i=>k j l m i.1 i.2
theorem GJ{P Q R S T U g:Prop}(h:P/\Q/\R/\S/\T/\U)(k:P->Q->R->S->T->U->g):g:=k h.1 h.2.1 h.2.2.1 h.2.2.2.1 h.2.2.2.2.1 h.2.2.2.2.2
theorem M4{b:Sort u0}{P Q R S T:b->Prop}{g:Prop}(h:∃a:b,P a/\Q a/\R a/\S a/\T a)(k:∀a:b,P a->Q a->R a->S a->T a->g):g:=h.elim λc h0=>k c h0.1 h0.2.1 h0.2.2.1 h0.2.2.2.1 h0.2.2.2.2
theorem wF{d:Sort u0}{c:Sort u1}{P Q R S:d->c->Prop}{g:Prop}(h:∃b:d,∃a:c,P b a/\Q b a/\R b a/\S b a)(k:∀b:d,∀a:c,P b a->Q b a->R b a->S b a->g):g:=h.elim λf h0=>h0.elim λe h1=>k f e h1.1 h1.2.1 h1.2.2.1 h1.2.2.2
theorem rq{d:Sort u0}{e:Sort u1}{b:Sort u2}{P Q R:d->e->b->Prop}{g:Prop}(h:∃f:d,∃c:e,∃a:b,P f c a/\Q f c a/\R f c a)(k:∀f:d,∀c:e,∀a:b,P f c a->Q f c a->R f c a->g):g:=h.elim λj h0=>h0.elim λl h1=>h1.elim λm i=>k j l m i.1 i.2.1 i.2.2
theorem uV{e:Sort u0}{f:Sort u1}{d:Sort u2}{P Q R S:e->f->d->Prop}{g:Prop}(h:∃c:e,∃b:f,∃a:d,P c b a/\Q c b a/\R c b a/\S c b a)(k:∀c:e,∀b:f,∀a:d,P c b a->Q c b a->R c b a->S c b a->g):g:=h.elim λj h0=>h0.elim λl h1=>h1.elim λm i=>k j l m i.1 i.2.1 i.2.2.1 i.2.2.2
theorem sv{e:Sort u0}{f:Sort u1}{b:Sort u2}{d:Sort u3}{P Q R:e->f->b->d->Prop}{g:Prop}(h:∃i:e,∃c:f,∃a:b,∃j:d,P i c a j/\Q i c a j/\R i c a j)(k:∀i:e,∀c:f,∀a:b,∀j:d,P i c a j->Q i c a j->R i c a j->g):g:=h.elim λn h0=>h0.elim λp h1=>h1.elim λq o=>o.elim λm l=>k n p q m l.1 l.2.1 l.2.2
theorem CH{c:Sort u0}{e:Sort u1}{a:Sort u2}{b:Sort u3}{d:Sort u4}{P Q:c->e->a->b->d->Prop}{g:Prop}(h:∃j:c,∃i:e,∃f:a,∃l:b,∃m:d,P j i f l m/\Q j i f l m)(k:∀j:c,∀i:e,∀f:a,∀l:b,∀m:d,P j i f l m->Q j i f l m->g):g:=h.elim λr h0=>h0.elim λt h1=>h1.elim λu s=>s.elim λo q=>q.elim λp n=>k r t u o p n.1 n.2
theorem uW{P Q R S T U V W g:Prop}(h:P/\Q/\R/\S/\T/\U/\V/\W)(k:P->Q->R->S->T->U->V->W->g):g:=k h.1 h.2.1 h.2.2.1 h.2.2.2.1 h.2.2.2.2.1 h.2.2.2.2.2.1 h.2.2.2.2.2.2.1 h.2.2.2.2.2.2.2
theorem Ee{c:Sort u0}{d:Sort u1}{P Q R S T U:c->d->Prop}{g:Prop}(h:∃b:c,∃a:d,P b a/\Q b a/\R b a/\S b a/\T b a/\U b a)(k:∀b:c,∀a:d,P b a->Q b a->R b a->S b a->T b a->U b a->g):g:=h.elim λe h0=>h0.elim λf h1=>k e f h1.1 h1.2.1 h1.2.2.1 h1.2.2.2.1 h1.2.2.2.2.1 h1.2.2.2.2.2
theorem M5{e:Sort u0}{f:Sort u1}{d:Sort u2}{P Q R S T:e->f->d->Prop}{g:Prop}(h:∃c:e,∃b:f,∃a:d,P c b a/\Q c b a/\R c b a/\S c b a/\T c b a)(k:∀c:e,∀b:f,∀a:d,P c b a->Q c b a->R c b a->S c b a->T c b a->g):g:=h.elim λj h0=>h0.elim λl h1=>h1.elim λm i=>k j l m i.1 i.2.1 i.2.2.1 i.2.2.2.1 i.2.2.2.2
end R
namespace R
def zKp{T:Prop}(_:T):Prop:=True
theorem gA{T:Prop}{p:T}:zKp p:=trivial
abbrev gB{T:Prop}(p:T):Prop:=zKp p->T
abbrev gC(T:Prop):Prop:=∀p:T,zKp p->T
universe v
def jJ{a:Sort v}(T:a):a:=let x:=T;x
def nU{a:Sort v}(T:a):a:=T
end R
namespace R
theorem ff(b f c g a d e):@PySem.wpAny b f c g a d e=R.jJ (@R.nU _ (@PySem.wpAny) b f c g (R.jJ a) (R.jJ d) e):=rfl
theorem fg(b d c e a):@PySem.codeAny b d c e a=R.jJ (@R.nU _ (@PySem.codeAny) b d c (R.jJ e) a):=rfl
theorem fi(a b d c):@PySem.notedBy a b d c=R.jJ (@R.nU _ (@PySem.notedBy) a b d (R.jJ c)):=rfl
theorem fj(a b d c):@Gx a b d c=R.jJ (@R.nU _ (@Gx) a b d (R.jJ c)):=rfl
theorem fm(b d c e a):@Yl b d c e a=R.jJ (@R.nU _ (@Yl) b d c e a):=rfl
theorem lY(a b c):@XM a b c=R.jJ (@R.nU _ (@XM) a b c):=rfl
theorem ua(a b):@Exists a b=R.jJ (@R.nU _ (@Exists) a (R.jJ b)):=rfl
theorem ub(a b):@And a b=R.jJ (@R.nU _ (@And) a b):=rfl
theorem uc(b d c e a):@ite b d c e a=R.jJ (@R.nU _ (@ite) b d c e a):=rfl
set_option genCtorIdx true
inductive PV where|none|bool(b:Bool)|int(i:Int)|str(s:List Nat)|bytes(b:List Nat)|bR(xs:List PV)|list(xs:List PV)|ref(l:Nat)|CI(is:List Int)
def yO{e:Type}(c:e->Nat)(d:List e)(f:∀a,d[c a]?=some a):DecidableEq e:=λa b=>if h:c a=c b then .isTrue (bu ((f a).symm.trans ((congrArg (d[·]?) h).trans (f b))))else .isFalse λq=>h (congrArg c q)
inductive At where|uX|ti|fields|fW|default|nc|ng|ki|A4|nh|Ef
noncomputable instance:DecidableEq At:=yO At.ctorIdx [.uX,.ti,.fields,.fW,.default,.nc,.ng,.ki,.A4,.nh,.Ef] λa=>by cases a<;>rfl
inductive Cl where|ph|xW|data
noncomputable instance:DecidableEq Cl:=yO Cl.ctorIdx [.ph,.xW,.data] λa=>by cases a<;>rfl
inductive Mt where|M6|oF|hY|ni|get|xX|yP
noncomputable instance:DecidableEq Mt:=yO Mt.ctorIdx [.M6,.oF,.hY,.ni,.get,.xX,.yP] λa=>by cases a<;>rfl
inductive Op where|add|sub|Ki|fdiv|fmod|Kj|wG
noncomputable instance:DecidableEq Op:=yO Op.ctorIdx [.add,.sub,.Ki,.fdiv,.fmod,.Kj,.wG] λa=>by cases a<;>rfl
inductive Cm where|eq|ne|lt|le|gt|ge|yA|kV|xY|n8
noncomputable instance:DecidableEq Cm:=yO Cm.ctorIdx [.eq,.ne,.lt,.le,.gt,.ge,.yA,.kV,.xY,.n8] λa=>by cases a<;>rfl
inductive Bi where|iG|RA|Yy|bytes|tuple|oG|sorted|max|Eg|str|int|split|strip|startswith|endswith|find|join
noncomputable instance:DecidableEq Bi:=yO Bi.ctorIdx [.iG,.RA,.Yy,.bytes,.tuple,.oG,.sorted,.max,.Eg,.str,.int,.split,.strip,.startswith,.endswith,.find,.join] λa=>by cases a<;>rfl
inductive AZ where|val|A5|range|ud
noncomputable instance:DecidableEq AZ:=yO AZ.ctorIdx [.val,.A5,.range,.ud] λa=>by cases a<;>rfl
@[reducible]noncomputable def Fn:=Nat
noncomputable abbrev Fn.qk:Fn:=(0:Nat)
noncomputable abbrev Fn.Eh:Fn:=(1:Nat)
noncomputable abbrev Fn.cN:Fn:=(2:Nat)
noncomputable abbrev Fn.Ei:Fn:=(3:Nat)
noncomputable abbrev Fn.kj:Fn:=(4:Nat)
noncomputable abbrev Fn.Bx:Fn:=(5:Nat)
noncomputable abbrev Fn.xq:Fn:=(6:Nat)
noncomputable abbrev Fn.pj:Fn:=(7:Nat)
noncomputable abbrev Fn.gL:Fn:=(8:Nat)
noncomputable abbrev Fn.js:Fn:=(9:Nat)
noncomputable abbrev Fn.sy:Fn:=(10:Nat)
noncomputable abbrev Fn.dR:Fn:=(11:Nat)
noncomputable abbrev Fn.dU:Fn:=(12:Nat)
noncomputable abbrev Fn.ek:Fn:=(13:Nat)
noncomputable abbrev Fn.gN:Fn:=(14:Nat)
noncomputable abbrev Fn.nj:Fn:=(15:Nat)
noncomputable abbrev Fn.gn:Fn:=(16:Nat)
noncomputable abbrev Fn.rr:Fn:=(17:Nat)
noncomputable abbrev Fn.pn:Fn:=(18:Nat)
noncomputable abbrev Fn.rt:Fn:=(19:Nat)
noncomputable abbrev Fn.ue:Fn:=(20:Nat)
noncomputable abbrev Fn.pq:Fn:=(21:Nat)
noncomputable abbrev Fn.uY:Fn:=(22:Nat)
noncomputable abbrev Fn.fq:Fn:=(23:Nat)
noncomputable abbrev Fn.fE:Fn:=(24:Nat)
noncomputable abbrev Fn.lh:Fn:=(25:Nat)
noncomputable abbrev Fn.i8:Fn:=(26:Nat)
noncomputable abbrev Fn.l0:Fn:=(27:Nat)
noncomputable abbrev Fn.oH:Fn:=(28:Nat)
noncomputable abbrev Fn.n9:Fn:=(29:Nat)
noncomputable abbrev Fn.cA:Fn:=(30:Nat)
noncomputable abbrev Fn.fY:Fn:=(31:Nat)
noncomputable abbrev Fn.l6:Fn:=(32:Nat)
noncomputable abbrev Fn.kW:Fn:=(33:Nat)
noncomputable abbrev Fn.dh:Fn:=(34:Nat)
noncomputable abbrev Fn.dg:Fn:=(35:Nat)
noncomputable abbrev Fn.km:Fn:=(36:Nat)
noncomputable abbrev Fn.lj:Fn:=(37:Nat)
noncomputable abbrev Fn.i9:Fn:=(38:Nat)
noncomputable abbrev Fn.l7:Fn:=(39:Nat)
noncomputable abbrev Fn.l8:Fn:=(40:Nat)
noncomputable abbrev Fn.qL:Fn:=(41:Nat)
noncomputable abbrev Fn.jK:Fn:=(42:Nat)
noncomputable abbrev Fn.ko:Fn:=(43:Nat)
noncomputable abbrev Fn.iq:Fn:=(44:Nat)
noncomputable abbrev Fn.jL:Fn:=(45:Nat)
noncomputable abbrev Fn.jm:Fn:=(46:Nat)
noncomputable abbrev Fn.kq:Fn:=(47:Nat)
noncomputable abbrev Fn.sC:Fn:=(48:Nat)
noncomputable abbrev Fn.Ej:Fn:=(49:Nat)
noncomputable abbrev Fn.uZ:Fn:=(50:Nat)
noncomputable abbrev Fn.oI:Fn:=(51:Nat)
noncomputable abbrev Fn.wH:Fn:=(52:Nat)
noncomputable abbrev Fn.pv:Fn:=(53:Nat)
noncomputable abbrev Fn.yQ:Fn:=(54:Nat)
noncomputable abbrev Fn.xr:Fn:=(55:Nat)
noncomputable abbrev Fn.yR:Fn:=(56:Nat)
noncomputable abbrev Fn.d8:Fn:=(57:Nat)
noncomputable abbrev Fn.iT:Fn:=(58:Nat)
noncomputable abbrev Fn.kr:Fn:=(59:Nat)
noncomputable abbrev Fn.pA:Fn:=(60:Nat)
noncomputable abbrev Fn.nk:Fn:=(61:Nat)
noncomputable abbrev Fn.wI:Fn:=(62:Nat)
noncomputable abbrev Fn.ql:Fn:=(63:Nat)
noncomputable abbrev Fn.f5:Fn:=(64:Nat)
noncomputable abbrev Fn.lC:Fn:=(65:Nat)
noncomputable abbrev Fn.jM:Fn:=(66:Nat)
noncomputable abbrev Fn.kX:Fn:=(67:Nat)
noncomputable abbrev Fn.uf:Fn:=(68:Nat)
noncomputable abbrev Fn.qm:Fn:=(69:Nat)
noncomputable abbrev Fn.jH:Fn:=(70:Nat)
noncomputable abbrev Fn.Uo:Fn:=(71:Nat)
inductive Slot where|bB|val(v:PV)|cj(xs:List PV)
set_option genCtorIdx false
inductive jt where|dict(es:List (PV×PV))|inst(c:Cl)(fs:List (At×PV))|cK(cs:List Int)(m:Int)
inductive X where|aF(v:PV)|d6(g:Nat)|aq(i:Nat)|dC(o:Op)(a b:X)|neg(a:X)|cS(c:Cm)(a b:X)|oa(a b c:X)|and(xs:List X)|or(xs:List X)|not(a:X)|ite(c a b:X)|jh(a i:X)|sl(a:X)(lo hi:Option X)|Ra(a:X)|cO(a:X)(n:At)|list(xs:List X)|bR(xs:List X)|dict(kvs:List (X×X))|comp(tg:List Nat)(k:AZ)(args:List X)(cond:Option X)(Rb:X)|call(f:Fn)(args:List X)|ja(m:Mt)(r:X)(args:List X)|new(c:Cl)(args:List X)|bi(b:Bi)(args:List X)|CJ(i:Nat)|A6(i:Nat)(k:X)|ku(i:Nat)|qM(i:Nat)|og(i:Nat)|ru(i j:Nat)|tP(i:Nat)
inductive Tg where|v(i:Nat)|cO(o:X)(n:At)|sub(o k:X)|GK(i:Nat)(k:X)|pB(i:Nat)
inductive S where|iP(i:Nat)|de(t:Tg)(e:X)|ug(ts:List Tg)(e:X)|eg(ts:List Tg)(es:List X)|qn(i:Nat)(e:X)|ext(i:Nat)(e:X)|expr(e:X)|gp(c:X)(a b:List S)|for(tg:List Nat)(k:AZ)(args:List X)(body:List S)|while(c:X)(body:List S)|ret(e:X)|tj(i:Nat)|fQ(e:X)|no|Ek(c e1 e2:X)(x:Nat)|GL(e:X)
structure FC where
 lo:Nat
 np:Nat
 nf:Nat
 cP:List String
 body:List S
set_option genInjectivity true
inductive Yz{α:Type}(o:Option α)(f:α->Bool):Prop|mk(a:α)(h:o=some a)(k:f a=true):Yz o f
inductive Uq{α β:Type}(o:Option α)(f:α->Option β)(b:β):Prop|mk(a:α)(h:o=some a)(k:f a=some b):Uq o f b
inductive YA{α β:Type}(o:Option α)(f:α->β)(b:β):Prop|mk(a:α)(h:o=some a)(k:f a=b):YA o f b
inductive YB(a b c:Prop):Prop|mk(x:a)(y:b)(z:c):YB a b c
theorem any_some{b:Type}{o:Option b}{f:b->Bool}(h:o.any f=true):Yz o f:=by cases o with|none=>cases h|some a=>exact⟨a,rfl,h⟩
theorem cg{c β:Type}{o:Option c}{f:c->Option β}{b:β}(h:o.bind f=some b):Uq o f b:=by cases o with|none=>cases h|some a=>exact⟨a,rfl,h⟩
theorem f6{c β:Type}{o:Option c}{f:c->β}{b:β}(h:o.map f=some b):YA o f b:=by cases o with|none=>cases h|some a=>exact⟨a,rfl,bu h⟩
theorem yS{a b:Bool}(h:(a&&b)=true):a=true/\b=true:=bF.mp h
theorem YC{a b c:Bool}(h:(a&&b&&c)=true):YB (a=true) (b=true) (c=true):=⟨(yS (yS h).1).1,(yS (yS h).1).2,(yS h).2⟩
abbrev Env:=Nat->Slot
abbrev aH:=List jt
set_option genCtorIdx true in inductive jb(σ α:Type)where|ok(a:α)(s:σ)|kc(told:PV)(s:aH)|aS
abbrev M(a:Type):=aH->jb aH a
noncomputable def M.pure{b}(a:b):M b:=λs=>.ok a s
noncomputable def M.bind{b β}(m:M b)(f:b->M β):M β:=λs=>match m s with|.ok a s'=>f a s'|.kc e s'=>.kc e s'|.aS=>.aS
noncomputable def aS{a}:M a:=λ_=>.aS
def mw{b}:Option b->M b|some a=>M.pure a|none=>aS
mutual noncomputable def PV.lD:PV->PV->Bool|.none,.none=>true|.bool a,.bool b=>a==b|.int a,.int b=>a==b|.str a,.str b=>a==b|.bytes a,.bytes b=>a==b|.bR a,.bR b=>pC a b|.list a,.list b=>pC a b|_,_=>false noncomputable def pC:List PV->List PV->Bool|[],[]=>true|a::r,b::s=>PV.lD a b&&pC r s|_,_=>false end
noncomputable def eu:Nat:=1048576
noncomputable def br:PV->Option Int|.int k=>some k|_=>none
noncomputable def ky:PV->Option (List PV)|.bR xs=>some xs|_=>none
noncomputable def iH:PV->Option (List PV)|.list xs=>some xs|_=>none
noncomputable def El:PV->Option (List Nat)|.str s=>some s|_=>none
noncomputable def ll:PV->Option (List Nat)|.bytes s=>some s|_=>none
def YD(a b:PV)(k:Int->Int->Option PV):Option PV:=(br a).bind λi=>(br b).bind λj=>k i j
def Ur(a b:PV):Option (Bool×PV):=match a with|.int i=>(br b).map λj=>(false,.int (i+j))|.bytes x=>(ll b).bind λy=>if x.length+y.length<=eu then some (false,.bytes (x++y))else none|.list x=>(iH b).bind λy=>if x.length+y.length<=eu then some (true,.list (x++y))else none|_=>none
def Us(a b:PV):Option (Bool×PV):=(br b).bind λj=>match a with|.int i=>if i.natAbs<4611686018427387904 then some (false,.int (i*j))else none|.list x=>if x.length*j.toNat<=eu/\0<=j/\j<1048576 then some (true,.list (bL j.toNat x).flatten)else none|_=>none
noncomputable def Ut:Op->Int->Int->Option PV|.sub,a,b=>some (.int (a-b))|.fdiv,a,b=>if b=0\/¬b.natAbs<1073741824 then none else some (.int (QW a b))|.fmod,a,b=>if b=0 then none else some (.int (Int.fmod a b))|.Kj,a,b=>if 0<=a/\0<=b then some (.int (Nat.land a.toNat b.toNat))else none|.wG,a,b=>if 0<=b then some (.int (QW a (2^b.toNat)))else none|.add,_,_=>none|.Ki,_,_=>none
def kz(o:Op)(a b:PV):Option (Bool×PV):=match o with|.add=>Ur a b|.Ki=>Us a b|o=>(YD a b (Ut o)).map λv=>(false,v)
def VO(x:PV)(xs:List PV):Bool:=xs.any λy=>y.lD x
def dw(k:PV)(l:List (PV×PV)):Option PV:=dE none (λx _ p=>if x.1.lD k then some x.2 else p) l
theorem wJ(k:PV)(x:PV×PV)(r:List (PV×PV)):dw k (x::r)=if x.1.lD k then some x.2 else dw k r:=rfl
def q7(k v:PV)(l:List (PV×PV)):List (PV×PV):=dE [(k,v)] (λx r p=>if x.1.lD k then(x.1,v)::r else x::p) l
theorem yT(k v:PV)(x:PV×PV)(r:List (PV×PV)):q7 k v (x::r)=if x.1.lD k then(x.1,v)::r else x::q7 k v r:=rfl
noncomputable def IV:PV->PV->Bool|.str _,.str _=>true|.int _,.int _=>true|_,_=>false
def iU(k:PV)(a:List (PV×PV)):Bool:=IV k k&&a.all λe=>IV e.1 k
noncomputable def isNone:PV->Bool|.none=>true|_=>false
noncomputable def qo:PV->Bool|.ref _=>true|.CI _=>true|_=>false
noncomputable def nq:PV->Option Bool|.bool b=>some b|_=>none
noncomputable def lE:Nat->PV->PV->Bool|0,_,_=>false|n+1,a,b=>match a with|.none=>!qo b|.bool _=>isNone b||(nq b).isSome|.int _=>isNone b||(br b).isSome|.str _=>isNone b||(El b).isSome|.bytes _=>isNone b||(ll b).isSome|.bR xs=>isNone b||(ky b).any λys=>(xs.zip ys).all λp=>lE n p.1 p.2|.list xs=>isNone b||(iH b).any λys=>(xs.length !=ys.length)||(xs.zip ys).all λp=>lE n p.1 p.2|_=>false
noncomputable def Kk:Nat:=6
noncomputable def M7:PV->Bool|.bR _=>false|.list _=>false|.CI _=>false|_=>true
noncomputable def u9:PV->Option Nat|.ref l=>some l|_=>none
noncomputable def wK:jt->Option (List (PV×PV))|.dict es=>some es|_=>none
noncomputable def GN:jt->Option (Cl×List (At×PV))|.inst c fs=>some (c,fs)|_=>none
def dictAt(a:List jt)(v:PV):Option (List (PV×PV)):=(u9 v).bind λl=>(a[l]?).bind wK
def yU(a b:PV)(f:Int->Int->Bool):Option Bool:=(br a).bind λi=>(br b).map λj=>f i j
def RB(a:List jt)(x b:PV):Option Bool:=match ky b with|some ys=>if ys.all (λy=>lE Kk y x&&M7 y)then some (VO x ys)else none|none=>(dictAt a b).bind λc=>if iU x c then some (dw x c).isSome else none
def eD(d:List jt)(c:Cm)(a b:PV):Option Bool:=match c with|.eq=>if lE Kk a b then some (a.lD b)else none|.ne=>if lE Kk a b then some (!a.lD b)else none|.lt=>yU a b λa b=>decide (a<b)|.le=>yU a b λa b=>decide (a<=b)|.gt=>yU a b λa b=>decide (b<a)|.ge=>yU a b λa b=>decide (b<=a)|.yA=>if isNone b then some (isNone a)else none|.kV=>if isNone b then some (!isNone a)else none|.xY=>RB d a b|.n8=>(RB d a b).map not
noncomputable def ju(k:Int)(n:Nat):Option Nat:=if 0<=k then(if k<n then some k.toNat else none)else if 0<=k+n then some (k+n).toNat else none
def oh(xs:List PV)(k:PV):Option PV:=(br k).bind λi=>(ju i xs.length).bind λj=>xs[j]?
def gq(b:List jt)(a k:PV):Option PV:=match a with|.bR xs=>oh xs k|.list xs=>oh xs k|.bytes xs=>(br k).bind λk=>if 0<=k/\k<xs.length then some (.int (xs.getD k.toNat 0))else none|a=>(dictAt b a).bind λc=>if iU k c then dw k c else none
noncomputable def M8(k:Int)(n:Nat):Nat:=if 0<=k then min k.toNat n else(k+n).toNat
def pD{c:Type}(xs:List c)(e d:Option Int):List c:=let a:=match e with|some k=>M8 k xs.length|none=>0;let b:=match d with|some k=>M8 k xs.length|none=>xs.length;(xs.take b).drop a
def oi(v:PV)(a c:Option Int):Option (Bool×PV):=match v with|.bytes b=>some (false,.bytes (pD b a c))|.list xs=>some (true,.list (pD xs a c))|_=>none
noncomputable def yV:PV->Option (Bool×PV)|.list xs=>some (true,.list xs.reverse)|_=>none
noncomputable def f7{b:Type}[BEq b](a:List b)(n:Nat):List b->List b->List (List b):=oZ (λacc r=>[acc.reverse++r]) (λ_ d acc r=>AM r [acc.reverse] λc r=>if a.isPrefixOf (c::r)then acc.reverse::d [] ((c::r).drop a.length)else d (c::acc) r) n
theorem By{b:Type}[BEq b](a acc r:List b):f7 a 0 acc r=[acc.reverse++r]:=rfl
theorem sD{b:Type}[BEq b](a:List b)(n:Nat)(acc:List b):f7 a (n+1) acc []=[acc.reverse]:=rfl
theorem jc{b:Type}[BEq b](a:List b)(n:Nat)(acc:List b)(c:b)(r:List b):f7 a (n+1) acc (c::r)=if a.isPrefixOf (c::r)then acc.reverse::f7 a n [] ((c::r).drop a.length)else f7 a n (c::acc) r:=rfl
def du{c:Type}[BEq c](b a:List c):List (List c):=f7 a (b.length+1) [] b
noncomputable def gE{a:Type}[BEq a](cs b:List a):List a:=b.dropWhile λc=>cs.contains c
def cm{a:Type}[BEq a](cs b:List a):List a:=(gE cs (gE cs b).reverse).reverse
def nv{a:Type}[BEq a](sub l:List a):Nat->Int:=dE (λi=>if sub.isEmpty then i else-1) (λc r b i=>if sub.isPrefixOf (c::r)then i else b (i+1)) l
theorem yB{a:Type}[BEq a](sub:List a)(i:Nat):nv sub [] i=if sub.isEmpty then(i:Int)else-1:=rfl
theorem mA{a:Type}[BEq a](sub:List a)(c:a)(r:List a)(i:Nat):nv sub (c::r) i=if sub.isPrefixOf (c::r)then(i:Int)else nv sub r (i+1):=rfl
def bD{a:Type}(b:List a)(l:List (List a)):List a:=dE [] (λx r j=>AM r x λ_ _=>x++b++j) l
theorem RC{b:Type}(a:List b):bD a []=[]:=rfl
theorem oj{b:Type}(a x:List b):bD a [x]=x:=rfl
theorem om{b:Type}(a x y:List b)(r:List (List b)):bD a (x::y::r)=x++a++bD a (y::r):=rfl
noncomputable def rz:List PV->Option (List (List Nat))|[]=>some []|.bytes b::r=>(rz r).map (b::·)|_=>none
noncomputable def CK:List PV->Option (List (List Nat))|[]=>some []|.str b::r=>(CK r).map (b::·)|_=>none
noncomputable def jW:List PV->Option (List Nat)|[]=>some []|.int i::r=>if 0<=i/\i<256 then(jW r).map (i.toNat::·)else none|_=>none
noncomputable def IW{b:Type}(f:PV->Option b):List PV->Option (List b)|[]=>some []|x::r=>(f x).bind λa=>(IW f r).map (a::·)
def lq(xs:List PV):Option (List Int):=IW br xs
def M9(v:PV):Option (Int×Int×Int):=(ky v).bind λl=>match l with|[a,b,c]=>(br a).bind λi=>(br b).bind λj=>(br c).map λk=>(i,j,k)|_=>none
def uh(xs:List PV):Option (List (Int×Int×Int)):=IW M9 xs
noncomputable def d7(x y:Int×Int×Int):Bool:=decide (x.1<y.1)||(x.1==y.1&&(decide (x.2.1<y.2.1)||(x.2.1==y.2.1&&decide (x.2.2<y.2.2))))
def YE{a:Type}(lt:a->a->Bool)(x:a)(l:List a):List a:=dE [x] (λy r i=>if lt x y then x::y::r else y::i) l
theorem Uu{a:Type}(lt:a->a->Bool)(x y:a)(r:List a):YE lt x (y::r)=if lt x y then x::y::r else y::YE lt x r:=rfl
def fR{a:Type}(lt:a->a->Bool)(l:List a):List a:=dE [] (λx _ i=>YE lt x i) l
noncomputable def tQ(a b:Int):Bool:=decide (a<b)
def vf(a:List jt)(v:PV):Option PV:=match iH v with|some xs=>(uh xs).bind λb=>if b.length<=5 then some (.list ((fR d7 b).map λt=>.bR [.int t.1,.int t.2.1,.int t.2.2]))else none|none=>(dictAt a v).bind λc=>(lq (c.map (·.1))).bind λis=>if is.length<64 then some (.list ((fR tQ is).map .int))else none
noncomputable def CL(s:List Nat):Bool:=s.all λc=>(65<=c&&c<=90)||(97<=c&&c<=122)
def ui(v:PV):Option (List Nat):=match v with|.str s=>if CL s&&decide (s.length<1000)then some (39::(s++[39]))else none|.bool b=>some (if b then[84,114,117,101]else[70,97,108,115,101])|_=>none
noncomputable def iL(n:Nat):List Nat:=if n<10 then[48+n]else if n<100 then[48+n/10,48+n%10]else[48+n/100,48+n/10%10,48+n%10]
def YF(v:PV):Option (List Nat):=(br v).bind λi=>if 0<=i/\i<1000 then some (iL i.toNat)else none
noncomputable def Uv(v:PV):Option PV:=match v with|.list xs=>some (.int xs.length)|.bR xs=>some (.int xs.length)|.bytes xs=>some (.int xs.length)|_=>none
noncomputable def aaY:List Nat->Option PV|[c]=>some (.int c)|_=>none
noncomputable def Em(v:PV):Option PV:=match v with|.bool _=>some (.bool true)|.none=>some (.bool false)|.int _=>some (.bool false)|.str _=>some (.bool false)|_=>none
noncomputable def MI(args:List PV)(f:PV->Option PV):Option PV:=match args with|[v]=>f v|_=>none
def YG:List PV->Option PV|[a,b]=>(br a).bind λa=>(br b).map λb=>.int (if b>a then b else a)|_=>none
def GO(a l:PV):Option PV:=(iH l).bind λxs=>match a with|.bytes sep=>(rz xs).bind λbs=>if(bD sep bs).length<=eu then some (.bytes (bD sep bs))else none|.str sep=>(CK xs).bind λbs=>if(bD sep bs).length<=eu then some (.str (bD sep bs))else none|_=>none
def aaZ:Bi->List Nat->List Nat->Option PV|.split,b,sep=>if sep.isEmpty||decide (eu<=b.length+1)then none else some (.list ((du b sep).map .bytes))|.strip,b,cs=>some (.bytes (cm cs b))|.startswith,b,p=>some (.bool (p.isPrefixOf b))|.endswith,b,p=>some (.bool (p.isSuffixOf b))|.find,b,sub=>some (.int (nv sub b 0))|_,_,_=>none
noncomputable def Kl(args:List PV)(f:PV->PV->Option PV):Option PV:=match args with|[a,b]=>f a b|_=>none
def biV(a:List jt)(b:Bi)(args:List PV):Option PV:=match b with|.iG=>MI args Uv|.RA=>MI args λv=>(El v).bind aaY|.Yy=>MI args λv=>(br v).bind λi=>if 0<=i/\i<1114112 then some (.str [i.toNat])else none|.bytes=>MI args λv=>(iH v).bind λxs=>(jW xs).map .bytes|.tuple=>MI args λv=>(iH v).map .bR|.oG=>MI args Em|.sorted=>MI args (vf a)|.max=>YG args|.Eg=>MI args λv=>(ui v).map .str|.str=>MI args λv=>(YF v).map .str|.int=>MI args λv=>(br v).map .int|.join=>Kl args GO|b=>Kl args λx y=>(ll x).bind λx=>(ll y).bind (aaZ b x)
noncomputable def biF:Bi->Bool|.sorted|.split=>true|_=>false
def gX(a:List jt)(b:Bi)(args:List PV):Option (Bool×PV):=(biV a b args).map λv=>(biF b,v)
noncomputable def dV:Bi->Bool|.split|.strip|.startswith|.endswith|.find|.join=>true|_=>false
def Rc(b:Bi)(v:PV):Bool:=match v with|.str _=>(match b with|.join=>true|_=>false)|.bytes _=>dV b|_=>false
def yW(a:List jt)(v:PV):Option (List PV):=match v with|.list xs=>some xs|.bR xs=>some xs|.bytes b=>some (b.map λ(c:Nat)=>.int c)|.str s=>some (s.map λc=>.str [c])|v=>(dictAt a v).map λd=>d.map (·.1)
def di(c:List jt)(k:AZ)(args:List PV):Option (List PV):=match k with|.val=>(match args with|[v]=>yW c v|_=>none)|.A5=>(match args with|[v]=>(iH v).map λxs=>xs.zipIdx.map λp=>.bR [.int p.2,p.1]|_=>none)|.range=>(match args with|[v]=>(br v).bind λn=>if n<=1000000/\-1000000<=n then some ((eM n.toNat).map λ(i:Nat)=>.int i)else none|_=>none)|.ud=>(match args with|[v,u]=>(br v).bind λa=>(br u).bind λb=>if-1000000<=a/\b<=1000000/\b-a<=1000000/\a<=1000000/\-1000000<=b then some ((eM (b-a).toNat).map λ(i:Nat)=>.int (a+i))else none|_=>none)
def MJ:Cl->Mt->Option Fn|.ph,.M6=>some .rt|.ph,.oF=>some .ue|.ph,.hY=>some .pq|.ph,.ni=>some .uY|.xW,.get=>some .Ej|.xW,.xX=>some .uZ|.data,.get=>some .yQ|.data,.xX=>some .pv|.data,.yP=>some .xr|_,_=>none
def iI:Cl->Fn|.ph=>.pn|.xW=>.sC|.data=>.wH
def instOf(a:List jt)(v:PV):Option (Cl×List (At×PV)):=(u9 v).bind λl=>(a[l]?).bind GN
def qN(m:Mt)(v:PV):M (Option Fn):=λs=>match instOf s v with|some p=>(match MJ p.1 m with|some f=>.ok (some f) s|none=>.aS)|none=>if(dictAt s v).isSome&&decide (m=.get)then .ok none s else .aS
def dictGet(v:PV)(vs:List PV):M (Bool×PV):=λs=>match vs with|[k]=>(match dictAt s v with|some es=>if iU k es then .ok (false,(dw k es).getD .none) s else .aS|none=>.aS)|_=>.aS
noncomputable def jd(e:Env)(i:Nat)(s:Slot):Env:=λj=>if j=i then s else e j
noncomputable def xZ(e:Env):Env:=λi=>match e i with|.cj _=>.bB|s=>s
noncomputable def iW:Bool×PV->Slot|(true,.list xs)=>.cj xs|(_,v)=>.val v
noncomputable def nx:List Nat->List PV->Env->Option Env|[],[],e=>some e|i::r,v::vs,e=>nx r vs (jd e i (.val v))|_,_,_=>none
def eV(tg:List Nat)(v:PV)(e:Env):Option Env:=if tg.length=1 then some (jd e (tg.headD 0) (.val v))else(ky v).bind λvs=>nx tg vs e
noncomputable def sE(c:jt):M PV:=λs=>.ok (.ref s.length) (s++[c])
def vg(v:PV)(n:At):M PV:=λs=>match(instOf s v).bind λp=>p.2.lookup n with|some v=>.ok v s|none=>.aS
def En(n:At)(v:PV)(l:List (At×PV)):List (At×PV):=dE [(n,v)] (λx r p=>if x.1=n then(x.1,v)::r else x::p) l
theorem VP(n:At)(v:PV)(x:At×PV)(r:List (At×PV)):En n v (x::r)=if x.1=n then(x.1,v)::r else x::En n v r:=rfl
noncomputable def RD:PV->Nat|.ref l=>l|_=>0
def xt(o:PV)(n:At)(v:PV):M Unit:=λs=>match instOf s o with|some p=>if p.2.length<100 then .ok () (s.set (RD o) (.inst p.1 (En n v p.2)))else .aS|none=>.aS
def setItem(o k v:PV):M Unit:=λs=>match dictAt s o with|some es=>if iU k es&&decide (es.length<4096)then .ok () (s.set (RD o) (.dict (q7 k v es)))else .aS|none=>.aS
inductive Fl where|next|ret(v:Bool×PV)
noncomputable def ny:Slot->Option PV|.val p=>some p|_=>none
noncomputable def GP:jt->Option (List Int×Int)|.cK cs m=>some (cs,m)|_=>none
noncomputable def vh:PV->Option (List Int)|.CI is=>some is|_=>none
def kY(b:Env)(i:Nat)(a:aH):Option (Nat×List Int×Int):=((ny (b i)).bind u9).bind λl=>((a[l]?).bind GP).map λp=>(l,p.1,p.2)
def ku(i:Nat)(b:Env):M (Bool×PV):=λa=>match kY b i a with|some d=>.ok (false,.bool (!d.2.1.isEmpty)) a|none=>.aS
def qM(i:Nat)(b:Env):M (Bool×PV):=λa=>match kY b i a with|some (l,c::cs,m)=>.ok (false,.int c) (a.set l (.cK cs m))|_=>.aS
def og(i:Nat)(b:Env):M (Bool×PV):=λa=>match kY b i a with|some d=>.ok (false,.int d.2.2) a|none=>.aS
def pB(i:Nat)(v:PV)(b:Env):M Unit:=λa=>match(br v).bind λk=>(kY b i a).map λd=>(k,d)with|some p=>if p.1.natAbs<2147483648 then .ok () (a.set p.2.1 (.cK p.2.2.1 p.1))else .aS|none=>.aS
def tP(i:Nat)(b:Env):M (Bool×PV):=λa=>match(ny (b i)).bind vh with|some is=>.ok (true,.list ((is.take 40).map .int)) a|none=>.aS
def ru(i j:Nat)(b:Env):M (Bool×PV):=λa=>match(((ny (b i)).bind iH).bind lq).bind λis=>((ny (b j)).bind br).map λm=>(is,m)with|some p=>if p.1.length<=1000/\p.2.natAbs<2147483648 then .ok (false,.ref a.length) (a++[.cK p.1 p.2])else .aS|none=>.aS
noncomputable def aa0:List PV:=[(.int 1114111),(.int 55296),(.int 57343),(.bytes [48,49,50,51,52,53,54,55,56,57,65,66,67,68,69,70]),(.int 4),(.int 6),(.bytes [32,9,13]),(.bytes [239,187,191]),(.bytes [64,109,105,115,115,105,110,103,58]),(.int 15),(.bytes [44,32,70,105,114,115,116,62]),(.bytes [44,32,76,97,115,116,62]),(.int 254),(.bR [(.str [76,117]),(.str [76,108]),(.str [76,116]),(.str [76,109]),(.str [76,111]),(.str [77,110]),(.str [77,99]),(.str [77,101]),(.str [78,100]),(.str [78,108]),(.str [78,111]),(.str [80,99]),(.str [80,100]),(.str [80,115]),(.str [80,101]),(.str [80,105]),(.str [80,102]),(.str [80,111]),(.str [83,109]),(.str [83,99]),(.str [83,107]),(.str [83,111]),(.str [90,115]),(.str [90,108]),(.str [90,112]),(.str [67,99]),(.str [67,102]),(.str [67,115]),(.str [67,111]),(.str [67,110])]),(.bR [(.str [76]),(.str [82]),(.str [65,76]),(.str [69,78]),(.str [69,83]),(.str [69,84]),(.str [65,78]),(.str [67,83]),(.str [78,83,77]),(.str [66,78]),(.str [66]),(.str [83]),(.str [87,83]),(.str [79,78]),(.str [76,82,69]),(.str [76,82,79]),(.str [82,76,69]),(.str [82,76,79]),(.str [80,68,70]),(.str [76,82,73]),(.str [82,76,73]),(.str [70,83,73]),(.str [80,68,73])]),(.bR [(.str [102,111,110,116]),(.str [110,111,66,114,101,97,107]),(.str [105,110,105,116,105,97,108]),(.str [109,101,100,105,97,108]),(.str [102,105,110,97,108]),(.str [105,115,111,108,97,116,101,100]),(.str [99,105,114,99,108,101]),(.str [115,117,112,101,114]),(.str [115,117,98]),(.str [118,101,114,116,105,99,97,108]),(.str [119,105,100,101]),(.str [110,97,114,114,111,119]),(.str [115,109,97,108,108]),(.str [115,113,117,97,114,101]),(.str [102,114,97,99,116,105,111,110]),(.str [99,111,109,112,97,116])]),(.bR [(.str [103,99]),(.str [98,99]),(.str [99,99,99]),(.str [110,97,109,101]),(.str [100,109]),(.str [110,116]),(.str [110,118]),(.str [117,99]),(.str [108,99]),(.str [116,99])])]
def d6(i:Nat):PV:=(aa0[i]?).getD .none
abbrev cb:=Fn->List PV->M (Bool×PV)
theorem Eo{i:Int}{r:List PV}:jW (.int i::r)=if 0<=i/\i<256 then(jW r).map (i.toNat::·)else none:=rfl
noncomputable def collect{a:Type}(f:a->M (Option PV)):List a->M (List PV)|[]=>M.pure []|x::r=>M.bind (f x) λv=>M.bind (collect f r) λvs=>M.pure (match v with|some v=>v::vs|none=>vs)
theorem Km{a:Type}{f:a->M (Option PV)}{x:a}{r:List a}:collect f (x::r)=M.bind (f x) λv=>M.bind (collect f r) λvs=>M.pure (match v with|some v=>v::vs|none=>vs):=rfl
noncomputable def gr:M aH:=λs=>.ok s s
def xu(vs items:List PV):M Unit:=λs=>if(vs.all λp=>(u9 p).isNone||(dictAt s p).any λa=>pC (a.map (·.1)) items)then .ok () s else .aS
noncomputable def iM{b:Type}(m:M b):M b:=λs=>match m s with|.ok a s'=>.ok a s'|.kc _ _=>.aS|.aS=>.aS
noncomputable def uj:List (PV×PV)->List (PV×PV)->Option (List (PV×PV))|acc,[]=>some acc|acc,(k,v)::r=>if iU k acc then uj (q7 k v acc) r else none
def xw(e:Env)(i:Nat):M PV:=match e i with|.val v=>M.pure v|_=>aS
def items?(e:Env)(i:Nat):M (List PV):=match e i with|.val (.list xs)=>M.pure xs|.cj xs=>M.pure xs|_=>aS
def jn(v:Bool×PV):M Bool:=mw (nq v.2)
def wL{a:Type}(c fb d:M (Bool×PV))(k:Bool->M a):M a:=M.bind c λe=>M.bind fb λf=>M.bind (mw (br e.2)) λi=>M.bind (mw (br f.2)) λj=>if i<=j then M.bind d λb=>M.bind (mw (br b.2)) λn=>k (decide (j<=n))else k false
mutual noncomputable def ev(call:cb):Nat->X->Env->M (Bool×PV)
|0,_,_=>aS
|n+1,x,e=>match x with
 |.aF v=>M.pure (false,v)
 |.d6 g=>M.pure (false,d6 g)
 |.aq i=>M.bind (xw e i) λv=>M.pure (false,v)
 |.dC o a b=>M.bind (ev call n a e) λva=>M.bind (ev call n b e) λvb=>mw (kz o va.2 vb.2)
 |.neg a=>M.bind (ev call n a e) λva=>M.bind (mw (br va.2)) λi=>M.pure (false,.int (-i))
 |.cS c a b=>M.bind (ev call n a e) λva=>M.bind (ev call n b e) λvb=>M.bind gr λmS=>M.bind (mw (eD mS c va.2 vb.2)) λr=>M.pure (false,.bool r)
 |.oa a b c=>wL (ev call n a e) (ev call n b e) (ev call n c e) λb=>M.pure (false,.bool b)
 |.and xs=>M.bind (IX call n xs e) λb=>M.pure (false,.bool b)
 |.or xs=>M.bind (RE call n xs e) λb=>M.pure (false,.bool b)
 |.not a=>M.bind (IY call n a e) λb=>M.pure (false,.bool !b)
 |.ite c a b=>M.bind (IY call n c e) λt=>if t then ev call n a e else ev call n b e
 |.jh a i=>M.bind (ev call n a e) λva=>M.bind (ev call n i e) λvi=>M.bind gr λmS=>M.bind (mw (gq mS va.2 vi.2)) λv=>M.pure (false,v)
 |.sl a lo hi=>M.bind (ev call n a e) λva=>M.bind (RF call n lo e) λl=>M.bind (RF call n hi e) λh=>mw (oi va.2 l h)
 |.Ra a=>M.bind (ev call n a e) λva=>mw (yV va.2)
 |.cO a m=>M.bind (ev call n a e) λva=>M.bind (vg va.2 m) λv=>M.pure (false,v)
 |.list xs=>M.bind (CM call n xs e) λvs=>M.pure (true,.list vs)
 |.bR xs=>M.bind (CM call n xs e) λvs=>M.pure (false,.bR vs)
 |.dict kvs=>M.bind (GQ call n kvs e) λps=>M.bind (mw (uj [] ps)) λes=>M.bind (sE (.dict es)) λv=>M.pure (false,v)
 |.comp tg k args cond Rb=>M.bind (CM call n args e) λvs=>M.bind gr λmS=>M.bind (mw (di mS k vs)) λitems=>M.bind (iM (collect (λitem=>M.bind (mw (eV tg item (xZ e))) λe'=>M.bind (YH call n cond e') λt=>M.bind (if t then M.bind (ev call n Rb e') λv=>M.pure (some v.2)else M.pure none) λr=>M.bind (xu vs items) λ_=>M.pure r) items)) λout=>M.pure (true,.list out)
 |.call f args=>M.bind (CM call n args e) λvs=>call f vs
 |.ja m r args=>M.bind (ev call n r e) λvr=>M.bind (qN m vr.2) λk=>M.bind (CM call n args e) λvs=>match k with|some f=>call f (vr.2::vs)|none=>dictGet vr.2 vs
 |.new c args=>M.bind (CM call n args e) λvs=>M.bind (sE (.inst c [])) λo=>M.bind (iM (call (iI c) (o::vs))) λr=>if isNone r.2 then M.pure (false,o)else aS
 |.bi b args=>if dV b then match args with|a::r=>M.bind (ev call n a e) λva=>if Rc b va.2 then M.bind (CM call n r e) λvs=>M.bind gr λmS=>mw (gX mS b (va.2::vs))else aS|[]=>aS else M.bind (CM call n args e) λvs=>M.bind gr λmS=>mw (gX mS b vs)
 |.CJ i=>M.bind (items? e i) λxs=>M.pure (false,.int xs.length)
 |.ku i=>ku i e
 |.qM i=>qM i e
 |.og i=>og i e
 |.ru i j=>ru i j e
 |.tP i=>tP i e
 |.A6 i k=>M.bind (items? e i) λxs=>M.bind (ev call n k e) λvk=>M.bind (mw (gq [] (.list xs) vk.2)) λv=>M.pure (false,v)noncomputable def IY(call:cb):Nat->X->Env->M Bool|0,_,_=>aS|n+1,x,e=>M.bind (ev call n x e) jn noncomputable def YH(call:cb):Nat->Option X->Env->M Bool|0,_,_=>aS|_+1,none,_=>M.pure true|n+1,some x,e=>IY call n x e noncomputable def RF(call:cb):Nat->Option X->Env->M (Option Int)|0,_,_=>aS|_+1,none,_=>M.pure none|n+1,some x,e=>M.bind (ev call n x e) λv=>M.bind (mw (br v.2)) λk=>M.pure (some k)noncomputable def CM(call:cb):Nat->List X->Env->M (List PV)|0,_,_=>aS|_+1,[],_=>M.pure []|n+1,x::r,e=>M.bind (ev call n x e) λv=>M.bind (CM call n r e) λvs=>M.pure (v.2::vs)noncomputable def GQ(call:cb):Nat->List (X×X)->Env->M (List (PV×PV))|0,_,_=>aS|_+1,[],_=>M.pure []|n+1,p::r,e=>M.bind (ev call n p.1 e) λk=>M.bind (ev call n p.2 e) λv=>M.bind (GQ call n r e) λvs=>M.pure ((k.2,v.2)::vs)noncomputable def IX(call:cb):Nat->List X->Env->M Bool|0,_,_=>aS|_+1,[],_=>M.pure true|n+1,x::r,e=>M.bind (IY call n x e) λb=>if b then IX call n r e else M.pure false noncomputable def RE(call:cb):Nat->List X->Env->M Bool|0,_,_=>aS|_+1,[],_=>M.pure false|n+1,x::r,e=>M.bind (IY call n x e) λb=>if b then M.pure true else RE call n r e end
noncomputable def Ep(a:cb):Nat->List X->Env->M (List (Bool×PV))|0,_,_=>aS|_+1,[],_=>M.pure []|n+1,x::r,e=>M.bind (ev a n x e) λv=>M.bind (Ep a n r e) λvs=>M.pure (v::vs)
structure Sx where
 env:Env
 mS:aH
abbrev T(a:Type):=Sx->jb Sx a
noncomputable def T.pure{b}(a:b):T b:=λs=>.ok a s
noncomputable def T.bind{b β}(m:T b)(f:b->T β):T β:=λs=>match m s with|.ok a s'=>f a s'|.kc e s'=>.kc e s'|.aS=>.aS
noncomputable def T.ex{b}(m:Env->M b):T b:=λs=>match m s.env s.mS with|.ok a mS=>.ok a ⟨s.env,mS⟩|.kc e mS=>.kc e mS|.aS=>.aS
noncomputable def T.env(f:Env->Option Env):T Unit:=λs=>match f s.env with|some e=>.ok () ⟨e,s.mS⟩|none=>.aS
noncomputable def A7{a:Type}(f:a->T Fl):List a->T Fl|[]=>T.pure .next|x::r=>T.bind (f x) λb=>match b with|.next=>A7 f r|.ret v=>T.pure (.ret v)
def Na(i:Nat)(e:Env):Option Env:=match e i with|.cj xs=>some (jd e i (.val (.list xs)))|_=>some e
noncomputable def rA(i:Nat)(e:Env):Option Env:=match e i with|.cj _=>some e|_=>none
def Nb(i:Nat)(v:PV)(e:Env):Option Env:=match e i with|.cj xs=>if xs.length<eu then some (jd e i (.cj (xs++[v])))else none|_=>none
def Nc(i:Nat)(v:PV)(e:Env):Option Env:=match e i,v with|.cj xs,.list ys=>if xs.length+ys.length<eu then some (jd e i (.cj (xs++ys)))else none|_,_=>none
def Kn(i:Nat)(k v:PV)(e:Env):Option Env:=match e i,k with|.cj xs,.int k=>(ju k xs.length).map λj=>jd e i (.cj (xs.set j v))|_,_=>none
def nz(a:cb)(n:Nat)(t:Tg)(v:Bool×PV):T Unit:=match t with|.v i=>T.env λe=>some (jd e i (iW v))|.cO o m=>T.ex λe=>M.bind (ev a n o e) λb=>xt b.2 m v.2|.sub o k=>T.ex λe=>M.bind (ev a n o e) λb=>M.bind (ev a n k e) λc=>setItem b.2 c.2 v.2|.GK i k=>T.bind (T.env (rA i)) λ_=>T.bind (T.ex λe=>ev a n k e) λc=>T.env (Kn i c.2 v.2)|.pB i=>T.ex λe=>pB i v.2 e
noncomputable def l9(a:cb)(n:Nat):List Tg->List (Bool×PV)->T Unit|[],[]=>T.pure ()|t::ts,v::vs=>T.bind (nz a n t v) λ_=>l9 a n ts vs|_,_=>λ_=>.aS
noncomputable def oo:PV->Option (List PV)|.bR vs=>some vs|.list vs=>some vs|_=>none
def Ko(k:Nat)(a:List (Bool×PV)->T Unit)(v:PV):T Fl:=match oo v with|some vs=>if vs.length=k then T.bind (a (vs.map λv=>(false,v))) λ_=>T.pure .next elseλ_=>.aS|none=>λ_=>.aS
mutual noncomputable def ex(call:cb):Nat->S->T Fl
|0,_=>λ_=>.aS
|n+1,st=>match st with
 |.iP i=>T.bind (T.env (Na i)) λ_=>T.pure .next
 |.de t x=>T.bind (T.ex (ev call n x)) λv=>T.bind (nz call n t v) λ_=>T.pure .next
 |.ug ts x=>T.bind (T.ex (ev call n x)) λv=>Ko ts.length (l9 call n ts) v.2
 |.eg ts xs=>T.bind (T.ex (Ep call n xs)) λvs=>T.bind (l9 call n ts vs) λ_=>T.pure .next
 |.qn i x=>T.bind (T.env (rA i)) λ_=>T.bind (T.ex (ev call n x)) λv=>T.bind (T.env (Nb i v.2)) λ_=>T.pure .next
 |.ext i x=>T.bind (T.env (rA i)) λ_=>T.bind (T.ex (ev call n x)) λv=>T.bind (T.env (Nc i v.2)) λ_=>T.pure .next
 |.expr x=>T.bind (T.ex (ev call n x)) λ_=>T.pure .next
 |.gp c a b=>T.bind (T.ex (IY call n c)) λt=>if t then yX call n a else yX call n b
 |.for tg k args body=>T.bind (T.ex (CM call n args)) λvs=>λs=>match di [] k vs with|some items=>A7 (λitem=>T.bind (T.env (eV tg item)) λ_=>yX call n body) items s|none=>.aS
 |.while c body=>T.bind (T.ex (IY call n c)) λt=>if t then T.bind (yX call n body) λfl=>match fl with|.next=>ex call n (.while c body)|.ret v=>T.pure (.ret v)else T.pure .next
 |.ret x=>T.bind (T.ex (ev call n x)) λv=>T.pure (.ret v)
 |.tj i=>λs=>match s.env i with|.cj xs=>.ok (.ret (true,.list xs)) s|.val v=>.ok (.ret (false,v)) s|.bB=>.aS
 |.fQ x=>T.bind (T.ex (ev call n x)) λv=>λs=>.kc v.2 s.mS
 |.no=>λ_=>.aS
 |.Ek c x1 x2 y=>T.bind (T.ex λe=>iM (IY call n c e)) λt=>λs=>match ev call n (if t then x1 else x2) s.env s.mS with|.ok _ mS=>.ok .next ⟨s.env,mS⟩|.kc told mS=>.ok .next ⟨jd s.env y (.val told),mS⟩|.aS=>.aS
 |.GL x=>λs=>match ev call n x s.env s.mS with|.ok v mS=>.ok (.ret v) ⟨s.env,mS⟩|.kc _ _=>.aS|.aS=>.aS noncomputable def yX(call:cb):Nat->List S->T Fl|0,_=>λ_=>.aS|_+1,[]=>T.pure .next|n+1,st::r=>T.bind (ex call n st) λfl=>match fl with|.next=>yX call n r|.ret v=>T.pure (.ret v)end
noncomputable def mx(vs:List PV):Env:=λi=>(vs[i]?).elim .bB .val
noncomputable def gu(np:Nat)(vs:List PV):List PV:=vs++bL (np-vs.length) .none
noncomputable def bx:Nat:=400
def yY(a:cb)(c:FC)(args:List PV):M (Bool×PV):=λb=>if c.lo<=args.length/\args.length<=c.np then match yX a bx c.body ⟨mx (gu c.np args),b⟩with|.ok fl s=>.ok (match fl with|.ret v=>v|.next=>(false,.none)) s.mS|.kc e s=>.kc e s|.aS=>.aS else .aS
end R
namespace R
noncomputable def yZ:FC:={lo:=1,np:=1,nf:=1,cP:=["code"],body:=[.ret (.oa (.d6 1) (.aq 0) (.d6 2))]}
noncomputable def GR:FC:={lo:=1,np:=1,nf:=1,cP:=["signs","sign"],body:=[.ret (.comp [1] .val [(.aq 0)] none (.bi .RA [(.aq 1)]))]}
def vj:FC:={lo:=1,np:=1,nf:=3,cP:=["signs","numbers","number"],body:=[.de (.v 1) (.call .Eh [(.aq 0)]),.iP 1,.for [2] .val [(.aq 1)] [.gp (.cS .gt (.aq 2) (.aF (.int 127))) [.no] []],.iP 1,.ret (.bi .bytes [(.aq 1)])]}
noncomputable def GS:FC:={lo:=1,np:=1,nf:=2,cP:=["octets","octet","octet"],body:=[.for [1] .val [(.aq 0)] [.gp (.cS .gt (.aq 1) (.aF (.int 127))) [.no] []],.ret (.bi .join [(.aF (.str [])),(.comp [2] .val [(.aq 0)] none (.bi .Yy [(.aq 2)]))])]}
noncomputable def GU:FC:={lo:=1,np:=1,nf:=3,cP:=["code","found","rest"],body:=[.de (.v 1) (.list []),.de (.v 2) (.aq 0),.while (.or [(.cS .gt (.aq 2) (.aF (.int 0))),(.cS .lt (.CJ 1) (.d6 4))]) [.qn 1 (.jh (.d6 3) (.dC .Kj (.aq 2) (.aF (.int 15)))),.de (.v 2) (.dC .wG (.aq 2) (.aF (.int 4)))],.iP 1,.ret (.bi .bytes [(.Ra (.aq 1))])]}
noncomputable def Er:FC:={lo:=1,np:=1,nf:=1,cP:=["octet"],body:=[.gp (.oa (.aF (.int 48)) (.aq 0) (.aF (.int 57))) [.ret (.dC .sub (.aq 0) (.aF (.int 48)))] [],.gp (.oa (.aF (.int 65)) (.aq 0) (.aF (.int 70))) [.ret (.dC .sub (.aq 0) (.aF (.int 55)))] [],.gp (.oa (.aF (.int 97)) (.aq 0) (.aF (.int 102))) [.ret (.dC .sub (.aq 0) (.aF (.int 87)))] [],.ret (.aF .none)]}
def A8:FC:={lo:=1,np:=1,nf:=4,cP:=["octets","number","octet","digit"],body:=[.gp (.not (.oa (.aF (.int 1)) (.bi .iG [(.aq 0)]) (.d6 5))) [.no] [],.de (.v 1) (.aF (.int 0)),.for [2] .val [(.aq 0)] [.de (.v 3) (.call .Bx [(.aq 2)]),.gp (.cS .yA (.aq 3) (.aF .none)) [.no] [],.de (.v 1) (.dC .add (.dC .Ki (.aF (.int 16)) (.aq 1)) (.aq 3))],.gp (.cS .gt (.aq 1) (.d6 0)) [.no] [],.ret (.aq 1)]}
noncomputable def GV:FC:={lo:=1,np:=1,nf:=3,cP:=["octets","number","octet"],body:=[.gp (.cS .eq (.bi .iG [(.aq 0)]) (.aF (.int 0))) [.ret (.aF .none)] [],.de (.v 1) (.aF (.int 0)),.for [2] .val [(.aq 0)] [.gp (.not (.oa (.aF (.int 48)) (.aq 2) (.aF (.int 57)))) [.ret (.aF .none)] [],.de (.v 1) (.dC .sub (.dC .add (.dC .Ki (.aF (.int 10)) (.aq 1)) (.aq 2)) (.aF (.int 48)))],.ret (.aq 1)]}
noncomputable def wM:FC:={lo:=1,np:=1,nf:=3,cP:=["number","found","rest"],body:=[.de (.v 1) (.list [(.dC .add (.aF (.int 48)) (.dC .fmod (.aq 0) (.aF (.int 10))))]),.de (.v 2) (.dC .fdiv (.aq 0) (.aF (.int 10))),.while (.cS .gt (.aq 2) (.aF (.int 0))) [.qn 1 (.dC .add (.aF (.int 48)) (.dC .fmod (.aq 2) (.aF (.int 10)))),.de (.v 2) (.dC .fdiv (.aq 2) (.aF (.int 10)))],.iP 1,.ret (.bi .bytes [(.Ra (.aq 1))])]}
noncomputable def mc:FC:={lo:=2,np:=2,nf:=5,cP:=["firsts","number","low","high","middle"],body:=[.de (.v 2) (.aF (.int 0)),.de (.v 3) (.bi .iG [(.aq 0)]),.while (.cS .lt (.aq 2) (.aq 3)) [.de (.v 4) (.dC .fdiv (.dC .add (.aq 2) (.aq 3)) (.aF (.int 2))),.gp (.cS .le (.jh (.aq 0) (.aq 4)) (.aq 1)) [.de (.v 2) (.dC .add (.aq 4) (.aF (.int 1)))] [.de (.v 3) (.aq 4)]],.ret (.dC .sub (.aq 2) (.aF (.int 1)))]}
noncomputable def rB:FC:={lo:=1,np:=1,nf:=2,cP:=["octets","bare"],body:=[.de (.v 1) (.ite (.bi .startswith [(.aq 0),(.d6 7)]) (.sl (.aq 0) (some (.bi .iG [(.d6 7)])) none) (.aq 0)),.ret (.bi .split [(.aq 1),(.aF (.bytes [10]))])]}
def pE:FC:={lo:=1,np:=1,nf:=8,cP:=["octets","found","at","line","cut","body","remark","fields","field"],body:=[.de (.v 1) (.list []),.for [2,3] .A5 [(.call .sy [(.aq 0)])] [.de (.v 4) (.bi .find [(.aq 3),(.aF (.bytes [35]))]),.de (.v 5) (.ite (.cS .lt (.aq 4) (.aF (.int 0))) (.aq 3) (.sl (.aq 3) none (some (.aq 4)))),.de (.v 6) (.ite (.cS .lt (.aq 4) (.aF (.int 0))) (.aF (.bytes [])) (.sl (.aq 3) (some (.dC .add (.aq 4) (.aF (.int 1)))) none)),.gp (.cS .ne (.bi .strip [(.aq 5),(.d6 6)]) (.aF (.bytes []))) [.de (.v 7) (.comp [8] .val [(.bi .split [(.aq 5),(.aF (.bytes [59]))])] none (.bi .strip [(.aq 8),(.d6 6)])),.iP 7,.qn 1 (.bR [(.dC .add (.aq 2) (.aF (.int 1))),(.aq 7),(.bi .strip [(.aq 6),(.d6 6)])])] []],.tj 1]}
def iX:FC:={lo:=1,np:=1,nf:=8,cP:=["octets","found","at","line","cut","rest","told","further","field"],body:=[.de (.v 1) (.list []),.for [2,3] .A5 [(.call .sy [(.aq 0)])] [.de (.v 4) (.bi .find [(.aq 3),(.aF (.bytes [35]))]),.de (.v 5) (.ite (.cS .lt (.aq 4) (.aF (.int 0))) (.aF (.bytes [])) (.bi .strip [(.sl (.aq 3) (some (.dC .add (.aq 4) (.aF (.int 1)))) none),(.d6 6)])),.gp (.and [(.cS .ge (.aq 4) (.aF (.int 0))),(.cS .eq (.bi .strip [(.sl (.aq 3) none (some (.aq 4))),(.d6 6)]) (.aF (.bytes []))),(.bi .startswith [(.aq 5),(.d6 8)])]) [.de (.v 6) (.sl (.aq 5) (some (.bi .iG [(.d6 8)])) none),.de (.v 7) (.bi .find [(.aq 6),(.aF (.bytes [35]))]),.de (.v 6) (.ite (.cS .lt (.aq 7) (.aF (.int 0))) (.aq 6) (.sl (.aq 6) none (some (.aq 7)))),.qn 1 (.bR [(.dC .add (.aq 2) (.aF (.int 1))),(.comp [8] .val [(.bi .split [(.aq 6),(.aF (.bytes [59]))])] none (.bi .strip [(.aq 8),(.d6 6)]))])] []],.tj 1]}
def x8:FC:={lo:=2,np:=2,nf:=2,cP:=["field","number"],body:=[.gp (.cS .lt (.bi .iG [(.aq 0)]) (.aF (.int 4))) [.fQ (.aq 1)] [],.GL (.call .xq [(.aq 0)])]}
def uk:FC:={lo:=2,np:=2,nf:=5,cP:=["field","number","parts","first","last"],body:=[.de (.v 2) (.bi .split [(.aq 0),(.aF (.bytes [46,46]))]),.iP 2,.gp (.cS .gt (.bi .iG [(.aq 2)]) (.aF (.int 2))) [.fQ (.aq 1)] [],.iP 2,.eg [(.v 3),(.v 4)] [(.call .ek [(.jh (.aq 2) (.aF (.int 0))),(.aq 1)]),(.call .ek [(.jh (.aq 2) (.neg (.aF (.int 1)))),(.aq 1)])],.gp (.cS .gt (.aq 3) (.aq 4)) [.fQ (.aq 1)] [],.ret (.bR [(.aq 3),(.aq 4)])]}
def wN:FC:={lo:=2,np:=2,nf:=4,cP:=["field","number","found","part"],body:=[.de (.v 2) (.list []),.for [3] .val [(.bi .split [(.aq 0),(.aF (.bytes [32]))])] [.gp (.cS .ne (.aq 3) (.aF (.bytes []))) [.qn 2 (.call .ek [(.aq 3),(.aq 1)])] []],.iP 2,.ret (.bi .tuple [(.aq 2)])]}
def x9:FC:={lo:=2,np:=2,nf:=2,cP:=["field","number"],body:=[.GL (.call .Ei [(.aq 0)])]}
def A9:FC:={lo:=2,np:=2,nf:=8,cP:=["field","number","is_less","parts","above","below","one","other"],body:=[.de (.v 2) (.bi .startswith [(.aq 0),(.aF (.bytes [45]))]),.de (.v 3) (.bi .split [(.ite (.aq 2) (.sl (.aq 0) (some (.aF (.int 1))) none) (.aq 0)),(.aF (.bytes [47]))]),.iP 3,.eg [(.v 4),(.v 5)] [(.call .pj [(.jh (.aq 3) (.aF (.int 0)))]),(.ite (.cS .eq (.bi .iG [(.aq 3)]) (.aF (.int 1))) (.aF (.int 1)) (.call .pj [(.jh (.aq 3) (.neg (.aF (.int 1))))]))],.iP 3,.gp (.or [(.cS .gt (.bi .iG [(.aq 3)]) (.aF (.int 2))),(.cS .yA (.aq 4) (.aF .none)),(.cS .yA (.aq 5) (.aF .none)),(.cS .eq (.aq 5) (.aF (.int 0)))]) [.fQ (.aq 1)] [],.eg [(.v 6),(.v 7)] [(.aq 4),(.aq 5)],.while (.cS .gt (.aq 7) (.aF (.int 0))) [.eg [(.v 6),(.v 7)] [(.aq 7),(.dC .fmod (.aq 6) (.aq 7))]],.ret (.bR [(.ite (.aq 2) (.dC .fdiv (.neg (.aq 4)) (.aq 6)) (.dC .fdiv (.aq 4) (.aq 6))),(.dC .fdiv (.aq 5) (.aq 6))])]}
noncomputable def um:FC:={lo:=5,np:=5,nf:=5,cP:=["self","first","last","fields","number"],body:=[.de (.cO (.aq 0) .uX) (.aq 1),.de (.cO (.aq 0) .ti) (.aq 2),.de (.cO (.aq 0) .fields) (.aq 3),.de (.cO (.aq 0) .fW) (.aq 4)]}
def uo:FC:={lo:=2,np:=2,nf:=2,cP:=["self","at"],body:=[.ret (.call .gn [(.jh (.cO (.aq 0) .fields) (.aq 1)),(.cO (.aq 0) .fW)])]}
noncomputable def kA:FC:={lo:=3,np:=3,nf:=4,cP:=["self","at","words","word"],body:=[.de (.v 3) (.ja .M6 (.aq 0) [(.aq 1)]),.gp (.cS .n8 (.aq 3) (.aq 2)) [.fQ (.cO (.aq 0) .fW)] [],.ret (.aq 3)]}
def jN:FC:={lo:=2,np:=2,nf:=2,cP:=["self","at"],body:=[.ret (.ite (.cS .eq (.jh (.cO (.aq 0) .fields) (.aq 1)) (.aF (.bytes []))) (.aF .none) (.call .ek [(.jh (.cO (.aq 0) .fields) (.aq 1)),(.cO (.aq 0) .fW)]))]}
noncomputable def nB:FC:={lo:=1,np:=1,nf:=1,cP:=["self"],body:=[.ret (.bi .endswith [(.jh (.cO (.aq 0) .fields) (.aF (.int 1))),(.d6 11)])]}
def bH:FC:={lo:=1,np:=1,nf:=9,cP:=["octets","found","begun","last","number","fields","remark","code","name"],body:=[.eg [(.v 1),(.v 2),(.v 3)] [(.list []),(.aF .none),(.neg (.aF (.int 1)))],.for [4,5,6] .val [(.call .dR [(.aq 0)])] [.gp (.cS .ne (.bi .iG [(.aq 5)]) (.d6 9)) [.fQ (.aq 4)] [],.eg [(.v 7),(.v 8)] [(.call .ek [(.jh (.aq 5) (.aF (.int 0))),(.aq 4)]),(.jh (.aq 5) (.aF (.int 1)))],.gp (.cS .le (.aq 7) (.aq 3)) [.fQ (.aq 4)] [],.de (.v 3) (.aq 7),.gp (.cS .kV (.aq 2) (.aF .none)) [.gp (.not (.bi .endswith [(.aq 8),(.d6 11)])) [.fQ (.cO (.aq 2) .fW)] [],.gp (.cS .ne (.sl (.aq 5) (some (.aF (.int 2))) none) (.sl (.cO (.aq 2) .fields) (some (.aF (.int 2))) none)) [.fQ (.aq 4)] [],.gp (.cS .ne (.sl (.aq 8) none (some (.neg (.bi .iG [(.d6 11)])))) (.sl (.jh (.cO (.aq 2) .fields) (.aF (.int 1))) none (some (.neg (.bi .iG [(.d6 10)]))))) [.fQ (.aq 4)] [],.qn 1 (.new .ph [(.cO (.aq 2) .uX),(.aq 7),(.aq 5),(.aq 4)]),.de (.v 2) (.aF .none)] [.gp (.and [(.bi .startswith [(.aq 8),(.aF (.bytes [60]))]),(.bi .endswith [(.aq 8),(.d6 10)])]) [.de (.v 2) (.new .ph [(.aq 7),(.aq 7),(.aq 5),(.aq 4)])] [.gp (.bi .endswith [(.aq 8),(.d6 11)]) [.fQ (.aq 4)] [.qn 1 (.new .ph [(.aq 7),(.aq 7),(.aq 5),(.aq 4)])]]]],.gp (.cS .kV (.aq 2) (.aF .none)) [.fQ (.cO (.aq 2) .fW)] [],.tj 1]}
def dn:FC:={lo:=1,np:=1,nf:=3,cP:=["row","above","found"],body:=[.de (.v 1) (.call .pj [(.jh (.cO (.aq 0) .fields) (.aF (.int 3)))]),.gp (.or [(.cS .yA (.aq 1) (.aF .none)),(.cS .gt (.aq 1) (.d6 12)),(.cS .n8 (.jh (.cO (.aq 0) .fields) (.aF (.int 9))) (.bR [(.aF (.bytes [89])),(.aF (.bytes [78]))]))]) [.fQ (.cO (.aq 0) .fW)] [],.de (.v 2) (.list [(.bR [(.aF (.str [103,99])),(.ja .oF (.aq 0) [(.aF (.int 2)),(.d6 13)])]),(.bR [(.aF (.str [98,99])),(.ja .oF (.aq 0) [(.aF (.int 4)),(.d6 14)])])]),.gp (.cS .gt (.aq 1) (.aF (.int 0))) [.qn 2 (.bR [(.aF (.str [99,99,99])),(.aq 1)])] [],.tj 2]}
noncomputable def jI:FC:={lo:=1,np:=1,nf:=3,cP:=["row","name","octet"],body:=[.de (.v 1) (.jh (.cO (.aq 0) .fields) (.aF (.int 1))),.gp (.and [(.bi .startswith [(.aq 1),(.aF (.bytes [60]))]),(.bi .endswith [(.aq 1),(.aF (.bytes [62]))])]) [.ret (.list [])] [],.for [2] .val [(.aq 1)] [.gp (.not (.or [(.oa (.aF (.int 65)) (.aq 2) (.aF (.int 90))),(.oa (.aF (.int 48)) (.aq 2) (.aF (.int 57))),(.cS .xY (.aq 2) (.bR [(.aF (.int 32)),(.aF (.int 45))]))])) [.fQ (.cO (.aq 0) .fW)] []],.gp (.cS .eq (.aq 1) (.aF (.bytes []))) [.fQ (.cO (.aq 0) .fW)] [],.ret (.list [(.bR [(.aF (.str [110,97,109,101])),(.aq 1)])])]}
def dN:FC:={lo:=1,np:=1,nf:=5,cP:=["row","field","tag","end","codes","code"],body:=[.eg [(.v 1),(.v 2)] [(.jh (.cO (.aq 0) .fields) (.aF (.int 5))),(.aF (.str []))],.gp (.cS .eq (.aq 1) (.aF (.bytes []))) [.ret (.list [])] [],.gp (.bi .startswith [(.aq 1),(.aF (.bytes [60]))]) [.de (.v 3) (.bi .find [(.aq 1),(.aF (.bytes [62]))]),.de (.v 2) (.call .gn [(.sl (.aq 1) (some (.aF (.int 1))) (some (.bi .max [(.aq 3),(.aF (.int 1))]))),(.cO (.aq 0) .fW)]),.gp (.cS .n8 (.aq 2) (.d6 15)) [.fQ (.cO (.aq 0) .fW)] [],.de (.v 1) (.sl (.aq 1) (some (.dC .add (.aq 3) (.aF (.int 1)))) none)] [],.de (.v 4) (.call .nj [(.aq 1),(.cO (.aq 0) .fW)]),.gp (.or [(.cS .eq (.aq 4) (.bR [])),(.and [(.cS .eq (.aq 2) (.aF (.str []))),(.cS .gt (.bi .iG [(.aq 4)]) (.aF (.int 2)))]),(.cS .xY (.cO (.aq 0) .uX) (.aq 4))]) [.fQ (.cO (.aq 0) .fW)] [],.gp (.cS .ne (.comp [5] .val [(.aq 4)] (some (.call .qk [(.aq 5)])) (.aq 5)) (.list [])) [.fQ (.cO (.aq 0) .fW)] [],.ret (.list [(.bR [(.aF (.str [100,109])),(.bR [(.aq 2),(.aq 4)])])])]}
def iN:FC:={lo:=1,np:=1,nf:=6,cP:=["row","decimal","digit","value","told","kind"],body:=[.eg [(.v 1),(.v 2),(.v 3)] [(.jh (.cO (.aq 0) .fields) (.aF (.int 6))),(.jh (.cO (.aq 0) .fields) (.aF (.int 7))),(.jh (.cO (.aq 0) .fields) (.aF (.int 8)))],.gp (.cS .eq (.aq 3) (.aF (.bytes []))) [.gp (.or [(.cS .ne (.aq 1) (.aF (.bytes []))),(.cS .ne (.aq 2) (.aF (.bytes [])))]) [.fQ (.cO (.aq 0) .fW)] [],.ret (.list [])] [],.de (.v 4) (.call .rr [(.aq 3),(.cO (.aq 0) .fW)]),.gp (.or [(.and [(.cS .ne (.aq 1) (.aF (.bytes []))),(.cS .ne (.aq 2) (.aq 1))]),(.and [(.cS .ne (.aq 2) (.aF (.bytes []))),(.or [(.cS .ne (.aq 2) (.aq 3)),(.cS .ne (.bi .iG [(.aq 2)]) (.aF (.int 1)))])])]) [.fQ (.cO (.aq 0) .fW)] [],.de (.v 5) (.ite (.cS .ne (.aq 1) (.aF (.bytes []))) (.aF (.str [100,101])) (.ite (.cS .ne (.aq 2) (.aF (.bytes []))) (.aF (.str [100,105])) (.aF (.str [110,117])))),.ret (.list [(.bR [(.aF (.str [110,116])),(.aq 5)]),(.bR [(.aF (.str [110,118])),(.aq 4)])])]}
noncomputable def d5:FC:={lo:=1,np:=1,nf:=7,cP:=["row","upper","lower","title","found","name","code"],body:=[.eg [(.v 1),(.v 2),(.v 3)] [(.ja .hY (.aq 0) [(.aF (.int 12))]),(.ja .hY (.aq 0) [(.aF (.int 13))]),(.ja .hY (.aq 0) [(.aF (.int 14))])],.de (.v 3) (.ite (.cS .yA (.aq 3) (.aF .none)) (.aq 1) (.aq 3)),.de (.v 4) (.list []),.for [5,6] .val [(.bR [(.bR [(.aF (.str [117,99])),(.aq 1)]),(.bR [(.aF (.str [108,99])),(.aq 2)]),(.bR [(.aF (.str [116,99])),(.aq 3)])])] [.gp (.cS .kV (.aq 6) (.aF .none)) [.qn 4 (.bR [(.aq 5),(.aq 6)])] []],.tj 4]}
def gx:FC:={lo:=1,np:=1,nf:=3,cP:=["row","found","more"],body:=[.de (.v 1) (.call .fE [(.aq 0)]),.de (.v 2) (.dC .add (.dC .add (.dC .add (.call .lh [(.aq 0)]) (.call .i8 [(.aq 0)])) (.call .l0 [(.aq 0)])) (.call .oH [(.aq 0)])),.iP 2,.gp (.and [(.ja .ni (.aq 0) []),(.cS .ne (.aq 2) (.list []))]) [.fQ (.cO (.aq 0) .fW)] [],.iP 1,.iP 2,.ret (.dC .add (.aq 1) (.aq 2))]}
def bZ:FC:={lo:=2,np:=2,nf:=8,cP:=["octets","data","puts","row","name","value","first","last"],body:=[.de (.v 2) (.list []),.for [3] .val [(.call .fq [(.aq 0)])] [.for [4,5] .val [(.call .n9 [(.aq 3)])] [.qn 2 (.bR [(.aq 4),(.cO (.aq 3) .uX),(.cO (.aq 3) .ti),(.aq 5)])]],.iP 2,.for [4,6,7,5] .val [(.aq 2)] [.expr (.ja .xX (.aq 1) [(.aq 4),(.aq 6),(.aq 7),(.aq 5)])]]}
def lG:FC:={lo:=3,np:=3,nf:=4,cP:=["field","values","number","word"],body:=[.de (.v 3) (.call .gn [(.aq 0),(.aq 2)]),.gp (.cS .yA (.aq 1) (.aF .none)) [.ret (.aq 3)] [],.gp (.cS .n8 (.aq 3) (.aq 1)) [.fQ (.aq 2)] [],.ret (.jh (.aq 1) (.aq 3))]}
noncomputable def eR:FC:={lo:=1,np:=1,nf:=5,cP:=["lots","ahead","first","last","number"],body:=[.de (.v 1) (.aF .none),.for [2,3,4] .val [(.bi .sorted [(.aq 0)])] [.gp (.and [(.cS .kV (.aq 1) (.aF .none)),(.cS .le (.aq 2) (.jh (.aq 1) (.aF (.int 1))))]) [.fQ (.bi .max [(.aq 4),(.jh (.aq 1) (.aF (.int 2)))])] [],.gp (.or [(.cS .yA (.aq 1) (.aF .none)),(.cS .gt (.aq 3) (.jh (.aq 1) (.aF (.int 1))))]) [.de (.v 1) (.bR [(.aq 2),(.aq 3),(.aq 4)])] []]]}
def f9:FC:={lo:=2,np:=2,nf:=8,cP:=["octets","many","found","number","fields","remark","first","last"],body:=[.de (.v 2) (.list []),.for [3,4,5] .val [(.call .dR [(.aq 0)])] [.gp (.cS .ne (.bi .iG [(.aq 4)]) (.aq 1)) [.fQ (.aq 3)] [],.ug [(.v 6),(.v 7)] (.call .gN [(.jh (.aq 4) (.aF (.int 0))),(.aq 3)]),.qn 2 (.bR [(.aq 6),(.aq 7),(.aq 4),(.aq 3)])],.tj 2]}
def fF:FC:={lo:=3,np:=3,nf:=8,cP:=["octets","word","values","found","number","fields","first","last"],body:=[.de (.v 3) (.list []),.for [4,5] .val [(.call .dU [(.aq 0)])] [.gp (.or [(.and [(.cS .eq (.bi .iG [(.aq 5)]) (.aF (.int 2))),(.cS .yA (.aq 1) (.aF .none))]),(.and [(.cS .eq (.bi .iG [(.aq 5)]) (.aF (.int 3))),(.cS .xY (.aq 1) (.bR [(.aF .none),(.jh (.aq 5) (.aF (.int 1)))]))])]) [.ug [(.v 6),(.v 7)] (.call .gN [(.jh (.aq 5) (.aF (.int 0))),(.aq 4)]),.qn 3 (.bR [(.aq 6),(.aq 7),(.call .fY [(.jh (.aq 5) (.neg (.aF (.int 1)))),(.aq 2),(.aq 4)])])] []],.tj 3]}
def cG:FC:={lo:=3,np:=4,nf:=11,cP:=["octets","data","name","values","puts","lots","first","last","fields","number","value","first","last","fields","number"],body:=[.de (.v 4) (.call .dh [(.aq 0),(.aF .none),(.aq 3)]),.de (.v 5) (.call .kW [(.aq 0),(.aF (.int 2))]),.iP 5,.expr (.call .l6 [(.comp [11,12,13,14] .val [(.aq 5)] none (.bR [(.aq 11),(.aq 12),(.aq 14)]))]),.iP 5,.for [6,7,8,9] .val [(.aq 5)] [.qn 4 (.bR [(.aq 6),(.aq 7),(.call .fY [(.jh (.aq 8) (.aF (.int 1))),(.aq 3),(.aq 9)])])],.iP 4,.for [6,7,10] .val [(.aq 4)] [.expr (.ja .xX (.aq 1) [(.aq 2),(.aq 6),(.aq 7),(.aq 10)])]]}
noncomputable def gF:FC:={lo:=0,np:=0,nf:=0,cP:=[],body:=[.ret (.dict [((.aF (.str [83,111,102,116,95,68,111,116,116,101,100])),(.aF (.str [115,100]))),((.aF (.str [67,97,115,101,100])),(.aF (.str [99,97,115,101,100]))),((.aF (.str [67,97,115,101,95,73,103,110,111,114,97,98,108,101])),(.aF (.str [99,105]))),((.aF (.str [68,101,102,97,117,108,116,95,73,103,110,111,114,97,98,108,101,95,67,111,100,101,95,80,111,105,110,116])),(.aF (.str [100,105]))),((.aF (.str [73,68,95,83,116,97,114,116])),(.aF (.str [105,100,115]))),((.aF (.str [73,68,95,67,111,110,116,105,110,117,101])),(.aF (.str [105,100,99]))),((.aF (.str [88,73,68,95,83,116,97,114,116])),(.aF (.str [120,105,100,115]))),((.aF (.str [88,73,68,95,67,111,110,116,105,110,117,101])),(.aF (.str [120,105,100,99]))),((.aF (.str [80,97,116,116,101,114,110,95,83,121,110,116,97,120])),(.aF (.str [112,97,116,95,115,121,110]))),((.aF (.str [80,97,116,116,101,114,110,95,87,104,105,116,101,95,83,112,97,99,101])),(.aF (.str [112,97,116,95,119,115]))),((.aF (.str [69,120,116,101,110,100,101,100,95,80,105,99,116,111,103,114,97,112,104,105,99])),(.aF (.str [101,112])))])]}
def eW:FC:={lo:=2,np:=3,nf:=11,cP:=["octets","data","names","puts","number","fields","remark","first","last","word","name"],body:=[.de (.v 2) (.ite (.cS .yA (.aq 2) (.aF .none)) (.call .km []) (.aq 2)),.de (.v 3) (.list []),.for [4,5,6] .val [(.call .dR [(.aq 0)])] [.gp (.cS .lt (.bi .iG [(.aq 5)]) (.aF (.int 2))) [.fQ (.aq 4)] [],.ug [(.v 7),(.v 8)] (.call .gN [(.jh (.aq 5) (.aF (.int 0))),(.aq 4)]),.de (.v 9) (.call .gn [(.jh (.aq 5) (.aF (.int 1))),(.aq 4)]),.gp (.and [(.cS .eq (.bi .iG [(.aq 5)]) (.aF (.int 2))),(.cS .xY (.aq 9) (.aq 2))]) [.qn 3 (.bR [(.jh (.aq 2) (.aq 9)),(.aq 7),(.aq 8)])] []],.iP 3,.for [10,7,8] .val [(.aq 3)] [.expr (.ja .xX (.aq 1) [(.aq 10),(.aq 7),(.aq 8),(.aF (.bool true))])]]}
def nC:FC:={lo:=2,np:=2,nf:=2,cP:=["first","last"],body:=[.ret (.ite (.cS .eq (.aq 0) (.aq 1)) (.call .kj [(.aq 0)]) (.dC .add (.dC .add (.call .kj [(.aq 0)]) (.aF (.bytes [46,46]))) (.call .kj [(.aq 1)])))]}
def eT:FC:={lo:=3,np:=3,nf:=8,cP:=["ranges","missing","words","rows","told","first","last","value"],body:=[.de (.v 3) (.list []),.gp (.cS .kV (.aq 1) (.aF .none)) [.de (.v 4) (.ite (.cS .yA (.aq 2) (.aF .none)) (.aq 1) (.jh (.aq 2) (.aq 1))),.qn 3 (.dC .add (.dC .add (.aF (.bytes [35,32,64,109,105,115,115,105,110,103,58,32,48,48,48,48,46,46,49,48,70,70,70,70,59,32])) (.call .cN [(.aq 4)])) (.aF (.bytes [10])))] [],.for [5,6,7] .val [(.aq 0)] [.gp (.cS .ne (.aq 7) (.aq 1)) [.de (.v 4) (.ite (.cS .yA (.aq 2) (.aF .none)) (.aq 7) (.jh (.aq 2) (.aq 7))),.qn 3 (.dC .add (.dC .add (.dC .add (.call .i9 [(.aq 5),(.aq 6)]) (.aF (.bytes [32,59,32]))) (.call .cN [(.aq 4)])) (.aF (.bytes [10])))] []],.iP 3,.ret (.bi .join [(.aF (.bytes [])),(.aq 3)])]}
def kB:FC:={lo:=1,np:=1,nf:=6,cP:=["sets","rows","word","ranges","first","last"],body:=[.de (.v 1) (.list []),.for [2,3] .val [(.aq 0)] [.for [4,5] .val [(.aq 3)] [.qn 1 (.dC .add (.dC .add (.dC .add (.call .i9 [(.aq 4),(.aq 5)]) (.aF (.bytes [32,59,32]))) (.call .cN [(.aq 2)])) (.aF (.bytes [10])))]],.iP 1,.ret (.bi .join [(.aF (.bytes [])),(.aq 1)])]}
def vn:FC:={lo:=1,np:=1,nf:=2,cP:=["told","above"],body:=[.de (.v 1) (.ite (.cS .lt (.jh (.aq 0) (.aF (.int 0))) (.aF (.int 0))) (.dC .add (.aF (.bytes [45])) (.call .gL [(.neg (.jh (.aq 0) (.aF (.int 0))))])) (.call .gL [(.jh (.aq 0) (.aF (.int 0)))])),.ret (.ite (.cS .eq (.jh (.aq 0) (.aF (.int 1))) (.aF (.int 1))) (.aq 1) (.dC .add (.dC .add (.aq 1) (.aF (.bytes [47]))) (.call .gL [(.jh (.aq 0) (.aF (.int 1)))])))]}
def rC:FC:={lo:=1,np:=1,nf:=2,cP:=["told","codes","code"],body:=[.gp (.cS .yA (.aq 0) (.aF .none)) [.ret (.aF (.bytes []))] [],.de (.v 1) (.bi .join [(.aF (.bytes [32])),(.comp [2] .val [(.jh (.aq 0) (.aF (.int 1)))] none (.call .kj [(.aq 2)]))]),.ret (.ite (.cS .eq (.jh (.aq 0) (.aF (.int 0))) (.aF (.str []))) (.aq 1) (.dC .add (.dC .add (.dC .add (.aF (.bytes [60])) (.call .cN [(.jh (.aq 0) (.aF (.int 0)))])) (.aF (.bytes [62,32]))) (.aq 1)))]}
def gG:FC:={lo:=2,np:=2,nf:=5,cP:=["data","code","kind","value","told"],body:=[.eg [(.v 2),(.v 3)] [(.ja .get (.aq 0) [(.aF (.str [110,116])),(.aq 1)]),(.ja .get (.aq 0) [(.aF (.str [110,118])),(.aq 1)])],.gp (.or [(.cS .yA (.aq 2) (.aF .none)),(.cS .yA (.aq 3) (.aF .none))]) [.ret (.list [(.aF (.bytes [])),(.aF (.bytes [])),(.aF (.bytes []))])] [],.de (.v 4) (.call .qL [(.aq 3)]),.ret (.list [(.ite (.cS .eq (.aq 2) (.aF (.str [100,101]))) (.aq 4) (.aF (.bytes []))),(.ite (.cS .xY (.aq 2) (.bR [(.aF (.str [100,101])),(.aF (.str [100,105]))])) (.aq 4) (.aF (.bytes []))),(.aq 4)])]}
def vq:FC:={lo:=1,np:=1,nf:=1,cP:=["code"],body:=[.ret (.ite (.cS .yA (.aq 0) (.aF .none)) (.aF (.bytes [])) (.call .kj [(.aq 0)]))]}
def eE:FC:={lo:=2,np:=2,nf:=7,cP:=["data","code","name","upper","lower","title","fields","word"],body:=[.de (.v 2) (.ja .get (.aq 0) [(.aF (.str [110,97,109,101])),(.aq 1)]),.ug [(.v 3),(.v 4),(.v 5)] (.comp [7] .val [(.bR [(.aF (.str [117,99])),(.aF (.str [108,99])),(.aF (.str [116,99]))])] none (.ja .get (.aq 0) [(.aq 7),(.aq 1)])),.de (.v 6) (.list [(.call .kj [(.aq 1)]),(.ite (.cS .yA (.aq 2) (.aF .none)) (.aF (.bytes [60,99,111,110,116,114,111,108,62])) (.aq 2)),(.call .cN [(.ja .get (.aq 0) [(.aF (.str [103,99])),(.aq 1)])])]),.iP 6,.de (.v 6) (.dC .add (.aq 6) (.list [(.call .gL [(.ja .get (.aq 0) [(.aF (.str [99,99,99])),(.aq 1)])]),(.call .cN [(.ja .get (.aq 0) [(.aF (.str [98,99])),(.aq 1)])])])),.iP 6,.de (.v 6) (.dC .add (.dC .add (.aq 6) (.list [(.call .jK [(.ja .get (.aq 0) [(.aF (.str [100,109])),(.aq 1)])])])) (.call .ko [(.aq 0),(.aq 1)])),.iP 6,.de (.v 6) (.dC .add (.aq 6) (.list [(.aF (.bytes [78])),(.aF (.bytes [])),(.aF (.bytes [])),(.call .iq [(.aq 3)]),(.call .iq [(.aq 4)]),(.call .iq [(.aq 5)])])),.iP 6,.ret (.dC .add (.bi .join [(.aF (.bytes [59])),(.aq 6)]) (.aF (.bytes [10])))]}
def iJ:FC:={lo:=2,np:=2,nf:=2,cP:=["data","codes","code"],body:=[.ret (.bi .join [(.aF (.bytes [])),(.comp [2] .val [(.aq 1)] none (.call .jL [(.aq 0),(.aq 2)]))])]}
noncomputable def kZ:FC:={lo:=2,np:=2,nf:=2,cP:=["one","other"],body:=[.ret (.and [(.cS .eq (.aq 0) (.aq 1)),(.cS .eq (.bi .oG [(.aq 0)]) (.bi .oG [(.aq 1)]))])]}
noncomputable def rD:FC:={lo:=2,np:=2,nf:=2,cP:=["self","default"],body:=[.de (.cO (.aq 0) .default) (.aq 1),.de (.cO (.aq 0) .nc) (.list [(.aF (.int 0))]),.de (.cO (.aq 0) .ng) (.list [(.aq 1)])]}
def uq:FC:={lo:=2,np:=2,nf:=2,cP:=["self","code"],body:=[.ret (.jh (.cO (.aq 0) .ng) (.call .js [(.cO (.aq 0) .nc),(.aq 1)]))]}
def iY:FC:={lo:=4,np:=4,nf:=9,cP:=["self","first","last","value","low","high","behind","starts","values"],body:=[.gp (.cS .gt (.aq 1) (.aq 2)) [.ret (.aF .none)] [],.de (.v 4) (.dC .add (.call .js [(.cO (.aq 0) .nc),(.dC .sub (.aq 1) (.aF (.int 1)))]) (.aF (.int 1))),.de (.v 5) (.dC .add (.call .js [(.cO (.aq 0) .nc),(.dC .add (.aq 2) (.aF (.int 1)))]) (.aF (.int 1))),.de (.v 6) (.jh (.cO (.aq 0) .ng) (.dC .sub (.aq 5) (.aF (.int 1)))),.eg [(.v 7),(.v 8)] [(.list [(.aq 1)]),(.list [(.aq 3)])],.gp (.and [(.cS .lt (.aq 2) (.d6 0)),(.not (.call .kq [(.aq 6),(.aq 3)]))]) [.qn 7 (.dC .add (.aq 2) (.aF (.int 1))),.qn 8 (.aq 6)] [],.gp (.and [(.cS .gt (.aq 4) (.aF (.int 0))),(.call .kq [(.jh (.cO (.aq 0) .ng) (.dC .sub (.aq 4) (.aF (.int 1)))),(.aq 3)])]) [.iP 7,.iP 8,.eg [(.v 7),(.v 8)] [(.sl (.aq 7) (some (.aF (.int 1))) none),(.sl (.aq 8) (some (.aF (.int 1))) none)]] [],.iP 7,.de (.cO (.aq 0) .nc) (.dC .add (.dC .add (.sl (.cO (.aq 0) .nc) none (some (.aq 4))) (.aq 7)) (.sl (.cO (.aq 0) .nc) (some (.aq 5)) none)),.iP 8,.de (.cO (.aq 0) .ng) (.dC .add (.dC .add (.sl (.cO (.aq 0) .ng) none (some (.aq 4))) (.aq 8)) (.sl (.cO (.aq 0) .ng) (some (.aq 5)) none))]}
noncomputable def ir:FC:={lo:=0,np:=0,nf:=2,cP:=["found","name"],body:=[.de (.v 0) (.dict [((.aF (.str [103,99])),(.aF (.str [67,110]))),((.aF (.str [99,99,99])),(.aF (.int 0))),((.aF (.str [98,99])),(.aF (.str [76]))),((.aF (.str [108,98])),(.aF (.str [88,88]))),((.aF (.str [101,97])),(.aF (.str [78]))),((.aF (.str [115,99])),(.aF (.str [90,122,122,122]))),((.aF (.str [106,116])),(.aF (.str [85]))),((.aF (.str [105,110,99,98])),(.aF (.str [78,111,110,101])))]),.for [1] .val [(.bR [(.aF (.str [103,99,98])),(.aF (.str [119,98])),(.aF (.str [115,98]))])] [.de (.sub (.aq 0) (.aq 1)) (.aF (.str [79,116,104,101,114]))],.for [1] .val [(.bR [(.aF (.str [101,120])),(.aF (.str [115,100])),(.aF (.str [99,97,115,101,100])),(.aF (.str [99,105])),(.aF (.str [101,112])),(.aF (.str [100,105])),(.aF (.str [105,100,115])),(.aF (.str [105,100,99])),(.aF (.str [120,105,100,115])),(.aF (.str [120,105,100,99])),(.aF (.str [112,97,116,95,115,121,110])),(.aF (.str [112,97,116,95,119,115])),(.aF (.str [105,100,115,116]))])] [.de (.sub (.aq 0) (.aq 1)) (.aF (.bool false))],.for [1] .val [(.bR [(.aF (.str [100,109])),(.aF (.str [117,99])),(.aF (.str [108,99])),(.aF (.str [116,99])),(.aF (.str [99,102])),(.aF (.str [98,109])),(.aF (.str [98,112,98])),(.aF (.str [115,99,120])),(.aF (.str [110,116])),(.aF (.str [110,118])),(.aF (.str [110,97,109,101])),(.aF (.str [99,111,110,102])),(.aF (.str [110,102,107,99,95,99,102]))])] [.de (.sub (.aq 0) (.aq 1)) (.aF .none)],.for [1] .val [(.bR [(.aF (.str [115,117,99])),(.aF (.str [115,108,99])),(.aF (.str [115,116,99])),(.aF (.str [97,108,105,97,115]))])] [.de (.sub (.aq 0) (.aq 1)) (.bR [])],.de (.sub (.aq 0) (.aF (.str [105,100,110,97]))) (.bR [(.aF (.str [100,105,115,97,108,108,111,119,101,100])),(.bR [])]),.ret (.aq 0)]}
def rE:FC:={lo:=1,np:=1,nf:=1,cP:=["self"],body:=[.de (.cO (.aq 0) .ki) (.call .oI []),.de (.cO (.aq 0) .A4) (.dict []),.de (.cO (.aq 0) .nh) (.dict []),.de (.cO (.aq 0) .Ef) (.dict [])]}
noncomputable def ur:FC:={lo:=5,np:=5,nf:=5,cP:=["self","name","first","last","value"],body:=[.expr (.ja .xX (.ja .yP (.aq 0) [(.aq 1)]) [(.aq 2),(.aq 3),(.aq 4)])]}
noncomputable def uu:FC:={lo:=3,np:=3,nf:=3,cP:=["self","name","code"],body:=[.gp (.cS .xY (.aq 1) (.cO (.aq 0) .A4)) [.ret (.ja .get (.jh (.cO (.aq 0) .A4) (.aq 1)) [(.aq 2)])] [],.ret (.ja .get (.cO (.aq 0) .ki) [(.aq 1)])]}
noncomputable def jv:FC:={lo:=2,np:=2,nf:=2,cP:=["self","name"],body:=[.gp (.cS .n8 (.aq 1) (.cO (.aq 0) .A4)) [.de (.sub (.cO (.aq 0) .A4) (.aq 1)) (.new .xW [(.ja .get (.cO (.aq 0) .ki) [(.aq 1)])])] [],.ret (.jh (.cO (.aq 0) .A4) (.aq 1))]}
noncomputable def nD:FC:={lo:=1,np:=1,nf:=4,cP:=["script","cells","mixed","cell","cell"],body:=[.eg [(.v 1),(.v 2)] [(.comp [4] .val [(.tP 0)] none (.bi .int [(.aq 4)])),(.aF (.int 11))],.iP 1,.for [3] .val [(.aq 1)] [.de (.v 2) (.dC .fmod (.dC .add (.dC .Ki (.aq 2) (.aF (.int 31))) (.aq 3)) (.aF (.int 1000003)))],.iP 1,.ret (.ru 1 2)]}
noncomputable def uv:FC:={lo:=2,np:=2,nf:=2,cP:=["deck","many"],body:=[.gp (.ku 0) [.ret (.dC .fmod (.qM 0) (.aq 1))] [],.de (.pB 0) (.dC .fmod (.dC .add (.dC .Ki (.og 0) (.aF (.int 16807))) (.aF (.int 29))) (.aF (.int 2147483647))),.ret (.dC .fmod (.dC .fdiv (.og 0) (.aF (.int 64))) (.aq 1))]}
def uw:FC:={lo:=2,np:=2,nf:=2,cP:=["deck","some"],body:=[.ret (.jh (.aq 1) (.call .d8 [(.aq 0),(.bi .iG [(.aq 1)])]))]}
noncomputable def Kq:FC:={lo:=1,np:=1,nf:=2,cP:=["code","found"],body:=[.de (.v 1) (.aF (.bytes [])),.while (.or [(.cS .gt (.aq 0) (.aF (.int 0))),(.cS .lt (.bi .iG [(.aq 1)]) (.aF (.int 4)))]) [.de (.v 1) (.dC .add (.sl (.aF (.bytes [48,49,50,51,52,53,54,55,56,57,65,66,67,68,69,70])) (some (.dC .fmod (.aq 0) (.aF (.int 16)))) (some (.dC .add (.dC .fmod (.aq 0) (.aF (.int 16))) (.aF (.int 1))))) (.aq 1)),.de (.v 0) (.dC .fdiv (.aq 0) (.aF (.int 16)))],.ret (.aq 1)]}
def rF:FC:={lo:=2,np:=2,nf:=2,cP:=["first","last"],body:=[.ret (.ite (.cS .eq (.aq 0) (.aq 1)) (.call .kr [(.aq 0)]) (.dC .add (.dC .add (.call .kr [(.aq 0)]) (.aF (.bytes [46,46]))) (.call .kr [(.aq 1)])))]}
def kC:FC:={lo:=2,np:=2,nf:=7,cP:=["deck","values","found","low","turn","first","last"],body:=[.eg [(.v 2),(.v 3)] [(.list []),(.jh (.list [(.aF (.int 64)),(.aF (.int 65534)),(.aF (.int 128512)),(.aF (.int 1114080))]) (.call .d8 [(.aq 0),(.aF (.int 4))]))],.for [4] .range [(.dC .add (.aF (.int 1)) (.call .d8 [(.aq 0),(.aF (.int 4))]))] [.de (.v 5) (.dC .add (.aq 3) (.call .d8 [(.aq 0),(.aF (.int 3))])),.de (.v 6) (.dC .add (.aq 5) (.call .d8 [(.aq 0),(.aF (.int 4))])),.qn 2 (.bR [(.aq 5),(.aq 6),(.call .iT [(.aq 0),(.aq 1)])]),.de (.v 3) (.dC .add (.aq 6) (.aF (.int 1)))],.tj 2]}
noncomputable def rG:FC:={lo:=3,np:=3,nf:=4,cP:=["ranges","code","default","some","first","last","value"],body:=[.de (.v 3) (.comp [4,5,6] .val [(.aq 0)] (some (.oa (.aq 4) (.aq 1) (.aq 5))) (.aq 6)),.iP 3,.ret (.ite (.cS .ne (.aq 3) (.list [])) (.jh (.aq 3) (.aF (.int 0))) (.aq 2))]}
noncomputable def kD:FC:={lo:=1,np:=1,nf:=5,cP:=["ranges","found","first","last","value"],body:=[.de (.v 1) (.list [(.aF (.int 0)),(.aF (.int 1114111))]),.for [2,3,4] .val [(.aq 0)] [.ext 1 (.list [(.dC .sub (.aq 2) (.aF (.int 1))),(.aq 2),(.aq 3),(.dC .add (.aq 3) (.aF (.int 1)))])],.tj 1]}
def oJ:FC:={lo:=4,np:=4,nf:=4,cP:=["data","name","ranges","default","code"],body:=[.ret (.cS .eq (.comp [4] .val [(.call .ql [(.aq 2)])] (some (.cS .ne (.bi .Eg [(.ja .get (.aq 0) [(.aq 1),(.aq 4)])]) (.bi .Eg [(.call .wI [(.aq 2),(.aq 4),(.aq 3)])]))) (.aq 4)) (.list []))]}
def jw:FC:={lo:=3,np:=3,nf:=4,cP:=["way","octets","data","found"],body:=[.de (.v 3) (.aF .none),.Ek (.cS .eq (.aq 0) (.aF (.int 0))) (.call .dg [(.aq 1),(.aq 2),(.aF (.str [115,99]))]) (.call .cA [(.aq 1),(.aq 2)]) 3,.ret (.aq 3)]}
def aP:FC:={lo:=1,np:=1,nf:=18,cP:=["deck","ranges","data","again","is_missing","turned","lines","first","last","value","broken","low","at","odd","octets","default","spelt","values","sign","code"],body:=[.eg [(.v 1),(.v 2),(.v 3)] [(.call .nk [(.aq 0),(.list [(.aF (.str [76,97,116,110])),(.aF (.str [71,114,101,107])),(.aF (.str [67,121,114,108]))])]),(.new .data []),(.new .data [])],.iP 1,.eg [(.v 4),(.v 5)] [(.cS .eq (.call .d8 [(.aq 0),(.aF (.int 3))]) (.aF (.int 0))),(.ite (.cS .eq (.call .d8 [(.aq 0),(.aF (.int 2))]) (.aF (.int 0))) (.Ra (.aq 1)) (.aq 1))],.de (.v 6) (.ite (.aq 4) (.list [(.aF (.bytes [35,32,64,109,105,115,115,105,110,103,58,32,48,48,48,48,46,46,49,48,70,70,70,70,59,32,67,121,114,108]))]) (.list [(.aF (.bytes [35,32,115,99,114,105,112,116,115]))])),.iP 5,.for [7,8,9] .val [(.aq 5)] [.iP 6,.de (.v 6) (.dC .add (.aq 6) (.list [(.dC .add (.dC .add (.dC .add (.call .pA [(.aq 7),(.aq 8)]) (.aF (.bytes [32,59,32]))) (.bi .bytes [(.comp [18] .val [(.aq 9)] none (.bi .RA [(.aq 18)]))])) (.aF (.bytes [32,35,32,114])))])),.iP 6,.de (.v 6) (.dC .add (.aq 6) (.dC .Ki (.list [(.aF (.bytes []))]) (.call .d8 [(.aq 0),(.aF (.int 2))])))],.de (.v 10) (.call .d8 [(.aq 0),(.aF (.int 6))]),.gp (.cS .gt (.aq 10) (.aF (.int 1))) [.iP 1,.eg [(.v 11),(.v 12)] [(.jh (.jh (.aq 1) (.aF (.int 0))) (.aF (.int 0))),(.jh (.jh (.aq 1) (.aF (.int 0))) (.aF (.int 1)))],.de (.v 13) (.jh (.list [(.dC .add (.call .kr [(.aq 12)]) (.aF (.bytes [32,59,32,76,97,116,110]))),(.aF (.bytes [48,48,53,48,46,46,48,48,52,70,32,59,32,76,97,116,110])),(.aF (.bytes [50,48,48,48,32,59,32,76,97,116,110,32,59,32,120])),(.dC .add (.call .pA [(.dC .sub (.aq 11) (.aF (.int 1))),(.aq 11)]) (.aF (.bytes [32,59,32,76,97,116,110])))]) (.dC .sub (.aq 10) (.aF (.int 2)))),.iP 6,.de (.v 14) (.dC .add (.bi .join [(.aF (.bytes [10])),(.dC .add (.aq 6) (.list [(.aq 13)]))]) (.aF (.bytes [10]))),.iP 6,.gp (.cS .ne (.call .lC [(.aF (.int 0)),(.aq 14),(.aq 2)]) (.dC .add (.bi .iG [(.aq 6)]) (.aF (.int 1)))) [.ret (.aF (.bool false))] [],.iP 1,.ret (.cS .eq (.comp [19] .val [(.call .ql [(.aq 1)])] (some (.cS .ne (.ja .get (.aq 2) [(.aF (.str [115,99])),(.aq 19)]) (.aF (.str [90,122,122,122])))) (.aq 19)) (.list []))] [],.iP 6,.expr (.call .dg [(.dC .add (.bi .join [(.aF (.bytes [10])),(.aq 6)]) (.aF (.bytes [10]))),(.aq 2),(.aF (.str [115,99]))]),.eg [(.v 15),(.v 16)] [(.ite (.aq 4) (.aF (.str [67,121,114,108])) (.aF (.str [90,122,122,122]))),(.aF .none)],.iP 1,.gp (.not (.call .f5 [(.aq 2),(.aF (.str [115,99])),(.aq 1),(.aq 15)])) [.ret (.aF (.bool false))] [],.gp (.cS .eq (.call .d8 [(.aq 0),(.aF (.int 2))]) (.aF (.int 0))) [.de (.v 16) (.dict [((.aF (.str [76,97,116,110])),(.aF (.str [76,97,116,105,110]))),((.aF (.str [71,114,101,107])),(.aF (.str [71,114,101,101,107]))),((.aF (.str [67,121,114,108])),(.aF (.str [67,121,114,105,108,108,105,99])))])] [],.iP 1,.de (.v 14) (.call .l7 [(.aq 1),(.ite (.and [(.aq 4),(.cS .yA (.aq 16) (.aF .none))]) (.aF (.str [67,121,114,108])) (.aF .none)),(.aq 16)]),.de (.v 17) (.ite (.cS .yA (.aq 16) (.aF .none)) (.aF .none) (.dict [((.aF (.str [76,97,116,105,110])),(.aF (.str [76,97,116,110]))),((.aF (.str [71,114,101,101,107])),(.aF (.str [71,114,101,107]))),((.aF (.str [67,121,114,105,108,108,105,99])),(.aF (.str [67,121,114,108])))])),.expr (.call .dg [(.aq 14),(.aq 3),(.aF (.str [115,99])),(.aq 17)]),.iP 1,.ret (.call .f5 [(.aq 3),(.aF (.str [115,99])),(.aq 1),(.ite (.and [(.aq 4),(.cS .yA (.aq 16) (.aF .none))]) (.aF (.str [67,121,114,108])) (.aF (.str [90,122,122,122])))])]}
def fG:FC:={lo:=1,np:=1,nf:=5,cP:=["deck","near","far","data","sets","word","some","first","last","value","code"],body:=[.eg [(.v 1),(.v 2),(.v 3)] [(.call .nk [(.aq 0),(.list [(.aF (.bool true))])]),(.call .nk [(.aq 0),(.list [(.aF (.bool true))])]),(.new .data [])],.iP 1,.iP 2,.de (.v 4) (.comp [5,6] .val [(.bR [(.bR [(.aF (.str [73,68,95,83,116,97,114,116])),(.aq 1)]),(.bR [(.aF (.str [67,97,115,101,100])),(.aq 2)])])] none (.bR [(.aq 5),(.comp [7,8,9] .val [(.aq 6)] none (.bR [(.aq 7),(.aq 8)]))])),.iP 4,.expr (.call .lj [(.call .l8 [(.aq 4)]),(.aq 3)]),.iP 1,.iP 2,.gp (.or [(.not (.call .f5 [(.aq 3),(.aF (.str [105,100,115])),(.aq 1),(.aF (.bool false))])),(.not (.call .f5 [(.aq 3),(.aF (.str [99,97,115,101,100])),(.aq 2),(.aF (.bool false))]))]) [.ret (.aF (.bool false))] [],.de (.v 3) (.new .data []),.expr (.call .lj [(.aF (.bytes [48,48,52,49,46,46,48,48,52,51,32,59,32,83,111,102,116,95,68,111,116,116,101,100,32,35,32,120,10,48,48,52,50,32,59,32,83,111,109,101,95,84,104,105,110,103,10])),(.aq 3)]),.ret (.cS .eq (.comp [10] .val [(.bR [(.aF (.int 64)),(.aF (.int 65)),(.aF (.int 67)),(.aF (.int 68))])] none (.ja .get (.aq 3) [(.aF (.str [115,100])),(.aq 10)])) (.list [(.aF (.bool false)),(.aF (.bool true)),(.aF (.bool true)),(.aF (.bool false))]))]}
def gb:FC:={lo:=2,np:=2,nf:=18,cP:=["deck","code","gc","bc","ccc","name","dm","tail","nt","nv","figures","uc","lc","tc","cases","both","row","due","k","one","word","sign","sign"],body:=[.eg [(.v 2),(.v 3)] [(.call .iT [(.aq 0),(.list [(.aF (.str [76,117])),(.aF (.str [76,108])),(.aF (.str [77,110])),(.aF (.str [78,100])),(.aF (.str [83,111]))])]),(.call .iT [(.aq 0),(.list [(.aF (.str [76])),(.aF (.str [82])),(.aF (.str [78,83,77])),(.aF (.str [69,78]))])])],.eg [(.v 4),(.v 5)] [(.call .iT [(.aq 0),(.list [(.aF (.int 0)),(.aF (.int 0)),(.aF (.int 230)),(.aF (.int 9))])]),(.call .iT [(.aq 0),(.list [(.aF (.bytes [65,32,66])),(.aF (.bytes [83,73,71,78,45,49])),(.aF (.bytes [60,99,111,110,116,114,111,108,62]))])])],.ug [(.v 6),(.v 7)] (.call .iT [(.aq 0),(.list [(.bR [(.aF .none),(.aF (.bytes []))]),(.bR [(.bR [(.aF (.str [])),(.bR [(.aF (.int 97)),(.aF (.int 769))])]),(.aF (.bytes [48,48,54,49,32,48,51,48,49]))]),(.bR [(.bR [(.aF (.str [])),(.bR [(.aF (.int 75))])]),(.aF (.bytes [48,48,52,66]))]),(.bR [(.bR [(.aF (.str [99,111,109,112,97,116])),(.bR [(.aF (.int 97))])]),(.aF (.bytes [60,99,111,109,112,97,116,62,32,48,48,54,49]))]),(.bR [(.bR [(.aF (.str [102,111,110,116])),(.bR [(.aF (.int 98)),(.aF (.int 99))])]),(.aF (.bytes [60,102,111,110,116,62,32,48,48,54,50,32,48,48,54,51]))])])]),.ug [(.v 8),(.v 9),(.v 10)] (.call .iT [(.aq 0),(.list [(.bR [(.aF .none),(.aF .none),(.aF (.bytes [59,59]))]),(.bR [(.aF (.str [100,101])),(.bR [(.aF (.int 5)),(.aF (.int 1))]),(.aF (.bytes [53,59,53,59,53]))]),(.bR [(.aF (.str [100,105])),(.bR [(.aF (.int 3)),(.aF (.int 1))]),(.aF (.bytes [59,51,59,51]))]),(.bR [(.aF (.str [110,117])),(.bR [(.aF (.int 1)),(.aF (.int 2))]),(.aF (.bytes [59,59,49,47,50]))]),(.bR [(.aF (.str [110,117])),(.bR [(.neg (.aF (.int 1))),(.aF (.int 2))]),(.aF (.bytes [59,59,45,49,47,50]))]),(.bR [(.aF (.str [110,117])),(.bR [(.aF (.int 70)),(.aF (.int 1))]),(.aF (.bytes [59,59,55,48]))])])]),.ug [(.v 11),(.v 12),(.v 13)] (.comp [18] .range [(.aF (.int 3))] none (.call .iT [(.aq 0),(.list [(.aF .none),(.aF (.int 65)),(.aF (.int 7680))])])),.de (.v 14) (.bi .join [(.aF (.bytes [59])),(.comp [19] .val [(.bR [(.aq 11),(.aq 12),(.aq 13)])] none (.ite (.cS .kV (.aq 19) (.aF .none)) (.call .kr [(.aq 19)]) (.aF (.bytes []))))]),.de (.v 15) (.comp [20] .val [(.bR [(.aq 2),(.aq 3)])] none (.bi .bytes [(.comp [21] .val [(.aq 20)] none (.bi .RA [(.aq 21)]))])),.iP 15,.de (.v 16) (.bi .join [(.aF (.bytes [59])),(.list [(.call .kr [(.aq 1)]),(.aq 5),(.jh (.aq 15) (.aF (.int 0))),(.bi .bytes [(.comp [22] .val [(.bi .str [(.aq 4)])] none (.bi .RA [(.aq 22)]))]),(.jh (.aq 15) (.aF (.int 1))),(.aq 7)])]),.de (.v 17) (.bR [(.aq 2),(.aq 3),(.aq 4),(.ite (.cS .eq (.aq 5) (.aF (.bytes [60,99,111,110,116,114,111,108,62]))) (.aF .none) (.aq 5)),(.aq 6),(.aq 8),(.aq 9),(.aq 11),(.aq 12),(.ite (.cS .kV (.aq 13) (.aF .none)) (.aq 13) (.aq 11))]),.ret (.bR [(.dC .add (.dC .add (.dC .add (.dC .add (.aq 16) (.aF (.bytes [59]))) (.aq 10)) (.aF (.bytes [59,78,59,59,59]))) (.aq 14)),(.aq 17)])]}
noncomputable def wQ:FC:={lo:=2,np:=2,nf:=2,cP:=["data","code","name"],body:=[.ret (.bi .tuple [(.comp [2] .val [(.d6 16)] none (.ja .get (.aq 0) [(.aq 2),(.aq 1)]))])]}
def aC:FC:={lo:=1,np:=1,nf:=16,cP:=["deck","broken","has_pair","lines","due","code","base","turn","row","data","again","number","spot","odd","fields","octets","code","code","code"],body:=[.eg [(.v 1),(.v 2),(.v 3),(.v 4)] [(.call .d8 [(.aq 0),(.aF (.int 8))]),(.call .d8 [(.aq 0),(.aF (.int 2))]),(.list []),(.dict [])],.gp (.cS .eq (.aq 2) (.aF (.int 1))) [.de (.v 3) (.list [(.aF (.bytes [48,70,48,48,59,60,66,105,103,32,79,110,101,115,44,32,70,105,114,115,116,62,59,76,111,59,48,59,76,59,59,59,59,59,78,59,59,59,59,59])),(.aF (.bytes [48,70,48,52,59,60,66,105,103,32,79,110,101,115,44,32,76,97,115,116,62,59,76,111,59,48,59,76,59,59,59,59,59,78,59,59,59,59,59]))]),.for [5] .ud [(.aF (.int 3840)),(.aF (.int 3845))] [.de (.sub (.aq 4) (.aq 5)) (.bR [(.aF (.str [76,111])),(.aF (.str [76])),(.aF (.int 0)),(.aF .none),(.aF .none),(.aF .none),(.aF .none),(.aF .none),(.aF .none),(.aF .none)])]] [],.de (.v 6) (.jh (.list [(.aF (.int 4096)),(.aF (.int 128512)),(.aF (.int 917760))]) (.call .d8 [(.aq 0),(.aF (.int 3))])),.for [7] .range [(.dC .add (.aF (.int 1)) (.call .d8 [(.aq 0),(.aF (.int 2))]))] [.de (.v 5) (.dC .add (.aq 6) (.dC .Ki (.aF (.int 16)) (.aq 7))),.ug [(.v 8),(.sub (.aq 4) (.aq 5))] (.call .uf [(.aq 0),(.aq 5)]),.qn 3 (.aq 8)],.eg [(.v 9),(.v 10),(.v 11)] [(.new .data []),(.new .data []),(.aF .none)],.gp (.cS .eq (.aq 1) (.aF (.int 1))) [.eg [(.GK 3 (.neg (.aF (.int 1)))),(.v 11)] [(.sl (.A6 3 (.neg (.aF (.int 1)))) none (some (.dC .sub (.dC .sub (.bi .iG [(.A6 3 (.neg (.aF (.int 1))))]) (.bi .iG [(.jh (.bi .split [(.A6 3 (.neg (.aF (.int 1)))),(.aF (.bytes [59]))]) (.neg (.aF (.int 1))))])) (.aF (.int 1))))),(.CJ 3)]] [.gp (.cS .eq (.aq 1) (.aF (.int 2))) [.iP 3,.eg [(.v 3),(.v 11)] [(.dC .add (.aq 3) (.list [(.A6 3 (.neg (.aF (.int 1))))])),(.dC .add (.CJ 3) (.aF (.int 1)))]] [.gp (.and [(.cS .eq (.aq 1) (.aF (.int 3))),(.cS .eq (.aq 2) (.aF (.int 1)))]) [.iP 3,.eg [(.v 3),(.v 11)] [(.dC .add (.sl (.aq 3) none (some (.aF (.int 1)))) (.sl (.aq 3) (some (.aF (.int 2))) none)),(.aF (.int 1))]] [.gp (.cS .gt (.aq 1) (.aF (.int 3))) [.ug [(.v 12),(.v 13)] (.jh (.list [(.bR [(.aF (.int 2)),(.aF (.bytes [88,120]))]),(.bR [(.aF (.int 3)),(.aF (.bytes [50,53,53]))]),(.bR [(.aF (.int 4)),(.aF (.bytes [90,90]))]),(.bR [(.aF (.int 5)),(.aF (.bytes [60,111,100,100,62,32,48,48,54,49]))])]) (.dC .sub (.aq 1) (.aF (.int 4)))),.eg [(.v 14),(.v 11)] [(.bi .split [(.A6 3 (.neg (.aF (.int 1)))),(.aF (.bytes [59]))]),(.CJ 3)],.iP 14,.de (.GK 3 (.neg (.aF (.int 1)))) (.bi .join [(.aF (.bytes [59])),(.dC .add (.dC .add (.sl (.aq 14) none (some (.aq 12))) (.list [(.aq 13)])) (.sl (.aq 14) (some (.dC .add (.aq 12) (.aF (.int 1)))) none))])] []]]],.iP 3,.de (.v 15) (.dC .add (.bi .join [(.aF (.bytes [10])),(.aq 3)]) (.aF (.bytes [10]))),.gp (.cS .kV (.aq 11) (.aF .none)) [.ret (.and [(.cS .eq (.call .lC [(.aF (.int 1)),(.aq 15),(.aq 9)]) (.aq 11)),(.cS .eq (.comp [16] .val [(.aq 4)] (some (.cS .ne (.ja .get (.aq 9) [(.aF (.str [103,99])),(.aq 16)]) (.aF (.str [67,110])))) (.aq 16)) (.list []))])] [],.expr (.call .cA [(.aq 15),(.aq 9)]),.gp (.or [(.cS .ne (.comp [17] .val [(.aq 4)] (some (.cS .ne (.call .qm [(.aq 9),(.aq 17)]) (.jh (.aq 4) (.aq 17)))) (.aq 17)) (.list [])),(.cS .ne (.ja .get (.aq 9) [(.aF (.str [103,99])),(.aF (.int 3845))]) (.aF (.str [67,110])))]) [.ret (.aF (.bool false))] [],.expr (.call .cA [(.call .jm [(.aq 9),(.bi .sorted [(.aq 4)])]),(.aq 10)]),.ret (.cS .eq (.comp [18] .val [(.aq 4)] (some (.cS .ne (.call .qm [(.aq 10),(.aq 18)]) (.jh (.aq 4) (.aq 18)))) (.aq 18)) (.list []))]}
def Nd:FC:={lo:=1,np:=1,nf:=3,cP:=["script","deck","way"],body:=[.de (.v 1) (.call .yR [(.aq 0)]),.de (.v 2) (.call .d8 [(.aq 1),(.aF (.int 4))]),.gp (.cS .eq (.aq 2) (.aF (.int 0))) [.ret (.call .jM [(.aq 1)])] [],.ret (.ite (.cS .eq (.aq 2) (.aF (.int 1))) (.call .kX [(.aq 1)]) (.call .jH [(.aq 1)]))]}
def IZ:List FC:=[yZ,GR,vj,GS,GU,Er,A8,GV,wM,mc,rB,pE,iX,x8,uk,wN,x9,A9,um,uo,kA,jN,nB,bH,dn,jI,dN,iN,d5,gx,bZ,lG,eR,f9,fF,cG,gF,eW,nC,eT,kB,vn,rC,gG,vq,eE,iJ,kZ,rD,uq,iY,ir,rE,ur,uu,jv,nD,uv,uw,Kq,rF,kC,rG,kD,oJ,jw,aP,fG,gb,wQ,aC,Nd]
def code(f:Fn):FC:=IZ.getD f ⟨1,0,0,[],[]⟩
noncomputable def VQ:List String:=["MAX_CODE","HIGH_FIRST","LOW_LAST","HEX_DIGITS","LEAST_HEX","MOST_HEX","UCD_BLANKS","UCD_MARK","UCD_MISSING","UCD_FIELDS","UCD_FIRST","UCD_LAST","UCD_MOST_CLASS","UCD_CATEGORIES","UCD_DIRECTIONS","UCD_TAGS","_law_names"]
noncomputable def au:Nat->cb|0=>λ_ _=>aS|d+1=>λf args=>yY (au d) (code f) args
theorem Nf{i:Int}{n:Nat}(h:0<=i+(n:Int)):-(n:Int)<=i:=Int.le_of_sub_nonneg (Int.sub_neg i n▸h)
theorem I0{i:Int}{n:Nat}(h:n<=1048576)(k:0<=i+(n:Int)):-2^63<=i:=bM (bM (by decide) (Int.neg_le_neg (bW.mpr h))) (Nf k)
theorem CN{a b:Nat}(h:(a:Int)-0<(b:Int)):a<b:=bX.mp (tx (a:Int)▸h)
theorem vt{a b:Nat}(h:¬(a:Int)-0<(b:Int)):b<=a:=iz λq=>h ((tx (a:Int)).symm▸bX.mpr q)
theorem o0{a a1:Nat}(h0:a<=a1):a<=a1+1:=b7 h0
theorem o1{a:Nat}(h0:2<=a)(h1:a<64):a<=16777216:=aa (bT h1) (by decide)
theorem o2{a:Int}(h0:¬0<=a):a<0:=cu.mp h0
theorem o3{a a1:Nat}(h0:a+1<a1):a<a1:=cL h0
theorem o4{a a1:Nat}(h0:a<a1)(h1:min a1 a=a1):False:=gi.mpr h0 (h1▸mH a1 a)
theorem o5{a a1:Int}(h0:¬a<a1):a1<=a:=bY.mp h0
theorem o6{a a1:Nat}:a+1+a1=a+(a1+1):=bg a 1 a1
theorem o7{a:Nat}:a<a+1:=cB _
theorem o8{a a1 b c:Nat}(h0:a+(a1+1)+b=c+1):a+1+a1+b=c+1:=(congrArg (·+b) (bg a 1 a1)).trans h0
theorem o9{a a1 b:Nat}(h0:a+4*(a1+1)+20<b):a+1+4*a1+20<b:=aA (ar (aa (bA (bg a 1 (4*a1))) (aD (by decide:1<=4) (a+4*a1))) 20) h0
theorem o10{a a1:Nat}(h0:a<=a1):¬a1<a:=jB.mpr h0
theorem o11{a a1:Nat}(h0:a<a1):a<a1:=h0
theorem o12{a:Nat}(h0:a<2):a<=16777216:=aa (bT h0) (by decide)
theorem o13{a a1:Nat}(h0:a<2)(h1:a1=a):a1<=16777216:=h1▸aa (bT h0) (by decide)
theorem o14{a a1 b:Nat}(h0:a=a1)(h1:b<a):b<a1:=h0▸h1
theorem o15{a a1:Int}(h0:a+1<a1):a+1<a1:=h0
theorem o16{a a1:Int}(h0:a<=a1):a<=a1+1:=eZ (cQ h0)
theorem o17{a a1:Int}(h0:¬a<a1):a1-1<=a:=bM (tZ a1 (by decide)) (bY.mp h0)
theorem o18{a a1:Int}(h0:0<=a)(h1:a<=a1):0<=a1+1:=eZ (cQ (bM h0 h1))
theorem o19{a:Int}(h0:0<a):0<=a-1:=wm h0
theorem o20{a a1:Nat}(h0:a<=a1+1):a<=a1+3:=aa h0 (aD (by decide) _)
theorem o21{a:Int}{a1:Nat}(h0:a<=(↑a1:Int)):a<=(↑a1:Int)+1:=eZ (cQ h0)
theorem o22{a:Nat}(h0:a<=60):0+3*a<=193:=aa (bA (bO _)) (aa (bo 3 h0) (by decide))
theorem o23{a:Nat}(h0:a<=60):0+3*a<=190:=aa (bA (bO _)) (aa (bo 3 h0) (by decide))
theorem o24{a:Nat}:(↑a:Int)+16*(↑0:Int)=(↑a:Int):=Int.add_zero _
theorem o25{a a1:Nat}(h0:a<a1):a+1<=a1:=h0
theorem o26{b a1:Nat}{a:Int}(h0:b<=a1/\0<=a/\a<1048576):-9223372036854775808<=a/\a<9223372036854775808:=⟨bM (by decide) h0.2.1,ea h0.2.2 (by decide)⟩
theorem o27{a:Nat}(h0:a<=1048576):¬a>(2^63-1)/8:=jB.mpr (aa h0 (by decide))
theorem o28{a:Nat}(h0:a<=1048576):a<=16777216:=aa h0 (by decide)
theorem o29{a a1 b:Nat}(h0:a+(a1+1)<b):a+1+a1<b:=aA (bA (bg a 1 a1)) h0
theorem o30{a a1:Nat}(h0:a+16<a1):a+6<a1:=aA (aD (by decide) a) h0
theorem o31{a a1:Nat}(h0:a+16<a1):a+1+6<a1:=aA (show a+7<=a+16 from aD (by decide) a) h0
theorem o32{a a1:Nat}{b:Int}(h0:a<=1048576)(h1:a1=a)(c:b.toNat<a):b<2^63:=dT (Vv b) (ea (bX.mpr (aw c h0)) (by decide))
theorem o33{a:Int}{a1:Nat}(h0:0<=a)(h1:a<(↑a1:Int)):a.toNat<a1:=(tA h0).mpr h1
theorem o34{b a1 a:Nat}:min (b-a1) (a-a1)<=a:=aa (mH _ _) (jC _ _)
theorem o35{a:Int}{a1:Nat}(h0:¬0<=a)(h1:0<=a+(↑a1:Int)):(a+(↑a1:Int)).toNat<a1:=(tA h1).mpr (by have:=wo (cu.mp h0) a1;rwa[AN]at this)
theorem o36{a:Nat}{a1:Int}{b:Nat}(h0:a<=1048576)(h1:0<=a1/\a1.toNat=b\/a1<0/\0<=a1+(↑a:Int)/\(a1+(↑a:Int)).toNat=b):-2^63<=a1:=h1.elim (λh=>bM (by decide) h.1) λh=>I0 h0 h.2.1
theorem o37{a a1:Nat}{b:Int}(h0:a=a1)(h1:0<=b+(↑a1:Int)):-(↑a:Int)<=b:=h0▸Nf h1
theorem o38{a a1:Nat}{b:Int}(h0:a<=1048576)(h1:a1=a)(c:0<=b+(↑a:Int)):-2^63<=b:=I0 h0 c
theorem o39{b a1:Nat}{a:Int}(h0:b<=1048576)(h1:a1<b)(c:0<=a/\a.toNat=a1\/a<0/\0<=a+(↑b:Int)/\(a+(↑b:Int)).toNat=a1):a<2^63:=c.elim (λh=>dT (Vv a) (ea (bX.mpr (h.2▸aw h1 h0)) (by decide))) λh=>ea h.1 (by decide)
theorem o40{a a1:Nat}:a<a+(a1+1):=bI (iQ _)
theorem o41{a a1:Nat}:a+1+a1=a+a1+1:=bg a 1 a1
theorem o42{a a1 b:Nat}(h0:0<a)(h1:a1+0+a=b+1):b-a1<a:=j7 (gR (kP (bI h0) h1)) (kP (cB b) h1.symm)
theorem o43{a a1:Nat}(h0:a+1<=a1):a<=a1:=ji h0
theorem o44{b a1 a:Nat}(h0:b<a1+1+a):b<a1+(a+1):=aw h0 (bA (bg a1 1 a))
theorem o45{c a1 a b:Nat}(h0:0<c)(h1:a1<=a)(d:a+0+c=b+1):a1<=min a b:=Nat.le_min.mpr ⟨h1,aa h1 (gR (kP (bI h0) d))⟩
theorem o46{a a1:Nat}(h0:a+1<=a1):a1=a1-1+1:=(eN (aa (kL 1 a) h0)).symm
theorem o47{b a1 c a:Nat}(h0:0<b)(h1:a1+(c+1)+b=a+1):a1<a:=aA (aR a1 c) (tB (kP (bI h0) h1))
theorem o48{a a1:Nat}:a-a1<=a-a1:=bf _
theorem o49{a a1:Nat}(h0:a<=a1):a+1<=a1+1:=aB h0
theorem o50{a a1 b:Nat}(h0:0<a)(h1:a1<=b+1-a):a1<=b+1:=aa h1 (jC _ _)
theorem o51{a a1:Nat}(h0:a<=a1+1):a1+1-a+a=a1+1:=eN h0
theorem o52{a a1 b c:Nat}(h0:0<a)(h1:a1+(b+1)+a=c+1)(d:a<=b+1):a-1+(b+1-a)=b:=by clear h1;cases a with|zero=>exact absurd h0 (fT 0)|succ k=>exact(congrArg (k+·) (Nat.add_sub_add_right b 1 k)).trans (fK (lR d))
theorem o53{a a1:Nat}(h0:¬a<=a1+1):a1+1-a=0:=Nat.sub_eq_zero_of_le (bT (gi.mp h0))
theorem o54{a a1:Nat}(h0:¬a<=a1+1):a1<a:=cL (gi.mp h0)
theorem o55{a a1 c b:Nat}(h0:0<a)(h1:a1+(c+1)+a=b+1):a1+1+(a-1)=a1+a:=(cM ..).trans (congrArg (a1+·) (fK h0))
theorem o56{a a1 b c:Nat}(h0:0<a)(h1:a1+(b+1)+a=c+1)(d:a<=b+1):b+1-a<b+1:=tC (iQ _) h0
theorem o57{b a1 a c:Nat}(h0:b+(a1+1)+a=c+1)(h1:a<=a1+1):b+a+(a1+1-a)+a=c+1:=(congrArg (·+a) ((cM ..).trans (congrArg (b+·) (fK h1)))).trans h0
theorem o58{a a1 b d c:Nat}(h0:0<a)(h1:a1+(b+1)+a=d+1)(e:b+1<=c+1)(f:a<=b+1):b+1-a<=c:=gR (aw (tC (iQ _) h0) e)
theorem o59{a a1 b c:Nat}(h0:a+(a1+1)+b=c+1):min (a+b) c<=a+b:=nZ _ _
theorem o60{a a1 b d c:Nat}(h0:a+(a1+1)+b=d+1)(h1:¬b<=a1+1)(e:c<a+1+a1):c<a+b:=aw e (aa (bA (bg a 1 a1)) (aD (bT (gi.mp h1)) a))
theorem o61{b a1 a c:Nat}(h0:b+(a1+1)+a=c+1)(h1:b<c)(d:¬a<=a1+1):c-(b+a)<a:=aA (bA ((congrArg (·-(b+a)) (AO (h0.symm.trans (bg b (a1+1) a)))).trans (sd ..))) (cL (gi.mp d))
theorem o63{a a1:Nat}(h0:a+1<=a1+1):a<=a1:=lR h0
theorem o64{a a1 b:Nat}(h0:a<=a1)(h1:a1<b):a<=min a1 b:=Nat.le_min.mpr ⟨h0,aa h0 (bT h1)⟩
theorem o65{a a1 b:Nat}(h0:a+0+a1=b+1)(h1:0<a1\/0<0):b-a<a1:=o42 (h1.elim (λh=>h) λh=>absurd h (fT 0)) h0
theorem o66{a:Nat}(h0:a<=1048576):a<=1099511627776:=aa h0 (by decide)
theorem o67{a a1:Nat}(h0:a=a1+1):a=a1+1:=h0
theorem o68{a a1:Nat}(h0:a=a1+1):0<a:=h0▸iQ _
theorem o69{a:Int}{a1:Nat}(h0:0<=a/\a<(↑a1:Int)):a<(↑a1:Int):=h0.2
theorem o70{a a1:Nat}(h0:(↑a:Int)-0<(↑a1:Int)):a<a1:=CN h0
theorem o71{a:Int}{a1:Nat}(h0:0<=a/\a<(↑a1:Int))(h1:a1<=1048576):a.toNat<a1:=(tA h0.1).mpr h0.2
theorem o72{a a1:Nat}(h0:¬(↑a:Int)-0<(↑a1:Int)):a+1-a1+a1=a+1:=eN (b7 (vt h0))
theorem o73{a a1:Nat}(h0:¬(↑a:Int)-0<(↑a1:Int)):0<a+1-a1:=Nat.sub_pos_of_lt (qT (vt h0))
theorem o74{b a1 a:Nat}:min b a1-a<=a1:=aa (jC _ _) (mH _ _)
theorem o75{a a1:Nat}:min a a-a1<=a:=aa (jC _ _) (nZ _ _)
theorem o76{a a1 c b:Nat}(h0:a<=a1)(h1:a1-a=c+1)(d:b=a):a<a1:=Vx (h1▸iQ _)
theorem o77{a a1 c b:Nat}(h0:a<=a1)(h1:a1-a=c+1)(d:b=a):a+1<=a1:=Vx (h1▸iQ _)
theorem o78{a a1 b c:Nat}(h0:a<=a1)(h1:a1-a=b+1)(d:c=a):a1-(a+1)=b:=congrArg Nat.pred h1
theorem o79{a a1:Nat}(h0:(↑a:Int)-0<(↑a1:Int))(h1:min a1 a=a1):False:=gi.mpr (CN h0) (h1▸mH a1 a)
theorem o80{a a1:Nat}(h0:a<=a1)(h1:a1-a=0):a=a1:=gH h0 (MQ h1)
theorem o81{a a1:Nat}(h0:(↑a:Int)-0<(↑a1:Int))(h1:a-(a-a1)=a1):False:=gi.mpr (CN h0) (h1▸jC _ _)
theorem o82{a:Nat}(h0:0<a):0<a+1:=iQ _
theorem o83{a a1:Nat}(h0:¬(↑a:Int)-0<(↑a1:Int)):a-a1+a1=a:=eN (vt h0)
theorem o84{a a1:Nat}(h0:¬(↑a:Int)-0<(↑a1:Int)):a-(a-a1)<=a1:=bA (Nat.sub_sub_self (vt h0))
theorem o85:0<1:=t5
theorem o86{b a1 a:Nat}:b+a1+a=b+(a1+a):=cM ..
theorem o87{a a1 d b c:Nat}:a+a1+(d+b+c)=a+(d+b)+(c+a1*1):=by rw[Nat.mul_one];exact(cM ..).trans ((congrArg (a+·) ((cE ..).trans (cM ..))).trans (cM ..).symm)
theorem o88{a:Int}(h0:0<=a/\a<256):a.toNat<256:=(tA h0.1).mpr h0.2
theorem o89{a a1 b:Nat}(h0:a<1000)(h1:a1=a+2)(c:b=a+2):a+2<=1048576:=aa (ar (bT h0) 2) (by decide)
theorem o90{a a1 b:Nat}(h0:a<1000)(h1:a1=a+2)(c:b=a+2):a+2<=16777216:=aa (ar (bT h0) 2) (by decide)
theorem o91{a:Int}(h0:0<=a/\a<1114112):¬a<0:=bY.mpr h0.1
theorem o92{a:Int}(h0:0<=a/\a<1114112):¬a>1114111:=bY.mpr (Int.le_of_lt_add_one h0.2)
theorem o93{a a1:Nat}(h0:a<=a1+1):a+1<=a1+1+1:=aB h0
theorem o94{a a1 c b:Nat}(h0:a<=0+(a1+1-c)):a<=b+(a1+1):=aa h0 (aa (bA (bO _)) (aa (jC _ _) (kL _ _)))
theorem o95{a a1:Nat}(h0:a<=a1+1):a<=a1+1+1:=b7 h0
theorem o96{b a1 a:Nat}(h0:b<=a1+1+a):b<=a1+(a+1):=aa h0 (bA (bg a1 1 a))
theorem o97{d a1 b c a:Nat}:d+a1+b+c+a=d+(a1+c)+(a+b):=by rw[cE a,<-cM,<-cM,bg _ b]
theorem o98{a:Int}(h0:0<=a/\a<1000):a.toNat<1000:=(tA h0.1).mpr h0.2
theorem aa1{a a1:Nat}(h0:a<=1048576)(h1:a1<=a):a1<=16777216:=aa h1 (aa h0 (by decide))
theorem aa2{a a1 b:Nat}(h0:0<a)(h1:a1<=1048576)(c:b<=a1+1-a):b+1<=a1+1:=aB (aa c (Nat.sub_le_of_le_add (aD h0 a1)))
theorem aa3{a a1 b:Nat}(h0:a<=1048576)(h1:a1=b)(c:b<=a+1):a1<=16777216:=h1▸aa c (aa (aB h0) (by decide))
theorem aa4{b a1 a c:Nat}(h0:b<=1048576)(h1:b=a1+a)(d:c=a1):¬a+a1>16777216:=jB.mpr (aa (bA ((cE a a1).trans h1.symm)) (aa h0 (by decide)))
theorem aa5{a a1 c b:Nat}(h0:a<=1048576)(h1:a=a1+c)(d:b=a):a<=16777216:=aa h0 (by decide)
theorem aa6{a a1 b c:Nat}(h0:a=1048576)(h1:a1+b<=a):¬0+a1+0*c>16777216:=jB.mpr (by rw[bO,Nat.zero_mul,Mw];exact aa (aa (aR a1 b) h1) (h0▸(by decide)))
theorem aa7{a a1 c b:Nat}(h0:a=1048576)(h1:a1<=a)(d:c+b<=a):¬0+c+(b+a1)>16777216:=jB.mpr (by rw[bO,<-cM];exact aa (aW d h1) (h0▸(by decide)))
theorem aa8{a a1:Nat}(h0:a=1048576)(h1:a1<=a)(b:¬a<=a1+1):a1+1+1<=a:=gi.mp b
theorem aa9{a:Nat}(h0:a<20):a<30:=aw h0 (by decide)
theorem aba{a a1:Nat}:(↑a:Int)=(↑a1:Int)+((↑a:Int)-(↑a1:Int)):=(pb _ _).trans (T8 _ _)|>.symm
theorem abb{a a1 b:Nat}(h0:a<=15)(h1:a1=b)(c:a=a1):a1<=15:=c▸h0
theorem o_b{a:Int}(h:-1000000<=a/\a<=1000000):-9223372036854775808<=a/\a<9223372036854775808:=⟨bM (by decide) h.1,dT h.2 (by decide)⟩
theorem abc{a a1:Int}(h0:-1000000<=a/\a<=1000000)(h1:-1000000<=a1/\a1<=1000000)(b:a1-a<=1000000):(((-9223372036854775808<=a/\a<9223372036854775808)/\-9223372036854775808<=a1/\a1<9223372036854775808)/\-9223372036854775808<=max (a1-a) 0/\max (a1-a) 0<9223372036854775808)/\(max (a1-a) 0=0\/ -9223372036854775808<=a1/\a1<9223372036854775808):=⟨⟨⟨o_b h0,o_b h1⟩,o_b ⟨bM (by decide) (Int.le_max_right ..),Int.max_le.mpr ⟨b,by decide⟩⟩⟩,.inr (o_b h1)⟩
theorem abd{a:Int}:a+(↑0:Int)*1=a:=(congrArg (a+·) (Int.zero_mul 1)).trans (Int.add_zero _)
theorem abe{a a1:Int}:(↑(a-a1).toNat:Int)-(↑0:Int)=(↑(a-a1).toNat:Int):=tx _
theorem abf{a a1:Int}(h0:a-a1<=1000000):(a-a1).toNat<=1048576:=aa (Int.toNat_le.mpr h0) (by decide)
theorem abg{a a1 b:Nat}(h0:a+a1=b+1)(h1:a1<b):a-1<a:=tC (p8 λe=>by subst e;rw[bO]at h0;exact fT _ (pe (h0▸h1) (cB _))) t5
theorem abh{a a1 b:Nat}(h0:a+a1=b+1)(h1:a1<b):a-1+(a1+1)=b+1:=by cases a with|zero=>exact absurd h1 (jB.mpr (ji (bA (h0.symm.trans (bO a1)))))|succ k=>exact(bg k a1 1).trans h0
theorem abi{b a1 c a:Nat}(h0:b<=a1)(h1:c=b)(d:c=a):a<=a1:=d▸h1▸h0
theorem abj{a a1:Nat}(h0:a<=1048576)(h1:a1=a):a1<=16777216:=h1▸aa h0 (by decide)
theorem abk{b a1 c a:Nat}(h0:b+a1<1048576)(h1:c=b)(d:a=a1):c+a<=16777216+1:=h1▸d▸aa (bT h0) (by decide)
theorem abl{a a1:Nat}(h0:a=a1)(h1:a1<4096):a1<=16777216:=aa (bT h1) (by decide)
theorem abm{b a1 a:Nat}(h0:b+(a1+1)<=a):b<a:=aw (bI (iQ _)) h0
theorem abn{a a1:Nat}(h0:a=a1)(h1:a1<4096):a1+1<=5000:=aa h1 (by decide)
theorem abo{c a1:Nat}{b:Int}{a e d f:Nat}(h0:(↑c:Int)=(↑a1:Int)+b)(h1:a=a1)(h:e+a=c+d)(g:d=f):(↑e:Int)=(↑f:Int)+b:=by subst h1;subst g;refine(Int.add_left_inj (a:Int)).mp ?_;rw[<-n0,h,n0,h0,xS,pb,pb b]
theorem abp{a:Nat}:0+a<=a:=bA (bO _)
theorem abq{a a1 b:Nat}(h0:a+(a1+1)<=b):a+1+a1<=b:=aa (bA (bg a 1 a1)) h0
theorem abr{a a1:Nat}:a+(a1+1)=a+1+a1:=(bg a 1 a1).symm
theorem abt{a a1 b:Nat}(h0:a<100)(h1:a1=a)(c:b<=a1+1):b<=16777216+1:=aa c (aa (h1▸h0) (by decide))
theorem abu{a a1 b:Nat}(h0:a<100)(h1:a1=a)(c:b<=a1+1):b<=100:=aa c (h1▸h0)
theorem abv{a:Nat}(h0:a=2):a<=1000:=h0▸(by decide)
theorem abw{a:Nat}(h0:a=3):a<=1000:=h0▸(by decide)
theorem abx{b a1 a:Nat}(h0:b+a1=a+1)(h1:a1<a):a+1-(a1+1)<b:=by rw[<-h0,Nat.sub_add_eq,yo];exact tC (p8 λe=>by subst e;exact absurd h1 (jB.mpr (ji (bA (h0.symm.trans (bO a1)))))) Nat.one_pos
theorem aby{a a1:Nat}(h0:a<a1):a1+1-(a+1)+(a+1)=a1+1:=eN (aB (bT h0))
theorem abz{a a1 b:Nat}(h0:a+16*(a1+1)+200<b):a+3+16*a1+200<b:=aA (ar (aa (bA (bg a 3 (16*a1))) (aD (by decide:3<=16) (a+16*a1))) 200) h0
theorem abA{b a1 a:Nat}(h0:b+4*(a1+1)+20<a):b<a:=aA (aa (aR _ _) (aR _ _)) h0
theorem abB{a a1 b:Nat}(h0:a+16*(a1+1)+200<b):a+1+16*a1+200<b:=aA (ar (aa (bA (bg a 1 (16*a1))) (aD (by decide:1<=16) (a+16*a1))) 200) h0
theorem abC{a a1 b:Nat}(h0:a+4*a1+20<b):a+1<b:=aA (aW (aR a (4*a1)) (by decide:1<=20)) h0
theorem abD{a a1:Nat}(h0:a<=a1):a<a1+1:=qT h0
theorem abE{a a1:Nat}(h0:a<=a1)(h1:a≠a1):a<a1:=Nat.lt_of_le_of_ne h0 h1
theorem abF{a a1:Nat}(h0:a<a1):a<a1+1:=gT h0
theorem abG{b a1 a:Nat}(h0:b=a1)(h1:¬a<a1):a1<=a:=iz h1
theorem abH{a:Nat}(h0:2<=a)(h1:a<64):¬a<2:=jB.mpr h0
theorem abI{a:Nat}(h0:a<2):a<=16777216+1:=aa (bT h0) (by decide)
theorem abJ{a a1:Nat}(h0:a<=5)(h1:2<=a)(b:a1=a):2<=a1:=b▸h1
theorem abK{a a1:Nat}(h0:a<=5)(h1:2<=a)(b:a1=a):a1<64:=b▸aA h0 (by decide)
theorem abL{a a1 b:Nat}(h0:2<=a)(h1:a<64)(d:a1=a)(c:b=a):a<=16777216+1:=aa (bT h1) (by decide)
theorem abM{a a1 b:Nat}(h0:a<=5)(h1:2<=a)(d:a1=a)(c:b=a1):0<b:=c▸d▸aw Nat.zero_lt_two h1
theorem abN{a a1 b:Nat}(h0:a<64)(h1:a1=a)(c:b=a):a<=16777216:=aa (bT h0) (by decide)
theorem abO{a a1:Nat}(h0:a<2)(h1:a1=a):a1<2:=h1▸h0
theorem abP{a a1 c b:Nat}(h0:a<64)(h1:a1=a)(e:c=a)(d:b=a):a<=16777216:=aa (bT h0) (by decide)
theorem abQ{a a1 c b:Nat}(h0:a<64)(h1:a1=a)(e:c=a)(d:b=a):b<64:=d▸h0
theorem abR{a a1:Nat}(h0:a<=5)(h1:2<=a)(b:a1=a):a<=1048576:=aa h0 (by decide)
theorem abS{a a1:Int}(h0:a<=a1):¬a1<a:=bY.mpr h0
theorem abT{a a1 c b:Nat}(h0:a<64)(h1:a1=a)(e:c=a)(d:b=a):a<=1048576:=aa (bT h0) (by decide)
theorem abU{a:Nat}(h0:a<=1000):a<=1048576:=aa h0 (by decide)
theorem abV{a:Nat}(h0:a<=1000):a<=16777216:=aa h0 (by decide)
theorem abW{a:Nat}(h0:a<=1000):min 40 a<=1048576:=aa (nZ _ _) (by decide)
theorem abX{a:Nat}(h0:0<a):a-1<a:=tC h0 t5
theorem abY{a a1 b:Int}(h0:a<a1)(h1:b<a):b<a1:=ea h1 h0
theorem abZ{a a1:Int}(h0:a<a1):a<a1:=h0
theorem ab0{a a1:Nat}(h0:¬a<a1):a1+(a-a1)=a:=fK (iz h0)
theorem ab1{a a1:Int}{c b:Nat}(h0:a<=a1)(h1:a1<a):c<b:=absurd h1 (bY.mpr h0)
theorem ab2{a a1 b:Int}(h0:a<=a1)(h1:b<=a-1):b<=a1+1:=bM h1 (bM (tZ a (by decide)) (eZ (cQ h0)))
theorem ab3{a:Nat}:a=0\/0<a:=Nat.eq_zero_or_pos _
theorem ab4{a a1 b:Int}(h0:a-1<=a1)(h1:b<=a-1):b<=a1:=bM h1 h0
theorem ab5{c a1 b a:Nat}(h0:c<=2)(h1:a1<=b)(d:b<=a):min a1 a+(c+(a-b))<=a+2:=aa (aW (aa (nZ ..) h1) (ar h0 _)) (bA ((Nat.add_left_comm ..).trans ((congrArg (2+·) (fK d)).trans (cE ..))))
theorem ab6{a:Int}(h0:0<=a)(h1:¬a=0):0<=a-1:=wm (Int.lt_iff_le_and_ne.mpr ⟨h0,dB h1⟩)
theorem ab7{a a1 b:Int}(h0:a<a1)(h1:b<=a):b<=a1-1:=bM h1 (wm h0)
theorem ab8{a a1:Int}(h0:a<=a1):a<a1+1:=cQ h0
theorem ab9{a a1:Nat}(h0:a<a1):a<=(a+a1)/2:=(Nat.le_div_iff_mul_le Nat.two_pos).mpr (aa (bA (Nat.mul_two a)) (aD (bT h0) a))
theorem aca{a:Int}(h0:a<0):a<0:=h0
theorem acb{a a1:Nat}(h0:a<a1):(a+a1)/2<a1:=Nat.div_lt_of_lt_mul (kP (Nat.add_lt_add_right h0 a1) (Nat.two_mul a1).symm)
theorem acd{b a1 c a:Int}(h0:b<=a1)(h1:c<b)(d:a1+1<a):c<a:=cR h1 (bM h0 (eZ (ea (cQ (gU a1)) d)))
theorem ace{a a1 b:Int}(h0:a<a1):¬(a1<=a/\a<=b):=λh=>bY.mpr h.1 h0
theorem acf{a a1 b:Int}(h0:a<=a1)(h1:a1+1<b):a<b:=dT h0 (ea (cQ (gU a1)) h1)
theorem acg{a a1:Nat}(h0:a<=a1+1):a<=a1+1:=h0
theorem ach{a a1 b:Int}(h0:¬a<=a1):¬(b<=a/\a<=a1):=λh=>h0 h.2
theorem aci{a a1 b:Int}(h0:¬a<=a1)(h1:b<=a1+1):b<=a:=bM h1 (cu.mp h0)
theorem acj{a a1:Int}(h0:¬a<=a1):a1+1<=a:=cu.mp h0
theorem ack{a a1:Int}(h0:a<=1114111)(h1:¬a<=a1):¬a1=1114111:=λe=>h1 (e▸h0)
theorem acm{a:Nat}(h0:a<=190):a<=200:=aa h0 (by decide)
theorem acn{a a1:Nat}(h0:a<=190)(h1:a1<=a+1):a1<=250:=aa h1 (aa (aB h0) (by decide))
theorem aco{a a1 b:Nat}(h0:a<=a1)(h1:b<a):b≠a1:=cq (aw h1 h0)
theorem acp{a a1:Nat}(h0:a+4<a1):a<a1:=aA (aR a 4) h0
theorem acq{a a1:Nat}(h0:a+4<a1):a+1<a1:=aA (aD (by decide) a) h0
theorem acr{a a1:Nat}(h0:a+4<a1):a+2<a1:=aA (aD (by decide) a) h0
theorem acs{a a1 b:Nat}(h0:a<=a1+1)(h1:b<=a+2):b<=a1+3:=aa h1 (ar h0 2)
theorem acu{a:Nat}:a≠a+2:=cq (bI (by decide))
theorem acv{a:Nat}:a+1≠a+2:=cq (cB _)
theorem acw{a a1 b:Nat}(h0:a+4<a1)(h1:a1<=b):b≠a+2:=pf (aw (aA (aD (by decide) a) h0) h1)
theorem acx{b a1 a:Nat}(h0:b<=a1)(h1:a+4<b):a1≠a+2:=pf (aA (aD (by decide) a) (aw h1 h0))
theorem acy{a a1:Nat}(h0:a<a1):a≠a1:=cq h0
theorem acz{a a1:Nat}(h0:a<=a1):a<=a1:=h0
theorem acA{a a1 b:Nat}(h0:a<=a1)(h1:b<a):b<a1:=aw h1 h0
theorem acB{a a1:Nat}:a+3*(a1+1)=a+3+3*a1:=(bg a 3 (3*a1)).symm
theorem acC{a a1 b:Nat}(h0:a+3+3*a1<=193)(h1:a+3*b=a+3+3*a1):a<=190:=Nat.le_of_add_le_add_right (aa (aR (a+3) (3*a1)) h0)
theorem acD{a a1:Int}(h0:a<=a1)(h1:a1<1114111)(b:0<=a1+1):a-1<=1114111:=bM (tZ a (by decide)) (bM h0 (eZ h1))
theorem acE{a:Nat}(h0:a<=5):0+3*a<=193:=aa (bA (bO _)) (aa (bo 3 h0) (by decide))
theorem acF{a:Nat}(h0:a<=5):0+3*a<=30:=aa (bA (bO _)) (aa (bo 3 h0) (by decide))
theorem acG{a:Nat}(h0:a<=5):3+3*a<=193:=aa (aD (bo 3 h0) 3) (by decide)
theorem acH{a:Nat}(h0:a<=5):3+3*a<=30:=aa (aD (bo 3 h0) 3) (by decide)
theorem acI{a a1 b:Nat}(h0:a<4)(h1:(1+(↑a:Int)).toNat=1+a)(c:a1=b+(1+a)):0<0+(1+a):=by rw[bO];exact aw t5 (aR 1 a)
theorem acJ{a a1 b:Nat}(h0:a<4)(h1:(1+(↑a:Int)).toNat=1+a)(c:a1=b+(1+a)):0+(1+a)<=4:=by rw[bO,cE];exact h0
theorem acK{a a1 b:Nat}(h0:a+4*(a1+1)<b):a+4+4*a1<b:=aA (bA (bg a 4 (4*a1))) h0
theorem acL{b a1 a:Nat}(h0:b+(a1+1)<a):b<a:=aA (aR _ _) h0
theorem acM{b a1 a:Nat}(h0:b+(a1+1)<a):a1<a-b-1:=QX (QX (by rw[cE];exact h0))
theorem acN{a a1:Nat}:(↑a:Int)+1+(↑a1:Int)=(↑a:Int)+((↑a1:Int)+1):=(xS _ _ _).trans (congrArg (_+·) (pb _ _))
theorem acO{a:Nat}:¬(↑a:Int)<0:=bY.mpr (bb _)
theorem acP{a:Nat}:(↑a:Int)+1=(↑(a+1):Int):=rfl
theorem acQ{a:Nat}(h0:a<=100):a<=101:=aa h0 (by decide)
theorem acR{b a1 a:Nat}(h0:b<=100)(h1:a1<=101*(a+1)):b+(a1+1)<=101*(a+1+1):=aa (aW h0 (aB h1)) (bA (by rw[tD 101 (a+1),cE]))
theorem acS{a a1:Nat}(h0:a+2*(a1+1)<=50):a+2+2*a1<=50:=aa (bA (bg a 2 (2*a1))) h0
theorem acT{b a1 a:Nat}(h0:b<=a1+2):b+2*a<=a1+2*(a+1):=aa (ar h0 _) (bA (bg a1 2 (2*a)))
theorem acU{b a1:Nat}{a:Int}(h0:64<=b)(h1:a1+1<1114111)(d:a=(↑b:Int)-1\/a=(↑b:Int)\/a=(↑a1:Int)\/a=(↑a1:Int)+1)(c:b<=a1):0<=a/\a<=1114111:=have k1:(b:Int)<=1114110:=bW.mpr (aa c (gR (cL h1)));have k2:(a1:Int)+1<=1114111:=bW.mpr (bT h1);have z{n:Nat}{i:Int}(e:i=n)(h:(n:Int)<=1114111):0<=i/\i<=1114111:=e▸⟨bb n,h⟩;d.elim (λe=>e▸⟨Int.sub_nonneg_of_le (bW.mpr (aa (by decide) h0)),bM (tZ _ (by decide)) (bM k1 (by decide))⟩) λh=>h.elim (λe=>z e (bM k1 (by decide))) λh=>h.elim (λe=>z e (bM (wq (gU _)) k2)) λe=>z (n:=a1+1) e k2
theorem acV{a:Nat}(h0:a<1114111):(↑a:Int)<=1114111:=bW.mpr (bT h0)
theorem acW{a:Nat}(h0:a<=10):a<4096:=aA h0 (by decide)
theorem acX{a:Nat}:(↑a:Int)+16*(↑1:Int)=(↑(a+16):Int):=rfl
theorem acY{a:Nat}:a≠a+16:=cq (bI (by decide))
theorem acZ{a:Nat}:a+1<a+16:=Nat.add_lt_add_left (by decide) a
theorem ac0{a:Nat}(h0:4096<=a/\a+16<1114110):4096<=a/\a<1114110:=⟨h0.1,aA (aR _ _) h0.2⟩
theorem ac1{a a1:Nat}(h0:4096<=a/\a+16<1114110)(h1:a1=a):4096<=a1/\a1<1114110:=h1▸⟨h0.1,aA (aR _ _) h0.2⟩
theorem ac2{a a1:Nat}(h0:4096<=a/\a+16<1114110)(h1:a1=a+16):4096<=a1/\a1<1114110:=h1▸⟨aa h0.1 (aR _ _),h0.2⟩
theorem ac3{a:Nat}:0<=-1+(↑(a+1):Int):=bM (bb a) (Mx (by rw[n0,pb,xS];rfl))
theorem ac4{a:Nat}:(-1+(↑(a+1):Int)).toNat=a:=by rw[n0,pb,xS];rfl
theorem ac5{a a1:Nat}:(↑(a+(a1+1)):Int)-(↑a1:Int)-1=(↑a:Int):=by rw[Int.sub_sub,n0];exact Int.add_sub_cancel _ _
theorem ac6{a:Nat}(h0:¬63<(↑a:Int)):a<=63:=bW.mp (bY.mp h0)
theorem ac7{a:Nat}(h0:¬63<(↑a:Int)):a<=1000:=aa (bW.mp (bY.mp h0)) (by decide)
@[elab_as_elim]theorem lt1{P:Nat->Prop}{n:Nat}(h:n<1)(a:P 0):P n:=Nat.lt_one_iff.mp h▸a
theorem VS{P:Nat->Prop}{n k:Nat}(h:n<k+1)(a:P 0)(b:∀m,m<k->P (m+1)):P n:=by cases n with|zero=>exact a|succ n=>exact b n (tB h)
@[elab_as_elim]theorem Yb{P:Nat->Prop}{n:Nat}(h:n<2)(a:P 0)(b:P 1):P n:=VS h a λm h=>lt1 (P:=λm=>P (m+1)) h b
@[elab_as_elim]theorem lt3{P:Nat->Prop}{n:Nat}(h:n<3)(a:P 0)(b:P 1)(c:P 2):P n:=VS h a λm h=>Yb (P:=λm=>P (m+1)) h b c
@[elab_as_elim]theorem RG{P:Nat->Prop}{n:Nat}(h:n<4)(a:P 0)(b:P 1)(c:P 2)(d:P 3):P n:=VS h a λm h=>lt3 (P:=λm=>P (m+1)) h b c d
@[elab_as_elim]theorem lt8{P:Nat->Prop}{n:Nat}(h:n<8)(a:P 0)(b:P 1)(c:P 2)(d:P 3)(e:P 4)(f:P 5)(g:P 6)(i:P 7):P n:=VS h a λm h=>VS (P:=λm=>P (m+1)) h b λm h=>VS (P:=λm=>P (m+2)) h c λm h=>VS (P:=λm=>P (m+3)) h d λm h=>RG (P:=λm=>P (m+4)) h e f g i
@[elab_as_elim]theorem YI{c:Type}{P:List c->Prop}{l:List c}(h:l.length=2)(k:∀a b,P [a,b]):P l:=by cases l with|nil=>cases h|cons a l=>cases l with|nil=>cases h|cons b l=>cases l with|nil=>exact k a b|cons=>cases h
@[elab_as_elim]theorem ac8{d:Type}{P:List d->Prop}{l:List d}(h:l.length=3)(k:∀a b c,P [a,b,c]):P l:=by cases l with|nil=>cases h|cons a l=>exact YI (P:=λl=>P (a::l)) (AO h) (k a)
theorem RH{i:Int}{n:Nat}(h0:0<=i)(h:i<n):i.natAbs<n:=bX.mp ((Int.natAbs_of_nonneg h0).symm▸h)
theorem YJ{i:Int}(h:i.natAbs<4611686018427387904):i<2^64:=dT Int.le_natAbs (ea (bX.mpr h) (by decide))
theorem ac9{i:Int}(h:i.natAbs<4611686018427387904):-2^64<i:=Int.neg_lt_of_neg_lt (YJ (i:=-i) ((Int.natAbs_neg i).symm▸h))
theorem ada{a i k t:Nat}(h1:a-i=0)(h:i+(k+1)+(t+1)=a+1):False:=wt (a+1) (h▸aW (aW (MQ h1) (kL 1 k)) (kL 1 t))
theorem adb{a b:Nat}(h:(a:Int)<=(b:Int)+1/\(b:Int)+1<=b\/(a:Int)<=(a:Int)-1/\(a:Int)-1<=b):False:=h.elim (λh=>cu.mpr (Int.lt_succ _) h.2) λh=>cu.mpr (D4 _ (by decide)) h.1
theorem ade{a b x y:Nat}(c:a<=b)(h:b+1<x\/y+1<a)(k:(x:Int)<=(b:Int)+1/\(b:Int)+1<=y\/(x:Int)<=(a:Int)-1/\(a:Int)-1<=y):False:=h.elim (λh=>k.elim (λq=>cu.mpr (show(b:Int)+1<x from bX.mpr h) q.1) λq=>cu.mpr (ea (cR (D4 _ (by decide)) (bW.mpr c)) (bX.mpr (cL h))) q.1) λh=>k.elim (λq=>cu.mpr (cQ (bW.mpr (aa (bT (cL h)) c))) q.2) λq=>cu.mpr (Int.lt_sub_right_of_add_lt (show(y:Int)+1<a from bX.mpr h)) q.2
theorem YK{a b x y:Nat}{c:Int}(h1:(a:Int)<=c)(f:c<=b)(d:(x:Int)<=c/\c<=y)(e:b<x\/y<a):False:=e.elim (λk=>cu.mpr (bX.mpr k) (bM d.1 f)) λk=>cu.mpr (bX.mpr k) (bM h1 d.2)
theorem RI{a b:List Nat}(h:PV.str a=.str b):a=b:=by injection h
theorem nf{P:Prop}(h:false=true):P:=(aK h).elim
theorem RJ(a:PV):∀b:PV,a.lD b=true->a=b:=by
 refine PV.rec (motive_1:=λa=>∀b:PV,a.lD b=true->a=b) (motive_2:=λa=>∀b:List PV,pC a b=true->a=b) ?_ (λa=>?_) (λa=>?_) (λa=>?_) (λa=>?_) (λa e=>?_) (λa e=>?_) (λa=>?_) (λa=>?_) ?_ (λa r d c b=>by cases b with|nil=>exact nf|cons b s=>intro h;have h:=bF.mp (show(PV.lD a b&&pC r s)=true from h);rw[d _ h.1,c _ h.2]) a<;>intro b<;>cases b;any_goals exact nf
 ·exactλ_=>rfl
 ·exactλh=>congrArg PV.bool (eq_of_beq h)
 ·exactλh=>congrArg PV.int (eq_of_beq h)
 ·exactλh=>congrArg PV.str (eq_of_beq h)
 ·exactλh=>congrArg PV.bytes (eq_of_beq h)
 ·exactλh=>congrArg PV.bR (e _ h)
 ·exactλh=>congrArg PV.list (e _ h)
 ·exactλ_=>rfl
theorem CO{a b:PV}(h:a.lD b=true):a=b:=RJ a b h
theorem RK{a b:List PV}(h:pC a b=true):a=b:=by
 induction a generalizing b with
 |nil=>revert h;cases b<;>first|exactλ_=>rfl|exact nf
 |cons a r c=>revert h;cases b with|nil=>exact nf|cons b s=>intro h;have h:=bF.mp (show(PV.lD a b&&pC r s)=true from h);rw[CO h.1,c h.2]
open PySem PySem.W PySem.Calls PyProof.Rows PySem.SeqAt
abbrev OZ:=Addr->Option Obj
structure CP where
 a:Addr
 b:Addr
 I1:Int
structure Vw where
 z:OZ
 m:List CP
noncomputable abbrev vw(vs:List ai)(ep:Nat):Obj:=⟨.type "tuple",none,.seq vs.toArray ep,#[]⟩
noncomputable abbrev gc(vs:List ai)(ep:Nat):Obj:=⟨.type "list",none,.seq vs.toArray ep,#[]⟩
inductive YL(s:List Nat)(y:ai):Prop|mk(x:Str)(t:Tok)(e:y=.str x t)(c:x.cps.toList=s)(l:s.length<=eu)
inductive YM(s:List Nat)(y:ai):Prop|mk(x:Array UInt8)(t:Tok)(e:y=.bytes x t)(c:x.toList.map (·.toNat)=s)(l:s.length<=eu)
inductive CQ(v:Vw)(o:List ai->Nat->Obj)(P:List ai->Prop)(n:Nat)(y:ai):Prop|mk(a:Addr)(vs:List ai)(ep:Nat)(e:y=.ref a)(h:v.z a=some (o vs ep))(r:P vs)(l:n<=eu)
inductive adf(v:Vw)(is:List Int)(y:ai):Prop|mk(a:Addr)(o:Obj)(vs:List ai)(n:Nat)(e:y=.ref a)(h:v.z a=some o)(c:o.cls=.type "list")(d:o.data=.seq vs.toArray n)(i:IntsAre vs is)(l:is.length<=1000)
mutual noncomputable def VR(v:Vw):PV->ai->Prop|.none,y=>y=.none|.bool b,y=>y=.bool b|.int i,y=>∃t,y=.int i t|.str s,y=>YL s y|.bytes b,y=>YM b y|.bR xs,y=>CQ v vw (dt v xs) xs.length y|.list xs,y=>CQ v gc (dt v xs) xs.length y|.ref l,y=>∃p,v.m[l]?=some p/\y=.ref p.a|.CI is,y=>adf v is y noncomputable def dt(v:Vw):List PV->List ai->Prop|[],ys=>ys=[]|x::xs,ys=>∃y zs,ys=y::zs/\VR v x y/\dt v xs zs end
def Vw.Le(v u:Vw):Prop:=(∀a o,v.z a=some o->u.z a=some o)/\∀(i:Nat)p,v.m[i]?=some p->u.m[i]?=some p
theorem Vw.Le.refl(v:Vw):v.Le v:=⟨λ_ _ e=>e,λ_ _ e=>e⟩
theorem Vw.Le.trans{v u t:Vw}(h:v.Le u)(k:u.Le t):v.Le t:=⟨λa o e=>k.1 a o (h.1 a o e),λi p e=>k.2 i p (h.2 i p e)⟩
section
variable{v u:Vw}
theorem RL(k:v.Le u)(x:PV):∀y:ai,VR v x y->VR u x y:=by
 refine PV.rec (motive_1:=λx=>∀y:ai,VR v x y->VR u x y) (motive_2:=λxs=>∀ys:List ai,dt v xs ys->dt u xs ys) (λ_ h=>h) (λ_ _ h=>h) (λ_ _ h=>h) (λ_ _ h=>h) (λ_ _ h=>h) (λ_ j _ h=>?_) (λ_ j _ h=>?_) (λ_ _ h=>?_) (λ_ _ h=>?_) (λ_ h=>h) (λ_ _ g m _ h=>?_) x;·obtain⟨a,vs,ep,e,f,b,q⟩:=h;exact .mk a vs ep e (k.1 _ _ f) (j _ b) q
 ·obtain⟨a,vs,ep,e,f,b,q⟩:=h;exact .mk a vs ep e (k.1 _ _ f) (j _ b) q
 ·refine dq h λp e r=>?_;clear h;exact⟨p,k.2 _ _ e,r⟩
 ·obtain⟨a,o,vs,n,e,f,c,d,i,l⟩:=h;exact .mk a o vs n e (k.1 _ _ f) c d i l
 ·refine d0 h λy zs e s b=>?_;clear h;exact⟨y,zs,e,g _ s,m _ b⟩
theorem VR.eX(k:v.Le u){x:PV}{y:ai}(h:VR v x y):VR u x y:=RL k x y h
theorem dt.eX(k:v.Le u){xs:List PV}{ys:List ai}(h:dt v xs ys):dt u xs ys:=by induction xs generalizing ys with|nil=>exact h|cons _ _ c=>refine d0 h λy zs e b a=>?_;clear h;exact⟨y,zs,e,VR.eX k b,c a⟩
theorem dt.nil:dt v [] []:=rfl
theorem dt.cons{x y xs ys}(h:VR v x y)(r:dt v xs ys):dt v (x::xs) (y::ys):=⟨y,ys,rfl,h,r⟩
theorem dt.length{xs:List PV}:∀{ys:List ai},dt v xs ys->ys.length=xs.length:=by induction xs with|nil=>intro _ h;cases h;rfl|cons _ _ b=>intro _ h;refine d0 h λ_ _ a _ r=>?_;clear h;subst a;exact congrArg (·+1) (b r)
theorem dt.get{xs:List PV}{ys:List ai}{i:Nat}{x:PV}(h:dt v xs ys)(e:xs[i]?=some x):∃y,ys[i]?=some y/\VR v x y:=by induction xs generalizing ys i with|nil=>cases e|cons a l d=>refine d0 h λy _ b c r=>?_;clear h;subst b;cases i with|zero=>cases e;exact⟨y,rfl,c⟩|succ n=>have k:=d (i:=n) r e;exact k
theorem dt.VT{xs:List PV}{ys:List ai}{i:Nat}{y:ai}(h:dt v xs ys)(e:ys[i]?=some y):∃x,xs[i]?=some x/\VR v x y:=by have b:i<xs.length:=h.length▸(aU.mp e).1;refine dq (h.get (aX b)) λu a r=>?_;replace a:=e▸a;cases a;exact⟨_,aX b,r⟩
theorem dt.append{xs:List PV}:∀{zs:List PV}{ys us:List ai},dt v xs ys->dt v zs us->dt v (xs++zs) (ys++us):=by induction xs with|nil=>intro _ _ _ h k;cases h;exact k|cons _ _ c=>intro _ _ _ h k;refine d0 h λ_ _ a b r=>?_;clear h;subst a;exact dt.cons b (c r k)
theorem dt.take{xs:List PV}{ys:List ai}(n:Nat)(h:dt v xs ys):dt v (xs.take n) (ys.take n):=by induction xs generalizing ys n with|nil=>cases h;cases n<;>exact dt.nil|cons a l d=>cases n with|zero=>exact dt.nil|succ n=>refine d0 h λ_ _ b c r=>?_;clear h;subst b;exact dt.cons c (d n r)
theorem dt.drop{xs:List PV}{ys:List ai}(n:Nat)(h:dt v xs ys):dt v (xs.drop n) (ys.drop n):=by induction xs generalizing ys n with|nil=>cases h;cases n<;>exact dt.nil|cons a l c=>cases n with|zero=>exact h|succ n=>refine d0 h λ_ _ b d r=>?_;clear h;subst b;exact c n r
theorem dt.reverse{xs:List PV}:∀{ys:List ai},dt v xs ys->dt v xs.reverse ys.reverse:=by induction xs with|nil=>intro _ h;cases h;exact dt.nil|cons _ _ b=>intro _ h;obtain⟨_,_,rfl,a,r⟩:=h;rw[AP,AP];exact(b r).append (dt.cons a .nil)
theorem dt.set{xs:List PV}{ys:List ai}(n:Nat){x:PV}{y:ai}(h:dt v xs ys)(e:VR v x y):dt v (xs.set n x) (ys.set n y):=by induction xs generalizing ys n with|nil=>cases h;exact dt.nil|cons a l d=>refine d0 h λ_ _ b c r=>?_;clear h;subst b;cases n with|zero=>exact dt.cons e r|succ n=>exact dt.cons c (d n r)
theorem dt.replicate{xs:List PV}{ys:List ai}(h:dt v xs ys)(n):dt v (bL n xs).flatten (bL n ys).flatten:=by induction n with|zero=>exact dt.nil|succ n a=>exact h.append a
theorem dt.jO{x:PV}{ys:List ai}(h:dt v [x] ys):∃y,ys=[y]/\VR v x y:=by refine d0 h λy _ a b e=>?_;clear h;subst a;cases e;exact⟨y,rfl,b⟩
theorem dt.two{x z:PV}{ys:List ai}(h:dt v [x,z] ys):∃y u,ys=[y,u]/\VR v x y/\VR v z u:=by refine d0 h λy _ a c r=>?_;clear h;subst a;refine dq (dt.jO r) λu b d=>?_;subst b;exact⟨y,u,rfl,c,d⟩
theorem VR.Ng(i:Int)(t:Tok):VR v (.int i) (.int i t):=⟨t,rfl⟩
theorem VR.rH{b:List Nat}(x:Array UInt8)(t:Tok)(e:x.toList.map (·.toNat)=b)(a:b.length<=eu):VR v (.bytes b) (.bytes x t):=YM.mk _ _ rfl e a
theorem VR.CR{b:List Nat}(x:Str)(t:Tok)(e:x.cps.toList=b)(a:b.length<=eu):VR v (.str b) (.str x t):=YL.mk _ _ rfl e a
theorem VR.Nh{x:PV}(h:VR v x .none):x=.none:=by cases x with|none=>rfl|bool=>cases h|int=>obtain⟨_,h⟩:=h;cases h|str=>obtain⟨_,_,h⟩:=h;cases h|bytes=>obtain⟨_,_,h⟩:=h;cases h|bR=>obtain⟨_,_,_,h⟩:=h;cases h|list=>obtain⟨_,_,_,h⟩:=h;cases h|ref=>obtain⟨_,_,h⟩:=h;cases h|CI=>obtain⟨_,_,_,_,h⟩:=h;cases h
end
def Ad(c:List CP)(a:Addr):Prop:=∃q∈c,a=q.a\/a=q.b
theorem Ad.append{d c:List CP}{a:Addr}:Ad (d++c) a↔Ad d a\/Ad c a:=⟨λh=>by obtain⟨q,b,h⟩:=h;exact(bk.mp b).imp (λm=>⟨q,m,h⟩) λm=>⟨q,m,h⟩,λh=>h.elim (λh=>by obtain⟨q,b,h⟩:=h;exact⟨q,ct _ b,h⟩) λh=>by obtain⟨q,b,h⟩:=h;exact⟨q,cx _ b,h⟩⟩
theorem Ad.fst{b:List CP}{i:Nat}{p:CP}(h:b[i]?=some p):Ad b p.a:=⟨p,dp h,.inl rfl⟩
theorem Ad.snd{a:List CP}{i:Nat}{p:CP}(h:a[i]?=some p):Ad a p.b:=⟨p,dp h,.inr rfl⟩
theorem Ad.jO{p:CP}{a:Addr}(h:Ad [p] a):a=p.a\/a=p.b:=by obtain⟨q,c,h⟩:=h;cases ao.mp c;exact h
noncomputable def cI:Cl->Addr|.ph=>235|.xW=>450|.data=>506
noncomputable def atName:At->String|.uX=>"first"|.ti=>"last"|.fields=>"fields"|.fW=>"number"|.default=>"default"|.nc=>"starts"|.ng=>"values"|.ki=>"defaults"|.A4=>"maps"|.nh=>"properties"|.Ef=>"words"
def small:PV->Prop|.str s=>s.length<=eu|_=>True
inductive mB{K:Type}(qh:K->PV)(v:Vw):List (PV×PV)->List (K×ai)->Prop|nil:mB qh v [] []|cons{k:K}{p:PV}{y:ai}{es kvs}:small (qh k)->VR v p y->mB qh v es kvs->mB qh v ((qh k,p)::es) ((k,y)::kvs)
noncomputable def Bz(x:Str):PV:=.str x.cps.toList
noncomputable def Uw(i:Int):PV:=.int i
inductive pF(v:Vw):List (At×PV)->List gI->Prop|nil:pF v [] []|cons{a:At}{p:PV}{d:gI}{es ds}:(∃t,d.key=.str (Str.ofString (atName a)) t)->VR v p d.val->pF v es ds->pF v ((a,p)::es) (d::ds)
theorem mB.eX{K:Type}{c:K->PV}{v u:Vw}(k:v.Le u){d:List (PV×PV)}{kvs:List (K×ai)}(h:mB c v d kvs):mB c u d kvs:=by induction h with|nil=>exact .nil|cons a b _ e=>exact .cons a (b.eX k) e
theorem pF.eX{v u:Vw}(k:v.Le u){c:List (At×PV)}{ds:List gI}(h:pF v c ds):pF u c ds:=by induction h with|nil=>exact .nil|cons a b _ d=>exact .cons a (b.eX k) d
theorem jP:eu=1048576:=rfl
theorem mh:eu<=jD:=by rw[bN];decide
theorem eU(h:Heap):h.get? h.objs.size=none:=by cases q:h.get? h.objs.size with|none=>rfl|some o=>exact absurd (Heap.lt_size q) (fT _)
def Kp(h b:Heap):Prop:=∀a o,h.get? a=some o->b.get? a=some o
theorem Kp.refl(h:Heap):Kp h h:=λ_ _ e=>e
theorem Kp.push(h:Heap)(o:Obj):Kp h (h.push o):=λ_ _ e=>Heap.get?_push_of_some _ e
theorem Kp.trans{h c b:Heap}(x:Kp h c)(y:Kp c b):Kp h b:=λa o e=>y a o (x a o e)
theorem Kp.Es{h b:Heap}(x:Kp h b){a:Addr}(e:b.get? a=none):h.get? a=none:=by cases q:h.get? a with|none=>rfl|some o=>rw[x a o q]at e;cases e
structure Cx where
 prog:jj
 w:se
 h0:Heap
 K:Frag
 mg:Str->Option ai
 mb:Str->Option ai
 A0:K.In h0
 g:h0.Ns fU mg
 b:h0.Ns p9 mb
 lim:h0.NoLimit
 sys:∃a o,sysModules<a/\h0.get? a=some o
noncomputable abbrev Cx.M(C:Cx):CB:=dF C.prog C.w
structure ux{C:Cx}{K:Type}[DecidableEq K](knd:tE C.prog C.w K)(qh:K->PV):Prop where
 lD:∀a b,(qh a).lD (qh b)=decide (a=b)
 is:∀{v k y},VR v (qh k) y->knd.is k y=true
 vr:∀{v k y},knd.is k y=true->small (qh k)->VR v (qh k) y
 small:∀{v k y},VR v (qh k) y->small (qh k)
 same:∀k x,IV (qh k) x=true->∃k',x=qh k'
 nt:∀k xs,qh k≠.bR xs
theorem Ni(s:List Nat):PV.str s=Bz ⟨s.toArray⟩:=rfl
theorem CS{x y:Str}(h:x.cps.toList=y.cps.toList):x=y:=by cases x;cases y;exact congrArg Str.mk (mJ.mp h)
theorem I2(C:Cx):ux (tG C.prog C.w) Bz where
 lD:=λa b=>by
  show(a.cps.toList==b.cps.toList)=_;by_cases q:a=b;·rw[q,decide_eq_true rfl,beq_self_eq_true]
  ·rw[decide_eq_false q];exact beq_eq_false_iff_ne.mpr λe=>q (CS e)
 is:=λ{v k y}h=>by obtain⟨x,t,rfl,e⟩:=h;rw[CS e];exact tH _ _ _ _
 vr:=λ{v k y}h d=>by obtain⟨t,rfl⟩:=ai.isStrOf_shape (show ai.isStrOf k y=true from h);exact VR.CR k t rfl d
 small:=λ{v k y}h=>by obtain⟨_,_,_,_,c⟩:=h;exact c
 same:=λk x h=>by cases x<;>first|exact(aK h).elim|exact⟨_,Ni _⟩
 nt:=λ_ _ h=>by injection h
theorem Ux(C:Cx):ux (intKind C.prog C.w) Uw where
 lD:=λa b=>by
  show(a==b)=_;by_cases q:a=b;·rw[q,decide_eq_true rfl,beq_self_eq_true]
  ·rw[decide_eq_false q];exact beq_eq_false_iff_ne.mpr q
 is:=λ{v k y}h=>by obtain⟨t,rfl⟩:=h;exact intKind_is _ _ _ _
 vr:=λ{v k y}h _=>by obtain⟨t,rfl⟩:=ai.isInt_shape (show ai.isInt k y=true from h);exact VR.Ng k t
 small:=λ_=>trivial
 same:=λk x h=>by cases x<;>first|exact(aK h).elim|exact⟨_,rfl⟩
 nt:=λ_ _ h=>by injection h
section
variable{C:Cx}{K:Type}[DecidableEq K]{knd:tE C.prog C.w K}{qh:K->PV}{v:Vw}
theorem mB.length{a:List (PV×PV)}{kvs:List (K×ai)}(h:mB qh v a kvs):kvs.length=a.length:=by induction h with|nil=>rfl|cons _ _ _ b=>exact congrArg (·+1) b
inductive Nj(v:Vw):Option PV->Option ai->Prop|none:Nj v none none|some{p:PV}{y:ai}:VR v p y->Nj v (some p) (some y)
theorem mB.eH(d:ux knd qh)(k:K){a:List (PV×PV)}{kvs:List (K×ai)}(h:mB qh v a kvs):Nj v (dw (qh k) a) (mZ kvs k):=by
 induction h with
 |nil=>exact .none
 |@cons c p y a kvs _ b _ e=>
  rw[wJ,d.lD];by_cases q:c=k;·rw[decide_eq_true q,if_pos rfl,show mZ ((c,y)::kvs) k=some y by simp[mZ,q]];exact .some b
  ·rw[decide_eq_false q,if_neg aK,show mZ ((c,y)::kvs) k=mZ kvs k by simp[mZ,q]];exact e
theorem Kr{a:K×ai}{r:List (K×ai)}{k:K}{y:ai}(q:a.1≠k):gY (a::r) k y=a::gY r k y:=by
 unfold gY;rw[IH,decide_eq_false q,II];split;·rw[aM,if_neg q]
 ·rfl
theorem Ks{a:K×ai}{r:List (K×ai)}{k:K}{y:ai}(q:a.1=k)(b:((a::r).map (·.1)).Nodup):gY (a::r) k y=(a.1,y)::r:=by unfold gY;rw[aM,gJ]at b;rw[if_pos (by simp[q]),aM,if_pos q,map_store_of_not_mem _ _ _ (q▸b.1)]
theorem mB.xX(g:ux knd qh){k:K}{p:PV}{y:ai}(j:small (qh k))(f:VR v p y){d:List (PV×PV)}{kvs:List (K×ai)}(h:mB qh v d kvs):(kvs.map (·.1)).Nodup->mB qh v (q7 (qh k) p d) (gY kvs k y):=by
 induction h with
 |nil=>exactλ_=>.cons j f .nil
 |@cons l m n d kvs a b c i=>
  intro e;rw[yT,g.lD];by_cases q:l=k;·rw[decide_eq_true q,if_pos rfl,Ks q e];exact .cons a f c
  ·rw[decide_eq_false q,if_neg aK,Kr q];exact .cons a b (i (gJ.mp e).2)
theorem mB.get{f:List (PV×PV)}{kvs:List (K×ai)}(h:mB qh v f kvs):∀{i:Nat}{d:K×ai},kvs[i]?=some d->∃p,f[i]?=some (qh d.1,p)/\small (qh d.1)/\VR v p d.2:=by induction h with|nil=>exactλe=>by injection e|@cons l g k f kvs a b c j=>intro i d e;cases i with|zero=>cases e;exact⟨g,rfl,a,b⟩|succ i=>have r:=j (i:=i) e;exact r
end
section
variable(C:Cx)(v:Vw)(h:Heap)(p:CP)
inductive xx(es:List (PV×PV)):Prop|mk{K:Type}[d:DecidableEq K]{knd:tE C.prog C.w K}{qh:K->PV}{kvs:List (K×ai)}{ep:Nat}(ok:ux knd qh)(bK:h.DictAt knd p.a kvs ep)(en:mB qh v es kvs)(n:(ep:Int)=es.length+p.I1):xx es
inductive Uy(es:List (PV×PV))(x:PV)(y:ai):Prop|mk{K:Type}[d:DecidableEq K]{knd:tE C.prog C.w K}{qh:K->PV}{kvs:List (K×ai)}{ep:Nat}{k:K}(ok:ux knd qh)(bK:h.DictAt knd p.a kvs ep)(en:mB qh v es kvs)(n:(ep:Int)=es.length+p.I1)(e:x=qh k)(i:knd.is k y=true):Uy es x y
structure qO(es:List (PV×PV)):Prop where
 ab:p.b=p.a
 nV:es.length<=5000
 ns:(p.a==sysModules)=false
 bK:xx C v h p es
structure I3(c:Cl)(fs:List (At×PV)):Prop where
 ab:p.a≠p.b
 bK:h.get? p.a=some (instObj (cI c) p.b)
 q8:∃ds n,h.get? p.b=some (dictOf ds n)/\pF v fs ds/\ds.length<=100
structure I4(cs:List Int)(m:Int):Prop where
 ab:p.a≠p.b
 nV:cs.length<=1000
 sm:m.natAbs<2147483648
 YN:∃vs ep,h.get? p.b=some (gc vs ep)/\IntsAre vs cs.reverse
 bK:∃t,h.DictOf (tG C.prog C.w) p.a [(Str.ofString "cells",.ref p.b),(Str.ofString "mixed",.int m t)]
def vx:jt->Prop|.dict es=>qO C v h p es|.inst c fs=>I3 v h p c fs|.cK cs m=>I4 C h p cs m
end
section
variable{C:Cx}{v u:Vw}{h h':Heap}{p:CP}
theorem vx.eX{c:jt}(k:v.Le u)(f:∀o,h.get? p.a=some o->h'.get? p.a=some o)(g:∀o,h.get? p.b=some o->h'.get? p.b=some o)(x:vx C v h p c):vx C u h' p c:=by cases c with|dict l=>exact{x with bK:=by obtain⟨i,e,d,j⟩:=qO.bK x;exact .mk i (e.at' f) (d.eX k) j}|inst c fs=>exact⟨x.ab,f _ x.bK,by obtain⟨ds,n,h1,e,d⟩:=x.q8;exact⟨ds,n,g _ h1,e.eX k,d⟩⟩|cK cs m=>exact⟨x.ab,x.nV,x.sm,by obtain⟨vs,ep,h1,e⟩:=x.YN;exact⟨vs,ep,g _ h1,e⟩,by obtain⟨t,d⟩:=x.bK;exact⟨t,d.at f⟩⟩
theorem y7{K:Type}[DecidableEq K]{knd:tE C.prog C.w K}{a:Addr}{kvs:List (K×ai)}(x:h.DictOf knd a kvs):∃o,h.get? a=some o:=by refine IU x λo _ _ b _=>?_;clear x;exact⟨o,b⟩
theorem vx.Et{c:jt}(x:vx C v h p c):(∃o,h.get? p.a=some o)/\∃o,h.get? p.b=some o:=by
 cases c with
 |dict e=>
  have r:∃o,h.get? p.a=some o:=by obtain⟨_,d,_,_⟩:=qO.bK x;exact y7 d.dictOf
  exact⟨r,(qO.ab x).symm▸r⟩
 |inst c fs=>exact⟨⟨_,x.bK⟩,by obtain⟨_,_,h1,_⟩:=x.q8;exact⟨_,h1⟩⟩
 |cK cs m=>exact⟨by obtain⟨_,r⟩:=x.bK;exact y7 r,by obtain⟨_,_,h1,_⟩:=x.YN;exact⟨_,h1⟩⟩
theorem y8{K d:Type}[DecidableEq K][DecidableEq d]{knd:tE C.prog C.w K}(b:tE C.prog C.w d){a:Addr}{ep:Nat}(x:h.DictAt knd a [] ep):h.DictAt b a [] ep:=by refine Ee x λo k i g j f c l=>?_;clear x;have e:k=#[]:=mJ.mp (List.length_eq_zero_iff.mp (by have:=c.length;simpa using this));clear f c;subst e;exact⟨o,#[],i,g,j,λ_ h=>by simp at h,.nil,qa⟩
theorem Nk{x:PV}(h:IV x x=true):(∃s,x=Bz s)\/∃i,x=Uw i:=by cases x<;>first|exact .inl ⟨_,Ni _⟩|exact .inr ⟨_,rfl⟩|exact(aK h).elim
theorem xx.by{j:List (PV×PV)}{x:PV}{y:ai}(n:xx C v h p j)(e:iU x j=true)(l:VR v x y):Uy C v h p j x y:=by
 obtain⟨d,f,m,g⟩:=n;obtain⟨k1,k2⟩:=bF.mp e;cases m with
 |nil=>
  clear e k2;rcases Nk k1 with⟨s,rfl⟩|⟨i,rfl⟩;·exact .mk (I2 C) (y8 _ f) .nil g rfl ((I2 C).is l)
  ·exact .mk (Ux C) (y8 _ f) .nil g rfl ((Ux C).is l)
 |cons a b c=>clear k1 e;obtain⟨k,rfl⟩:=d.same _ _ (bF.mp k2).1;exact .mk d f (.cons a b c) g rfl (d.is l)
end
structure Cf where
 v:Vw
 t:aH
 s:ak
noncomputable abbrev Cf.h(g:Cf):Heap:=g.s.heap
noncomputable def frames(k:List aI):List Addr:=k.filterMap (·.frame)
structure YO(C:Cx)(g:Cf)(L:Addr):Prop where
 h0:C.h0.get? L=none
 z:g.v.z L=none
 m:¬Ad g.v.m L
 ns:∃m,g.h.Ns L m
structure Frm(C:Cx)(g:Cf)(env:aI):Prop where
 kind:env.scope.kind=.function
 bK:∃L,env.frame=some L/\YO C g L
structure St(C:Cx)(k:List aI)(g:Cf):Prop where
 vy:∀a o,C.h0.get? a=some o->g.v.z a=some o
 fz:∀a o,g.v.z a=some o->g.h.get? a=some o
 iG:g.t.length=g.v.m.length
 cell:∀(i:Nat)c p,g.t[i]?=some c->g.v.m[i]?=some p->vx C g.v g.h p c
 apart:∀(i j:Nat)p q,g.v.m[i]?=some p->g.v.m[j]?=some q->i≠j->p.a≠q.a/\p.a≠q.b/\p.b≠q.a/\p.b≠q.b
 I1:∀a,Ad g.v.m a->g.v.z a=none
 qi:∀env∈k,Frm C g env
theorem y9{k:List aI}{L:Addr}(h:L∈frames k):∃env∈k,env.frame=some L:=eP.mp h
namespace St
variable{C:Cx}{k:List aI}{g g':Cf}{a:Addr}{o:Obj}
theorem keep(x:St C k g):Kp C.h0 g.h:=λa o e=>x.fz a o (x.vy a o e)
theorem Et(x:St C k g)(h:Ad g.v.m a):∃o,g.h.get? a=some o:=by
 obtain⟨q,d,e⟩:=h;obtain⟨i,c⟩:=List.mem_iff_getElem?.mp d;have b:i<g.t.length:=by rw[x.iG];exact(aU.mp c).1
 have r:=(x.cell i _ q (aX b) c).Et;rcases e with rfl|rfl;·exact r.1
 ·exact r.2
theorem fM(x:St C k g)(h:g.h.get? a=none):¬Ad g.v.m a:=λq=>by refine zE (x.Et q) λo e=>?_;replace e:=h▸e;cases e
theorem gO(x:St C k g)(h:g.h.get? a=none):g.v.z a=none:=by cases q:g.v.z a with|none=>rfl|some o=>replace h:=x.fz a o q▸h;cases h
theorem frame(x:St C k g)(h:a∈frames k):YO C g a:=by refine dq (y9 h) λenv c e=>?_;refine dq ((x.qi env c).bK) λL b r=>?_;replace b:=e▸b;cases b;exact r
theorem dP(x:St C k g)(c:g.h.get? a=some o)(f:∀b ep,o.data≠.dict b ep):a∉frames k:=λh=>by refine sv ((x.frame h).ns) λm i b ep e d _=>?_;replace e:=c▸e;cases e;exact f b ep d
theorem oq(x:St C k g)(h:a∈frames k):∃o,g.h.get? a=some o:=by refine sv ((x.frame h).ns) λm b c ep e d _=>?_;exact⟨_,e⟩
theorem lH(x:St C k g)(h:g.h.get? a=none):a∉frames k:=λq=>by obtain⟨o,e⟩:=x.oq q;rw[h]at e;cases e
theorem bK(x:St C k g){l:Nat}{c:jt}(e:g.t[l]?=some c):∃p,g.v.m[l]?=some p/\vx C g.v g.h p c:=by
 have b:l<g.v.m.length:=by rw[<-x.iG];exact(aU.mp e).1
 exact⟨_,aX b,x.cell l c _ e (aX b)⟩
theorem iu(x:St C k g){s':ak}(b:Kp g.h s'.heap):St C k ⟨g.v,g.t,s'⟩where vy:=x.vy;fz:=λa o e=>b a o (x.fz a o e);iG:=x.iG;cell:=λi c p e q=>(x.cell i c p e q).eX (.refl _) (λo e=>b _ o e) λo e=>b _ o e;apart:=x.apart;I1:=x.I1;qi:=λenv h=>⟨(x.qi env h).kind,by refine dq ((x.qi env h).bK) λL e r=>?_;exact⟨L,e,r.h0,r.z,r.m,by obtain⟨m,n⟩:=r.ns;exact⟨m,n.keeps b⟩⟩⟩
end St
noncomputable def iP(v:Vw)(a:Addr)(o:Obj):Vw:=⟨λb=>if b=a then some o else v.z b,v.m⟩
theorem mi{v:Vw}{a:Addr}{o:Obj}(h:v.z a=none):v.Le (iP v a o):=⟨λb c e=>by show(if b=a then _ else _)=_;rw[if_neg λq=>by rw[q,h]at e;cases e];exact e,λ_ _ e=>e⟩
theorem pG{v:Vw}{a b:Addr}{o:Obj}(h:b≠a):(iP v a o).z b=v.z b:=if_neg h
theorem St.qp{C:Cx}{k:List aI}{g:Cf}(x:St C k g){a:Addr}{o:Obj}(f:g.h.get? a=some o)(hz:g.v.z a=none)(l:¬Ad g.v.m a)(j:a∉frames k):St C k ⟨iP g.v a o,g.t,g.s⟩where
 vy:=λb d e=>(mi hz).1 b d (x.vy b d e)
 fz:=λb d e=>by
  by_cases q:b=a;·cases(if_pos q).symm.trans e;refine zl q ?_;exact f
  ·exact x.fz b d ((pG q).symm.trans e)
 iG:=x.iG
 cell:=λi c p e q=>(x.cell i c p e q).eX (mi hz) (λ_ e=>e) λ_ e=>e
 apart:=x.apart
 I1:=λb h=>(pG (a:=a) (b:=b) λq=>l (q▸h)).trans (x.I1 b h)
 qi:=λenv h=>⟨(x.qi env h).kind,by refine dq ((x.qi env h).bK) λL e r=>?_;exact⟨L,e,r.h0,(pG (a:=a) (b:=L) λq=>j (q▸eP.mpr ⟨env,h,e⟩)).trans r.z,r.m,r.ns⟩⟩
structure Or where
 F:List Addr
 W:Addr->Prop
 g:Cf
abbrev Or.at(k:List aI)(g:Cf):Or:=⟨frames k,λ_=>False,g⟩
structure BA(o:Or)(g:Cf):Prop where
 le:o.g.v.Le g.v
 zn:∀a,o.g.v.z a=none->g.v.z a≠none->o.g.h.get? a=none\/o.W a
 ad:∀a,Ad g.v.m a->Ad o.g.v.m a\/o.g.h.get? a=none
 keep:∀a b,o.g.h.get? a=some b->¬Ad o.g.v.m a->a∉o.F->¬o.W a->g.h.get? a=some b
 qi:∀a∈o.F,∀m,o.g.h.Ns a m->g.h.Ns a m
 dO:∀a,g.h.get? a=none->o.g.h.get? a=none
 gens:g.s.gens=o.g.s.gens
 os:g.s.os=o.g.s.os
structure Rn(C:Cx)(k:List aI)(o:Or)(g:Cf):Prop where
 st:St C k g
 dD:BA o g
namespace BA
variable{o:Or}{g g':Cf}{a:Addr}{b:Obj}{F:List Addr}{W:Addr->Prop}
theorem refl(F:List Addr)(W:Addr->Prop)(g:Cf):BA ⟨F,W,g⟩ g:=⟨.refl _,λ_ e q=>absurd e q,λ_ h=>.inl h,λ_ _ e _ _ _=>e,λ_ _ _ e=>e,λ_ e=>e,rfl,rfl⟩
theorem RN(x:BA o g)(h:¬Ad o.g.v.m a)(e:o.g.h.get? a=some b):¬Ad g.v.m a:=λq=>(x.ad a q).elim h λq=>by replace q:=e▸q;cases q
theorem za(x:BA o g)(h:o.g.v.z a=none)(e:o.g.h.get? a=some b)(w:¬o.W a):g.v.z a=none:=by cases q:g.v.z a with|none=>rfl|some c=>exact((x.zn a h λy=>by replace y:=q▸y;cases y).elim (λy=>by replace y:=e▸y;cases y) w).elim
theorem trans(x:BA o g)(y:BA ⟨F,W,g⟩ g')(d:∀a,a∈F\/W a->a∈o.F\/o.W a\/o.g.h.get? a=none)(i:∀a,W a->o.W a\/o.g.h.get? a=none)(j:∀a∈o.F,a∈F):BA o g' where
 le:=x.le.trans y.le
 zn:=λa e q=>by cases c:g.v.z a with|none=>exact(y.zn a c q).elim (λh=>.inl (x.dO a h)) λh=>(i a h).symm|some _=>exact x.zn a e λh=>by replace h:=c▸h;cases h
 ad:=λa h=>(y.ad a h).elim (x.ad a) λh=>.inr (x.dO a h)
 keep:=λa b e h f w=>by
  have n:¬(a∈F\/W a):=λq=>(d a q).elim f λq=>q.elim w λq=>by replace q:=e▸q;cases q
  exact y.keep a b (x.keep a b e h f w) (x.RN h e) (λq=>n (.inl q)) λq=>n (.inr q)
 qi:=λa h m e=>y.qi a (j a h) m (x.qi a h m e)
 dO:=λa e=>x.dO a (y.dO a e)
 gens:=y.gens.trans x.gens
 os:=y.os.trans x.os
theorem iu(x:BA o g){s':ak}{t:aH}(c:Kp g.h s'.heap)(d:s'.gens=g.s.gens)(i:s'.os=g.s.os):BA o ⟨g.v,t,s'⟩:={x with keep:=λa b e h f w=>c a b (x.keep a b e h f w),qi:=λa h m e=>(x.qi a h m e).keeps c,dO:=λa e=>x.dO a (c.Es e),gens:=d.trans x.gens,os:=i.trans x.os}
theorem qp(x:BA o g){t:aH}(hz:g.v.z a=none)(d:o.g.h.get? a=none\/o.W a):BA o ⟨iP g.v a b,t,g.s⟩:={x with
 le:=x.le.trans (mi hz)
 zn:=λc e q=>by
  by_cases h:c=a;·refine zl h ?_;exact d
  ·exact x.zn c e λy=>q ((pG h).trans y)}
end BA
section
variable{C:Cx}{k:List aI}{o:Or}{g:Cf}{p:CP}{c:jt}
theorem Rn.iu(x:Rn C k o g){s':ak}(a:Kp g.h s'.heap)(b:s'.gens=g.s.gens)(d:s'.os=g.s.os):Rn C k o ⟨g.v,g.t,s'⟩:=⟨x.st.iu a,x.dD.iu a b d⟩
theorem yC{a:Type}{l:List a}{x y:a}{i:Nat}(e:(l++[x])[i]?=some y):l[i]?=some y\/(i=l.length/\y=x):=by
 rcases Nat.lt_trichotomy i l.length with h|rfl|h;·rw[dG h]at e;exact .inl e
 ·simp at e;exact .inr ⟨rfl,e.symm⟩
 ·rw[uR (by simp;exact o25 h)]at e;cases e
theorem yD(v:Vw)(p:CP):v.Le ⟨v.z,v.m++[p]⟩:=⟨λ_ _ e=>e,λi q e=>by rw[dG (aU.mp e).1];exact e⟩
theorem Rn.push(x:Rn C k o g)(G:vx C ⟨g.v.z,g.v.m++[p]⟩ g.h p c)(hz:g.v.z p.a=none/\g.v.z p.b=none)(l:¬Ad g.v.m p.a/\¬Ad g.v.m p.b)(D:p.a∉frames k/\p.b∉frames k)(A:o.g.h.get? p.a=none/\o.g.h.get? p.b=none):Rn C k o ⟨⟨g.v.z,g.v.m++[p]⟩,g.t++[c],g.s⟩where
 st:={x.st with
  iG:=by refine zl ah ?_;refine zl ah ?_;refine zl x.st.iG ?_;rfl
  cell:=λi J B e q=>by
   have H:=x.st.iG;clear hz l D A;rcases yC e with n|⟨F,rfl⟩<;>rcases yC q with w|⟨E,rfl⟩;·exact(x.st.cell i J B n w).eX (yD _ _) (λ_ e=>e) λ_ e=>e
   ·exact absurd (aU.mp n).1 (jB.mpr (bA (H.trans E.symm)))
   ·exact absurd (aU.mp w).1 (jB.mpr (bA (H.symm.trans F.symm)))
   ·exact G
  apart:=λi j B q' e q u=>by
   have f:∀(i:Nat)q',g.v.m[i]?=some q'->p.a≠q'.a/\p.a≠q'.b/\p.b≠q'.a/\p.b≠q'.b:=λi q' e=>⟨λy=>l.1 (y▸Ad.fst e),λy=>l.1 (y▸Ad.snd e),λy=>l.2 (y▸Ad.fst e),λy=>l.2 (y▸Ad.snd e)⟩;clear G hz l D A;rcases yC e with n|⟨F,rfl⟩<;>rcases yC q with w|⟨E,rfl⟩;·exact x.st.apart i j B q' n w u
   ·refine t9 (f i B n) λa b c d=>?_;exact⟨a.symm,c.symm,b.symm,d.symm⟩
   ·exact f j q' w
   ·exact absurd (F.trans E.symm) u
  I1:=λa h=>(Ad.append.mp h).elim (x.st.I1 a) λh=>h.jO.elim (λe=>e▸hz.1) λe=>e▸hz.2
  qi:=λenv h=>⟨(x.st.qi env h).kind,by refine dq ((x.st.qi env h).bK) λL e r=>?_;exact⟨L,e,r.h0,r.z,λq=>(Ad.append.mp q).elim r.m λq=>have I:L∈frames k:=eP.mpr ⟨env,h,e⟩;q.jO.elim (λe=>D.1 (e▸I)) λe=>D.2 (e▸I),r.ns⟩⟩}
 dD:={x.dD with le:=x.dD.le.trans (yD _ _),ad:=λa h=>(Ad.append.mp h).elim (x.dD.ad a) λh=>.inr (h.jO.elim (λe=>e▸A.1) λe=>e▸A.2)}
theorem Rn.xX(x:Rn C k o g)(I:∀a∈o.F,a∈frames k){l:Nat}{s':ak}(j:g.v.m[l]?=some p)(D:vx C g.v s'.heap p c)(u:∀b d,b≠p.a->b≠p.b->g.h.get? b=some d->s'.heap.get? b=some d)(M:s'.gens=g.s.gens)(G:s'.os=g.s.os):Rn C k o ⟨g.v,g.t.set l c,s'⟩:=by
 have A:∀{a},¬Ad g.v.m a->∀d,g.h.get? a=some d->s'.heap.get? a=some d:=λn d e=>u _ d (λq=>n (q▸Ad.fst j)) (λq=>n (q▸Ad.snd j)) e;have P:∀a∈frames k,¬Ad g.v.m a:=λa h=>(x.st.frame h).m;exact{
  st:={x.st with
   fz:=λa d e=>A (λq=>by replace e:=x.st.I1 a q▸e;cases e) d (x.st.fz a d e)
   iG:=by refine zl t6 ?_;exact x.st.iG
   cell:=λi J E e q=>by
    by_cases y:i=l;·subst y;replace q:=j▸q;cases q;have B:=(aU.mp e).1;replace B:=t6▸B;replace e:=My B▸e;cases e;exact D
    ·replace e:=QY (dB y)▸e;refine t9 (x.st.apart i l E p q j y) λH K O N=>?_;exact(x.st.cell i J E e q).eX (.refl _) (λd=>u _ d H K) λd=>u _ d O N
   qi:=λenv h=>⟨(x.st.qi env h).kind,by refine dq ((x.st.qi env h).bK) λL e r=>?_;exact⟨L,e,r.h0,r.z,r.m,by obtain⟨m,n⟩:=r.ns;exact⟨m,n.at' (A r.m)⟩⟩⟩}
  dD:={x.dD with
   keep:=λa b e h f w=>A (x.dD.RN h e) b (x.dD.keep a b e h f w)
   qi:=λa h m e=>(x.dD.qi a h m e).at' (A (P a (I a h)))
   dO:=λa e=>x.dD.dO a (by
    by_cases q1:a=p.a;·refine zE D.Et.1 λd y=>?_;replace e:=q1▸e;replace e:=y▸e;cases e
    ·by_cases q2:a=p.b;·refine zE D.Et.2 λd y=>?_;replace e:=q2▸e;replace e:=y▸e;cases e
     ·cases q:g.h.get? a with|none=>rfl|some d=>replace e:=u a d q1 q2 q▸e;cases e)
   gens:=M.trans x.dD.gens
   os:=G.trans x.dD.os}}
theorem St.touch(x:St C k g){W:Addr->Prop}{s':ak}(j:∀b,W b->g.v.z b=none/\¬Ad g.v.m b)(f:∀b d,¬W b->g.h.get? b=some d->s'.heap.get? b=some d)(l:∀b∈frames k,W b->∃m,s'.heap.Ns b m):St C k ⟨g.v,g.t,s'⟩:={x with
 fz:=λa d e=>f a d (λq=>by replace e:=(j a q).1▸e;cases e) (x.fz a d e)
 cell:=λi c p e q=>(x.cell i c p e q).eX (.refl _) (λd=>f _ d λy=>(j _ y).2 (Ad.fst q)) λd=>f _ d λy=>(j _ y).2 (Ad.snd q)
 qi:=λenv h=>⟨(x.qi env h).kind,by
  refine dq ((x.qi env h).bK) λL e r=>?_;exact⟨L,e,r.h0,r.z,r.m,by
   by_cases q:W L;·exact l L (eP.mpr ⟨env,h,e⟩) q
   ·obtain⟨m,n⟩:=r.ns;exact⟨m,n.at' λo=>f L o q⟩⟩⟩}
theorem St.pop{env:aI}(x:St C (env::k) g):St C k g:={x with qi:=λe h=>x.qi e (.tail _ h)}
end
noncomputable def badAddr:Addr:=64
noncomputable abbrev toldS:Str:=Str.ofString "told"
inductive Tb(b:Heap)(fl:ai->Prop)(g:Cf)(x:Option ai)(e d:Addr):Prop|none(h:x=some .none)|some(T:Addr)(oT:Obj)(ts:Array ai)(y:ai)(h:x=some (.ref T))(he:T≠e)(hd:T≠d)(hb:b.get? T=none)(ho:g.h.get? T=some oT)(ht:oT.data=.fields ts)(h3:ts[3]?=some y)(hy:fl y)(hz:g.v.z T=none)(hm:¬Ad g.v.m T)
inductive RO(b:Heap)(fs:List Addr)(fl:ai->Prop)(g:Cf)(e:Addr)(told:PV):Prop|mk(d:Addr)(vs:Array ai)(y:ai)(t:Tok)(hs:Int)(n:Nat)(sl:Array (Option ai))(he:g.h.get? e=some ⟨.ref badAddr,some d,.fields vs,sl⟩)(hd:g.h.get? d=some (dictOf [⟨hs,.str toldS t,y⟩] n))(hv:VR g.v told y)(be:b.get? e=none)(bd:b.get? d=none)(sz:1<vs.size)(ze:g.v.z e=none)(me:¬Ad g.v.m e)(ed:e≠d)(df:d∉fs)(tb:Tb b fl g vs[1]? e d)
theorem RO.pH{b l:Heap}{fs:List Addr}{j i:ai->Prop}{g:Cf}{e:Addr}{f:PV}(x:RO l fs j g e f)(k:∀a,l.get? a=none->b.get? a=none)(m:∀v,j v->i v):RO b fs i g e f:=by obtain⟨d,vs,y,t,L,n,sl,u,I,B,r,z,J,C,K,H,q,s⟩:=x;exact⟨d,vs,y,t,L,n,sl,u,I,B,k _ r,k _ z,J,C,K,H,q,by cases s with|none h=>exact .none h|some T w E y h a c F p A D o hz G=>exact .some T w E y h a c (k _ F) p A D (m _ o) hz G⟩
structure Kt(α β:Type)where
 r:Heap->α->β->Cf->Prop
 pH:∀{b b' x y g},(∀a,b'.get? a=none->b.get? a=none)->r b' x y g->r b x y g
inductive yc(N:Addr->Prop)(p:PV)(y:ai)(g:Cf):Prop|mk(xs:List PV)(a:Addr)(vs:List ai)(ep:Nat)(hp:p=.list xs)(hy:y=.ref a)(ho:g.h.get? a=some (gc vs ep))(hv:dt g.v xs vs)(hl:xs.length<=eu)(hb:N a)(hz:g.v.z a=none)(hm:¬Ad g.v.m a)
abbrev VU(b:Heap)(p:PV)(y:ai)(g:Cf):Prop:=yc (λa=>b.get? a=none) p y g
def oL(b:Heap)(x:Bool×PV)(y:ai)(g:Cf):Prop:=match x.1 with|false=>VR g.v x.2 y|true=>VU b x.2 y g
noncomputable def resR:Kt (Bool×PV) ai where r:=oL;pH:=λ{b m x y g}k r=>by obtain⟨f,p⟩:=x;cases f with|false=>exact r|true=>obtain⟨xs,a,vs,ep,i,c,d,l,j,e,hz,h⟩:=r;exact⟨xs,a,vs,ep,i,c,d,l,j,k _ e,hz,h⟩
noncomputable def valsR:Kt (List PV) (List ai):=⟨λ_ p y g=>dt g.v p y,λ_ r=>r⟩
noncomputable def eqR{c:Type}:Kt c c:=⟨λ_ a b _=>a=b,λ_ r=>r⟩
section
variable(C:Cx)(k:List aI)(o:Or){σ α β:Type}
inductive Ok(R:Kt α β)(r:jb aH α)(y:β)(s:ak):Prop|mk(a:α)(g:Cf)(e:g.s=s)(ho:r=.ok a g.t)(bK:Rn C k o g)(rel:R.r o.g.h a y g)
inductive Ex(fl:ai->Prop)(r:jb σ α)(y:ai)(s:ak):Prop|mk(a:Addr)(told:PV)(g:Cf)(e:g.s=s)(ho:r=.kc told g.t)(bK:Rn C k o g)(ey:y=.ref a)(f:RO o.g.h (frames k) fl g a told)
theorem Ok.el{C:Cx}{k:List aI}{o:Or}{R:Kt α β}{r:jb aH α}{y:β}{s:ak}{P:Prop}(h:Ok C k o R r y s)(f:∀a g,g.s=s->r=.ok a g.t->Rn C k o g->R.r o.g.h a y g->P):P:=h.casesOn f
theorem Ex.el{C:Cx}{k:List aI}{o:Or}{c:ai->Prop}{r:jb σ α}{y:ai}{s:ak}{P:Prop}(h:Ex C k o c r y s)(f:∀a b g,g.s=s->r=.kc b g.t->Rn C k o g->y=.ref a->RO o.g.h (frames k) c g a b->P):P:=h.casesOn f
abbrev pI:ai->Prop:=(·=ai.none)
def Sim(A:b9)(R:Kt α β)(t:Sem β)(m:M α)(g:Cf):Prop:=∀r,m g.t=r->r≠.aS->aJ C.M A t (Ok C k o R r) (Ex C k o pI r) g.s
end
section
variable{α β:Type}{m:M α}{f:α->M β}{t t':aH}{a:α}{p:PV}{r:jb aH β}
theorem lu(h:m t=.ok a t'):M.bind m f t=f a t':=by unfold M.bind;exact zl h rfl
theorem pJ(h:m t=.kc p t'):M.bind m f t=.kc p t':=by unfold M.bind;rw[h]
theorem lx(e:M.bind m f t=r)(h:r≠.aS):m t≠.aS:=λq=>h (by refine zr e ?_;unfold M.bind;exact zl q rfl)
end
structure Nl(d:Nat)(A:b9)(k:List aI):Prop where
 handled:A.handled=none
 depth:A.depth+4*d+20<Gm
 units:A.units+16*d+200<qU
 frames:A.frames=some k
 guards:A.guards=some []
structure Hr(C:Cx)(d:Nat)(A:b9)(k:List aI)(o:Or)(g:Cf):Prop where
 ok:Nl d A k
 bK:Rn C k o g
 sub:∀a∈frames k,a∈o.F\/o.W a\/o.g.h.get? a=none
 A1:∀a∈o.F,a∈frames k
 al:∀a∈o.F,∃b,o.g.h.get? a=some b
 dj:∀a∈o.F,¬o.W a
section
variable{C:Cx}{d:Nat}{A:b9}{k:List aI}{o:Or}{g g':Cf}{α β:Type}{R:Kt α β}{t:Sem β}{m:M α}
theorem Hr.self(h:Hr C d A k o g):Hr C d A k (.at k g) g:=⟨h.ok,⟨h.bK.st,.refl _ _ _⟩,λ_ h=>.inl h,λ_ h=>h,λ_ q=>h.bK.st.oq q,λ_ _ h=>h⟩
theorem Hr.dD(h:Hr C d A k o g)(x:BA (.at k g) g'):BA o g':=h.bK.dD.trans x (λa q=>q.elim (h.sub a) λq=>q.elim) (λ_ q=>q.elim) h.A1
theorem Hr.step(h:Hr C d A k o g)(x:Rn C k (.at k g) g'):Hr C d A k o g':=⟨h.ok,⟨x.st,h.dD x.dD⟩,h.sub,h.A1,h.al,h.dj⟩
theorem Hr.touch(h:Hr C d A k o g){W:Addr->Prop}{s':ak}(j:∀b,W b->(o.W b\/o.g.h.get? b=none)/\g.v.z b=none/\¬Ad g.v.m b)(c:∀b i,¬W b->g.h.get? b=some i->s'.heap.get? b=some i)(u:∀b,W b->s'.heap.get? b=none->o.g.h.get? b=none)(l:∀b∈_root_.Internal.R.frames k,W b->∃m,s'.heap.Ns b m)(p:s'.gens=g.s.gens)(r:s'.os=g.s.os):Hr C d A k o ⟨g.v,g.t,s'⟩:={h with
 bK:=⟨h.bK.st.touch (λb q=>(j b q).2) c l,{h.bK.dD with
  keep:=λa b e m f w=>c a b (λq=>(j a q).1.elim w λy=>by replace y:=e▸y;cases y) (h.bK.dD.keep a b e m f w)
  qi:=λa m n e=>(h.bK.dD.qi a m n e).at' λo=>c a o λq=>(j a q).1.elim (h.dj a m) λy=>by refine zE (h.al a m) λb z=>?_;replace y:=z▸y;cases y
  dO:=λa e=>by
   by_cases q:W a;·exact u a q e
   ·refine h.bK.dD.dO a ?_;cases y:g.h.get? a with|none=>rfl|some i=>replace e:=c a i q y▸e;cases e
  gens:=p.trans h.bK.dD.gens
  os:=r.trans h.bK.dD.os}⟩}
end
theorem kK{b:Type}{a:b}(h:(none:Option b)=some a):False:=by injection h
theorem bU{v:PV}{x:Int}(h:br v=some x):v=.int x:=by cases v with|int y=>exact congrArg _ (bu h)|_=>exact(kK h).elim
theorem pK{v:PV}{x:List PV}(h:ky v=some x):v=.bR x:=by cases v with|bR y=>exact congrArg _ (bu h)|_=>exact(kK h).elim
theorem h9{v:PV}{x:List PV}(h:iH v=some x):v=.list x:=by cases v with|list y=>exact congrArg _ (bu h)|_=>exact(kK h).elim
theorem sG{v:PV}{x:List Nat}(h:El v=some x):v=.str x:=by cases v with|str y=>exact congrArg _ (bu h)|_=>exact(kK h).elim
theorem lI{v:PV}{x:List Nat}(h:ll v=some x):v=.bytes x:=by cases v with|bytes y=>exact congrArg _ (bu h)|_=>exact(kK h).elim
theorem k6{v:PV}{x:Bool}(h:nq v=some x):v=.bool x:=by cases v with|bool y=>exact congrArg _ (bu h)|_=>exact(kK h).elim
theorem wR{v:PV}{x:Nat}(h:u9 v=some x):v=.ref x:=by cases v with|ref y=>exact congrArg _ (bu h)|_=>exact(kK h).elim
theorem qq{v:PV}(h:isNone v=true):v=.none:=by cases v with|none=>rfl|_=>exact(aK h).elim
theorem iZ{t:aH}{v:PV}{a}(h:dictAt t v=some a):∃l,v=.ref l/\t[l]?=some (.dict a):=by obtain⟨l,h1,h⟩:=cg h;obtain⟨c,b,h⟩:=cg h;cases c<;>cases h;exact⟨l,wR h1,b⟩
theorem instOf_inv{t:aH}{v:PV}{p}(h:instOf t v=some p):∃l,v=.ref l/\t[l]?=some (.inst p.1 p.2):=by obtain⟨l,h1,h⟩:=cg h;obtain⟨c,a,h⟩:=cg h;cases c<;>cases h;exact⟨l,wR h1,a⟩
theorem dc{a:Type}{c:Prop}[Decidable c]{x:Option a}{r:a}(h:(if c then x else none)=some r):c/\x=some r:=by
 by_cases q:c;·replace h:=if_pos q▸h;exact⟨q,h⟩
 ·replace h:=if_neg q▸h;cases h
theorem yE{args:List PV}{f:PV->Option PV}{r:PV}(h:MI args f=some r):∃v,args=[v]/\f v=some r:=by cases args with|nil=>cases h|cons v r=>cases r with|nil=>exact⟨v,rfl,h⟩|cons=>cases h
theorem zb{args:List PV}{f:PV->PV->Option PV}{r:PV}(h:Kl args f=some r):∃v u,args=[v,u]/\f v u=some r:=by cases args with|nil=>cases h|cons v r=>cases r with|nil=>cases h|cons u r=>cases r with|nil=>exact⟨v,u,rfl,h⟩|cons=>cases h
noncomputable abbrev RP(s:ak)(h:Heap)(a:Drawn)(b:Nat):ak:={heap:=h,gens:=s.gens,drawn:=a,toks:=b,os:=s.os}
def yd{β:Type}(C:Cx)(A:b9)(t:Sem β)(g:Cf)(P:β->Cf->Prop):Prop:=∀(Q:β->ak->Prop)(E:ai->ak->Prop),(∀b h a c,Kp g.h h->P b ⟨g.v,g.t,RP g.s h a c⟩->Q b (RP g.s h a c))->aJ C.M A t Q E g.s
section
variable{C:Cx}{A:b9}{k:List aI}{o:Or}{g:Cf}{α β:Type}
theorem yd.eX{t:Sem β}{P a:β->Cf->Prop}(h:yd C A t g P)(q:∀b g',P b g'->a b g'):yd C A t g a:=λQ E q'=>h Q E λb d c f e p=>q' b d c f e (q b _ p)
theorem yd.run{t:Sem β}{P:β->Cf->Prop}(h:yd C A t g P)(x:Rn C k o g){Q:β->ak->Prop}{E:ai->ak->Prop}(q:∀b s',Rn C k o ⟨g.v,g.t,s'⟩->Kp g.h s'.heap->P b ⟨g.v,g.t,s'⟩->Q b s'):aJ C.M A t Q E g.s:=h Q E λb d c e a p=>q b _ (x.iu a rfl rfl) a p
theorem yd.ok{R:Kt α β}{t:Sem β}{r:jb aH α}{a:α}(h:yd C A t g λb g'=>R.r g.h a b g')(x:Rn C k o g)(c:r=.ok a g.t){E:ai->ak->Prop}:aJ C.M A t (Ok C k o R r) E g.s:=h.run x λb s' y _ p=>⟨a,⟨g.v,g.t,s'⟩,rfl,c,y,R.pH (λa e=>x.dD.dO a e) p⟩
noncomputable def VV:R.Op->Operator|.add=>.Add|.sub=>.Sub|.Ki=>.Mult|.fdiv=>.FloorDiv|.fmod=>.Mod|.Kj=>.BitAnd|.wG=>.RShift
theorem cD{h:Heap}{a:Addr}{vs:List ai}{ep:Nat}(e:h.get? a=some (gc vs ep)):h.IsList a vs.toArray:=⟨_,e,rfl,ep,rfl⟩
theorem gy{h:Heap}{a:Addr}{vs:List ai}{ep:Nat}(e:h.get? a=some (vw vs ep)):h.IsTuple a vs.toArray:=⟨_,e,rfl,ep,rfl⟩
theorem uy(a:St C k g){xs:List PV}{vs:List ai}{s':ak}(c:s'.heap=g.h.push (gc vs 0))(d:dt g.v xs vs)(b:xs.length<=eu):oL g.h (true,.list xs) (.ref g.h.objs.size) ⟨g.v,g.t,s'⟩:=yc.mk xs _ vs 0 rfl rfl (by show s'.heap.get? _=_;refine zl c ?_;exact Heap.get?_push_size _ rfl) d b (eU _) (a.gO (eU _)) (a.fM (eU _))
theorem GW{a:Type}(xs:List a)(n:Nat):(bL n xs).flatten.length=n*xs.length:=by induction n with|zero=>simp|succ n b=>rw[List.replicate_succ,Vy,ah,b,Nat.succ_mul,cE]
theorem RQ{b:Heap}{g:Cf}(i:Int)(t:Tok):oL b (false,.int i) (.int i t) g:=VR.Ng (v:=g.v) i t
theorem VW{b:Heap}{g:Cf}{p:PV}{y:ai}(h:VR g.v p y):oL b (false,p) y g:=h
section
variable{a b:PV}{r:Bool×PV}{ya yb:ai}
theorem Ku(d:St C k g)(i:VR g.v a ya)(f:VR g.v b yb)(e:Ur a b=some r):yd C A (Gn .Add ya yb) g λy g'=>oL g.h r y g':=by
 cases a<;>first|cases e|skip
 ·obtain⟨j,h,rfl⟩:=f6 e;clear e;cases bU h;obtain⟨t,rfl⟩:=i;obtain⟨u,rfl⟩:=f;exactλQ E q=>add_int (q _ _ _ _ (.refl _) (RQ _ _))
 ·obtain⟨y,h,e⟩:=cg e;clear e;cases lI h;clear h;obtain⟨c,e⟩:=dc e;cases e;clear e;obtain⟨x,t,rfl,p,_⟩:=i;obtain⟨F,u,rfl,s,_⟩:=f;clear l_1 l;subst p s;rw[aj,aj,aV,aV]at c;exactλQ E q=>KBy.add_bytes (aa c mh) λt' k=>q _ _ _ _ (.refl _) (VW (VR.rH _ _ (by simp) (by simpa using c)))
 ·obtain⟨y,h,e⟩:=cg e;clear e;cases h9 h;obtain⟨c,e⟩:=dc e;cases e;obtain⟨a1,B,p1,rfl,h1,m,_⟩:=i;obtain⟨z,D,p2,rfl,w,n,_⟩:=f;refineλQ E q=>P.add_list (d.fz _ _ h1) (d.fz _ _ w) (q _ _ _ _ (.push _ _) (uy d (by simp) (m.append n) (by simpa using c))) ?_;simp only[aN,m.length,n.length];exact aa c mh
theorem Kv(m:St C k g)(p:VR g.v a ya)(w:VR g.v b yb)(e:Us a b=some r):yd C A (Gn .Mult ya yb) g λy g'=>oL g.h r y g':=by
 obtain⟨j,h,e⟩:=cg e;clear e;cases bU h;obtain⟨u,rfl⟩:=w;cases a<;>first|cases e|skip
 ·obtain⟨c,e⟩:=dc e;cases e;obtain⟨t,rfl⟩:=p;exactλQ E q=>mul_int (q _ _ _ _ (.refl _) (RQ _ _)) (IntMulOk.of_left (intBits_le_64 (ac9 c) (YJ c)))
 ·obtain⟨c,e⟩:=dc e;cases e;obtain⟨a1,l,p1,rfl,h1,n,_⟩:=p;have d:=m.fz _ _ h1;have i:l.length*j.toNat<=1048576:=by rw[n.length];exact c.1
  have f:l.toArray.size*j.toNat<=1048576:=i;have z:=c.2;intro Q E q;refine wpAny_binaryOp_repeat_ref (T:="list") (U:="int") (by decide) ⟨_,d,rfl⟩ (λs'=>typeIs_int s' j u) noFill_list_mul F.fills_int_mul F.slot_int_rmul repeat_list F.slot_int_index.lookup (kQ F.slot_int_rmul (typeIs_int g.s j u) F.entry_int_rmul (F.args_int_rmul_2 _ _) (lm_int_rmul_list_any j u a1 l.toArray p1 none #[]) ⟨d,rfl,⟨_,d,rfl⟩,kQ F.slot_list_mul ⟨_,d,rfl⟩ F.entry_list_mul (F.args_list_mul_2 _ _) (lm_list_mul_any a1 l.toArray p1 none #[] j u (by simp[bl.List.listFitsIndex];exact o26 c) (by exact o27 f) (by simp[bl.List.listTooLong,jD];exact o28 i)) ⟨d,q _ _ _ _ (.push _ _) (uy m ?_ (n.replicate _) (by rw[GW,Nat.mul_comm];exact c.1))⟩⟩);exact congrArg (λx=>g.h.push {cls:=.type "list",data:=.seq x}) (listMul_foldl_if ..)
theorem nE{l:Operator}{f:Int->Int->Option PV}(d:VR g.v a ya)(c:VR g.v b yb)(e:((YD a b f).map λv=>(false,v))=some r)(H:∀i j t u n,f i j=some n->∀(Q:ai->ak->Prop)E,(∀m,n=.int m->Q (.int m g.s.toks) {g.s with toks:=g.s.toks+1})->aJ C.M A (Gn l (.int i t) (.int j u)) Q E g.s)(D:∀i j n,f i j=some n->∃m,n=.int m):yd C A (Gn l ya yb) g λy g'=>oL g.h r y g':=by obtain⟨n,h1,w⟩:=f6 e;obtain⟨i,p,z⟩:=cg h1;obtain⟨j,x,B⟩:=cg z;rw[bU p]at d;rw[bU x]at c;obtain⟨t,rfl⟩:=d;obtain⟨u,rfl⟩:=c;rw[<-w];exactλQ E q=>H i j t u n B Q E λm e=>q _ _ _ _ (.refl _) (e▸RQ _ _)
theorem pL{o:R.Op}{i j:Int}{n:PV}(h:Ut o i j=some n):∃m,n=.int m:=by
 cases o with
 |sub=>exact⟨_,(bu h).symm⟩
 |fdiv=>
  by_cases c:j=0\/¬j.natAbs<1073741824;·exact(kK ((if_pos c).symm.trans h)).elim
  ·exact⟨_,(bu ((if_neg c).symm.trans h)).symm⟩
 |fmod=>
  by_cases c:j=0;·exact(kK ((if_pos c).symm.trans h)).elim
  ·exact⟨_,(bu ((if_neg c).symm.trans h)).symm⟩
 |Kj=>exact⟨_,(bu (dc h).2).symm⟩
 |wG=>exact⟨_,(bu (dc h).2).symm⟩
 |_=>exact(kK h).elim
theorem Eu(p:St C k g){o:R.Op}(f:VR g.v a ya)(d:VR g.v b yb)(e:kz o a b=some r):yd C A (Gn (VV o) ya yb) g λy g'=>oL g.h r y g':=by
 cases o with
 |add=>exact Ku p f d e
 |Ki=>exact Kv p f d e
 |sub=>exact nE f d e (λi j t u n h Q E q=>sub_int (q _ (bu h).symm)) λ_ _ _ h=>pL h
 |fdiv=>
  refine nE f d e (λi j t u n h Q E q=>?_) λ_ _ _ h=>pL h;by_cases c:j=0\/¬j.natAbs<1073741824;·exact(kK ((if_pos c).symm.trans h)).elim
  ·exact AutoIntOps.floordiv_1 (λy=>c (.inl (eq_of_beq y))) (by rw[PyProof.noPylong_small (Decidable.not_not.mp λy=>c (.inr y))];exact aK) (q _ (bu ((if_neg c).symm.trans h)).symm)
 |fmod=>
  refine nE f d e (λi j t u n h Q E q=>?_) λ_ _ _ h=>pL h;by_cases c:j=0;·exact(kK ((if_pos c).symm.trans h)).elim
  ·exact mod_int c (q _ (bu ((if_neg c).symm.trans h)).symm)
 |Kj=>refine nE f d e (λi j t u n h Q E q=>?_) λ_ _ _ h=>pL h;obtain⟨l,m⟩:=dc h;have:=q (bl.bitAnd i j) ((bu m).symm.trans (by rw[bl.bitAnd,decide_eq_true l.1,decide_eq_true l.2];rfl));exact and_int this
 |wG=>exact nE f d e (λi j t u n h Q E q=>by obtain⟨l,m⟩:=dc h;exact rshift_int l (q _ (bu m).symm)) λ_ _ _ h=>pL h
end
end
structure Rq(A:b9)(s:ak)(y u:ai)(b:Bool):Prop where
 eq:RcAt A s y u b
 ne:RcNeAt A s y u (!b)
theorem Nn:J8 (.type "bytes") (.type "NoneType")=pure false:=by rw[iB];kernel_rfl
theorem CT:J8 (.type "NoneType") (.type "bytes")=pure false:=by rw[iB];kernel_rfl
section
variable(b:Array UInt8)(t:Tok)
theorem tS:kT (Builtin.«NoneType.__eq__» ⟨[.none,.bytes b t],[]⟩) (.val ai.notImplemented):=.of_wp λM A E s Q h=>by obtain⟨c,g,d,e,a⟩:=s;wp_walk;exact⟨_,rfl,h⟩
theorem tT:kT (Builtin.«NoneType.__ne__» ⟨[.none,.bytes b t],[]⟩) (.val ai.notImplemented):=.of_wp λM A E s Q h=>by obtain⟨c,g,d,e,a⟩:=s;wp_walk;exact⟨_,rfl,h⟩
theorem tU:kT (Builtin.«bytes.__eq__» ⟨[.bytes b t,.none],[]⟩) (.val ai.notImplemented):=.of_wp λM A E s Q h=>by obtain⟨c,g,d,e,a⟩:=s;have f:=CT;wp_walk;exact⟨_,rfl,h⟩
theorem tV:kT (Builtin.«bytes.__ne__» ⟨[.bytes b t,.none],[]⟩) (.val ai.notImplemented):=.of_wp λM A E s Q h=>by obtain⟨c,g,d,e,a⟩:=s;have f:=CT;wp_walk;exact⟨_,rfl,h⟩
variable{A:b9}{s:ak}
theorem YP:Rq A s .none (.bytes b t) false where eq:=λprog w E Q h=>rc_eq_decline_or (k:=false) rfl (typeIs_bytes s b t) (by decide) Nn F.slot_NoneType_eq FB.slot_bytes_eq (λ_ a=>mK F.slot_NoneType_eq rfl F.entry_NoneType_eq (F.args_NoneType_eq_2 _ _) (tS b t) a) (λ_ a=>mK FB.slot_bytes_eq (typeIs_bytes s b t) FB.entry_bytes_eq (FB.args_bytes_eq_2 _ _) (tU b t) a) (λ_ a=>nS (rfl:isSame .none (.bytes b t)=pure false) a) (.inl rfl) h;ne:=λprog w E Q h=>rc_ne_decline_or (k:=false) rfl (typeIs_bytes s b t) (by decide) Nn F.slot_NoneType_ne FB.slot_bytes_ne (λ_ a=>mK F.slot_NoneType_ne rfl F.entry_NoneType_ne (F.args_NoneType_ne_2 _ _) (tT b t) a) (λ_ a=>mK FB.slot_bytes_ne (typeIs_bytes s b t) FB.entry_bytes_ne (FB.args_bytes_ne_2 _ _) (tV b t) a) (λ_ a=>nS (rfl:isSame .none (.bytes b t)=pure false) a) (.inl rfl) h
theorem YQ:Rq A s (.bytes b t) .none false where eq:=λprog w E Q h=>rc_eq_decline_or (k:=false) (typeIs_bytes s b t) rfl (by decide) CT FB.slot_bytes_eq F.slot_NoneType_eq_refl (λ_ a=>mK FB.slot_bytes_eq (typeIs_bytes s b t) FB.entry_bytes_eq (FB.args_bytes_eq_2 _ _) (tU b t) a) (λ_ a=>mK F.slot_NoneType_eq_refl rfl F.entry_NoneType_eq (F.args_NoneType_eq_2 _ _) (tS b t) a) (λ_ a=>nS (rfl:isSame (.bytes b t) .none=pure false) a) (.inl rfl) h;ne:=λprog w E Q h=>rc_ne_decline_or (k:=false) (typeIs_bytes s b t) rfl (by decide) CT FB.slot_bytes_ne F.slot_NoneType_ne_refl (λ_ a=>mK FB.slot_bytes_ne (typeIs_bytes s b t) FB.entry_bytes_ne (FB.args_bytes_ne_2 _ _) (tV b t) a) (λ_ a=>mK F.slot_NoneType_ne_refl rfl F.entry_NoneType_ne (F.args_NoneType_ne_2 _ _) (tT b t) a) (λ_ a=>nS (rfl:isSame (.bytes b t) .none=pure false) a) (.inl rfl) h
end
section
variable{A:b9}{s:ak}{y u:ai}{k:Bool}
theorem I5(h:RcAt A s y u k)(h1:y=u->k=true)(c:∀(b:UInt64)t,y≠.float b t):EqAt A s y u k:=by cases q:y==u with|true=>clear h;cases eq_of_beq q;rw[h1 rfl];exact EqAt.same _|false=>intro prog w E Q d;unfold eqBool;refine aZ (D5 (λa=>by rw[q]at a;cases a) λ_=>?_);have r:aJ (dF prog w) A (richCompare CmpOp.Eq y u>>=truthOfDropped) Q E s:=af (h prog w E _ (gV d));clear h h1 q;cases y<;>first|exact r|exact absurd rfl (c _ _)
end
theorem RR{a b:List Nat}:(PV.str a).lD (.str b)=(a==b):=rfl
theorem Kw{a b:List Nat}:(PV.bytes a).lD (.bytes b)=(a==b):=rfl
theorem Kx{x y:PV}{xs ys:List PV}:pC (x::xs) (y::ys)=(x.lD y&&pC xs ys):=rfl
theorem toNat_beq(x y:List UInt8):(x.map (·.toNat)==y.map (·.toNat))=(x==y):=by induction x generalizing y with|nil=>cases y<;>rfl|cons x xs a=>cases y with|nil=>rfl|cons y ys=>rw[aM,aM,T9,T9,a];congr 1;rw[n4,beq_iff_eq,beq_iff_eq,Ym]
theorem vz(xs ys:List PV):pC xs ys=((xs.length==ys.length)&&(xs.zip ys).all λp=>p.1.lD p.2):=by induction xs generalizing ys with|nil=>cases ys<;>rfl|cons x xs a=>cases ys with|nil=>rfl|cons y ys=>rw[Kx,a,yq,bP,aO,aO,show(xs.length+1==ys.length+1)=(xs.length==ys.length)by simp];cases PV.lD x y<;>cases xs.length==ys.length<;>rfl
def sH(xs ys:List PV)(j:Nat):Bool:=((xs[j]?).bind λx=>(ys[j]?).map λy=>x.lD y).getD true
theorem wU(xs ys:List PV):((xs.zip ys).all λp=>p.1.lD p.2)=(eM (min xs.length ys.length)).all (sH xs ys):=by induction xs generalizing ys with|nil=>simp|cons x xs a=>cases ys with|nil=>simp|cons y ys=>rw[yq,bP,a,aO,aO,Nat.add_min_add_right,List.range_succ_eq_map,bP,List.all_map];rfl
theorem zc{xs ys:List PV}{j:Nat}{x y:PV}(a:xs[j]?=some x)(b:ys[j]?=some y):sH xs ys j=x.lD y:=by unfold sH;refine zl a ?_;refine zl b ?_;rfl
theorem I6{xs ys:List PV}{f:PV×PV->Bool}(h:(xs.zip ys).all f=true){j:Nat}{x y:PV}(a:xs[j]?=some x)(b:ys[j]?=some y):f (x,y)=true:=bj.mp h (x,y) (dp (i:=j) (GI.mpr ⟨a,b⟩))
section
variable{v:Vw}{h:Heap}
noncomputable def VX:ai->Bool|.none=>true|.bool _=>true|.int _ _=>true|.str _ _=>true|.bytes _ _=>true|.ref _=>true|_=>false
theorem VR.plain{p:PV}{y:ai}(a:VR v p y):VX y=true:=by cases p with|none=>cases a;rfl|bool=>cases a;rfl|int=>obtain⟨_,rfl⟩:=a;rfl|str=>obtain⟨_,_,rfl⟩:=a;rfl|bytes=>obtain⟨_,_,rfl⟩:=a;rfl|bR=>obtain⟨_,_,_,rfl⟩:=a;rfl|list=>obtain⟨_,_,_,rfl⟩:=a;rfl|ref=>obtain⟨_,_,rfl⟩:=a;rfl|CI=>obtain⟨_,_,_,_,rfl⟩:=a;rfl
theorem VR.Ew{p:PV}{y:ai}(a:VR v p y)(b:UInt64)(t:Tok):y≠.float b t:=λe=>by subst e;exact aK a.plain
inductive Np(n:Nat):PV->PV->Prop|nn{b}:qo b=false->Np n .none b|xn{a}:qo a=false->Np n a .none|bool(a b:Bool):Np n (.bool a) (.bool b)|int(a b:Int):Np n (.int a) (.int b)|str(a b:List Nat):Np n (.str a) (.str b)|bytes(a b:List Nat):Np n (.bytes a) (.bytes b)|bR{xs ys}(h:((xs.zip ys).all λp=>lE n p.1 p.2)=true):Np n (.bR xs) (.bR ys)|list{xs ys}(h:((xs.length !=ys.length)||(xs.zip ys).all λp=>lE n p.1 p.2)=true):Np n (.list xs) (.list ys)
theorem Yc{n:Nat}{a b:PV}{c:Bool}(h:(isNone b||c)=true)(d:qo a=false)(k:c=true->Np n a b):Np n a b:=(Bool.or_eq_true_iff.mp h).elim (λq=>by rw[qq q];exact .xn d) k
theorem Nq{n:Nat}{a b:PV}(h:lE (n+1) a b=true):Np n a b:=by
 cases a with
 |none=>exact .nn (by have:=dJ _▸(show(!qo b)=true from h);exact this)
 |bool x=>exact Yc h rfl λq=>by obtain⟨y,e⟩:=cV.mp q;rw[k6 e];exact .bool _ _
 |int x=>exact Yc h rfl λq=>by obtain⟨y,e⟩:=cV.mp q;rw[bU e];exact .int _ _
 |str x=>exact Yc h rfl λq=>by obtain⟨y,e⟩:=cV.mp q;rw[sG e];exact .str _ _
 |bytes x=>exact Yc h rfl λq=>by obtain⟨y,e⟩:=cV.mp q;rw[lI e];exact .bytes _ _
 |bR xs=>refine Yc h rfl λq=>?_;cases e:ky b with|none=>rw[e]at q;cases q|some ys=>rw[e]at q;rw[pK e];exact .bR q
 |list xs=>refine Yc h rfl λq=>?_;cases e:iH b with|none=>rw[e]at q;cases q|some ys=>rw[e]at q;rw[h9 e];exact .list q
 |ref=>cases h
 |CI=>cases h
theorem zd{n:Nat}(o:∀{a b:PV}{y:ai},lE n a b=true->VR v a y->VR v b y->a.lD b=true){xs ys:List PV}{vs:List ai}(i:dt v xs vs)(f:dt v ys vs)(k:((xs.zip ys).all λp=>lE n p.1 p.2)=true):pC xs ys=true:=by refine zl (vz _ _) ?_;refine zr i.length ?_;refine zr f.length ?_;refine zl (beq_self_eq_true _) ?_;refine zl (Bool.true_and _) ?_;refine zl (wU _ _) ?_;rewrite[bj];intro j r;have g:=Nat.lt_min.mp (iC.mp r);have c:=aX g.1;have d:=aX g.2;refine dq (i.get c) λu m l=>?_;refine dq (f.get d) λs e q=>?_;replace e:=m▸e;cases e;refine zl (zc c d) ?_;exact o (I6 k c d) l q
theorem xy(n:Nat):∀{a b:PV}{y:ai},lE n a b=true->VR v a y->VR v b y->a.lD b=true:=by induction n with|zero=>exactλh _ _=>(aK h).elim|succ n o=>intro a b y h f d;cases Nq h with|nn=>cases f;refine zl (VR.Nh d) ?_;rfl|xn=>cases d;refine zl (VR.Nh f) ?_;rfl|bool=>clear h;cases f;cases d;exact beq_self_eq_true _|int=>clear h;refine zE f λ_ m=>?_;clear f;subst m;refine zE d λ_ e=>?_;clear d;cases e;exact beq_self_eq_true _|str=>obtain⟨_,_,rfl,c,_⟩:=f;obtain⟨_,_,e,l,_⟩:=d;cases e;refine zr c ?_;refine zr l ?_;exact beq_self_eq_true _|bytes=>obtain⟨_,_,rfl,c,_⟩:=f;obtain⟨_,_,e,l,_⟩:=d;cases e;refine zr c ?_;refine zr l ?_;exact beq_self_eq_true _|bR k=>obtain⟨_,_,_,rfl,h1,i,_⟩:=f;obtain⟨_,_,_,e,g,j,_⟩:=d;cases e;replace g:=h1▸g;cases g;exact zd o i j k|list k=>obtain⟨_,_,_,rfl,h1,i,_⟩:=f;obtain⟨_,_,_,e,g,j,_⟩:=d;cases e;replace g:=h1▸g;cases g;replace k:=(AQ i.length)▸k;replace k:=(AQ j.length)▸k;rewrite[bne_self_eq_false,II]at k;exact zd o i j k
theorem I7{A:b9}{s:ak}(hz:∀a o,v.z a=some o->s.heap.get? a=some o)(c:A.units<qU){b:PV}{u:ai}(d:VR v b u)(e:qo b=false):Rq A s .none u (PV.none.lD b)/\Rq A s u .none (b.lD .none):=by cases b with|none=>cases d;exact⟨⟨RcAt.none_none,RcNeAt.none_none⟩,RcAt.none_none,RcNeAt.none_none⟩|bool=>cases d;exact⟨⟨RcAt.none_bool _,RcNeAt.none_bool _⟩,RcAt.bool_none _,RcNeAt.bool_none _⟩|int=>obtain⟨_,rfl⟩:=d;exact⟨⟨RcAt.none_int _ _,RcNeAt.none_int _ _⟩,RcAt.int_none _ _,RcNeAt.int_none _ _⟩|str=>obtain⟨_,_,rfl⟩:=d;exact⟨⟨RcAt.none_str _ _,RcNeAt.none_str _ _⟩,RcAt.str_none _ _,RcNeAt.str_none _ _⟩|bytes=>obtain⟨_,_,rfl⟩:=d;exact⟨YP _ _,YQ _ _⟩|bR=>obtain⟨_,_,_,rfl,h1,_⟩:=d;have i:=gy (hz _ _ h1);exact⟨⟨RcAt.none_tuple i c,RcNeAt.none_tuple i c⟩,RcAt.tuple_none i c,RcNeAt.tuple_none i c⟩|list=>obtain⟨_,_,_,rfl,h1,_⟩:=d;have i:=cD (hz _ _ h1);exact⟨⟨RcAt.none_list i c,RcNeAt.none_list i c⟩,RcAt.list_none i c,RcNeAt.list_none i c⟩|ref=>cases e|CI=>cases e
theorem Nr(a b:Str):(a.cps.toList==b.cps.toList)=(a==b):=by rw[n4,beq_iff_eq,beq_iff_eq];exact⟨λe=>CS e,λe=>by rw[e]⟩
theorem Ey{s:ak}{n:Nat}{A:b9}(m:∀{a b:PV}{y u:ai},lE n a b=true->VR v a y->VR v b u->Rq A.in1 s y u (a.lD b)){xs ys:List PV}{vs us:List ai}(o:dt v xs vs)(k:dt v ys us)(i:((xs.zip ys).all λp=>lE n p.1 p.2)=true)(j:Nat)(h1:j<vs.toArray.size)(l:j<us.toArray.size):EqAt A.in1 s vs.toArray[j] us.toArray[j] (sH xs ys j):=by refine dq (o.VT (aX (show j<vs.length from h1))) λx e d=>?_;refine dq (k.VT (aX (show j<us.length from l))) λy f g=>?_;have c:=I6 i e f;refine zl (zc e f) ?_;exact I5 (m c d g).eq (λq=>xy n c d (q▸g)) d.Ew
theorem RS{s:ak}{A:b9}{a1 b:Addr}{xs ys:List PV}{vs us:List ai}(c:s.heap.IsTuple a1 vs.toArray)(a:s.heap.IsTuple b us.toArray)(d:A.units<qU)(f:dt v xs vs)(g:dt v ys us)(e:∀j(h1:j<vs.toArray.size)(i:j<us.toArray.size),EqAt A.in1 s vs.toArray[j] us.toArray[j] (sH xs ys j)):Rq A s (.ref a1) (.ref b) (pC xs ys):=by have p:=RcAt.tuples c a d e;have q:=RcNeAt.tuples c a d e;rw[vz,wU,Bool.and_comm];simp only[aN,f.length,g.length]at p q;exact⟨p,q⟩
theorem Nv{s:ak}{A:b9}{a1 d:Addr}{xs ys:List PV}{vs us:List ai}(f:s.heap.IsList a1 vs.toArray)(b:s.heap.IsList d us.toArray)(g:A.units<qU)(c:dt v xs vs)(k:dt v ys us)(a:xs.length=ys.length)(e:∀j(h1:j<vs.toArray.size)(l:j<us.toArray.size),EqAt A.in1 s vs.toArray[j] us.toArray[j] (sH xs ys j)):Rq A s (.ref a1) (.ref d) (pC xs ys):=by
 have i:vs.toArray.size=us.toArray.size:=by rw[aN,aN,c.length,k.length,a]
 have p:=RcAt.lists f b i g e;have q:=RcNeAt.lists f b i g e;rw[vz,wU,a,beq_self_eq_true,Bool.true_and,Nat.min_self];simp only[aN,c.length,a]at p q;exact⟨p,q⟩
theorem RT{s:ak}{A:b9}{a1 c:Addr}{xs ys:List PV}{vs us:List ai}(d:s.heap.IsList a1 vs.toArray)(a:s.heap.IsList c us.toArray)(e:A.units<qU)(g:dt v xs vs)(i:dt v ys us)(f:xs.length≠ys.length):Rq A s (.ref a1) (.ref c) (pC xs ys):=by have b:(vs.toArray.size !=us.toArray.size)=true:=bne_iff_ne.mpr λq=>f (by rw[aN,aN,g.length,i.length]at q;exact q);rw[vz,beq_eq_false_iff_ne.mpr f,Bool.false_and];exact⟨RcAt.lists_lengths d a b e,RcNeAt.lists_lengths d a b e⟩
theorem zf{s:ak}(hz:∀a o,v.z a=some o->s.heap.get? a=some o)(n:Nat):∀{a b:PV}{y u:ai}{A:b9},A.units+n<qU->lE n a b=true->VR v a y->VR v b u->Rq A s y u (a.lD b):=by
 induction n with
 |zero=>exactλ_ h _ _=>(aK h).elim
 |succ n p=>
  intro a b y u A m h f e;have d:A.units<qU:=aA (aR _ _) m;have j:∀{a b:PV}{y u:ai},lE n a b=true->VR v a y->VR v b u->Rq A.in1 s y u (a.lD b):=p (by show A.units+1+n<qU;exact o29 m);cases Nq h with
  |nn c=>cases f;exact(I7 hz d e c).1
  |xn c=>cases e;exact(I7 hz d f c).2
  |bool=>cases f;cases e;exact⟨RcAt.bool_bool _ _,RcNeAt.bool_bool _ _⟩
  |int=>obtain⟨_,rfl⟩:=f;obtain⟨_,rfl⟩:=e;exact⟨RcAt.int_int _ _ _ _,RcNeAt.int_int _ _ _ _⟩
  |str=>clear h;obtain⟨x,_,rfl,rfl⟩:=f;obtain⟨y,_,rfl,rfl⟩:=e;rw[RR,Nr];exact⟨RcAt.str_str _ _ _ _,RcNeAt.str_str _ _ _ _⟩
  |bytes=>clear h;obtain⟨x,_,rfl,rfl⟩:=f;obtain⟨y,_,rfl,rfl⟩:=e;rw[Kw,toNat_beq];exact⟨λprog w E Q h=>eq_bytes h,λprog w E Q h=>ne_bytes h⟩
  |bR k=>obtain⟨_,_,_,rfl,h1,g,_⟩:=f;obtain⟨_,_,_,rfl,l,i,_⟩:=e;exact RS (gy (hz _ _ h1)) (gy (hz _ _ l)) d g i (Ey j g i k)
  |@list xs ys k=>
   obtain⟨_,_,_,rfl,h1,g,_⟩:=f;obtain⟨_,_,_,rfl,l,i,_⟩:=e;by_cases hl:xs.length=ys.length;·rw[hl,bne_self_eq_false,II]at k;exact Nv (cD (hz _ _ h1)) (cD (hz _ _ l)) d g i hl (Ey j g i k)
   ·exact RT (cD (hz _ _ h1)) (cD (hz _ _ l)) d g i hl
theorem Nw{s:ak}(hz:∀a o,v.z a=some o->s.heap.get? a=some o){A:b9}{n:Nat}{a b:PV}{y u:ai}(h:lE n a b=true)(c:VR v a y)(d:VR v b u)(e:A.units+n<qU):EqAt A s y u (a.lD b):=I5 (zf hz n e h c d).eq (λq=>xy n h c (q▸d)) c.Ew
end
noncomputable def tn:Cm->CmpOp|.eq=>.Eq|.ne=>.NotEq|.lt=>.Lt|.le=>.LtE|.gt=>.Gt|.ge=>.GtE|.yA=>.Is|.kV=>.IsNot|.xY=>.In|.n8=>.NotIn
noncomputable def Es:ai->PV|.bool b=>.bool b|.int i _=>.int i|.str x _=>.str x.cps.toList|.bytes x _=>.bytes (x.toList.map (·.toNat))|_=>.none
section
variable{C:Cx}{A:b9}{k:List aI}{o:Or}{g:Cf}{α β:Type}{a b:PV}{ya yb:ai}
inductive YR(C:Cx)(g:Cf)(v:PV)(y:ai)(es:List (PV×PV)):Prop|mk(l:Nat)(p:CP)(ev:v=.ref l)(et:g.t[l]?=some (.dict es))(em:g.v.m[l]?=some p)(ey:y=.ref p.a)(r:qO C g.v g.h p es)
theorem St.dict(f:St C k g)(i:VR g.v a ya){c}(h:dictAt g.t a=some c):YR C g a ya c:=by obtain⟨l,rfl,e⟩:=iZ h;obtain⟨p,d,rfl⟩:=i;exact⟨l,p,rfl,e,d,rfl,f.cell l _ p e d⟩
theorem I8{y:PV}{u:ai}(h:VR g.v y u)(d:M7 y=true)(e:qo y=false):Es u=y:=by cases y with|none=>cases h;rfl|bool=>cases h;rfl|int=>obtain⟨_,rfl⟩:=h;rfl|str=>obtain⟨_,_,rfl,c⟩:=h;exact congrArg _ c|bytes=>obtain⟨_,_,rfl,c⟩:=h;exact congrArg _ c|ref=>cases e|_=>cases d
theorem BB{n:Nat}{a b:PV}(h:lE n a b=true):qo a=false:=by cases n<;>cases a<;>first|rfl|exact(aK h).elim
theorem Nx{x:PV}{ys:List PV}:∀{us:List ai},dt g.v ys us->(∀y∈ys,M7 y=true/\qo y=false)->us.any (λu=>(Es u).lD x)=VO x ys:=by induction ys with|nil=>intro _ h _;cases h;rfl|cons y ys j=>intro _ h d;refine d0 h λu l c f e=>?_;clear h;subst c;refine zl IH ?_;refine zl (I8 f (d y (.head _)).1 (d y (.head _)).2) ?_;refine zl (j e λy i=>d y (.tail _ i)) ?_;rfl
theorem VY(n:St C k g)(E:A.units+16<qU){x:PV}{ys:List PV}{y:ai}{r:Bool}(D:VR g.v x y)(q:VR g.v b yb)(e:ky b=some ys)(h:(if ys.all (λy=>lE Kk y x&&M7 y)then some (VO x ys)else none)=some r):∃(f:ai->Bool)(a:Addr)(us:List ai),yb=.ref a/\g.h.IsTuple a us.toArray/\(∀u,u∈us.toArray->EqAt A.in1 g.s u y (f u))/\us.toArray.any f=r:=by
 rw[pK e]at q;obtain⟨a1,us,ep,rfl,w,l,_⟩:=q;obtain⟨t,z⟩:=dc h;have c:∀y∈ys,lE Kk y x=true/\M7 y=true:=λy m=>bF.mp (bj.mp t y m);refine⟨λu=>(Es u).lD x,a1,us,rfl,gy (n.fz _ _ w),λu d=>?_,?_⟩;·obtain⟨i,B⟩:=Array.mem_iff_getElem?.mp d;obtain⟨y,j,r⟩:=l.VT (i:=i) (y:=u) (by simpa using B);obtain⟨p,F⟩:=c y (dp j);show EqAt _ _ _ _ ((Es u).lD x);rw[I8 r F (BB p)];exact Nw n.fz p r D (by show A.units+1+6<qU;exact o31 E)
 ·rw[<-Bq,<-bu z];exact Nx l λy m=>⟨(c y m).2,BB (c y m).1⟩
theorem Ky{v:Vw}{p:Option PV}{y:Option ai}(h:Nj v p y):p.isSome=y.isSome:=by cases h<;>rfl
theorem Ez(m:St C k g)(I:A.units+16<qU){r:Bool}(x:VR g.v a ya)(w:VR g.v b yb)(e:RB g.t a b=some r):(∀(Q:ai->ak->Prop)E,(∀i,Q (.bool r) (RP g.s g.h g.s.drawn i))->aJ C.M A (sf .In ya yb) Q E g.s)/\∀(Q:ai->ak->Prop)E,(∀i,Q (.bool (!r)) (RP g.s g.h g.s.drawn i))->aJ C.M A (sf .NotIn ya yb) Q E g.s:=by unfold RB at e;cases q:ky b with|some ys=>replace e:=q▸e;refine uV (VY m I x w q e) λf a1 us j u h1 c=>?_;subst j;exact⟨λQ E q=>in_tupleAt f u h1 (by refine zl c ?_;exact q _),λQ E q=>notIn_tupleAt f u h1 (by refine zl c ?_;exact q _)⟩|none=>replace e:=q▸e;clear q;obtain⟨L,h1,c⟩:=cg e;clear e;refine zA (dc c) λG H=>?_;clear c;obtain⟨l,p,rfl,J,K,rfl,D⟩:=m.dict w h1;obtain@⟨_,_,_,_,_,_,B,F,y,z,_,rfl,n⟩:=D.bK.by G x;have d:=Ky (z.eH F B);replace d:=bu H▸d;exact⟨λQ E q=>wpAny_in_of n D.ns y.dictOf.mapOf (by refine zr d ?_;exact q _),λQ E q=>wpAny_notIn_of n D.ns y.dictOf.mapOf (by refine zr d ?_;exact q _)⟩
theorem BD(c:VR g.v a ya)(f:VR g.v b yb)(h:isNone b=true):(∀(Q:ai->ak->Prop)E,Q (.bool (isNone a)) g.s->aJ C.M A (sf .Is ya yb) Q E g.s)/\∀(Q:ai->ak->Prop)E,Q (.bool (!isNone a)) g.s->aJ C.M A (sf .IsNot ya yb) Q E g.s:=by
 replace f:=qq h▸f;cases f;cases q:isNone a with
 |true=>replace c:=qq q▸c;cases c;exact⟨λQ E q=>wpAny_is_self rfl q,λQ E q=>wpAny_isNot_self rfl q⟩
 |false=>
  have d:ya≠.none:=λe=>by subst e;replace q:=VR.Nh c▸q;cases q
  have i:=c.plain;exact⟨λQ E q=>wpAny_is_other (by clear c d;cases ya<;>first|rfl|cases i) d q,λQ E q=>wpAny_isNot_other (by clear c d;cases ya<;>first|rfl|cases i) d q⟩
theorem sJ{f:Int->Int->Bool}{r:Bool}(c:VR g.v a ya)(d:VR g.v b yb)(e:yU a b f=some r):∃i j t u,ya=.int i t/\yb=.int j u/\f i j=r:=by obtain⟨i,h,m⟩:=cg e;obtain⟨j,l,n⟩:=f6 m;rw[bU h]at c;rw[bU l]at d;obtain⟨t,rfl⟩:=c;obtain⟨u,rfl⟩:=d;exact⟨i,j,t,u,rfl,rfl,n⟩
theorem BE(x:St C k g)(y:A.units+16<qU){c:Cm}{r:Bool}(n:VR g.v a ya)(m:VR g.v b yb)(e:eD g.t c a b=some r){Q E:ai->ak->Prop}(q':∀z,Q (.bool r) (RP g.s g.h g.s.drawn z)):aJ C.M A (sf (tn c) ya yb) Q E g.s:=by
 have q:Q (.bool r) g.s:=q' _;have p:A.units+Kk<qU:=by show A.units+6<qU;exact o30 y
 cases c with|eq=>clear q';refine zA (dc e) λh e=>?_;cases e;exact(zf x.fz Kk p h n m).eq C.prog C.w E Q q|ne=>clear q';refine zA (dc e) λh e=>?_;cases e;exact(zf x.fz Kk p h n m).ne C.prog C.w E Q q|lt=>refine sv (sJ n m e) λi j t u d f l=>?_;subst d;subst f;subst l;exact lt_int q|le=>refine sv (sJ n m e) λi j t u d f l=>?_;subst d;subst f;subst l;exact P.le_int q|gt=>refine sv (sJ n m e) λi j t u d f l=>?_;subst d;subst f;subst l;exact gt_int q|ge=>refine sv (sJ n m e) λi j t u d f l=>?_;subst d;subst f;subst l;exact P.ge_int q|yA=>refine zA (dc e) λh e=>?_;cases e;exact(BD n m h).1 Q E q|kV=>refine zA (dc e) λh e=>?_;cases e;exact(BD n m h).2 Q E q|xY=>exact(Ez x y n m e).1 Q E q'|n8=>obtain⟨r',B,D⟩:=f6 e;exact(Ez x y n m B).2 Q E λz=>by refine zl D ?_;exact q' z
def jx(s:ak)(y:ai):Prop:=∃T c,s.TypeIs y T/\Gp (.type T) (Str.ofString "__getitem__")=pure (some (.builtin c))
theorem jx.list{s:ak}{a:Addr}{vs:Array ai}(h:s.heap.IsList a vs):jx s (.ref a):=⟨"list",_,h.typeIs,slot_list_getitem.lookup⟩
theorem jx.tuple{s:ak}{a:Addr}{vs:Array ai}(h:s.heap.IsTuple a vs):jx s (.ref a):=⟨"tuple",_,by refine pg h λo d c _=>?_;clear h;exact⟨o,d,c⟩,F.slot_tuple_getitem.lookup⟩
theorem jx.bytes{s:ak}(b:Array UInt8)(t:Tok):jx s (.bytes b t):=⟨"bytes",_,typeIs_bytes _ _ _,FB.slot_bytes_getitem.lookup⟩
theorem vA(c:PySem.Expr)(o i:ai):∃d,subscripted c false o i=operate d (Eb o i):=by cases c<;>first|exact⟨_,rfl⟩|(cases step<;>exact⟨_,rfl⟩)
theorem sL{s:ak}{E:ai->ak->Prop}{d c:PySem.Expr}{o i:ai}{Q:ai->ak->Prop}(j:jx s o)(h:aJ C.M A (Eb o i) Q E s):aJ C.M A (subscriptTail d c o i) Q E s:=by revert j;intro f;refine lB f λT n j m=>?_;clear f;refine zE (vA c o i) λl e=>?_;exact tail_any j m h e
theorem wV{k:Int}{n j:Nat}(h:ju k n=some j):J9 k n=some j/\j<n/\(0<=k/\k.toNat=j\/k<0/\0<=k+n/\(k+n).toNat=j):=by
 unfold ju at h;unfold J9;by_cases h0:0<=k;·rw[if_pos h0]at h;obtain⟨h1,c⟩:=dc h;clear h;cases c;exact⟨by dsimp only;rewrite[if_neg (bY.mpr h0)];exact if_pos (bF.mpr ⟨decide_eq_true h0,decide_eq_true h1⟩),by exact o33 h0 h1,.inl ⟨h0,rfl⟩⟩
 ·rw[if_neg h0]at h;obtain⟨h1,c⟩:=dc h;clear h;cases c;exact⟨by dsimp only;rewrite[if_pos (cu.mp h0)];exact if_pos (bF.mpr ⟨decide_eq_true h1,decide_eq_true (cR (wo (cu.mp h0) n) (Mx (AN _)))⟩),by exact o35 h0 h1,.inr ⟨by exact o2 h0,h1,rfl⟩⟩
theorem rI{xs:List PV}{i p:PV}(h:oh xs i=some p):∃n j,i=.int n/\ju n xs.length=some j/\xs[j]?=some p:=by obtain⟨n,h1,h⟩:=cg h;obtain⟨j,c,h⟩:=cg h;exact⟨n,j,bU h1,c,h⟩
theorem BF{xs:List PV}{vs:List ai}{a:Addr}{n:Int}{j:Nat}{p:PV}{t:Tok}(l:g.h.IsList a vs.toArray)(f:dt g.v xs vs)(e:xs.length<=eu)(r:ju n xs.length=some j)(m:xs[j]?=some p):yd C A (Eb (.ref a) (.int n t)) g λy g'=>VR g'.v p y:=by
 refine uU (wV r) λd w u=>?_;clear r d;refine dq (f.get m) λy s i=>?_;have c:=f.length;replace e:=jP▸e;intro Q E q;clear m;rcases u with⟨h0,rfl⟩|⟨h0,h1,rfl⟩;·exact wpAny_getItem_list l h0 (by exact o32 e c w) (by simpa using s) (q _ _ _ _ (.refl _) i)
 ·exact wpAny_getItem_list_neg l h0 (by simp only[aN];exact o37 c h1) (by exact o38 e c h1) (by simpa[c]using s) (q _ _ _ _ (.refl _) i)
theorem GX(J:St C k g){i p:PV}{R:ai}(I:VR g.v a ya)(m:VR g.v i R)(e:gq g.t a i=some p):jx g.s ya/\yd C A (Eb ya R) g λy g'=>VR g'.v p y:=by
 have d:(dictAt g.t a).bind (λP=>if iU i P then dw i P else none)=some p->jx g.s ya/\yd C A (Eb ya R) g λy g'=>VR g'.v p y:=λe=>by obtain⟨P,h1,z⟩:=cg e;clear e;clear e;refine zA (dc z) λO F=>?_;clear z;obtain⟨l,q,rfl,Y,Z,rfl,D⟩:=J.dict I h1;obtain@⟨_,_,_,_,kvs,_,S,X,T,V,_,rfl,L⟩:=D.bK.by O m;have c:=V.eH X S;replace c:=F▸c;generalize hy:mZ kvs S=y at c;cases c with|some r=>exact⟨⟨"dict",_,T.dictOf.typeIs,Vz.lookup⟩,λQ E q=>XN L T.dictOf.mapOf hy (q _ _ _ _ (.refl _) r)⟩
 cases a with
 |bR xs=>clear d;refine d0 (rI e) λn j B N M=>?_;subst B;obtain⟨a1,us,ep,rfl,K,H,c⟩:=I;refine zE m λt f=>?_;clear m;subst f;refine uU (wV N) λh1 z F=>?_;refine dq (H.get M) λy W U=>?_;have G:=gy (J.fz _ _ K);replace c:=jP▸c;exact⟨.tuple G,λQ E q=>PyProof.Rows.getItem_tuple (t:=a1) (items:=us.toArray) G (by exact o36 c F) (by exact o39 c z F) (j:=j) (x:=y) (by refine zl aN ?_;refine zl H.length ?_;exact h1) (by simpa using W) (q _ _ _ _ (.refl _) U)⟩
 |list xs=>clear d;refine d0 (rI e) λn j B N M=>?_;subst B;obtain⟨a1,us,ep,rfl,K,H,c⟩:=I;refine zE m λt f=>?_;clear m;subst f;have G:=cD (J.fz _ _ K);exact⟨.list G,BF G H c N M⟩
 |bytes xs=>
  clear d;obtain⟨n,h1,z⟩:=cg e;clear e;refine zA (dc z) λh F=>?_;clear z;cases F;replace m:=bU h1▸m;obtain⟨b,t,rfl,rfl,c⟩:=I;refine zE m λu f=>?_;clear m;subst f;refine⟨.bytes _ _,λQ E q=>?_⟩;rw[aj]at h c;replace c:=jP▸c;have:=getItem_bytes (prog:=C.prog) (w:=C.w) (A:=A) (E:=E) (s:=g.s) (t:=t) (u:=u) (l:=b.toList) (i:=n) (Q:=Q) (by exact o66 c) h.1 (by exact o69 h) (q _ _ _ _ (.refl _) (by
   have O:n.toNat<b.toList.length:=by exact o71 h c
   refine⟨g.s.toks,?_⟩;simp only[bQ,bV];refine zl (aX O) ?_;rfl))
  exact this
 |_=>exact d e
theorem RU(k:Int)(n:Nat):clipAt n k=M8 k n:=by
 have h:=clipAt_cast n k;unfold M8;split;·rename_i c;rewrite[if_neg (bY.mpr c),Int.max_eq_right (Int.le_min.mpr ⟨c,bb n⟩)]at h;exact m7 (h.trans (show min k n=((min k.toNat n:Nat):Int)by rewrite[Lean.Omega.Int.ofNat_min,Rm c];rfl))
 ·rename_i c;rewrite[if_pos (cu.mp c),Int.min_eq_left (eZ (cR (wo (cu.mp c) n) (Mx (AN _)))),Int.max_comm,<-Int.ofNat_toNat]at h;exact m7 h
theorem CU{α:Type}(xs:List α)(c d:Option Int):pD xs c d=(xs.drop (c.elim 0 (clipAt xs.length))).take (d.elim xs.length (clipAt xs.length)-c.elim 0 (clipAt xs.length)):=by cases c<;>cases d<;>simp only[pD,RU,Option.elim,List.drop_take]
theorem dt.pD{v:Vw}{xs:List PV}{vs:List ai}(h:dt v xs vs)(d c:Option Int):dt v (pD xs d c) (pD vs d c):=by unfold R.pD;refine zl h.length ?_;exact(h.take _).drop _
theorem zg{α:Type}(xs:List α)(c d:Option Int):(pD xs c d).length<=xs.length:=by rw[CU,cW,cX];exact o34
theorem RV{α β:Type}(f:α->β)(xs:List α)(d c:Option Int):pD (xs.map f) d c=(pD xs d c).map f:=by unfold pD;refine zl (aj _) ?_;refine zl List.map_drop ?_;exact zl List.map_take rfl
theorem EA(i:St C k g){f d:Option Int}{r:Bool×PV}{l n:ai}{sl:Addr}(u:VR g.v a ya)(z:g.h.IsSliceOf sl l n .none)(p:IsPart l f)(w:IsPart n d)(e:oi a f d=some r):jx g.s ya/\yd C A (Eb ya (.ref sl)) g λy g'=>oL g.h r y g':=by
 cases a with
 |bytes b=>cases e;obtain⟨F,t,rfl,rfl,c⟩:=u;rw[aj,aV]at c;refine⟨.bytes _ _,λQ E q=>getItem_meets (typeIs_bytes _ _ _) (by decide) FB.slot_bytes_getitem FB.entry_bytes_getitem (FB.args_bytes_getitem_2 _ _) (KBc.meets_slice2 F t _ p w) ⟨z,aa (KBc.size_picked_le _ _ _) (aa c mh),λt' k=>q _ _ _ _ (.refl _) (VW (VR.rH _ _ ?_ (aa (zg _ _ _) (by simpa using c))))⟩⟩;rw[KBc.picked_eq,RV,CU];simp
 |list xs=>
  cases e;obtain⟨a1,us,ep,rfl,B,j,c⟩:=u;have m:=cD (i.fz _ _ B);refine⟨.list m,λQ E q=>rb m z p w .none (by simp) (q _ _ _ _ (.push _ _) (uy i ?_ (j.pD f d) (aa (zg _ _ _) c))) (by rw[aN,j.length];exact aa c mh)⟩;have D:slicePick us.toArray f d none=(R.pD us f d).toArray:=by rw[Yn,CU];simp
  exact congrArg (λx=>g.h.push {cls:=.type "list",data:=.seq x}) D
 |_=>exact(kK e).elim
end
section
variable(L p:List UInt8)
def VZ(l:List Nat)(n:Nat):List Nat:=dE (motive:=λ_=>Nat->List Nat) (λ_=>[]) (λi _ f a=>if a<=i/\(L.drop i).take p.length=p then i::f (i+p.length)else f a) l n
theorem Ny{i a:Nat}{is:List Nat}:VZ L p (i::is) a=if a<=i/\(L.drop i).take p.length=p then i::VZ L p is (i+p.length)else VZ L p is a:=rfl
def uz(l:List Nat)(n:Nat):List (List UInt8):=dE (motive:=λ_=>Nat->List (List UInt8)) (λa=>[L.drop a]) (λi _ f a=>(L.take i).drop a::f (i+p.length)) l n
theorem EB{a:Nat}:uz L p [] a=[L.drop a]:=rfl
theorem zh{i a:Nat}{is:List Nat}:uz L p (i::is) a=(L.take i).drop a::uz L p is (i+p.length):=rfl
def qr(l:List Nat)(n:Nat):List (List UInt8):=dE (motive:=λ_=>Nat->List (List UInt8)) (λa=>[L.drop a]) (λi _ f a=>if a<=i/\(L.drop i).take p.length=p then(L.take i).drop a::f (i+p.length)else f a) l n
theorem EC{a:Nat}:qr L p [] a=[L.drop a]:=rfl
theorem vB{i a:Nat}{is:List Nat}:qr L p (i::is) a=if a<=i/\(L.drop i).take p.length=p then(L.take i).drop a::qr L p is (i+p.length)else qr L p is a:=rfl
theorem Nz(is:List Nat):∀(a:Nat),uz L p (VZ L p is a) a=qr L p is a:=by
 induction is with
 |nil=>intro a;exact rfl
 |cons i is b=>
  intro a;rw[Ny,vB];split;·rw[zh,b]
  ·exact b a
theorem fu(r:List UInt8):p.isPrefixOf r=decide (r.take p.length=p):=by rw[n4,List.isPrefixOf_iff_prefix,List.prefix_iff_eq_take,decide_eq_true_iff];exact eq_comm
theorem oM(a:Nat)(acc r:List UInt8)(h:r.length<p.length):f7 p a acc r=[acc.reverse++r]:=by
 induction a generalizing acc r with
 |zero=>rfl
 |succ a d=>
  cases r with
  |nil=>rw[sD,aT]
  |cons c r=>
   rw[jc,if_neg];·rw[d _ _ (cL h)];simp
   ·rw[fu];intro b;have:=congrArg cZ (of_decide_eq_true b);rw[cW]at this;exact o4 h this
theorem ED(k:Nat):∀(i a:Nat),(∀j,i<=j->j<i+k->j<a)->qr L p (e8 i k) a=[L.drop a]:=by induction k with|zero=>intro i a _;exact rfl|succ k b=>intro i a h;rw[jT,vB,if_neg λq=>gi.mpr (h i (bf _) (by exact o40)) q.1];exact b (i+1) a λj h1 c=>h j (by exact o43 h1) (by exact o44 c)
theorem EE(d:Nat):∀(k i:Nat),qr L p (e8 i (d+k)) (i+d)=qr L p (e8 (i+d) k) (i+d):=by induction d with|zero=>intro k i;simp|succ d a=>intro k i;rw[show d+1+k=(d+k)+1 by exact o41,jT,vB,if_neg λq=>gi.mpr (bI (iQ d)) q.1];have:=a k (i+1);rw[show i+1+d=i+(d+1)by exact o6]at this;exact this
theorem EF(d:0<p.length):∀(k i b a:Nat),b<=i->i+k+p.length=L.length+1->k<=a->qr L p (e8 i k) b=f7 p a ((L.take i).drop b).reverse (L.drop i):=by
 intro k;induction k using Nat.strongRecOn with
 |ind k o=>
  intro i b a m c n;cases k with
  |zero=>
   rw[sg,EC,oM _ _ _ _ (by rw[cX];exact o42 d c),jE];congr 1;conv=>lhs;rw[<-MR i L]
   rw[CC (by rw[cW];exact o45 d m c)]
  |succ k=>
   obtain⟨a,rfl⟩:∃f,a=f+1:=⟨a-1,by exact o46 n⟩;have h:i<L.length:=by exact o47 d c
   have g:L.drop i=L[i]::L.drop (i+1):=j8 h;rw[jT,vB];by_cases hm:(L.drop i).take p.length=p;·
    rw[if_pos ⟨m,hm⟩];rw[g,jc,if_pos (by rw[fu,<-g];exact decide_eq_true hm),jE];congr 1;rw[<-g,List.drop_drop];by_cases hb:p.length<=k+1;·have e:=EE L p (p.length-1) (k+1-p.length) (i+1);rw[show p.length-1+(k+1-p.length)=k by exact o52 d c hb,show i+1+(p.length-1)=i+p.length by exact o55 d c]at e;rw[e,o (k+1-p.length) (by exact o56 d c hb) (i+p.length) (i+p.length) a (bf _) (by exact o57 c hb) (by exact o58 d c n hb)];rw[List.drop_of_length_le (l:=L.take (i+p.length)) (by rw[cW];exact o59 c)];rfl
    ·rw[ED _ _ _ _ _ (λj h1 r=>by exact o60 c hb r),oM _ _ _ _ (by rw[cX];exact o61 c h hb)];simp
   ·rw[if_neg (λq=>hm q.2)];rw[g,jc,if_neg (by rw[fu,<-g];intro q;exact hm (of_decide_eq_true q))];rw[o k (by exact o7) (i+1) b a (by exact o0 m) (by exact o8 c) (by exact o63 n)];congr 1;rw[List.take_add_one,aX h,CC (by rw[cW];exact o64 m h)];simp
end
section
variable(b p:Array UInt8)
theorem pM(i:Nat):(b.extract i (i+p.size)==p)=decide ((b.toList.drop i).take p.toList.length=p.toList):=by
 have e:(b.extract i (i+p.size)).toList=(b.toList.drop i).take p.toList.length:=by rw[wu,qJ,aV,sd]
 rw[<-e,n4,beq_iff_eq,decide_eq_true_iff,mJ]
theorem NA(is:List Nat):∀(acc:List Nat)(a:Nat),(is.foldl (λ(acc:List Nat×Nat)i=>if(decide (i>=acc.2)&&b.extract i (i+p.size)==p)=true then(i::acc.1,i+p.size)else acc) (acc,a)).1.reverse=acc.reverse++VZ b.toList p.toList is a:=by
 induction is with
 |nil=>intro acc a;exact(aT _).symm
 |cons i is c=>
  intro acc a;rw[fy,Ny];by_cases h:a<=i/\(b.toList.drop i).take p.toList.length=p.toList;·rw[if_pos h];dsimp only;rw[if_pos (by rw[ax];exact⟨decide_eq_true h.1,by rw[pM];exact decide_eq_true h.2⟩),c];simp
  ·rw[if_neg h];dsimp only;rw[if_neg (by rw[ax,pM,decide_eq_true_iff,decide_eq_true_iff];exact h),c]
theorem nG:bl.Bytes.occurrences b p 0 b.size=VZ b.toList p.toList (e8 0 (b.size+1-p.size)) 0:=by unfold bl.Bytes.occurrences;have:=NA b p (eM (b.size+1-p.size)) [] 0;simp only[List.reverse_nil,dS]at this;rw[wx]at this;rw[<-this];simp only[bO,Mw,List.map_id',wx]
def YS(w:Nat)(l:List Nat)(n:Nat):List (List UInt8):=dE (motive:=λ_=>Nat->List (List UInt8)) (λa=>[(b.extract a b.size).toList]) (λi _ f a=>(b.extract a i).toList::f (i+w)) l n
theorem Uz{w a:Nat}:YS b w [] a=[(b.extract a b.size).toList]:=rfl
theorem UA{w i a:Nat}{is:List Nat}:YS b w (i::is) a=(b.extract a i).toList::YS b w is (i+w):=rfl
theorem CV(w:Nat)(d:List Nat):∀(a:Array (Array UInt8))(c:Nat),(let r:=d.foldl (λ(q:Array (Array UInt8)×Nat)p=>(q.1.push (b.extract q.2 p),p+w)) (a,c);(r.1.push (b.extract r.2 b.size)).toList.map (·.toList))=a.toList.map (·.toList)++YS b w d c:=by induction d with|nil=>intro a c;simp[Uz]|cons i d e=>intro a c;have:=e (a.push (b.extract c i)) (i+w);dsimp only at this⊢;refine zl fy ?_;refine zl this ?_;simp[UA]
theorem RW(c:List Nat):∀(a:Nat),YS b p.size c a=uz b.toList p.toList c a:=by induction c with|nil=>intro a;rw[Uz,EB];congr 1;rw[wu,qJ,lS (by rw[cX,aV];exact o48)]|cons i c d=>intro a;rw[UA,zh,d,aV];congr 1;rw[wu,qJ,List.drop_take]
theorem uA(a:List Nat):(bl.Bytes.between b p.size a).map (·.toList)=uz b.toList p.toList a 0:=by have:=CV b p.size a #[] 0;simp only[fP,dS]at this;rw[RW]at this;refine zr this ?_;rfl
theorem zi(a:0<p.size):(bl.Bytes.between b p.size (bl.Bytes.occurrences b p 0 b.size)).map (·.toList)=du b.toList p.toList:=by
 rw[uA,nG,Nz];unfold du;by_cases h:p.size<=b.size+1;·rw[EF b.toList p.toList (by simpa using a) (b.size+1-p.size) 0 0 (b.toList.length+1) (bf _) (by simp;exact o51 h) (by simp)];simp
 ·rw[show b.size+1-p.size=0 by exact o53 h,sg,EC,oM _ _ _ _ (by simp;exact o54 h)];simp
theorem GY(a:0<p.size)(h:(bl.Bytes.occurrences b p 0 b.size).isEmpty=true):du b.toList p.toList=[b.toList]:=by rw[<-zi b p a,XO.mp h,uA,EB,qb]
theorem zj(is:List Nat):∀(a:Nat),(VZ b.toList p.toList is a).length<=is.length:=by
 induction is with
 |nil=>exactλ_=>bf _
 |cons i is c=>
  intro a;rw[Ny];split;·have:=c (i+p.toList.length);simp only[aO];exact o49 this
  ·have:=c a;simp only[aO];exact o0 this
theorem EH(a:0<p.size):(bl.Bytes.occurrences b p 0 b.size).take (b.size+1)=bl.Bytes.occurrences b p 0 b.size:=by refine lS ?_;rw[nG];have:=zj b p (e8 0 (b.size+1-p.size)) 0;rw[qc]at this;exact o50 a this
end
section
variable{α β:Type}[BEq α][BEq β][LawfulBEq α][LawfulBEq β](f:α->β)(hf:∀a b,f a=f b->a=b)
include hf
theorem qt(p:List α):∀r:List α,(p.map f).isPrefixOf (r.map f)=p.isPrefixOf r:=by
 induction p with
 |nil=>exactλ_=>by simp
 |cons a p d=>
  intro r;cases r with
  |nil=>simp
  |cons c r=>
   simp only[aM,List.isPrefixOf_cons_cons,d r];congr 1;by_cases h:a=c;·subst h;simp
   ·rw[beq_eq_false_iff_ne.mpr h,beq_eq_false_iff_ne.mpr λe=>h (hf _ _ e)]
theorem EI(p:List α)(d:Nat):∀(acc r:List α),f7 (p.map f) d (acc.map f) (r.map f)=(f7 p d acc r).map (qd f):=by
 induction d with
 |zero=>exactλacc r=>by simp[By]
 |succ d g=>
  intro acc r;cases r with
  |nil=>simp[sD]
  |cons c r=>
   have e:=qt f hf p (c::r);rw[aM]at e;rw[aM,jc,jc,e];split;·rw[aM,<-g [] ((c::r).drop p.length)];simp
   ·rw[<-g (c::acc) r];rfl
theorem GZ(b p:List α):du (b.map f) (p.map f)=(du b p).map (qd f):=by unfold du;refine zl (aj _) ?_;exact EI f hf p (b.length+1) [] b
theorem CW(cs:List α)(c:α):(cs.map f).contains (f c)=cs.contains c:=by
 induction cs with
 |nil=>rfl
 |cons a cs d=>
  rw[aM,iR,iR,d];congr 1;by_cases h:c=a;·subst h;simp
  ·rw[beq_eq_false_iff_ne.mpr h,beq_eq_false_iff_ne.mpr λe=>h (hf _ _ e)]
theorem xA(cs b:List α):gE (cs.map f) (b.map f)=(gE cs b).map f:=by unfold gE;refine zl List.dropWhile_map ?_;congr 2;funext c;exact CW f hf cs c
theorem G0(cs b:List α):cm (cs.map f) (b.map f)=(cm cs b).map f:=by unfold cm;rw[xA f hf,<-iD,xA f hf,iD]
theorem Kz(p b:List α):∀(i:Nat),nv (p.map f) (b.map f) i=nv p b i:=by induction b with|nil=>intro i;simp[yB]|cons c b d=>intro i;have e:=qt f hf p (c::b);rw[aM]at e;rw[aM,mA,mA,e,d]
theorem G1(p r:List α):(p.map f).isSuffixOf (r.map f)=p.isSuffixOf r:=by unfold eh;rw[<-iD,<-iD,qt f hf]
end
theorem wW{b β:Type}(f:b->β)(a:List b)(bs:List (List b)):bD (a.map f) (bs.map (qd f))=(bD a bs).map f:=by induction bs with|nil=>rfl|cons x r c=>cases r with|nil=>rfl|cons y r=>rw[aM]at c;simp only[aM,om,ba]at*;rw[c]
theorem toNat_inj':∀a b:UInt8,a.toNat=b.toNat->a=b:=λ_ _ h=>Ym.mp h
section
theorem xB:qe "bytes" "split" "bytes.split":=.of (owner:="bytes") (n:="split") (by rw[n5,jf];kernel_rfl) (by decide+kernel) (by decide+kernel) (by decide+kernel) (by first|exact .inl (by decide+kernel)|exact .inr (by decide+kernel)) (by rw[iB];kernel_rfl)
theorem EJ:yr (.builtin "bytes.split")=pure (.type "method_descriptor"):=by show CD _=_;rw[oE];kernel_rfl
theorem CX:Gq table "bytes.split"=some Builtin.«bytes.split»:=si (by kernel_rfl)
theorem EK(a b:ai):yt "bytes.split" ⟨[a,b],[]⟩:=by unfold yt;kernel_rfl
theorem xC:qe "bytes" "strip" "bytes.strip":=.of (owner:="bytes") (n:="strip") (by rw[n5,jf];kernel_rfl) (by decide+kernel) (by decide+kernel) (by decide+kernel) (by first|exact .inl (by decide+kernel)|exact .inr (by decide+kernel)) (by rw[iB];kernel_rfl)
theorem EL:yr (.builtin "bytes.strip")=pure (.type "method_descriptor"):=by show CD _=_;rw[oE];kernel_rfl
theorem CY:Gq table "bytes.strip"=some Builtin.«bytes.strip»:=si (by kernel_rfl)
theorem EM(a b:ai):yt "bytes.strip" ⟨[a,b],[]⟩:=by unfold yt;kernel_rfl
theorem zk:qe "bytes" "find" "bytes.find":=.of (owner:="bytes") (n:="find") (by rw[n5,jf];kernel_rfl) (by decide+kernel) (by decide+kernel) (by decide+kernel) (by first|exact .inl (by decide+kernel)|exact .inr (by decide+kernel)) (by rw[iB];kernel_rfl)
theorem G3:yr (.builtin "bytes.find")=pure (.type "method_descriptor"):=by show CD _=_;rw[oE];kernel_rfl
theorem EN:Gq table "bytes.find"=some Builtin.«bytes.find»:=si (by kernel_rfl)
theorem G4(a b:ai):yt "bytes.find" ⟨[a,b],[]⟩:=by unfold yt;kernel_rfl
theorem zm:qe "bytes" "join" "bytes.join":=.of (owner:="bytes") (n:="join") (by rw[n5,jf];kernel_rfl) (by decide+kernel) (by decide+kernel) (by decide+kernel) (by first|exact .inl (by decide+kernel)|exact .inr (by decide+kernel)) (by rw[iB];kernel_rfl)
theorem G5:yr (.builtin "bytes.join")=pure (.type "method_descriptor"):=by show CD _=_;rw[oE];kernel_rfl
theorem EO:Gq table "bytes.join"=some Builtin.«bytes.join»:=si (by kernel_rfl)
theorem G6(a b:ai):yt "bytes.join" ⟨[a,b],[]⟩:=by unfold yt;kernel_rfl
theorem qP:J8 (.type "bytes") (.type "tuple")=pure false:=by rw[iB];kernel_rfl
variable{M:CB}{A:b9}{E:ai->ak->Prop}{s:ak}{id:String}{b p:Array UInt8}{t u:Tok}
theorem sM{Q:Option (Array UInt8)->ak->Prop}(h:Q (some b) s):aJ M A (bl.Bytes.buffer? id (.bytes b t)) Q E s:=nS KBy.buffer_eq h
theorem I9{Q:Array UInt8->ak->Prop}(h:Q b s):aJ M A (bl.Bytes.bytesLike id (.bytes b t)) Q E s:=by unfold bl.Bytes.bytesLike;exact af (sM (ay h))
theorem V0(n:Nat):(bl.Bytes.window n none none).2=(n:Int):=by simp only[bl.Bytes.window,Option.getD_none];rw[if_neg (bY.mpr (bb n))];exact Int.min_self _
theorem CZ(b p:Array UInt8)(t u:Tok):kT (Builtin.«bytes.startswith» ⟨[.bytes b t,.bytes p u],[]⟩) (.val (.bool (p.toList.isPrefixOf b.toList))):=.of_wp λM A E s Q h=>by
 show aJ M A (tI (.bytes p u) (.type "tuple")>>=λr=>_) _ E s;refine af (Br (typeIs_bytes s p u) qP ?_);show aJ M A (bl.Bytes.buffer? _ (.bytes p u)>>=λr=>_) _ E s;refine af (sM ?_);have e:(if(bl.Bytes.window b.size none none).2-(bl.Bytes.window b.size none none).1<p.size then false else b.extract (bl.Bytes.window b.size none none).1.toNat ((bl.Bytes.window b.size none none).1.toNat+p.size)==p)=p.toList.isPrefixOf b.toList:=by
  have c:(bl.Bytes.window b.size none none).1=0:=rfl;have a:=V0 b.size;rw[c,a,fu];have m:=pM b p 0;rw[qb]at m;rw[show(0:Int).toNat=0 from rfl,m];split;·rename_i h;symm;rw[decide_eq_false_iff_not];intro q;have:=congrArg cZ q;rw[cW,aV,aV]at this;exact o79 h this
  ·rfl
 exact ay ⟨_,rfl,by rw[<-e]at h;exact h⟩
theorem G7(b p:Array UInt8)(t u:Tok):kT (Builtin.«bytes.endswith» ⟨[.bytes b t,.bytes p u],[]⟩) (.val (.bool (p.toList.isSuffixOf b.toList))):=.of_wp λM A E s Q h=>by
 show aJ M A (tI (.bytes p u) (.type "tuple")>>=λr=>_) _ E s;refine af (Br (typeIs_bytes s p u) qP ?_);show aJ M A (bl.Bytes.buffer? _ (.bytes p u)>>=λr=>_) _ E s;refine af (sM ?_);have e:(if(bl.Bytes.window b.size none none).2-(bl.Bytes.window b.size none none).1<p.size then false else b.extract ((bl.Bytes.window b.size none none).2.toNat-p.size) (bl.Bytes.window b.size none none).2.toNat==p)=p.toList.isSuffixOf b.toList:=by
  have d:(bl.Bytes.window b.size none none).1=0:=rfl;have a:=V0 b.size;rw[d,a];rw[Int.toNat_natCast];have c:p.toList.isSuffixOf b.toList=decide (b.toList.drop (b.size-p.size)=p.toList):=by rw[n4,List.isSuffixOf_iff_suffix,List.suffix_iff_eq_drop,decide_eq_true_iff,aV,aV];exact eq_comm
  rw[c];split;·rename_i h;symm;rw[decide_eq_false_iff_not];intro q;have:=congrArg cZ q;rw[cX,aV,aV]at this;exact o81 h this
  ·rename_i h;have m:=pM b p (b.size-p.size);rw[show b.size-p.size+p.size=b.size by exact o83 h]at m;rw[m,lS (by rw[cX,aV,aV];exact o84 h)]
 exact ay ⟨_,rfl,by rw[<-e]at h;exact h⟩
theorem KA(L q:List UInt8)(k:Nat):∀(i:Nat),i+k+q.length=L.length+1->(0<q.length\/0<k)->(match((e8 i k).find? λi=>decide ((L.drop i).take q.length=q))with|some j=>(j:Int)|none=>-1)=nv q (L.drop i) i:=by
 refine(?H:gB (by
  induction k with
  |zero=>
   intro i h g;rw[sg,List.find?_nil];have f:∀(r:List UInt8)(i:Nat),r.length<q.length->nv q r i=-1:=by
    intro r;induction r with
    |nil=>
     intro i h;have:q.isEmpty=false:=by clear g;cases q<;>simp at h⊢
     simp[yB,this]
    |cons c r d=>intro i h;rw[mA,if_neg,d _ (by simp at h;exact o3 h)];rw[fu];intro e;have:=congrArg cZ (of_decide_eq_true e);rw[cW]at this;exact o4 h this
   rw[f _ _ (by rw[cX];exact o65 h g)]
  |succ k d=>
   intro i h _;rw[jT,D7];by_cases hm:(L.drop i).take q.length=q;·rw[decide_eq_true hm];clear d h a;cases e:L.drop i with|nil=>rw[e]at hm;simp at hm;subst hm;simp[yB]|cons c r=>rw[mA,if_pos (by rw[fu,<-e];exact decide_eq_true hm)]
   ·rw[decide_eq_false hm];have d:=d (i+1) (by exact o8 h) (.inl (by clear d h a;cases q with|nil=>simp at hm|cons _ _=>simp));dsimp only at d⊢;rw[d];cases e:L.drop i with
    |nil=>
     exfalso;have h1:=congrArg cZ e;rw[cX]at h1;simp at h1;have:q=[]:=by cases q with|nil=>rfl|cons _ _=>simp at h;exact(ada h1 h).elim
     clear h d;clear d a;subst this;simp at hm
    |cons c r=>have h1:=congrArg cZ e;rw[cX]at h1;simp at h1;rw[mA,if_neg (by rw[fu,<-e];intro q';exact hm (of_decide_eq_true q'))];congr 1;rw[<-List.drop_drop,e];rfl)) gA
 intro w;delta id at w;(try dsimp-zetaHave only at w);refine(?F:gC _) _ w;exactλp _=>p
theorem RX(b p:Array UInt8):(match(if((b.size:Nat):Int)-0<(p.size:Nat)then none else bl.Bytes.find? b p 0 b.size)with|some i=>(i:Int)|none=>-1)=nv p.toList b.toList 0:=by
 have:=KA b.toList p.toList;by_cases h:((b.size:Nat):Int)-0<(p.size:Nat);·
  rw[if_pos h];by_cases h2:p.size=b.size+1;·have:=this 0 0 (by simp;exact o67 h2) (.inl (by simp;exact o68 h2));simp only[sg,List.find?_nil,qb]at this;exact this
  ·have a:∀(r:List UInt8)(i:Nat),r.length<p.toList.length->nv p.toList r i=-1:=by
    intro r;induction r with
    |nil=>
     intro i h;have:p.toList.isEmpty=false:=by cases q:p.toList<;>simp[q]at h⊢
     simp[yB,this]
    |cons c r f=>intro i h;rw[mA,if_neg,f _ (by simp at h⊢;exact o3 h)];rw[fu];intro d;have:=congrArg cZ (of_decide_eq_true d);rw[cW]at this;exact o4 h this
   rw[a _ _ (by simp;exact o70 h)]
 ·rw[if_neg h];have e:=this (b.size+1-p.size) 0 (by simp;exact o72 h) (.inr (by exact o73 h));rw[qb]at e;rw[<-e];unfold bl.Bytes.find?;simp only[bO,Mw,List.map_id',wx];have:(λi=>b.extract i (i+p.size)==p)=λi=>decide ((b.toList.drop i).take p.toList.length=p.toList):=funext λi=>pM b p i;rw[this]
theorem G8(b p:Array UInt8)(t u:Tok):kT (Builtin.«bytes.find» ⟨[.bytes b t,.bytes p u],[]⟩) (.int (nv p.toList b.toList 0)):=.of_wp λM A E s Q h=>by
 show aJ M A ((bl.Bytes.buffer? _ (.bytes p u)>>=λr=>_)>>=λr=>_) _ E s;refine af (af (sM ?_));refine af (ay (af (ay (ay ?_))));have c:(bl.Bytes.window b.size none none).1=0:=rfl;have a:=V0 b.size;rw[<-RX]at h;simp only[Option.getD_none];refine zl (show(if(b.size:Int)<0 then max 0 ((b.size:Int)+b.size)else b.size)=b.size from if_neg (bY.mpr (bb _))) ?_;refine zl (Int.min_self _) ?_;refine zl (show(if(0:Int)<0 then max 0 ((0:Int)+b.size)else 0)=0 from rfl) ?_;have e:((if((b.size:Nat):Int)-0<((p.size:Nat):Int)then none else some ((0:Int).toNat,((b.size:Nat):Int).toNat)).bind λ(x:Nat×Nat)=>match x with|(lo,hi)=>if false=true then bl.Bytes.rfind? b p lo hi else bl.Bytes.find? b p lo hi)=if((b.size:Nat):Int)-0<((p.size:Nat):Int)then none else bl.Bytes.find? b p 0 b.size:=by
  split;·rfl
  ·simp
 refine zl e ?_;generalize(if((b.size:Nat):Int)-0<((p.size:Nat):Int)then none else bl.Bytes.find? b p 0 b.size)=r at h⊢;cases r with|none=>exact af (tJ (af (wpAny_mkInt (ay ⟨_,rfl,h⟩))))|some i=>exact af (wpAny_mkInt (ay ⟨_,rfl,h⟩))
theorem ly{c:Type}(f:c->Bool)(l:List c):(l.dropWhile f).length<=l.length/\((l.dropWhile f).length=l.length->l.dropWhile f=l):=by
 induction l with
 |nil=>exact⟨bf _,λ_=>rfl⟩
 |cons a l d=>
  refine zl ke ?_;by_cases q:f a=true;·refine zl (if_pos q) ?_;exact⟨b7 d.1,λh=>absurd (aa (bA h.symm) d.1) (wt _)⟩
  ·refine zl (if_neg q) ?_;exact⟨bf _,λ_=>rfl⟩
theorem KC(cs b:List UInt8):(cm cs b).length<=b.length/\((cm cs b).length=b.length->cm cs b=b):=by unfold cm gE;have h1:=ly (λc=>cs.contains c) b;have a:=ly (λc=>cs.contains c) (b.dropWhile λc=>cs.contains c).reverse;rw[ef]at a⊢;refine⟨aa a.1 h1.1,λh=>?_⟩;have e:=gH h1.1 (aa (bA h.symm) a.1);rw[a.2 (h.trans e.symm),jE,h1.2 e]
theorem EP(b p:Array UInt8)(t u:Tok):Meets (Builtin.«bytes.strip» ⟨[.bytes b t,.bytes p u],[]⟩) (λ_ R s=>b.size<=jD/\∀a t' k,a.toList=cm p.toList b.toList->R (.ok (.ret (.bytes a t'))) {s with toks:=k}):=by
 refine .of_wp λprog w A R s g=>?_;obtain⟨hz,h⟩:=g;show aJ _ _ (bl.Bytes.bytesLike _ (.bytes p u)>>=λr=>_) _ _ s;refine af (I9 ?_);refine af (ay (af (ay ?_)));have i:(λc=>p.toList.contains c)=λc=>p.contains c:=funext λc=>by rw[MS]
 have e:(jF p.contains (jF p.contains b.toList).reverse).reverse=cm p.toList b.toList:=by unfold cm gE;rw[i]
 have L:=KC p.toList b.toList;show aJ _ _ (if((jF p.contains (jF p.contains b.toList).reverse).reverse.length==b.size)=true then _ else _) _ _ s;rw[e];refine D5 (λd=>?_) λd=>?_;·have j:=L.2 (by rw[aV];exact eq_of_beq d);refine af (tJ (af ?_));show aJ _ _ (yr (.bytes b t)>>=λr=>_) _ _ s;refine af (AR (typeIs_bytes s b t) ?_);exact ay (ay ⟨_,rfl,h b t s.toks j.symm⟩)
 ·refine af ?_;show aJ _ _ (mkBytes _) _ _ s;have f:(if true=true then(jF p.contains (if true=true then jF p.contains b.toList else b.toList).reverse).reverse else if true=true then jF p.contains b.toList else b.toList)=cm p.toList b.toList:=e;rw[f];refine IJ (ay ⟨_,rfl,h _ _ _ rfl⟩) ?_;rw[aN];exact aa L.1 (aa (bA aV) hz)
def V1(vs:List ai)(ls:List (List UInt8)):Prop:=dE (motive:=λ_=>List ai->Prop) (λvs=>vs=[]) (λl _ f vs=>∃b t a,vs=.bytes b t::a/\b.toList=l/\f a) ls vs
theorem Ja{vs:List ai}{l:List UInt8}{ls:List (List UInt8)}:V1 vs (l::ls)=∃b t a,vs=.bytes b t::a/\b.toList=l/\V1 a ls:=rfl
theorem RY(ls:List (Array UInt8)):∀(s:ak){Q:List ai->ak->Prop},(∀l∈ls,l.size<=jD)->(∀vs k,V1 vs (ls.map (·.toList))->Q vs {s with toks:=k})->aJ M A (ls.mapM bl.Bytes.Kind.bytes.new) Q E s:=by induction ls with|nil=>intro s Q _ h;refine zl List.mapM_nil ?_;exact ay (h [] s.toks rfl)|cons l ls d=>intro s Q hz h;refine zl List.mapM_cons ?_;refine af ?_;show aJ M A (mkBytes l) _ E s;refine IJ ?_ (hz l (.head _));refine af (d {s with toks:=s.toks+1} (λl c=>hz l (.tail _ c)) λvs k a=>ay (h (_::vs) k ?_));refine zl aM ?_;refine zl Ja ?_;exact⟨l,s.toks,vs,rfl,rfl,a⟩
theorem C0(b:Array UInt8)(w:Nat)(e:List Nat):∀l∈bl.Bytes.between b w e,l.size<=b.size:=by
 have g:∀(e:List Nat)(a:Array (Array UInt8))(c:Nat),(∀l∈a,l.size<=b.size)->∀l∈(e.foldl (λ(q:Array (Array UInt8)×Nat)p=>(q.1.push (b.extract q.2 p),p+w)) (a,c)).1,l.size<=b.size:=by
  intro e;induction e with
  |nil=>intro a c h;exact h
  |cons i e j=>
   intro a c h;refine zl fy ?_;refine j _ _ λl f=>?_;rcases Array.mem_push.mp f with f|rfl;·exact h l f
   ·refine zl Ua ?_;exact o74
 intro l f;unfold bl.Bytes.between at f;have d:=Array.mem_toList_iff.mp f;clear f;rcases Array.mem_push.mp d with d|rfl;·exact g e #[] 0 (λl h=>by simp at h) l d
 ·refine zl Ua ?_;exact o75
theorem ER(b p:Array UInt8)(t u:Tok)(c:0<p.size):Meets (Builtin.«bytes.split» ⟨[.bytes b t,.bytes p u],[]⟩) (λ_ R s=>b.size<=1048576/\∀vs k,V1 vs (du b.toList p.toList)->R (.ok (.ret (.ref s.heap.objs.size))) {s with heap:=s.heap.push {cls:=.type "list",data:=.seq vs.toArray},toks:=k}):=by
 refine .of_wp λprog w A R s n=>?_;obtain⟨hz,h⟩:=n;show aJ _ _ (bl.Bytes.bytesLike _ (.bytes p u)>>=λr=>_) _ _ s;refine af (I9 ?_);have j:¬p.isEmpty=true:=by intro e;rw[VA]at e;clear h;subst e;simp at c
 dsimp only;rw[if_neg j];show aJ _ _ (if(Ka (b.size+1) (bl.Bytes.occurrences b p 0 b.size)).isEmpty=true then _ else _) _ _ s;rw[EH b p c];refine D5 (λg=>?_) λg=>?_;·refine af (tJ (af ?_));show aJ _ _ (yr (.bytes b t)>>=λr=>_) _ _ s;refine af (AR (typeIs_bytes s b t) ?_);refine ay (af (kJ ?_));refine ay ⟨_,rfl,?_⟩;refine h [.bytes b t] s.toks ?_;rw[GY b p c g,Ja];exact⟨b,t,[],rfl,rfl,rfl⟩
 ·refine af (RY _ s (λl g=>?_) λvs k f=>?_);·have:=C0 b p.size _ l g;rw[bN];exact aa1 hz this
  ·have f:V1 vs ((bl.Bytes.between b p.size ((bl.Bytes.occurrences b p 0 b.size).take (b.size+1))).map (·.toList)):=f;rw[EH b p c,zi b p c]at f;refine af (kJ ?_ ?_);·exact ay ⟨_,rfl,h vs k f⟩
   ·have o:∀(ls:List (List UInt8))(vs:List ai),V1 vs ls->vs.length=ls.length:=by intro ls;induction ls with|nil=>exactλvs h=>congrArg cZ h|cons l ls m=>intro vs h;rw[Ja]at h;obtain⟨_,_,v,rfl,_,h⟩:=h;simp[m v h]
    have q:=o _ _ f;have x:(du b.toList p.toList).length<=b.size+1:=by
     rw[<-zi b p c,aj];have:=congrArg cZ (uA b p (bl.Bytes.occurrences b p 0 b.size));rw[aj]at this;rw[this];have cl:∀(d:List Nat)(a:Nat),(uz b.toList p.toList d a).length=d.length+1:=by intro d;induction d with|nil=>intro _;rfl|cons i d m=>intro a;rw[zh,aO,m];rfl
     rw[cl,nG];have:=zj b p (e8 0 (b.size+1-p.size)) 0;rw[qc]at this;exact aa2 c hz this
    rw[bN];exact aa3 hz q x
end
theorem nH:Gp (.type "bytes") ("__buffer__":Str)=pure (some (.builtin "bytes.__buffer__")):=by rw[n5,jf];kernel_rfl
theorem ye:J8 (.type "bytes") (.type "bytes")=pure true:=by rw[iB];kernel_rfl
section
variable{M:CB}{A:b9}{E:ai->ak->Prop}{s:ak}
theorem V2{b:Array UInt8}{t:Tok}{Q:Bool->ak->Prop}(h:Q true s):aJ M A (bl.Bytes.slotIsOwn (.bytes b t) "__buffer__") Q E s:=by
 unfold bl.Bytes.slotIsOwn;refine af (t7 (typeIs_bytes s b t) nH ?_);have c:("bytes.__buffer__":String).endsWith ("."++"__buffer__")=true:=by decide+kernel
 have a:("bytes.__buffer__":String).dropRight ("__buffer__".length+1)="bytes":=by decide+kernel
 show aJ M A (if(!("bytes.__buffer__":String).endsWith ("."++"__buffer__"))=true then _ else _) Q E s;refine zl c ?_;show aJ M A (tI (.bytes b t) (.type (("bytes.__buffer__":String).dropRight ("__buffer__".length+1)))) Q E s;refine zl a ?_;exact Br (typeIs_bytes s b t) ye h
theorem RZ{a:String}{b:Array UInt8}{t:Tok}{Q:Option (Array UInt8×Option ai)->ak->Prop}(h:Q (some (b,none)) s):aJ M A (bl.Bytes.takeBufferQuiet? a (.bytes b t) 0) Q E s:=by unfold bl.Bytes.takeBufferQuiet?;refine af (wpAny_attempt ?_);unfold bl.Bytes.takeBuffer?;refine af (t7 (typeIs_bytes s b t) nH ?_);show aJ M A (bl.Bytes.slotIsOwn (.bytes b t) "__buffer__">>=λr=>_) _ _ s;refine af (V2 ?_);show aJ M A (specialOf (.bytes b t) _>>=λr=>_) _ _ s;refine af (t7 (typeIs_bytes s b t) nH ?_);show aJ M A (bl.Bytes.buffer? _ (.bytes b t) _>>=λr=>_) _ _ s;refine af (nS KBy.buffer_eq ?_);exact ay (ay h)
theorem NB{β:Type}{n:Nat}{f:Nat->β->Sem (ForInStep β)}(e:Nat->β){Q:β->ak->Prop}(c:∀k,k<n->∀g:ForInStep β->ak->Prop,g (.yield (e (k+1))) s->aJ M A (f k (e k)) g E s)(h:Q (e n) s):aJ M A (forIn [:n] (e 0) f) Q E s:=by
 rw[Std.Legacy.Range.forIn_eq_forIn_range'];refine wpAny_forIn_list f (λl b s'=>s'=s/\∃k,k<=n/\l=e8 k (n-k)/\b=e k) Q ?_ ?_ _ _ ?_;·rintro x rest b s'⟨rfl,k,d,a,rfl⟩;revert a;cases q:n-k with|zero=>intro a;simp at a|succ m=>intro a;rw[jT,Yo]at a;obtain⟨h1,i⟩:=a;rw[h1];refine c _ (by exact o76 d q h1) _ ⟨rfl,k+1,by exact o77 d q h1,by rw[show n-(k+1)=m by exact o78 d q h1,i],rfl⟩
 ·clear c;rintro b s'⟨rfl,k,d,a,rfl⟩;cases q:n-k with|zero=>rw[show k=n by exact o80 d q];exact h|succ m=>rw[q,jT]at a;cases a
 ·refine⟨rfl,0,cy _,?_,rfl⟩;simp[Std.Legacy.Range.size]
theorem R0(b:List (Array UInt8×Tok)):∀(a:List ai){Q:Unit->ak->Prop},Q () s->aJ M A (bl.Bytes.joinLetGo (b.map λp=>(.bytes p.1 p.2,none)) a) Q E s:=by induction b with|nil=>intro _ _ h;exact ay h|cons p b c=>intro a Q h;exact af (wpAny_letGo (c a h))
end
theorem BG(b:Array UInt8):∀a:List (Array UInt8),(bl.Bytes.joined b a).toList=bD b.toList (a.map (·.toList)):=by
 have c:∀(a:List (Array UInt8))(k:Nat)(acc:Array UInt8),0<k->((a.zipIdx k).foldl (λout(x:Array UInt8×Nat)=>(if x.2>0 then out++b else out)++x.1) acc).toList=acc.toList++(a.map λp=>b.toList++p.toList).flatten:=by intro a;induction a with|nil=>intro k acc d;simp|cons p a e=>intro k acc d;rw[mM,fy,e _ _ (by exact o82 d)];simp[d]
 have f:∀(a:List (List UInt8))(x:List UInt8),bD b.toList (x::a)=x++(a.map λp=>b.toList++p).flatten:=by intro a;induction a with|nil=>intro x;simp[oj]|cons p a e=>intro x;rw[om,e];simp
 intro a;unfold bl.Bytes.joined;cases a with|nil=>rfl|cons p a=>rw[mM,fy];have:=c a 1 (#[]++p) (by exact o85);rw[aM,f,bE];simp only[fT,if_false,gt_iff_lt];refine this.trans ?_;simp[Function.comp_def]
theorem vC{b:Type}(a:List b)(bs:List (List b)):(bD a bs).length=(bs.map cZ).sum+a.length*(bs.length-1):=by induction bs with|nil=>rfl|cons x r c=>cases r with|nil=>rw[oj];simp|cons y r=>rw[om,ah,ah,c];simp only[aM,List.sum_cons,aO,yo];rw[Nat.mul_add];exact o87
theorem NC(n:Nat):∀(a:List (Array UInt8)),(a.toArray.foldl (·+·.size) n)=n+(a.map (·.size)).sum:=by
 intro a;rw[Rp];·induction a generalizing n with|nil=>simp|cons p a b=>rw[fy,b];simp;exact o86
 ·simp
section
variable{M:CB}{A:b9}{s:ak}{α:Type}{c:Prop}[Decidable c]{x y:Sem α}{Q:α->ak->Prop}{E:ai->ak->Prop}
theorem G9(h:¬c)(q:aJ M A y Q E s):aJ M A (if c then x else y) Q E s:=by rw[if_neg h];exact q
theorem V3(h:c)(q:aJ M A x Q E s):aJ M A (if c then x else y) Q E s:=by rw[if_pos h];exact q
end
theorem KD{β:Type}{P:β->Prop}{f:ai->β}{u:Array ai->β}:∀{l:Array ai},l.size≠1->P (u l)->P (bl.Bytes.joinM.match_1 (λ_=>β) l f u)|⟨[]⟩,_,q=>q|⟨[_]⟩,h,_=>absurd rfl h|⟨_::_::_⟩,_,q=>q
theorem ES(c:Array UInt8)(t:Tok)(a:Addr)(b:List (Array UInt8×Tok)):Meets (Builtin.«bytes.join» ⟨[.bytes c t,.ref a],[]⟩) (λ_ R s=>(∃ep,s.heap.get? a=some (gc (b.map λp=>.bytes p.1 p.2) ep))/\(bD c.toList (b.map (·.1.toList))).length<=1048576/\∀o t' k,o.toList=bD c.toList (b.map (·.1.toList))->R (.ok (.ret (.bytes o t'))) {s with toks:=k}):=by
 refine(?H:gB (by
  refine .of_wp λprog w A R s u=>?_;obtain⟨⟨ep,g⟩,hz,h⟩:=u;show aJ _ _ (bl.Bytes.joinM .bytes _) _ _ s;unfold bl.Bytes.joinM;refine af (ay ?_);have z:s.TypeIs (.ref a) "list":=(cD g).typeIs;refine af ?_;show aJ _ _ (bl.Bytes.joinItems (.ref a)) _ _ s;unfold bl.Bytes.joinItems;refine af (AR z ?_);refine ay ?_;refine af (wy g rfl ?_);dsimp only;have e:(bD c.toList (b.map (·.1.toList))).length=(b.map (·.1.size)).sum+c.size*(b.length-1):=by refine zl (vC _ _) ?_;simp[Function.comp_def]
  by_cases h1:b.length=1;·clear g hz e;refine zE (lT.mp h1) λp n=>?_;subst n;show aJ _ _ (yr (.bytes p.1 p.2)>>=λr=>_) _ _ s;refine af (AR (typeIs_bytes s p.1 p.2) ?_);exact af (tJ (ay ⟨_,rfl,h p.1 p.2 s.toks rfl⟩))
  ·have d:(b.map λp=>ai.bytes p.1 p.2).toArray.size=b.length:=by simp
   refine V3 (by decide) ?_;have g:s.heap.get? a=some ⟨.type "list",none,.seq (b.map λp=>ai.bytes p.1 p.2).toArray ep,#[]⟩:=g;have B:∀k(f:k<b.length),(b.map λp=>ai.bytes p.1 p.2).toArray.getD k .none=.bytes b[k].1 b[k].2:=λk f=>by simp[Array.getD,f]
   generalize(b.map λp=>ai.bytes p.1 p.2).toArray=items at*;refine KD (P:=λt=>aJ _ _ t _ _ s) (by refine zl d ?_;exact h1) ?_;refine af (NB (s:=s) (λk=>(((b.take k).map (·.1)).toArray,(b.take k).map λp=>(ai.bytes p.1 p.2,(none:Option ai)))) ?_ ?_);·
    intro k f C j;replace f:=d▸f;refine af (wy g rfl ?_);dsimp only;have i:((b.take k).map λp=>(ai.bytes p.1 p.2,(none:Option ai))).any (λx=>x.1.onHeap)=false:=by refine zl List.any_map ?_;rewrite[List.any_eq_false];intro p _;exact aK
    refine G9 (by refine zl i ?_;decide) ?_;refine zl (B k f) ?_;refine af (aZ (RZ ?_));refine af (wy g rfl ?_);dsimp only;refine G9 (by simp) (ay ?_);have v:((b.take (k+1)).map (·.1)).toArray=(((b.take k).map (·.1)).toArray).push b[k].1:=by refine zl (AS f) ?_;refine zl ba ?_;refine zl (AU _ _) ?_;rfl
    have y:((b.take (k+1)).map λp=>(ai.bytes p.1 p.2,(none:Option ai)))=((b.take k).map λp=>(ai.bytes p.1 p.2,(none:Option ai)))++[(.bytes b[k].1 b[k].2,none)]:=by refine zl (AS f) ?_;refine zl ba ?_;rfl
    replace j:=v▸j;replace j:=y▸j;exact j
   ·refine zl d ?_;refine zl XP ?_;dsimp only;refine af (ay ?_);refine zl (NC _ _) ?_;have l:¬bl.Bytes.tooLong (c.size*(((b.map (·.1)).toArray).size-1)+((b.map (·.1)).map (·.size)).sum)=true:=by
     unfold bl.Bytes.tooLong;rewrite[decide_eq_true_iff];refine zl bN ?_;have q:((b.map (·.1)).map (·.size)).sum=(b.map (·.1.size)).sum:=by simp[Function.comp_def]
     have e5:(b.map (·.1)).toArray.size=b.length:=by simp
     refine zl q ?_;refine zl e5 ?_;exact aa4 hz e q
    refine G9 l (af ?_);show aJ _ _ (mkBytes _) _ _ s;refine IJ ?_ ?_;·refine af (aZ (wpAny_point ?_));exact af (R0 _ _ (ay ⟨_,rfl,h _ _ _ (by refine zl (BG _ _) ?_;simp[Function.comp_def])⟩))
    ·have m:(bl.Bytes.joined c (b.map (·.1)).toArray.toList).toList.length=(bD c.toList (b.map (·.1.toList))).length:=by refine zl (BG _ _) ?_;simp[Function.comp_def]
     replace m:=aV▸m;refine zl m ?_;refine zl bN ?_;exact aa5 hz e m)) gA
 intro w;delta id at w;(try dsimp-zetaHave only[ff,fg,fi,fj,fm,lY,ua,ub,uc]at w);delta jJ nU at w;extract_lets+proofs+implicits+lift at w;refine(?F:gC _) _ w;exactλp _=>p
theorem yf(c:Nat)(h:(decide (65<=c)&&decide (c<=90)||decide (97<=c)&&decide (c<=122))=true):bl.Str.reprChar 39 c=[c]:=by
 have a:∀c:Fin 123,(decide (65<=c.val)&&decide (c.val<=90)||decide (97<=c.val)&&decide (c.val<=122))=true->bl.Str.reprChar 39 c.val=[c.val]:=by decide+kernel
 refine a ⟨c,Nat.lt_of_not_le λq=>?_⟩ h;rw[decide_eq_false (gi.mpr (aw (by decide) q)),decide_eq_false (gi.mpr (aw (by decide) q)),lU,lU]at h;cases h
theorem C1(l:List Nat):∀(acc:Array Nat),CL l=true->l.foldl (λout c=>out++(bl.Str.reprChar 39 c).toArray) acc=acc++l.toArray:=by induction l with|nil=>intro acc _;simp|cons c l b=>intro acc h;obtain⟨h1,a⟩:=bF.mp h;rw[fy,yf c h1,b _ a];apply mJ.mp;simp
theorem wX(x:Str)(h:CL x.cps.toList=true):(reprText x).cps.toList=39::(x.cps.toList++[39]):=by
 have a:reprQuote x=39:=by
  unfold reprQuote;have:x.cps.contains 39=false:=by refine zr MS ?_;rewrite[qV];intro b;have:=bj.mp h 39 (by simpa using b);simp at this
  refine zl this ?_;rfl
 unfold reprText;refine zl a ?_;refine zr (Array.foldl_toList _) ?_;refine zl (C1 _ _ h) ?_;simp
theorem ND(n:Nat)(h:n<1000):n.log2<1920:=by
 by_cases h0:n=0;·clear h;subst h0;decide
 ·exact pe ((Nat.log2_lt h0 (k:=10)).mpr (pe h (by decide))) (by decide)
theorem ET:∀n:Fin 1000,(Str.ofString (toString (n.val:Int))).cps.toList=iL n.val/\(iL n.val).length<=eu:=by decide+kernel
section
variable{v:Vw}
theorem NF(a:List Int):∀(bs:List Nat),jW (a.map .int)=some bs->(VB a).toList.map (·.toNat)=bs/\(∀n∈a,0<=n/\n<256)/\bs.length=a.length:=by
 induction a with
 |nil=>intro bs h;cases h;exact⟨rfl,λ_ h=>(bJ h).elim,rfl⟩
 |cons n a j=>
  intro bs h;refine zA (dc h) λc h=>?_;obtain⟨r,d,rfl⟩:=f6 h;refine uU (j r d) λh1 g f=>?_;refine⟨?_,λm i=>(av.mp i).elim (λe=>e▸c) (g m),congrArg (·+1) f⟩;have:(VB (n::a)).toList=n.toNat.toUInt8::(VB a).toList:=by simp[VB]
  refine zl this ?_;refine zl aM ?_;refine zl h1 ?_;congr 1;have b:n.toNat<256:=by have:=c;exact o88 c
  simp[Nat.mod_eq_of_lt b]
theorem Hb(xs:List PV):∀(bs:List Nat)(vs:List ai),jW xs=some bs->dt v xs vs->∃a,xs=a.map .int/\IntsAre vs a:=by induction xs with|nil=>intro _ _ _ b;cases b;exact⟨[],rfl,.nil⟩|cons x xs k=>intro bs vs h b;refine d0 b λy m f g j=>?_;clear b;subst f;cases x with|int i=>refine zA (dc h) λ_ h=>?_;obtain⟨r,d,_⟩:=f6 h;refine dq (k r m d j) λa e l=>?_;refine zE g λt c=>?_;clear g;subst c;exact⟨i::a,by refine zl e ?_;rfl,.cons _ _ l⟩|_=>exact(kK h).elim
end
noncomputable def BH:Bi->Option ai|.iG=>some (.builtin "len")|.RA=>some (.builtin "ord")|.Yy=>some (.builtin "chr")|.bytes=>some (.type "bytes")|.max=>some (.builtin "max")|.Eg=>some (.builtin "repr")|.str=>some (.type "str")|_=>none
section
variable{C:Cx}{A:b9}{k:List aI}{o:Or}{g:Cf}{a p:PV}{ya:ai}
abbrev Hc(C:Cx)(A:b9)(t:Sem ai)(g:Cf)(p:PV):Prop:=yd C A t g λy g'=>VR g'.v p y
theorem C2(b:VR g.v a ya)(e:Em a=some p):Hc C A (call (.builtin "isinstance") [ya,.type "bool"]) g p:=by intro Q E q;cases a with|none=>cases e;cases b;exact IsiPair.NoneType_bool (q _ _ _ _ (.refl _) rfl)|bool=>cases e;cases b;exact IsiPair.bool_bool (q _ _ _ _ (.refl _) rfl)|int=>cases e;obtain⟨t,rfl⟩:=b;exact IsiPair.int_bool (q _ _ _ _ (.refl _) rfl)|str=>cases e;obtain⟨x,t,rfl⟩:=b;exact IsiPair.str_bool (q _ _ _ _ (.refl _) rfl)|_=>exact(kK e).elim
theorem NG{n:Nat}(h:n<=eu):(n:Int)<2^63:=dT (bW.mpr h) (by decide)
theorem KG(i:St C k g)(h:VR g.v a ya)(e:Uv a=some p):Hc C A (call (.builtin "len") [ya]) g p:=by intro Q E q;cases a with|list xs=>cases e;obtain⟨a1,us,ep,rfl,f,d,c⟩:=h;rw[<-d.length]at c;exact call_len_list (cD (i.fz _ _ f)) (NG c) (q _ _ _ _ (.refl _) ⟨_,by rw[<-d.length];rfl⟩)|bR xs=>cases e;obtain⟨a1,us,ep,rfl,f,d,c⟩:=h;rw[<-d.length]at c;exact PyProof.Rows.len_tuple (items:=us.toArray) (gy (i.fz _ _ f)) (NG c) (q _ _ _ _ (.refl _) ⟨_,by rw[<-d.length];rfl⟩)|bytes xs=>cases e;obtain⟨b,t,rfl,rfl,c⟩:=h;rw[aj,aV]at c;exact len_bytes (aa c (by decide)) (q _ _ _ _ (.refl _) ⟨_,by rw[aj,aV]⟩)|_=>exact(kK e).elim
theorem Hd(l:VR g.v a ya){x:List Nat}(e:ui a=some x):Hc C A (call (.builtin "repr") [ya]) g (.str x):=by
 intro Q E q;cases a with
 |str s=>
  obtain⟨h,e⟩:=dc e;cases e;clear e;obtain⟨m,d⟩:=bF.mp h;have c:=of_decide_eq_true d;clear h d;obtain⟨y,t,rfl,rfl,n⟩:=l;have j:=wX y m;have f:(39::(y.cps.toList++[39])).length=y.cps.toList.length+2:=by rw[aO,ah];rfl
  have i:(reprText y).length=y.cps.toList.length+2:=by rw[<-f,<-j,aV];rfl
  exact P.repr_of_str (q _ _ _ _ (.refl _) (VR.CR _ _ j (by rw[f,jP];exact o89 c f i))) (by rw[i,bN];exact o90 c f i)
 |bool b=>cases e;cases l;refine P.repr_of_bool (q _ _ _ _ (.refl _) (VR.CR _ _ ?_ ?_))<;>cases b<;>decide+kernel
 |_=>exact(kK e).elim
set_option tactic.hygienic true in theorem NH(hS:St C k g)(hh:A.handled=none){b:Bi}{f:ai}{args:List PV}{vs:List ai}(hf:BH b=some f)(ha:dt g.v args vs)(e:biV g.t b args=some p):Hc C A (call f vs) g p:=by
 have jO:∀{F},MI args F=some p->∃a y,vs=[y]/\VR g.v a y/\F a=some p:=λh=>by clear e;refine dq (yE h) λa He h=>?_;subst He;obtain⟨y,rfl,hy⟩:=ha.jO;exact⟨a,y,rfl,hy,h⟩
 cases b with
 |iG=>cases hf;refine d0 (jO e) λa y KH hy h=>?_;subst KH;exact KG hS hy h
 |RA=>cases hf;refine d0 (jO e) λa y KH hy h=>?_;subst KH;clear e;obtain⟨s,h1,h2⟩:=cg h;replace hy:=sG h1▸hy;clear h;obtain⟨x,t,rfl,rfl,_⟩:=hy;obtain⟨⟨l⟩⟩:=x;clear jO;cases l with|nil=>cases h2|cons c l=>cases l with|cons=>cases h2|nil=>cases h2;exactλQ E q=>P.ord_of_char (q _ _ _ _ (.refl _) (VR.Ng _ _))
 |Yy=>cases hf;refine d0 (jO e) λa y KH hy h=>?_;subst KH;clear ha e jO;obtain⟨i,h1,h2⟩:=cg h;clear h;refine zA (dc h2) λhl h3=>?_;clear h2;cases h3;replace hy:=bU h1▸hy;refine zE hy λt He=>?_;clear hy;subst He;exactλQ E q=>P.chr_of_int (by refine zl (decide_eq_false (by exact o91 hl)) ?_;refine zl (decide_eq_false (by exact o92 hl)) ?_;rfl) (q _ _ _ _ (.refl _) (VR.CR _ _ rfl (by simp[eu])))
 |bytes=>cases hf;refine d0 (jO e) λa y KH hy h=>?_;subst KH;clear ha e jO;obtain⟨xs,h1,h2⟩:=cg h;clear h;obtain⟨bs,h3,rfl⟩:=f6 h2;replace hy:=h9 h1▸hy;clear h1 h2;obtain⟨a1,us,ep,rfl,ho,hr,hl⟩:=hy;refine dq (Hb _ _ _ h3 hr) λns He hi=>?_;subst He;refine uU (NF ns bs h3) λc1 c2 c3=>?_;exactλQ E q=>call_bytes_ints (cD (hS.fz _ _ ho)) hi c2 (by refine zl hr.length ?_;exact aa hl mh) hh λh' t k hk=>q _ _ _ _ hk (VR.rH _ _ c1 (by refine zl c3 ?_;simpa using hl))
 |max=>
  cases hf;clear jO;cases args with
  |nil=>cases e
  |cons a l=>
   cases l with
   |nil=>cases e
   |cons b l=>
    cases l with
    |cons=>cases e
    |nil=>
     have e:=e;obtain⟨i,h1,h2⟩:=cg e;clear e;clear e;obtain⟨j,h3,rfl⟩:=f6 h2;obtain⟨y,u,rfl,hy,hu⟩:=ha.two;replace hy:=bU h1▸hy;replace hu:=bU h3▸hu;clear ha;refine zE hy λt He=>?_;clear hy;subst He;refine zE hu λu He=>?_;clear hu;subst He;refineλQ E q=>max_two_ints hh λh' tk hk=>q _ _ _ _ hk ?_;by_cases c:j>i;·refine zl (if_pos c) ?_;refine zl (if_pos c) ?_;exact VR.Ng _ _
     ·refine zl (if_neg c) ?_;refine zl (if_neg c) ?_;exact VR.Ng _ _
 |Eg=>cases hf;refine d0 (jO e) λa y KH hy h=>?_;subst KH;clear e jO;obtain⟨x,h1,rfl⟩:=f6 h;exact Hd hy h1
 |str=>
  cases hf;refine d0 (jO e) λa y KH hy h=>?_;subst KH;clear ha e jO;obtain⟨x,h1,rfl⟩:=f6 h;clear h;obtain⟨i,h2,h3⟩:=cg h1;clear h1;refine zA (dc h3) λhl h4=>?_;clear h3;cases h4;replace hy:=bU h2▸hy;refine zE hy λt He=>?_;clear hy;subst He;have V4:i.toNat<1000:=by exact o98 hl
  refine zA (ET ⟨i.toNat,V4⟩) λd1 d2=>?_;replace d1:=(show((⟨i.toNat,V4⟩:Fin 1000).val:Int)=i from Rm hl.1)▸d1;exactλQ E q=>P.str_of_int (ND _ (RH (n:=1000) hl.1 hl.2)) (q _ _ _ _ (.refl _) (VR.CR _ _ d1 d2))
 |_=>exact(kK hf).elim
noncomputable def zo:Bi->Str|.split=>Str.ofString "split"|.strip=>Str.ofString "strip"|.startswith=>Str.ofString "startswith"|.endswith=>Str.ofString "endswith"|.find=>Str.ofString "find"|.join=>Str.ofString "join"|_=>Str.ofString ""
theorem R1{v:Vw}{ls:List (List UInt8)}:∀{vs:List ai},V1 vs ls->(∀l∈ls,l.length<=eu)->dt v ((ls.map (qd (·.toNat))).map .bytes) vs:=by induction ls with|nil=>intro _ h _;cases h;exact dt.nil|cons l ls j=>intro _ h f;replace h:=Ja▸h;revert h;intro c;refine rq c λb t m d e h=>?_;clear c;subst d;exact dt.cons (VR.rH _ _ (by exact zl e rfl) (by refine zl (aj _) ?_;exact f l (.head _))) (j h λl i=>f l (.tail _ i))
theorem KI(p:List UInt8)(b:Nat):∀(acc r:List UInt8),(∀l∈f7 p b acc r,l.length<=acc.length+r.length)/\(f7 p b acc r).length<=b+1:=by
 induction b with
 |zero=>exactλacc r=>by simp[By]
 |succ n f=>
  intro acc r;cases r with
  |nil=>simp[sD]
  |cons c r=>
   rw[jc];split;·
    obtain⟨h1,e⟩:=f [] ((c::r).drop p.length);refine⟨λl d=>?_,by simp only[aO];exact o93 e⟩;rcases av.mp d with rfl|d;·simp
    ·have:=h1 l d;rw[cX]at this;simp only[aO,i6]at this⊢;exact o94 this
   ·obtain⟨h1,e⟩:=f (c::acc) r;refine⟨λl d=>?_,by exact o95 e⟩;have:=h1 l d;simp only[aO]at this⊢;exact o96 this
theorem KJ{v:Vw}{xs:List PV}:∀{vs:List ai}{bs:List (List Nat)},dt v xs vs->rz xs=some bs->∃d:List (Array UInt8×Tok),vs=d.map (λp=>.bytes p.1 p.2)/\bs=(d.map (·.1.toList)).map (qd (·.toNat)):=by induction xs with|nil=>intro _ bs h e;cases h;cases e;exact⟨[],rfl,rfl⟩|cons x xs m=>intro _ bs h e;refine d0 h λy q c n i=>?_;clear h;subst c;cases x with|bytes b=>obtain⟨cs,j,rfl⟩:=f6 e;clear e;obtain⟨b,t,rfl,l,_⟩:=n;refine dq (m i j) λd f c=>?_;subst f;subst c;exact⟨(b,t)::d,rfl,by refine zr l ?_;rfl⟩|_=>exact(kK e).elim
theorem NI{v:Vw}{xs:List PV}:∀{vs:List ai}{bs:List (List Nat)},dt v xs vs->CK xs=some bs->∃d:List (Str×Tok),vs=strValues d/\bs=d.map (·.1.cps.toList):=by induction xs with|nil=>intro _ bs h e;cases h;cases e;exact⟨[],rfl,rfl⟩|cons x xs m=>intro _ bs h e;refine d0 h λy q c n i=>?_;clear h;subst c;cases x with|str b=>obtain⟨cs,j,rfl⟩:=f6 e;clear e;obtain⟨b,t,rfl,l,_⟩:=n;refine dq (m i j) λd f c=>?_;subst f;subst c;exact⟨(b,t)::d,rfl,by refine zr l ?_;rfl⟩|_=>exact(kK e).elim
theorem KL(l:List Str)(k n:Nat):l.toArray.foldl (·+·.length+k) n=n+(l.map (·.length)).sum+l.length*k:=by
 rw[Rp];·induction l generalizing n with|nil=>simp|cons p c b=>rw[fy,b];simp[Nat.add_mul];exact o97
 ·simp
theorem NJ(c:Str)(b:List Str):(Txt.join c b).cps.toList=bD c.cps.toList (b.map (·.cps.toList)):=by
 have f:∀(b:List (List Nat))(x:List Nat),bD c.cps.toList (x::b)=x++(b.map λp=>c.cps.toList++p).flatten:=by intro b;induction b with|nil=>intro x;simp[oj]|cons p b e=>intro x;rw[om,e];simp
 have d:∀(b:List Str)(acc:Array Nat),(b.foldl (λacc p=>acc++c.cps++p.cps) acc).toList=acc.toList++((b.map (·.cps.toList)).map λp=>c.cps.toList++p).flatten:=by intro b;induction b with|nil=>intro acc;simp|cons p b e=>intro acc;rw[fy,e];simp
 cases b with|nil=>rfl|cons p b=>rw[aM,f];exact d b p.cps
theorem KN(b:List Str):(b.map (·.length)).sum=((b.map (·.cps.toList)).map cZ).sum:=by rw[bE];rfl
theorem Jb{b:List Nat}{x:Array UInt8}(e:x.toList.map (·.toNat)=b)(d:b.length<=eu):x.size<=1048576:=by rw[<-aV,<-aj (f:=λc:UInt8=>c.toNat),e];exact d
theorem NK(cs b:List Nat):(cm cs b).length<=b.length:=by unfold cm gE;have h1:=(ly (λc=>cs.contains c) b).1;have d:=(ly (λc=>cs.contains c) (b.dropWhile λc=>cs.contains c).reverse).1;rw[ef]at d⊢;exact aa d h1
structure V5(C:Cx)(b:Bi)(p:PV)(y:ai)(T id:String):Prop where
 pa:PlainAttrs T
 slot:qe T (zo b) id
 ty:yr (.builtin id)=pure (.type "method_descriptor")
 is:∀s:ak,s.TypeIs y T
 nr:∀a,y≠.ref a
 ans:∀{A:b9}{k:List aI}{g:Cf}{args:List PV}{vs:List ai}{r:PV},St C k g->dt g.v args vs->biV g.t b (p::args)=some r->yd C A (call (.builtin id) (y::vs)) g λy g'=>oL g.h (biF b,r) y g'
theorem vD:∀a b:UInt8,(λc:UInt8=>c.toNat) a=(λc:UInt8=>c.toNat) b->a=b:=toNat_inj'
theorem pN{x:List Nat}{args:List PV}{vs:List ai}{F:List Nat->List Nat->Option PV}{r:PV}(d:dt g.v args vs)(e:Kl (.bytes x::args) (λx y=>(ll x).bind λx=>(ll y).bind (F x))=some r):∃(y:Array UInt8)(u:Tok),vs=[.bytes y u]/\y.size<=1048576/\F x (y.toList.map (·.toNat))=some r:=by refine lB (zb e) λp q h1 f=>?_;clear e;cases h1;obtain⟨y,c,h⟩:=cg (show(ll q).bind (F x)=some r from f);obtain⟨z,rfl,hz⟩:=d.jO;replace hz:=lI c▸hz;clear c d;obtain⟨b,u,rfl,rfl,i⟩:=hz;exact⟨b,u,rfl,Jb rfl i,h⟩
theorem NL(N:St C k g){x:Str}{t:Tok}{args:List PV}{vs:List ai}{r:PV}(O:x.cps.toList.length<=eu)(L:dt g.v args vs)(e:Kl (.str x.cps.toList::args) GO=some r):Hc C A (call (.builtin "str.join") (.str x t::vs)) g r:=by
 refine(?H:gB (by
  obtain⟨p,q,h1,D⟩:=zb e;cases h1;obtain⟨y,rfl,z⟩:=L.jO;obtain⟨xs,I,M⟩:=cg D;obtain⟨bs,f,K⟩:=cg M;obtain⟨hz,P⟩:=dc K;cases P;rw[h9 I]at z;obtain⟨a1,us,ep,rfl,B,u,l⟩:=z;obtain⟨d,rfl,rfl⟩:=NI u f;have j:(d.map (·.1)).map (·.cps.toList)=d.map (·.1.cps.toList):=by rw[bE];rfl
  have i:(Txt.join x (d.map (·.1))).cps.toList=bD x.cps.toList (d.map (·.1.cps.toList)):=by rw[NJ,j]
  have G:(Txt.join x (d.map (·.1))).length=(bD x.cps.toList (d.map (·.1.cps.toList))).length:=by rw[<-i,aV];rfl
  have h:x.length=x.cps.toList.length:=aV.symm;have J:=jP;have b:=hz;rw[vC]at b;refineλQ E q=>kQ F.slot_str_join (typeIs_str g.s _ _) F.entry_str_join (F.args_str_join_2 _ _) (meets_str_join_list x t a1 d ?_) ⟨cD (N.fz _ _ B),post_join d ⟨?_,λt' k=>q _ _ _ _ (.refl _) (VR.CR _ _ i hz)⟩⟩;·rw[KL,KN,h,j];unfold bl.Str.tooLong;rw[decide_eq_false_iff_not,bN];rw[aj]at b⊢;generalize(qd cZ (d.map (·.1.cps.toList))).sum=m at*;generalize d.length=n at*;generalize x.cps.toList.length=c at*;clear G i j h u B f l D I M K L e hz;cases n with|zero=>exact aa6 J b|succ n=>rw[yo]at b;rw[Nat.succ_mul,Nat.mul_comm n];exact aa7 J O b
  ·rw[G,bN];exact aa hz (by decide))) gA
 intro w;delta id at w;(try dsimp-zetaHave only at w);refine(?F:gC _) _ w;exactλp _=>p
theorem Hf(j:St C k g){x:Array UInt8}{t:Tok}{args:List PV}{vs:List ai}{r:PV}(h:dt g.v args vs)(e:Kl (.bytes (x.toList.map (·.toNat))::args) GO=some r):Hc C A (call (.builtin "bytes.join") (.bytes x t::vs)) g r:=by obtain⟨p,q,h1,d⟩:=zb e;clear e;cases h1;obtain⟨y,rfl,c⟩:=h.jO;clear h;obtain⟨xs,u,i⟩:=cg d;clear d;obtain⟨bs,b,f⟩:=cg i;clear i;obtain⟨hz,z⟩:=dc f;clear f;cases z;rw[h9 u]at c;obtain⟨a1,us,ep,rfl,m,l,B⟩:=c;obtain⟨n,rfl,rfl⟩:=KJ l b;rw[wW,aj]at hz;exactλQ E q=>kQ zm (typeIs_bytes g.s _ _) EO (G6 _ _) (ES x t a1 n) ⟨⟨ep,j.fz _ _ m⟩,hz,λD t' k w=>q _ _ _ _ (.refl _) (VR.rH _ _ (by rw[w,wW]) (by rw[wW,aj];exact hz))⟩
theorem zq{T:String}{name:Str}{e:String}{B:bl}{b:ai}{rest:List ai}{m:Made}{P:ai->Cf->Prop}(d:qe T name e)(j:g.s.TypeIs b T)(c:Gq table e=some B)(args:yt e ⟨b::rest,[]⟩)(l:kT (B ⟨b::rest,[]⟩) m)(h:∀(Q:ai->ak->Prop),(∀y f i,P y ⟨g.v,g.t,RP g.s g.h f i⟩->Q y (RP g.s g.h f i))->m.post Q g.s):yd C A (call (.builtin e) (b::rest)) g P:=λQ E q=>kQ d j c args l.meets (h (λy s'=>Q y s') λy f i n=>q y _ _ _ (.refl _) n)
theorem Hg{b:Bi}{p:PV}{y:ai}{v:Vw}(n:Rc b p=true)(I:VR v p y):∃T K,V5 C b p y T K:=by
 have G:=jP;cases p with
 |str s=>
  cases b<;>first|exact(aK n).elim|skip
  clear n;obtain⟨x,t,rfl,rfl,h⟩:=I;exact⟨"str","str.join",F.plainAttrs_str,F.slot_str_join,F.type_str_join,λs=>typeIs_str s _ _,(λ_ e=>by injection e),λf d e=>NL f h d e⟩
 |bytes s=>
  obtain⟨x,t,rfl,rfl,h⟩:=I;cases b with
  |join=>exact⟨"bytes","bytes.join",FB.plainAttrs_bytes,zm,G5,λs=>typeIs_bytes s _ _,(λ_ e=>by injection e),λf d e=>Hf f d e⟩
  |split=>
   refine⟨"bytes","bytes.split",FB.plainAttrs_bytes,xB,EJ,λs=>typeIs_bytes s _ _,(λ_ e=>by injection e),λ{A k g args vs r}f d e=>?_⟩;refine d0 (pN d e) λy u c j e=>?_;subst c;have J:((y.toList.map (·.toNat)).isEmpty||decide (eu<=(x.toList.map (·.toNat)).length+1))=false:=by cases q:((y.toList.map (·.toNat)).isEmpty||decide (eu<=(x.toList.map (·.toNat)).length+1))with|false=>rfl|true=>exact(kK ((if_pos q).symm.trans e)).elim
   have e:=(if_neg (by refine zl J ?_;exact aK)).symm.trans e;cases e;refine zA (Bool.or_eq_false_iff.mp J) λD m=>?_;have m:=of_decide_eq_false m;have B:0<y.size:=p8 λq=>by replace D:=Array.size_eq_zero_iff.mp q▸D;cases D
   rw[aj]at m h;refineλQ E q=>kQ xB (typeIs_bytes g.s _ _) CX (EK _ _) (ER x y t u B) ⟨by refine zr aV ?_;exact h,λvs k z=>q _ _ _ _ (.push _ _) ?_⟩;have i:=KI y.toList (x.toList.length+1) [] x.toList;have H:(du x.toList y.toList).length<=eu:=aa i.2 (by exact aa8 G h m);refine zl (GZ _ vD _ _) ?_;exact uy f rfl (R1 z λl w=>aa (i.1 l w) (by refine zl i6 ?_;refine zl (bO _) ?_;exact h)) (by refine zl (aj _) ?_;refine zl (aj _) ?_;exact H)
  |strip=>refine⟨"bytes","bytes.strip",FB.plainAttrs_bytes,xC,EL,λs=>typeIs_bytes s _ _,(λ_ e=>by injection e),λ{A k g args vs r}f d e=>?_⟩;refine d0 (pN d e) λy u c j e=>?_;subst c;cases e;exactλQ E q=>kQ xC (typeIs_bytes g.s _ _) CY (EM _ _) (EP x y t u) ⟨aa (Jb rfl h) (by refine zl bN ?_;decide),λL t' k G=>q _ _ _ _ (.refl _) (VW (VR.rH _ _ (by refine zl G ?_;exact zl (G0 _ vD _ _) rfl) (aa (NK _ _) h)))⟩
  |startswith=>refine⟨"bytes","bytes.startswith",FB.plainAttrs_bytes,FB.slot_bytes_startswith,FB.type_bytes_startswith,λs=>typeIs_bytes s _ _,(λ_ e=>by injection e),λ{A k g args vs r}f d e=>?_⟩;refine d0 (pN d e) λy u c j e=>?_;subst c;cases e;refine zl (qt _ vD _ _) ?_;exact zq FB.slot_bytes_startswith (typeIs_bytes g.s _ _) FB.entry_bytes_startswith (FB.args_bytes_startswith_2 _ _) (CZ x y t u) λQ q=>q _ _ _ rfl
  |endswith=>refine⟨"bytes","bytes.endswith",FB.plainAttrs_bytes,FB.slot_bytes_endswith,FB.type_bytes_endswith,λs=>typeIs_bytes s _ _,(λ_ e=>by injection e),λ{A k g args vs r}f d e=>?_⟩;refine d0 (pN d e) λy u c j e=>?_;subst c;cases e;refine zl (G1 _ vD _ _) ?_;exact zq FB.slot_bytes_endswith (typeIs_bytes g.s _ _) FB.entry_bytes_endswith (FB.args_bytes_endswith_2 _ _) (G7 x y t u) λQ q=>q _ _ _ rfl
  |find=>refine⟨"bytes","bytes.find",FB.plainAttrs_bytes,zk,G3,λs=>typeIs_bytes s _ _,(λ_ e=>by injection e),λ{A k g args vs r}f d e=>?_⟩;refine d0 (pN d e) λy u c j e=>?_;subst c;cases e;refine zl (Kz _ vD _ _ _) ?_;exact zq zk (typeIs_bytes g.s _ _) EN (G4 _ _) (G8 x y t u) λQ q=>q _ _ _ (RQ _ _)
  |_=>exact(aK n).elim
 |_=>exact(aK n).elim
end
def Rd(env:aI)(h:Heap)(x:Str)(y:ai):Prop:=(env.kindOf x=some .local/\∃m,h.Ns env.locals m/\m x=some y)\/((env.kindOf x=some .cell\/env.kindOf x=some .free)/\∃c,env.cells.lookup x=some c/\h.IsCell c (some y))
structure V6(g:Cf)(env:aI)(x:Str)(a:Addr)(xs:List PV):Prop where
 rd:Rd env g.h x (.ref a)
 bK:∃vs ep,g.h.get? a=some (gc vs ep)/\dt g.v xs vs
 nV:xs.length<=eu
 z:g.v.z a=none
 m:¬Ad g.v.m a
def vE(g:Cf)(env:aI)(x:Str)(a:Addr):Slot->Prop|.bB=>True|.val p=>∃y,Rd env g.h x y/\VR g.v p y|.cj xs=>V6 g env x a xs
abbrev Nm:=List (Str×Nat)
structure Fr where
 A:b9
 k:List aI
 env:aI
 ρ:R.Env
 ω:Nat->Addr
structure NM(g:Cf)(L:Addr):Prop where
 m:¬Ad g.v.m L
 z:g.v.z L=none
 ns:∃m,g.h.Ns L m
structure ClR(g:Cf)(c:Addr):Prop where
 m:¬Ad g.v.m c
 z:g.v.z c=none
 bK:∃o v,g.h.get? c=some o/\o.data=.cell v
structure kE(sc:dM)(nm:Nm)(F:Fr)(g:Cf):Prop where
 scope:F.env.scope=sc
 kind:sc.kind=.function
 globals:F.env.globals=fU
 builtins:F.env.builtins=p9
 slot:∀x i,nm.lookup x=some i->vE g F.env x (F.ω i) (F.ρ i)
 sN:NM g F.env.locals
 cl:∀x c,F.env.cells.lookup x=some c->ClR g c
 Yd:∀x,(sc.names.lookup x=some .cell\/sc.names.lookup x=some .free)->∃c,F.env.cells.lookup x=some c
 nI:∀x y c,F.env.cells.lookup x=some c->F.env.cells.lookup y=some c->x=y
 apart:∀i j xs ys,F.ρ i=.cj xs->F.ρ j=.cj ys->i≠j->F.ω i≠F.ω j
 rJ:∀i xs,F.ρ i=.cj xs->∃y,nm.lookup y=some i
structure Kf(env:aI)(h h':Heap)(P:Addr->Prop):Prop where
 ns:∀m,h.Ns env.locals m->h'.Ns env.locals m
 bK:∀a o,P a->h.get? a=some o->(∀es ep,o.data≠.dict es ep)->h'.get? a=some o
section
variable{C:Cx}{k:List aI}{sc:dM}{nm:Nm}{F:Fr}{g g':Cf}{o:Or}{env:aI}{P:Addr->Prop}
theorem ot{o:Obj}{v:Option ai}(h:o.data=.cell v):∀a ep,o.data≠.dict a ep:=λ_ _ q=>by replace q:=h▸q;cases q
theorem k7{vs:List ai}{n:Nat}:∀a ep,(gc vs n).data≠.dict a ep:=λ_ _ q=>by cases q
theorem kE.keep(x:kE sc nm F g)(w:g.v.Le g'.v)(f:Kf F.env g.h g'.h P)(hz:∀a o,g.h.get? a=some o->g.v.z a=none->P a->g'.v.z a=none)(l:∀a o,g.h.get? a=some o->¬Ad g.v.m a->P a->¬Ad g'.v.m a)(D:P F.env.locals)(B:∀n c,F.env.cells.lookup n=some c->P c)(E:∀i xs,F.ρ i=.cj xs->P (F.ω i)):kE sc nm F g':=by
 have A:∀n u,Rd F.env g.h n u->Rd F.env g'.h n u:=λn u r=>r.imp (λh=>by obtain⟨a,m,b,c⟩:=h;exact⟨a,m,f.ns m b,c⟩) λh=>by obtain⟨a,c,b,o,d,j⟩:=h;exact⟨a,c,b,o,f.bK c o (B n c b) d (ot j),j⟩
 exact{x with
  slot:=λn i e=>by have s:=x.slot n i e;cases q:F.ρ i with|bB=>trivial|val p=>replace s:=q▸s;refine dq s λy r h=>?_;clear s;exact⟨y,A n y r,h.eX w⟩|cj xs=>replace s:=q▸s;obtain⟨vs,ep,d,G⟩:=s.bK;have p:=E i xs q;exact⟨A n _ s.rd,⟨vs,ep,f.bK _ _ p d k7,G.eX w⟩,s.nV,hz _ _ d s.z p,l _ _ d s.m p⟩
  sN:=by obtain⟨m,h⟩:=x.sN.ns;refine IU (id h) λt H ep d _=>?_;exact⟨l _ _ d x.sN.m D,hz _ _ d x.sN.z D,m,f.ns m h⟩
  cl:=λn c e=>by refine lB ((x.cl n c e).bK) λt v d j=>?_;have p:=B n c e;exact⟨l _ _ d (x.cl n c e).m p,hz _ _ d (x.cl n c e).z p,t,v,f.bK c t p d (ot j),j⟩}
theorem kE.dD(x:kE sc nm F g)(d:St C k g)(y:BA (.at k g) g'):kE sc nm F g':=by
 refine x.keep (P:=λa=>¬Ad g.v.m a) y.le ⟨λm h=>?_,λa b p e f=>y.keep a b e p (d.dP e f) id⟩ (λa b e z _=>y.za z e id) (λa b e m _=>y.RN m e) x.sN.m (λn c e=>(x.cl n c e).m) λi xs q=>?_;·
  by_cases q:F.env.locals∈frames k;·exact y.qi _ q m h
  ·exact h.at' λo e=>y.keep _ _ e x.sN.m q id
 ·obtain⟨n,j⟩:=x.rJ i xs q;have s:=x.slot n i j;rw[q]at s;exact s.m
theorem pO{M:CB}{A:b9}{s:ak}{E:ai->ak->Prop}{x:Str}{y:ai}{pos:Pos}{Q:ai->ak->Prop}(b:env.scope.kind=.function)(r:Rd env s.heap x y)(j:(x==("__debug__":Str))=false)(e:(x==("__classdict__":Str))=false)(h:Q y s):aJ M A (eval (.Name x pos) env) Q E s:=by
 refine Gr ?_ j;rcases r with⟨k,m,i,f⟩|⟨k|k,c,a,d⟩;·exact nT b k i f h
 ·exact wpAny_loadName_cell b k a d h
 ·exact wpAny_loadName_free b k a d h e
end
structure Sc where
 C:Cx
 d:Nat
 sc:dM
 nm:Nm
structure Here(S:Sc)(F:Fr)(o:Or)(g:Cf):Prop extends Hr S.C S.d F.A F.k o g where
 en:kE S.sc S.nm F g
abbrev Sm(S:Sc)(F:Fr)(o:Or){a β:Type}(R:Kt a β)(t:Sem β)(m:M a)(g:Cf):Prop:=Sim S.C F.k o F.A R t m g
def lJ(S:Sc)(e:Expr)(f:R.Env->M (Bool×PV)):Prop:=∀F o g,Here S F o g->Sm S F o resR (eval e F.env) (f F.ρ) g
def YT(S:Sc)(e:Expr)(f:R.Env->M (Bool×PV)):Prop:=∀F o g,Here S F o g->Sm S F o eqR (tw e F.env (eval e F.env)) (M.bind (f F.ρ) jn) g
structure nX(S:Sc)(e:Expr)(f:R.Env->M (Bool×PV)):Prop where
 s:lJ S e f
 t:YT S e f
theorem zt{b:Type}{o:Option b}{t:aH}{r:jb aH b}(e:mw o t=r)(h:r≠.aS):∃a,o=some a/\r=.ok a t:=by cases o with|none=>exact absurd e.symm h|some a=>exact⟨a,rfl,e.symm⟩
theorem gf{b β:Type}{o:Option b}{f:b->M β}{t:aH}{r:jb aH β}(e:M.bind (mw o) f t=r)(h:r≠.aS):∃a,o=some a/\f a t=r:=by cases o with|none=>exact absurd e.symm h|some a=>exact⟨a,rfl,e⟩
theorem ou{b β c:Type}(m:M b)(f:b->M β)(g:β->M c):M.bind (M.bind m f) g=M.bind m λa=>M.bind (f a) g:=by funext s;unfold M.bind;cases m s<;>rfl
theorem wY{b β c:Type}{m:M b}{f:b->M β}{k:β->M c}{t:aH}{r:jb aH c}(e:M.bind (M.bind m f) k t=r):M.bind m (λa=>M.bind (f a) k) t=r:=by rw[<-e,ou]
section
variable{S:Sc}{F:Fr}{o:Or}{g g':Cf}{α β γ:Type}{Rl:Kt α β}{t:Sem β}{m:M α}{f:α->M γ}{r:jb aH γ}
theorem Here.self(h:Here S F o g):Here S F (.at F.k g) g:=⟨h.toHr.self,h.en⟩
theorem Here.step(h:Here S F o g)(x:Rn S.C F.k (.at F.k g) g'):Here S F o g':=⟨h.toHr.step x,h.en.dD h.bK.st x.dD⟩
theorem Here.rn(h:Here S F o g):Rn S.C F.k (.at F.k g) g:=h.self.bK
theorem Here.go(h:Here S F o g)(H:Sm S F (.at F.k g) Rl t m g)(e:M.bind m f g.t=r)(j:r≠.aS){P:β->ak->Prop}(q:∀a b g',Here S F o g'->g.v.Le g'.v->f a g'.t=r->Rl.r o.g.h a b g'->P b g'.s):aJ S.C.M F.A t P (Ex S.C F.k o pI r) g.s:=aY (H _ rfl (lx e j)) (λ_ _ d=>d.el λa g' i c x y=>i▸q a _ g' (h.step x) x.dD.le ((lu c).symm.trans e) (Rl.pH (λa e=>h.bK.dD.dO a e) y)) λ_ _ d=>d.el λa p g' i c x l y=>⟨a,p,g',i,(e.symm.trans (pJ c)),⟨x.st,h.toHr.dD x.dD⟩,l,y.pH (λa e=>h.bK.dD.dO a e) λ_ h=>h⟩
theorem R2{k:List aI}{C:Cx}{b:Heap}{x:Bool×PV}{y:ai}(h:Rn C k o g)(i:∀a,b.get? a=none->o.g.h.get? a=none)(e:oL b x y g):∃v,g.v.Le v/\Rn C k o ⟨v,g.t,g.s⟩/\VR v x.2 y:=by obtain⟨f,p⟩:=x;cases f with|false=>exact⟨g.v,.refl _,h,e⟩|true=>obtain⟨xs,a,vs,ep,rfl,rfl,d,n,l,c,hz,j⟩:=e;exact⟨iP g.v a _,mi hz,⟨h.st.qp d hz j (h.st.dP d k7),h.dD.qp hz (.inl (i a c))⟩,a,vs,ep,rfl,if_pos rfl,n.eX (mi hz),l⟩
theorem Here.tW{m:M (Bool×PV)}{f:(Bool×PV)->M γ}{t:Sem ai}(h:Here S F o g)(H:Sm S F (.at F.k g) resR t m g)(e:M.bind m f g.t=r)(j:r≠.aS){P:ai->ak->Prop}(q:∀a y g',Here S F o g'->g.v.Le g'.v->f a g'.t=r->VR g'.v a.2 y->P y g'.s):aJ S.C.M F.A t P (Ex S.C F.k o pI r) g.s:=aY (H _ rfl (lx e j)) (λ_ _ c=>c.el λa g' d b x y=>by refine pg (R2 x (λ_ h=>h) y) λv u i n=>?_;exact d▸q a _ ⟨v,g'.t,g'.s⟩ (h.step i) i.dD.le ((lu b).symm.trans e) n) λ_ _ c=>c.el λa p g' d b x l y=>⟨a,p,g',d,(e.symm.trans (pJ b)),⟨x.st,h.toHr.dD x.dD⟩,l,y.pH (λa e=>h.bK.dD.dO a e) λ_ h=>h⟩
theorem Here.V7{a:α}{b:β}{r:jb aH α}(h:Here S F o g)(e:r=.ok a g.t)(y:Rl.r o.g.h a b g):Ok S.C F.k o Rl r b g.s:=⟨a,g,rfl,e,h.bK,y⟩
theorem Here.giv{a:α}{r:jb aH α}(h:Here S F o g)(e:.ok a g.t=r){t:Sem β}(H:yd S.C F.A t g λb g'=>Rl.r g.h a b g'){E:ai->ak->Prop}:aJ S.C.M F.A t (Ok S.C F.k o Rl r) E g.s:=H.ok h.bK e.symm
theorem Here.tp{p:PV}{y:ai}{r:jb aH (Bool×PV)}(h:Here S F o g)(e:.ok (false,p) g.t=r)(v:VR g.v p y):Ok S.C F.k o resR r y g.s:=⟨_,g,rfl,e.symm,h.bK,v⟩
theorem Here.KO{b:β}{r:jb aH β}(h:Here S F o g)(e:.ok b g.t=r):Ok S.C F.k o eqR r b g.s:=⟨b,g,rfl,e.symm,h.bK,rfl⟩
theorem Here.R3{x:Bool×PV}{r:jb aH (Bool×PV)}(h:Here S F o g)(e:.ok x g.t=r){t:Sem ai}(H:yd S.C F.A t g λy g'=>oL g.h x y g'){E:ai->ak->Prop}:aJ S.C.M F.A t (Ok S.C F.k o resR r) E g.s:=h.giv (Rl:=resR) e H
theorem Here.V8{p:PV}{r:jb aH (Bool×PV)}(h:Here S F o g)(e:.ok (false,p) g.t=r){t:Sem ai}(H:Hc S.C F.A t g p){E:ai->ak->Prop}:aJ S.C.M F.A t (Ok S.C F.k o resR r) E g.s:=h.giv (Rl:=resR) e H
theorem Here.iu(h:Here S F o g){s':ak}(b:Kp g.h s'.heap)(a:s'.gens=g.s.gens)(c:s'.os=g.s.os):Here S F o ⟨g.v,g.t,s'⟩:=h.step (h.rn.iu b a c)
theorem Here.units(h:Here S F o g):F.A.units+16<qU:=aA (aW (aR _ (16*S.d)) (by decide)) h.ok.units
variable{e:Expr}{f:R.Env->M (Bool×PV)}
theorem Hh(h:lJ S e f)(p:∀{F:Fr}{g:Cf}{Q:Bool->ak->Prop}{E:ai->ak->Prop},aJ S.C.M F.A (eval e F.env) (λv s=>aJ S.C.M F.A (Ub v) Q E s) E g.s->aJ S.C.M F.A (tw e F.env (eval e F.env)) Q E g.s):YT S e f:=λF o g H r j i=>p (H.tW (h F _ g H.self) j i λa y g' l _ k d=>by clear j;refine dq (zt k i) λb n c=>?_;subst c;replace d:=k6 n▸d;cases d;exact gV (l.KO rfl))
theorem cH(h:lJ S e f)(b:∀env a,tw e env a=(do let v<-a;standAt e.pos;Mz [v] (Ub v))):nX S e f:=⟨h,Hh h λq=>isTrue_plain q (b _ _)⟩
end
noncomputable def YU:List Nat:=[73,78,85,90,97,104,111,118,125,132,142,147,152,159,167,175,182,190,204,211,218,225,232,246,253,260,265,272,279,286,293,300,307,314,321,327,334,342,349,357,364,371,376,383,390,395,400,407,421,428,435,468,482,489,496,503,516,523,530,537,544,551,556,563,568,575,580,585,590,595,600,607]
def xD(f:Fn):Addr:=YU.getD f 0
def gnL:List (Str×Nat):=VQ.zipIdx.map λp=>(Str.ofString p.1,p.2)
def fnN:List (String×Fn):=[("is_surrogate",.qk),("codes_of",.Eh),("octets_of_ascii",.cN),("ascii_of",.Ei),("hex_code",.kj),("hex_value",.Bx),("code_of_hex",.xq),("whole_of",.pj),("decimal_octets",.gL),("place_by_half",.js),("ucd_lines",.sy),("rows_of",.dR),("missing_rows",.dU),("code_of_field",.ek),("range_of",.gN),("codes_of_field",.nj),("word_of_field",.gn),("fraction_of",.rr),("unicode_rows",.fq),("ucd_basic_puts",.fE),("ucd_name_puts",.lh),("ucd_mapping_puts",.i8),("ucd_number_puts",.l0),("ucd_case_puts",.oH),("ucd_puts_of",.n9),("read_unicode_data",.cA),("ucd_value",.fY),("ucd_check_apart",.l6),("ucd_ranged",.kW),("ucd_missing_puts",.dh),("read_property",.dg),("ucd_boolean_names",.km),("read_booleans",.lj),("range_octets",.i9),("property_octets",.l7),("booleans_octets",.l8),("fraction_octets",.qL),("ucd_mapping_octets",.jK),("ucd_number_octets",.ko),("ucd_code_octets",.iq),("unicode_row_octets",.jL),("unicode_data_octets",.jm),("range_are_like",.kq),("data_defaults",.oI),("_law_deck",.yR),("_law_draw",.d8),("_law_pick",.iT),("_law_hex",.kr),("_law_field",.pA),("_law_ranges",.nk),("_law_value",.wI),("_law_around",.ql),("_law_is_told",.f5),("_law_refused",.lC),("_law_property_right",.jM),("_law_truths_right",.kX),("_law_record",.uf),("_law_all",.qm),("_law_signs_right",.jH),("law",.Uo)]
def fnL:List (Str×Fn):=fnN.map λp=>(Str.ofString p.1,p.2)
noncomputable def cnL:List (Str×Cl):=[(Str.ofString "UnicodeRow",.ph),(Str.ofString "RangeMap",.xW),(Str.ofString "Data",.data)]
noncomputable def bnL:List (Str×ai):=[(Str.ofString "len",.builtin "len"),(Str.ofString "ord",.builtin "ord"),(Str.ofString "chr",.builtin "chr"),(Str.ofString "isinstance",.builtin "isinstance"),(Str.ofString "sorted",.builtin "sorted"),(Str.ofString "max",.builtin "max"),(Str.ofString "repr",.builtin "repr"),(Str.ofString "bytes",.type "bytes"),(Str.ofString "tuple",.type "tuple"),(Str.ofString "bool",.type "bool"),(Str.ofString "str",.type "str"),(Str.ofString "int",.type "int"),(Str.ofString "range",.type "range"),(Str.ofString "enumerate",.type "enumerate")]
noncomputable def uB:Mt->String|.M6=>"word"|.oF=>"one_of"|.hY=>"code_or_none"|.ni=>"is_range"|.get=>"get"|.xX=>"put"|.yP=>"map_of"
noncomputable def sO(r:Option (Option ai))(s:String):Bool:=r==some (some (.builtin s))
def Jc(K:Frag)(c:Cl)(a:At):Bool:=plainGet K (cI c) (Str.ofString (atName a))&&hasDictIn K (cI c)&&(findIn K (.ref (cI c)) (Str.ofString (atName a))).any (noGet K)
def Jd(K:Frag)(c:Cl)(a:At):Bool:=plainOver K (cI c)&&hasDictIn K (cI c)&&takerIn K (cI c) (Str.ofString (atName a))==some none&&sO (findIn K (.ref (cI c)) "__setattr__") "object.__setattr__"
def C3(K:Frag)(a:Addr)(c:Cl)(m:Mt):Bool:=sO (findIn K (.ref (cI c)) "__getattribute__") "object.__getattribute__"&&findIn K (.ref (cI c)) "__getattr__"==some none&&findIn K (.ref (cI c)) (Str.ofString (uB m))==some (some (.ref a))&&typeIn K (.ref a)==some (.type "function")&&keepIn K (.ref a)
structure Fx(C:Cx):Prop where
 gok:∀x n,gnL.lookup x=some n->∃y,C.mg x=some y/\∀m,VR ⟨C.h0.get?,m⟩ (d6 n) y
 fok:∀x f,fnL.lookup x=some f->C.mg x=some (.ref (xD f))/\keepIn C.K (.ref (xD f))=true
 cok:∀x c,cnL.lookup x=some c->C.mg x=some (.ref (cI c))/\keepIn C.K (.ref (cI c))=true
 bok:∀x y,bnL.lookup x=some y->C.mg x=none/\C.mb x=some y
 att:∀c a,Jc C.K c a=true/\Jd C.K c a=true
 mok:∀c m f,MJ c m=some f->C3 C.K (xD f) c m=true
 cls:∀c,makesIn C.K (cI c)=true/\findIn C.K (.ref (cI c)) "__init__"=some (some (.ref (xD (iI c))))/\typeIn C.K (.ref (xD (iI c)))=some (.type "function")
noncomputable def YV(x:Str):Bool:=!(x==("__debug__":Str))&&!(x==("__classdict__":Str))
def oO(sc:dM)(x:Str):Bool:=sc.names.lookup x==some .globalImplicit&&YV x
def i3(nm:Nm)(x:Str)(i:Nat):Bool:=nm.lookup x==some i&&YV x
theorem C4{x:Str}(h:YV x=true):(x==("__debug__":Str))=false/\(x==("__classdict__":Str))=false:=by unfold YV at h;rwa[ax,dJ,dJ]at h
theorem sQ{sc:dM}{x:Str}(h:oO sc x=true):sc.names.lookup x=some .globalImplicit/\(x==("__debug__":Str))=false:=have h:=bF.mp h;⟨eq_of_beq h.1,(C4 h.2).1⟩
section
variable{S:Sc}{F:Fr}{o:Or}{g:Cf}
theorem Here.A0(h:Here S F o g):S.C.K.In g.h:=λa o e=>h.bK.st.keep a o (S.C.A0 a o e)
theorem Here.UB(h:Here S F o g):F.env.scope.kind=.function:=by rw[h.en.scope];exact h.en.kind
theorem Here.kindOf(h:Here S F o g){x:Str}{k:eb}(e:S.sc.names.lookup x=some k):F.env.kindOf x=some k:=by rw[fX,h.en.scope];exact e
def kF(S:Sc)(x:Str)(y:ai):Prop:=∀(A:b9)F o g pos(Q E:ai->ak->Prop),Here S F o g->Q y g.s->aJ S.C.M A (eval (.Name x pos) F.env) Q E g.s
theorem rK{x:Str}{y:ai}(a:oO S.sc x=true)(b:S.C.mg x=some y):kF S x y:=λA F o g pos Q E h q=>Name_function_global h.UB (h.kindOf (sQ a).1) (loadGlobal_global (by rw[h.en.globals];exact S.C.g.keeps h.bK.st.keep) b q) (sQ a).2
theorem NN{x:Str}{y:ai}(a:oO S.sc x=true)(c:S.C.mg x=none/\S.C.mb x=some y):kF S x y:=λA F o g pos Q E h q=>Name_function_global h.UB (h.kindOf (sQ a).1) (loadGlobal_builtin (by rw[h.en.globals];exact S.C.g.keeps h.bK.st.keep) c.1 (by rw[h.en.builtins];exact S.C.b.keeps h.bK.st.keep) c.2 q) (sQ a).2
theorem Here.rd(h:Here S F o g){x:Str}{i:Nat}(a:i3 S.nm x i=true):vE g F.env x (F.ω i) (F.ρ i):=h.en.slot x i (eq_of_beq (bF.mp a).1)
theorem Here.pO(h:Here S F o g){x:Str}{i:Nat}(a:i3 S.nm x i=true){y:ai}(r:Rd F.env g.h x y){pos:Pos}{Q E:ai->ak->Prop}(q:Q y g.s):aJ S.C.M F.A (eval (.Name x pos) F.env) Q E g.s:=R.pO h.UB r (C4 (bF.mp a).2).1 (C4 (bF.mp a).2).2 q
def mC(v:PV)(c:QZ):Bool:=match c with|.none=>isNone v|.bool b=>nq v==some b|.int i=>br v==some i|.str b=>(El v).any λa=>a==b.cps.toList&&decide (a.length<=1000)|.bytes b=>(ll v).any λa=>a==b.map (·.toNat)&&decide (a.length<=1000)|_=>false
theorem oP{n:Nat}(h:n<=1000):n<=eu:=aa h (by decide)
theorem rL{v:PV}{c:QZ}{C:Cx}{A:b9}(h:mC v c=true){s:ak}{env:aI}{n:Nat}{pos:Pos}{u:Vw}{Q E:ai->ak->Prop}(q:∀x f,VR u v x->Q x {s with toks:=f}):aJ C.M A (eval (.Constant c n pos) env) Q E s:=by cases c with|none=>rw[qq h]at q;exact wpAny_Constant_none (q _ s.toks rfl)|bool b=>rw[k6 (eq_of_beq h)]at q;exact wpAny_Constant_bool (q _ s.toks rfl)|int b=>rw[bU (eq_of_beq h)]at q;exact yv (q _ _ ⟨_,rfl⟩)|str b=>obtain⟨a,e,h⟩:=any_some h;obtain⟨h1,d⟩:=bF.mp h;rw[sG e]at q;exact kR (q _ _ (VR.CR _ _ (eq_of_beq h1).symm (oP (of_decide_eq_true d))))|bytes b=>obtain⟨a,e,h⟩:=any_some h;obtain⟨h1,d⟩:=bF.mp h;rw[lI e]at q;have:=VR.rH (v:=u) b.toArray s.toks ((congrArg _ (Rt ..)).trans (eq_of_beq h1).symm) (oP (of_decide_eq_true d));exactλ_ _ _=>q _ _ this|_=>exact(aK h).elim
theorem R4{v:PV}{c:QZ}(h:mC v c=true){n:Nat}{pos:Pos}:nX S (.Constant c n pos) λ_=>M.pure (false,v):=cH (λF o g H r e d=>rL h (u:=g.v) λx a b=>(H.iu (s':={g.s with toks:=a}) (.refl _) rfl rfl).tp e b) λ_ _=>rfl
theorem Je{i:Nat}{x:Str}{pos:Pos}(b:i3 S.nm x i=true):nX S (.Name x pos) λf=>M.bind (xw f i) λv=>M.pure (false,v):=by refine cH (λF o g H r e d=>?_) λ_ _=>rfl;have c:=H.rd b;unfold xw at e;cases q:F.ρ i with|val p=>rw[q]at c e;obtain⟨y,a,h⟩:=c;exact H.pO b a (H.tp e h)|_=>rw[q]at e;exact absurd e.symm d
theorem NO(X:Fx S.C){n:Nat}{x:Str}{pos:Pos}(c:oO S.sc x=true)(a:gnL.lookup x=some n):nX S (.Name x pos) λ_=>M.pure (false,d6 n):=by refine cH (λF o g H r e f=>?_) λ_ _=>rfl;refine dq (X.gok x n a) λy d b=>?_;exact rK c d _ F o g _ _ _ H (H.tp e ((b g.v.m).eX (show Vw.Le ⟨S.C.h0.get?,g.v.m⟩ g.v from⟨H.bK.st.vy,λ_ _ e=>e⟩)))
variable{a b c:Expr}{fa fb fc:R.Env->M (Bool×PV)}{pos:Pos}
theorem R5{o:R.Op}(v:lJ S a fa)(s:lJ S b fb):nX S (.BinOp a (VV o) b pos) λj=>M.bind (fa j) λi=>M.bind (fb j) λl=>mw (kz o i.2 l.2):=cH (λF o g H r e d=>wpAny_BinOp (H.tW (v F _ g H.self) e d λi y g1 m _ h n=>m.tW (s F _ g1 m.self) h d λl u z k p q w=>by clear e h;refine dq (zt q d) λx t f=>?_;subst f;exact k.R3 rfl (Eu k.bK.st (n.eX p) w t))) λ_ _=>rfl
theorem R6(n:lJ S a fa):nX S (.UnaryOp .USub a pos) λl=>M.bind (fa l) λh=>M.bind (mw (br h.2)) λi=>M.pure (false,.int (-i)):=cH (λF o g H r e d=>IK (H.tW (n F _ g H.self) e d λh y g1 p _ j f=>by obtain⟨i,m,k⟩:=gf j d;rw[bU m]at f;obtain⟨t,rfl⟩:=f;exact Q0 ((p.iu (s':={g1.s with toks:=g1.s.toks+1}) (.refl _) rfl rfl).tp k ⟨_,rfl⟩))) λ_ _=>rfl
theorem Here.cS(H:Here S F o g){c:Cm}{p q:PV}{y u:ai}{r:Bool}(f:VR g.v p y)(h:VR g.v q u)(e:eD g.t c p q=some r){Q E:ai->ak->Prop}(k:∀d,Here S F o ⟨g.v,g.t,{g.s with toks:=d}⟩->Q (.bool r) {g.s with toks:=d}):aJ S.C.M F.A (sf (tn c) y u) Q E g.s:=BE H.bK.st H.units f h e λd=>k d (H.iu (s':={g.s with toks:=d}) (.refl _) rfl rfl)
theorem R7{c:Cm}(J:lJ S a fa)(C:lJ S b fb)(D:IL (tn c) b=false):nX S (.Compare a [tn c] [b] pos) λi=>M.bind (fa i) λf=>M.bind (fb i) λj=>M.bind gr λd=>M.bind (mw (eD d c f.2 j.2)) λr=>M.pure (false,PV.bool r):=by
 have n:lJ S (.Compare a [tn c] [b] pos) λi=>M.bind (fa i) λf=>M.bind (fb i) λj=>M.bind gr λd=>M.bind (mw (eD d c f.2 j.2)) λr=>M.pure (false,PV.bool r):=λF o g H r e k=>wpAny_Compare1 (H.tW (J F _ g H.self) e k λf y g1 m _ s p=>m.tW (C F _ g1 m.self) s k λj u l B w z K=>by refine dq (gf (o:=eD l.t c f.2 j.2) (t:=l.t) z k) λx A I=>?_;exact B.cS (p.eX w) K A λL G=>G.tp I rfl) D;refine⟨n,Hh n λ{F g Q E}q=>?_⟩;have:tw (.Compare a [tn c] [b] pos) F.env (eval (.Compare a [tn c] [b] pos) F.env)=(eval (.Compare a [tn c] [b] pos) F.env>>=λv=>Mz [v] (Ub v)):=by rw[Yp,eval_Compare1];simp only[bind_assoc]
 refine zl this ?_;exact af (aY q (λ_ _ h=>aZ h) λ_ _ h=>h)
theorem UD{p q:PV}{t:aH}{i j:Int}(h1:br p=some i)(d:br q=some j):eD t .le p q=some (decide (i<=j)):=by show yU p q _=_;unfold yU;refine zl h1 ?_;refine zl d ?_;rfl
theorem BJ{h:Type}{m k:Bool×PV}{t:aH}{f:Int->M h}{n:M h}{r:jb aH h}(e:M.bind (mw (br m.2)) (λi=>M.bind (mw (br k.2)) λj=>if i<=j then f j else n) t=r)(l:r≠.aS):∃c j,eD t .le m.2 k.2=some c/\br k.2=some j/\(bif c then f j t else n t)=r:=by
 refine dq (gf e l) λi u s=>?_;refine dq (gf s l) λj p d=>?_;refine⟨_,j,UD u p,p,?_⟩;by_cases q:i<=j;·replace d:=if_pos q▸d;refine zl (decide_eq_true q) ?_;exact d
 ·replace d:=if_neg q▸d;refine zl (decide_eq_false q) ?_;exact d
theorem Hi(fa fb fc:M (Bool×PV)):M.bind (wL fa fb fc λb=>M.pure (false,.bool b)) jn=wL fa fb fc M.pure:=by
 unfold wL;rw[ou];congr 1;funext va;rw[ou];congr 1;funext vb;rw[ou];congr 1;funext i;rw[ou];congr 1;funext j;by_cases q:i<=j;·rw[if_pos q,if_pos q,ou];congr 1;funext vc;rw[ou];rfl
 ·rw[if_neg q,if_neg q];rfl
theorem EU{i:Type}{fc:R.Env->M (Bool×PV)}{k:Bool->M i}{r:jb aH i}(m:lJ S c fc){l:Bool×PV}{u:ai}{j:Int}(H:Here S F o g)(B:br l.2=some j)(E:VR g.v l.2 u)(d:r≠.aS)(e:M.bind (fc F.ρ) (λh=>M.bind (mw (br h.2)) λn=>k (decide (j<=n))) g.t=r){P:ai->ak->Prop}(q:∀x g',Here S F o g'->k x g'.t=r->P (.bool x) g'.s):aJ S.C.M F.A (eval c F.env) (λx s=>aJ S.C.M F.A (sf .LtE u x) P (Ex S.C F.k o pI r) s) (Ex S.C F.k o pI r) g.s:=H.tW (m F _ g H.self) e d λh x g1 G f p y=>by refine dq (gf p d) λn z w=>?_;exact G.cS (c:=.le) (E.eX f) y (UD B z) λI D=>q _ _ D w
theorem KP(E:lJ S a fa)(D:lJ S b fb)(B:lJ S c fc)(C:lastMarks [.LtE,.LtE] [b,c]=false):nX S (.Compare a [.LtE,.LtE] [b,c] pos) λv=>wL (fa v) (fb v) (fc v) λb=>M.pure (false,.bool b):=by
 constructor;·intro F o g H r e d;refine Compare_chain (H.tW (E F _ g H.self) e d λG y g1 i _ q p=>chain_link (i.tW (D F _ g1 i.self) q d λJ u I A f t n=>?_)) C;refine d0 (BJ t d) λx j h z m=>?_;refine A.cS (c:=.le) (p.eX f) n h λK l=>gV ?_;clear h;cases x with|false=>exact l.tp m rfl|true=>exact chain_last (EU (k:=λb=>M.pure (false,PV.bool b)) B l z n d m λx g' s w=>s.tp w rfl)
 ·intro F o g H r e d;rw[Hi]at e;refine isTrue_chain (H.tW (E F _ g H.self) e d λG y g1 i _ q p=>test_link (i.tW (D F _ g1 i.self) q d λJ u I A f t n=>?_)) C;refine d0 (BJ t d) λx j h z m=>?_;refine A.cS (c:=.le) (p.eX f) n h λK l=>gV ?_;clear h;cases x with|false=>exact l.KO m|true=>exact test_last (EU (k:=M.pure) B l z n d m λx g' s w=>gV (s.KO w))
theorem R8(k:nX S a fa):nX S (.UnaryOp .Not a pos) λm=>M.bind (M.bind (fa m) jn) λb=>M.pure (false,.bool (!b)):=by
 constructor;·intro F o g H r e d;replace e:=wY e;refine IK (H.tW (k.s F _ g H.self) e d λp y g1 j _ i f=>?_);refine dq (gf i d) λb n l=>?_;replace f:=k6 n▸f;cases f;exact not_of (gV (j.tp l rfl))
 ·intro F o g H r e d;replace e:=wY e;exact isTrue_not (H.go (Rl:=eqR) (k.t F _ g H.self) e d λb c g1 j _ i h=>by cases h;exact j.KO i)
theorem R9(k:nX S c fc)(m:nX S a fa)(l:nX S b fb):nX S (.IfExp c a b pos) λj=>M.bind (M.bind (fc j) jn) λt=>if t then fa j else fb j:=by
 constructor;·intro F o g H r e d;refine wpAny_IfExp (H.go (Rl:=eqR) (k.t F _ g H.self) e d λt u g1 i _ f h=>?_);cases h;cases t with|true=>exact m.s F o g1 i r f d|false=>exact l.s F o g1 i r f d
 ·intro F o g H r e d;replace e:=wY e;refine isTrue_IfExp (H.go (Rl:=eqR) (k.t F _ g H.self) e d λt u g1 i _ f h=>?_);cases h;cases t with|true=>exact m.t F o g1 i r f d|false=>exact l.t F o g1 i r f d
theorem Sa(E:lJ S a fa)(z:lJ S b fb):nX S (.Subscript a b pos) λi=>M.bind (fa i) λf=>M.bind (fb i) λB=>M.bind gr λh=>M.bind (mw (gq h f.2 B.2)) λv=>M.pure (false,v):=cH (λF o g H r e d=>Subscript_ (H.tW (E F _ g H.self) e d λf y g1 l _ p n=>l.tW (z F _ g1 l.self) p d λI u j k q s G=>by refine dq (gf (o:=gq j.t f.2 I.2) (t:=j.t) s d) λx C D=>?_;refine zA (GX (A:=F.A) k.bK.st (n.eX q) G C) λw m=>?_;exact sL w (k.V8 D m))) λ_ _=>rfl
end
section
variable{S:Sc}{F:Fr}{o:Or}{g:Cf}{a b c:Expr}{fa fb fc:R.Env->M (Bool×PV)}{pos:Pos}
def Jf(S:Sc)(e:Option Expr)(f:R.Env->M (Option Int)):Prop:=(e=none/\f=λ_=>M.pure none)\/∃x d,e=some x/\lJ S x d/\f=λh=>M.bind (d h) λv=>M.bind (mw (br v.2)) λk=>M.pure (some k)
noncomputable def partR:Kt (Option Int) ai:=⟨λ_ k v _=>IsPart v k,λ_ r=>r⟩
theorem zu{e:Option Expr}{f:R.Env->M (Option Int)}(h:Jf S e f)(H:Here S F o g):Sm S F o partR (evalPart e F.env) (f F.ρ) g:=by
 rcases h with⟨rfl,rfl⟩|⟨x,p,rfl,h,rfl⟩;·intro r e d;rw[xT];exact ay (H.V7 (Rl:=partR) e.symm .none)
 ·intro r e d;rw[IM];exact H.tW (h F _ g H.self) e d λq y g1 n _ k j=>by obtain⟨i,m,l⟩:=gf k d;rw[bU m]at j;obtain⟨t,rfl⟩:=j;exact n.V7 (Rl:=partR) l.symm (.int _ _)
theorem V9{D v:Option Expr}{q B:R.Env->M (Option Int)}{p:Pos}(W:lJ S a fa)(P:Jf S D q)(K:Jf S v B):nX S (.Subscript a (.Slice D v none p) pos) λf=>M.bind (fa f) λt=>M.bind (q f) λl=>M.bind (B f) λh=>mw (oi t.2 l h):=by refine cH (λF o g H r e d=>Subscript_ (H.tW (W F _ g H.self) e d λt y g1 z _ G E=>Q1 (z.go (Rl:=partR) (zu P z.self) G d λl N X w I J m=>w.go (Rl:=partR) (zu K w.self) J d λu Q C U i V j=>?_))) λ_ _=>rfl;refine dq (zt V d) λx O k=>?_;subst k;refine zl (xT _) ?_;have n:=U.iu (s':={C.s with heap:=C.s.heap.push {cls:=.type "slice",data:=.fields #[N,Q,.none]}}) (.push _ _) rfl rfl;refine zA (EA (A:=F.A) n.bK.st ((E.eX I).eX i) (Heap.IsSliceOf.new ..) m j O) λL T=>?_;exact ay (sL L (n.R3 rfl T))
theorem Jg{k:Nat}{p1 p2 p:Pos}(D:lJ S a fa):nX S (.Subscript a (.Slice none none (some (.UnaryOp .USub (.Constant (.int 1) k p1) p2)) p) pos) λB=>M.bind (fa B) λi=>mw (yV i.2):=by
 refine(?H:gB (by
  refine cH (λF o g H r e h=>Subscript_ (H.tW (D F _ g H.self) e h λi y g1 C _ n z=>Q1 ?_)) λ_ _=>rfl;refine zl (xT _) ?_;refine zl (IM _ _) ?_;refine ay (ay (IK (yv (Q0 ?_))));refine dq (zt n h) λx u m=>?_;subst m;clear e h;obtain⟨f,q⟩:=i;clear n;cases q with
  |list xs=>
   cases u;obtain⟨a1,us,ep,rfl,A,d,v⟩:=z;have l:=C.iu (s':={g1.s with toks:=g1.s.toks+1+1,heap:=g1.s.heap.push {cls:=.type "slice",data:=.fields #[.none,.none,.int (-1) (g1.s.toks+1)]}}) (.push _ _) rfl rfl;have t:=cD (l.bK.st.fz _ _ A);have j:us.toArray.size<=jD:=by refine zl aN ?_;refine zl d.length ?_;exact aa v mh
   refine sL (.list t) (l.R3 rfl λQ E q=>rb t (Heap.IsSliceOf.new ..) .none .none (.int _ _) (by decide) (q _ _ _ _ (.push _ _) (uy l.bK.st ?_ d.reverse (by refine zl ef ?_;exact v))) j);exact zl (krv_pick _) rfl
  |_=>exact(kK u).elim)) gA
 intro w;delta id at w;(try dsimp-zetaHave only[ff,fg,fi,fj,fm]at w);delta jJ nU at w;extract_lets+proofs+implicits+lift at w;refine(?F:gC _) _ w;exactλp _=>p
abbrev NS(e:Expr):Prop:=∀env d,wA (e::d) env=(false,eval e env)::wA d env
abbrev yg(d:List Expr):Prop:=∀env pos,MA pos (wA d env)=d.map λe=>(false,eval e env)
theorem yg.nil:yg []:=λ_ _=>rfl
theorem yg.cons{e:Expr}{d:List Expr}(h:NS e)(k:yg d):yg (e::d):=λenv pos=>(congrArg (MA pos) (h env d)).trans (congrArg ((false,eval e env)::·) (k env pos))
theorem NS.jO{e:Expr}(h:NS e):yg [e]:=.cons h .nil
def rM(S:Sc)(d:List Expr)(f:R.Env->M (List PV)):Prop:=∀F o g,Here S F o g->Sm S F o valsR (VC (d.map λe=>(false,eval e F.env))) (f F.ρ) g
theorem NP:rM S [] λ_=>M.pure []:=λF o g H r e d=>spliced_nil (H.V7 (Rl:=valsR) e.symm (dt.nil (v:=g.v)))
theorem KQ{j:List Expr}{f:R.Env->M (List PV)}(s:lJ S a fa)(l:rM S j f):rM S (a::j) λi=>M.bind (fa i) λv=>M.bind (f i) λvs=>M.pure (v.2::vs):=λF o g H r e h=>spliced_cons (H.tW (s F _ g H.self) e h λu y g1 k _ n m=>k.go (Rl:=valsR) (l F _ g1 k.self) n h λxs ys w t p q d=>t.V7 (Rl:=valsR) q.symm (dt.cons (m.eX p) d))
theorem dW{M:CB}{A:b9}{E:ai->ak->Prop}{s:ak}{env:aI}{f:ai}{d:List Expr}{Q:Args->ak->Prop}(h:aJ M A (VC (d.map λe=>(false,eval e env))) (λvs s'=>Q ⟨vs,[]⟩ s') E s):aJ M A (evalArgs f true (d.map λe=>(false,eval e env)) []) Q E s:=by cases d with|nil=>unfold evalArgs;exact af (aY h (λvs s' i=>aZ (af (ay (af (ay (ay i)))))) λ_ _ x=>x)|cons e d=>exact evalArgs_plain h
theorem gP{env:aI}(d:List Expr):((d.map λe=>((false:Bool),eval e env)).any (·.1)||([]:List (Option Str×Sem ai)).any (·.1.isNone))=false:=by rw[List.any_map];simp
def oQ(C:Cx)(d:Nat)(f:ai)(e:List PV->M (Bool×PV)):Prop:=∀A k o g xs ys,Hr C d A k o g->dt g.v xs ys->Sim C k o A resR (call f ys) (e xs) g
theorem zv{x:Str}{np:Pos}{i:List Expr}{y:ai}{f:R.Env->M (List PV)}{n:List PV->M (Bool×PV)}(m:kF S x y)(v:yg i)(q:(∃a,y=.ref a)->keepIn S.C.K y=true)(s:rM S i f)(l:oQ S.C S.d y n):nX S (.Call (.Name x np) i [] pos) λu=>M.bind (f u) n:=by refine cH (λF o g H r e k=>jk (m _ F o g _ _ _ H ?_)) λ_ _=>rfl;refine zl (v _ _) ?_;refine callWith_of (P:=λh=>S.C.K.In h) (gP i) (λh X=>?_) (dW (H.go (Rl:=valsR) (s F _ g H.self) e k λxs ys g1 p _ t j=>⟨p.A0,l _ _ _ _ _ _ p.toHr j r t k⟩));clear m l;cases y<;>first|exact⟨.machine,.inr (.inl rfl),Looks.of_pure rfl⟩|exact keeps_K (q ⟨_,rfl⟩) h X
theorem Rn.bR{C:Cx}{k:List aI}(x:Rn C k o g){d:Heap}{xs:List PV}{ys:List ai}{n m}(j:Kp g.h d)(u:dt g.v xs ys)(p:xs.length<=eu){r:jb aH (Bool×PV)}(e:.ok (false,.bR xs) g.t=r):Ok C k o resR r (.ref d.objs.size) (RP g.s (d.push (vw ys 0)) n m):=by have i:=x.iu (s':=RP g.s (d.push (vw ys 0)) n m) (j.trans (.push _ _)) rfl rfl;have l:(d.push (vw ys 0)).get? d.objs.size=some (vw ys 0):=Heap.get?_push_size _ rfl;have f:g.h.get? d.objs.size=none:=j.Es (eU _);have hz:=x.st.gO f;exact⟨_,⟨iP g.v d.objs.size (vw ys 0),g.t,_⟩,rfl,e.symm,⟨i.st.qp l hz (x.st.fM f) (i.st.dP l λ_ _ q=>by cases q),i.dD.qp hz (.inl (x.dD.dO _ f))⟩,CQ.mk _ ys 0 rfl (if_pos rfl) (u.eX (mi hz)) p⟩
theorem sR{b:Bi}{xs:List PV}{t:aH}{r:jb aH (Bool×PV)}(e:M.bind gr (λd=>mw (gX d b xs)) t=r)(i:r≠.aS):∃p,biV t b xs=some p/\.ok (biF b,p) t=r:=by refine dq (zt (o:=gX t b xs) (t:=t) e i) λx f h=>?_;obtain⟨p,j,rfl⟩:=f6 f;exact⟨p,j,h.symm⟩
theorem Sb{b:Bi}{f:ai}(h:BH b=some f):biF b=false:=by cases b<;>first|rfl|exact(kK h).elim
theorem KR{C:Cx}{d:Nat}{b:Bi}{f:ai}(j:BH b=some f):oQ C d f λxs=>M.bind gr λi=>mw (gX i b xs):=λA k o g xs ys H n r e l=>by refine dq (sR e l) λp m h=>?_;replace h:=Sb j▸h;exact(NH H.bK.st H.ok.handled j n m).ok (R:=resR) (a:=(false,p)) H.bK h.symm
theorem C5{C:Cx}{d:Nat}:oQ C d (.type "tuple") λxs=>M.bind gr λj=>mw (gX j .tuple xs):=λA k o g xs ys H s r e t=>by refine dq (sR e t) λp m u=>?_;clear e;refine dq (yE m) λq l h=>?_;subst l;clear m;obtain⟨zs,h1,rfl⟩:=f6 h;obtain⟨y,rfl,i⟩:=s.jO;replace i:=h9 h1▸i;clear s;obtain⟨a1,us,ep,rfl,v,f,n⟩:=i;exact call_tuple_list (cD (H.bK.st.fz _ _ v)) (λx w=>H.bK.bR w f n u) (by refine zl aN ?_;refine zl f.length ?_;exact aa n mh)
abbrev zw(o:Expr):Prop:=∀a env d,attributeBase o a env d=d
theorem C6{d:List Expr}{env:aI}{pos:Pos}(f:yg d)(e:d.length<20):((MA pos (wA d env)).all (λx=>!x.1)&&(backToKw pos (Q2 [] env)).all (λx=>x.1.isSome)&&decide (d.length+([]:List MB).length+(if([]:List MB).isEmpty then 0 else 1)<30))=true:=by rw[f];rw[ax,ax];exact⟨⟨by rw[List.all_map,bj];exactλ_ _=>rfl,rfl⟩,decide_eq_true (aa9 e)⟩
theorem NQ{b:Bi}{e:Expr}{d:Pos}{l:List Expr}{w:R.Env->M (Bool×PV)}{f:R.Env->M (List PV)}(D:lJ S e w)(L:zw e)(z:yg l)(I:l.length<20)(i:(d.endLine==pos.line)=true)(K:rM S l f):nX S (.Call (.Attribute e (zo b) d) l [] pos) λt=>M.bind (w t) λk=>if Rc b k.2 then M.bind (f t) λvs=>M.bind gr λs=>mw (gX s b (k.2::vs))else aS:=by
 refine cH (λF o g H r G m=>tK (L _ _ _) (C6 z I) i (z _ _) (H.tW (D F _ g H.self) G m λk y g1 v _ j B=>?_)) λ_ _=>rfl;have x:Rc b k.2=true:=by cases q:Rc b k.2 with|true=>rfl|false=>replace j:=q▸j;exact absurd j.symm m
 replace j:=if_pos x▸j;refine zEE (Hg (C:=S.C) x B) λT A X=>?_;refine⟨T,A,X.pa,X.slot,X.ty,X.is _,λa q=>absurd q (X.nr a),callWith_of (P:=λ_=>True) (gP l) (λh _=>⟨.machine,.inr (.inl rfl),Looks.of_pure rfl⟩) (dW (v.go (Rl:=valsR) (K F _ g1 v.self) j m λxs ys O u _ E n=>⟨trivial,?_⟩))⟩;refine dq (sR E m) λp J N=>?_;exact u.R3 N (X.ans u.bK.st n J)
theorem Hj{x y:Str}{np d:Pos}(q:kF S x (.builtin "isinstance"))(k:kF S y (.type "bool"))(A:NS a)(t:lJ S a fa):nX S (.Call (.Name x np) [a,.Name y d] [] pos) λn=>M.bind (M.bind (fa n) λv=>M.bind (M.pure []) λvs=>M.pure (v.2::vs)) λvs=>M.bind gr λf=>mw (gX f .oG vs):=by refine cH (λF o g H r e i=>jk (q _ F o g _ _ _ H ?_)) λ_ _=>rfl;refine zl ((yg.cons A (NS.jO (e:=.Name y d) λ_ _=>rfl)) _ _) ?_;replace e:=wY e;refine callWith_of (P:=λ_=>True) (gP [a,.Name y d]) (λh _=>⟨.machine,.inr (.inl rfl),Looks.of_pure rfl⟩) (dW (spliced_cons (H.tW (t F _ g H.self) e i λm u g1 j _ l z=>spliced_cons (k _ F o g1 _ _ _ j (spliced_nil ⟨trivial,?_⟩)))));refine dq (sR (xs:=[m.2]) l i) λp w s=>?_;exact j.V8 s (C2 z w)
theorem EV(a b:At)(t:Tok):(ai.str (Str.ofString (atName a)) t).isStr (Str.ofString (atName b))=decide (a=b):=by
 have d:∀a b:At,(ai.str (Str.ofString (atName a)) 0).isStr (Str.ofString (atName b))=decide (a=b):=by intro a b;cases a<;>cases b<;>decide+kernel
 exact d a b
theorem pF.NU{v:Vw}{fs:List (At×PV)}{ds:List gI}(h:pF v fs ds):ds.any (·.refKey)=false:=by induction h with|nil=>rfl|cons k _ _ e=>obtain⟨t,d⟩:=k;rw[IH,e];unfold gI.refKey;rw[d];rfl
theorem pF.eH{v:Vw}(n:At){fs:List (At×PV)}{ds:List gI}(h:pF v fs ds):Nj v (fs.lookup n) ((ds.find? (·.key.isStr (Str.ofString (atName n)))).map (·.val)):=by
 induction h with
 |nil=>exact .none
 |@cons a p d j ds k i _ f=>
  obtain⟨t,e⟩:=k;rw[D7,e,EV,bc];by_cases q:a=n;·subst q;rw[decide_eq_true rfl,beq_self_eq_true];exact .some i
  ·rw[decide_eq_false q,beq_eq_false_iff_ne.mpr (dB q)];exact f
theorem pF.getL{v:Vw}{n:At}{fs:List (At×PV)}{ds:List gI}{p:PV}(h:pF v fs ds)(e:fs.lookup n=some p):∃y,AV (Str.ofString (atName n)) ds=some (some y)/\VR v p y:=by have l:=h.eH n;replace l:=e▸l;cases q:ds.find? (·.key.isStr (Str.ofString (atName n)))with|none=>replace l:=q▸l;cases l|some d=>replace l:=q▸l;cases l with|some f=>exact⟨d.val,by unfold AV;exact zl q rfl,f⟩
theorem instAt_of{h:Heap}{C x d:Addr}{ds:List gI}{n:Nat}(h1:h.get? x=some (instObj C d))(e:h.get? d=some (dictOf ds n)):InstAt h x (instObj C d) C (some (dictOf ds n)):=⟨h1,rfl,rfl,e⟩
theorem VR.NW{v:Vw}{p:PV}{y:ai}(h:VR v p y):handedIn y=true:=by have:=h.plain;cases y<;>first|rfl|cases this
theorem Ba(X:Fx S.C)(H:Here S F o g){p r:PV}{y:ai}{n:At}(w:VR g.v p y){q:Cl×List (At×PV)}(h1:instOf g.t p=some q)(G:q.2.lookup n=some r){e:Bool}{Q E:ai->ak->Prop}(k:∀u L,VR g.v r u->Q u {g.s with toks:=L}):aJ S.C.M F.A (getAttr y (Str.ofString (atName n)) e) Q E g.s:=by refine dq (instOf_inv h1) λl i J=>?_;subst i;refine dq w λx O j=>?_;clear w;subst j;have I:I3 g.v g.h x q.1 q.2:=H.bK.st.cell l _ x J O;obtain⟨ds,m,K,N,_⟩:=I.q8;have d:=(X.att q.1 n).1;unfold Jc at d;rw[ax,ax]at d;obtain⟨⟨a1,P⟩,f⟩:=d;obtain⟨B,f,T⟩:=any_some f;refine dq (N.getL G) λu D z=>?_;exact get_value H.A0 (instAt_of I.bK K) (plainGet_of a1).1 (findObj_own P f T (by refine zl (lookIn_dict _ _ _) ?_;exact D)) z.NW (k u _ z)
theorem Hk{d:Type}{p:PV}{n:At}{t:aH}{f:PV->M d}{r:jb aH d}(e:M.bind (vg p n) f t=r)(i:r≠.aS):∃q x,instOf t p=some q/\q.2.lookup n=some x/\f x t=r:=by cases h:(instOf t p).bind λq=>q.2.lookup n with|none=>exact absurd (e.symm.trans (by unfold M.bind vg;exact zl h rfl)) i|some x=>obtain⟨q,h1,j⟩:=cg h;exact⟨q,x,h1,j,(show M.bind (vg p n) f t=f x t by unfold M.bind vg;exact zl h rfl).symm.trans e⟩
theorem NX(X:Fx S.C){n:At}(p:zw a)(t:lJ S a fa):nX S (.Attribute a (Str.ofString (atName n)) pos) λl=>M.bind (fa l) λf=>M.bind (vg f.2 n) λv=>M.pure (false,v):=cH (λF o g H r e d=>Attribute_any_ (H.tW (t F _ g H.self) e d λf y g1 h _ j i=>by refine d0 (Hk j d) λq x h1 m k=>?_;exact Ba X h i h1 m λu z w=>(h.iu (s':={g1.s with toks:=z}) (.refl _) rfl rfl).tp k w) (by rewrite[Uc];exact zl (p _ _ _) rfl)) λ_ _=>rfl
theorem Here.goD{n:Type}{d:List Expr}{f:R.Env->M (List PV)}{k:List PV->M n}{r:jb aH n}(H:Here S F o g)(w:rM S d f)(i:∀B t vs t',f B t=.ok vs t'->vs.length=d.length)(e:M.bind (f F.ρ) k g.t=r)(u:r≠.aS){P:List ai->ak->Prop}(q:∀xs ys g',Here S F o g'->xs.length=d.length->k xs g'.t=r->dt g'.v xs ys->P ys g'.s):aJ S.C.M F.A (VC (d.map λe=>(false,eval e F.env))) P (Ex S.C F.k o pI r) g.s:=aY (w F _ g H.self _ rfl (lx e u)) (λ_ _ m=>m.el λa g' l j x y=>l▸q a _ g' (H.step x) (i _ _ _ _ j) ((lu j).symm.trans e) y) λ_ _ m=>m.el λa p g' d j x z y=>⟨a,p,g',d,(e.symm.trans (pJ j)),⟨x.st,H.toHr.dD x.dD⟩,z,y.pH (λa e=>H.bK.dD.dO a e) λ_ h=>h⟩
theorem NY{i:List Expr}{f:R.Env->M (List PV)}(u:yg i)(m:i.length<=1000)(p:rM S i f)(d:∀j t vs t',f j t=.ok vs t'->vs.length=i.length):nX S (.List i pos) λj=>M.bind (f j) λvs=>M.pure (true,.list vs):=by refine cH (λF o g H r e n=>XQ ?_) λ_ _=>rfl;rw[u];refine H.goD p d e n λxs ys g1 k h1 q l=>⟨by rw[l.length,h1];exact aa (oP m) mh,?_⟩;exact(k.iu (s':={g1.s with heap:=g1.h.push (gc ys 0)}) (.push _ _) rfl rfl).V7 (Rl:=resR) q.symm (resR.pH (λa e=>k.bK.dD.dO a e) (uy k.bK.st rfl l (by rw[h1];exact oP m)))
theorem Sd{h:List Expr}{f:R.Env->M (List PV)}{k:Nat}(q:yg h)(l:h.length<=1000)(n:rM S h f)(d:∀i t vs t',f i t=.ok vs t'->vs.length=h.length):nX S (.Tuple h k pos) λi=>M.bind (f i) λvs=>M.pure (false,.bR vs):=by refine cH (λF o g H r e m=>VD ?_) λ_ _=>rfl;rw[q];exact H.goD n d e m λxs ys g1 s h1 p j=>⟨by rw[j.length,h1];exact aa (oP l) mh,s.bK.bR (.refl _) j (by rw[h1];exact oP l) p⟩
theorem C7{K:Type}[DecidableEq K]{kvs:List (K×ai)}{k:K}{v:ai}(h:(kvs.map (·.1)).Nodup):((gY kvs k v).map (·.1)).Nodup:=by
 unfold gY;split;·
  refine zl bE ?_;have:((λx:K×ai=>x.1)∘λd=>if d.1=k then(d.1,v)else d)=λd=>d.1:=by funext d;show(if d.1=k then(d.1,v)else d).1=_;split<;>rfl
  refine zl this ?_;exact h
 ·rename_i i;refine zl ba ?_;rewrite[qW];refine⟨h,by simp,λa j b f e=>?_⟩;simp at f;subst e;subst f;apply i;refine dq (aL.mp j) λd h1 l=>?_;exact XR.mpr ⟨d,h1,by simp[l]⟩
theorem Bb{K:Type}[DecidableEq K]{kvs:List (K×ai)}{k:K}{v:ai}:(gY kvs k v).length<=kvs.length+1:=by unfold gY;split<;>simp
inductive lK:List (PV×PV)->List (Option Expr)->List Expr->Prop|nil:lK [] [] []|cons{k:List Nat}{v:PV}{ck cv:QZ}{n m:Nat}{p q:Pos}{ps ks vs}:mC (.str k) ck=true->mC v cv=true->lK ps ks vs->lK ((.str k,v)::ps) (some (.Constant ck n p)::ks) (.Constant cv m q::vs)
theorem lK.all{f d vs}(h:lK f d vs):d.all (·.isSome)=true/\d.length=vs.length/\f.length=d.length:=by induction h with|nil=>exact⟨rfl,rfl,rfl⟩|cons _ _ _ e=>exact⟨e.1,congrArg (·+1) e.2.1,congrArg (·+1) e.2.2⟩
def adj(C:Cx)(v:Vw)(e:List (PV×PV))(kvs:List (Str×ai)):Prop:=∀acc d,mB Bz v acc d->(d.map (·.1)).Nodup->∀f,uj acc e=some f->mB Bz v f (merged d kvs)/\(merged d kvs).length<=d.length+e.length
theorem KS{v:Vw}{f l vs}(h:lK f l vs){A:b9}{E:ai->ak->Prop}{env:aI}:∀(s:ak)(Q:List (ai×ai)->ak->Prop),(∀i kvs B,Carries (tG S.C.prog S.C.w) i kvs->adj S.C v f kvs->Q i {s with toks:=B})->aJ S.C.M A (evalPairs (pairTrees l vs env pos)) Q E s:=by induction h with|nil=>exactλs Q q=>Ud (q [] [] s.toks trivial λacc d h j H e=>by cases e;exact⟨h,bf _⟩)|@cons k x U X n m p V f l vs D L T K=>intro s Q q;refine xk (rL D (u:=v) λW B y=>rL L (u:=v) λi O r=>K _ _ λJ kvs G N P=>?_);clear D;obtain⟨I,t,rfl,rfl,z⟩:=y;refine q _ ((I,i)::kvs) _ ⟨tH _ _ I t,rfl,N⟩ λacc d h j H e=>?_;obtain⟨_,e⟩:=dc e;have:=P _ _ (mB.xX (I2 S.C) z r h j) (C7 j) H e;refine⟨this.1,aa this.2 ?_⟩;rw[aO,cE f.length,<-cM];exact ar Bb _
theorem Rn.dict{C:Cx}{k:List aI}(x:Rn C k o g){j:Heap}{A:Nat}{f:List (PV×PV)}{kvs:List (Str×ai)}(n:j.DictOf (tG C.prog C.w) g.h.objs.size kvs)(z:mB Bz g.v f kvs)(I:kvs.length<=15)(D:Kp g.h j){r:jb aH (Bool×PV)}(e:.ok (false,.ref g.t.length) (g.t++[.dict f])=r):Ok C k o resR r (.ref g.h.objs.size) {g.s with heap:=j,toks:=A}:=by
 refine aaW (id n) λJ l ep n=>?_;have i:=eU g.h;have hz:=x.st.gO i;have y:=x.st.fM i;have u:=x.st.lH i;have d:o.g.h.get? g.h.objs.size=none:=x.dD.dO _ i;have E:=x.iu (s':={g.s with heap:=j,toks:=A}) D rfl rfl;have B:=E.push (p:=⟨g.h.objs.size,g.h.objs.size,(ep:Int)-f.length⟩) (c:=.dict f) ⟨rfl,?_,?_,.mk (I2 C) ⟨J,l,n⟩ (z.eX (yD _ _)) (by show(ep:Int)=_+((ep:Int)-_);exact aba)⟩ ⟨hz,hz⟩ ⟨y,y⟩ ⟨u,u⟩ ⟨d,d⟩;·refine⟨_,⟨_,_,_⟩,rfl,e.symm,B,⟨⟨g.h.objs.size,g.h.objs.size,(ep:Int)-f.length⟩,?_,rfl⟩⟩;show(g.v.m++[_])[g.t.length]?=_;refine zl x.st.iG ?_;refine zl (ec (bf _)) ?_;refine zl (lW _) ?_;rfl
 ·refine zr z.length ?_;exact aa I (by decide)
 ·obtain⟨a,H,h1,G⟩:=C.sys;have:=Heap.lt_size (x.st.keep a H G);exact beq_eq_false_iff_ne.mpr λq=>pf (pe h1 this) q
theorem NZ{j:List (Option Expr)}{i:List Expr}{l:List (PV×PV)}{f:R.Env->M (List (PV×PV))}(n:lK l j i)(p:l.length<=15)(z:∀m t,f m t=.aS\/f m t=.ok l t):nX S (.Dict j i pos) λm=>M.bind (f m) λl=>M.bind (mw (uj [] l)) λs=>M.bind (sE (.dict s)) λv=>M.pure (false,v):=by
 refine cH (λF o g H r e u=>?_) λ_ _=>rfl;rcases z F.ρ g.t with h|h;·exact absurd h (lx e u)
 clear z;refine dq (gf ((lu h).symm.trans e) u) λs y x=>?_;clear h;obtain⟨A,d,k⟩:=n.all;by_cases h0:j=[];·clear p A d k;subst h0;cases n;cases y;exact wpAny_Dict_empty (H.bK.dict (Heap.DictOf.new _) .nil (by simp) (.push _ _) x)
 ·refine Yq (knd:=tG S.C.prog S.C.w) A d h0 (by exact abb p d k) (KS (v:=g.v) n _ _ λK kvs L D E=>⟨kvs,D,Heap.DictOf.new _,λN G I=>?_⟩);refine zA (E [] [] .nil qa s y) λJ B=>?_;refine H.bK.dict G J (aa B (by refine zl i6 ?_;refine zl (bO _) ?_;exact p)) (λb o e=>?_) x;exact(I.2 b λq=>by replace e:=q▸e;rewrite[eU]at e;cases e).trans (Kp.push _ _ b o e)
inductive YW(g:Cf)(env:aI)(x:Str)(xs:List PV)(P:Cf->Prop):Prop|mk(a:Addr)(vs:List ai)(ep:Nat)(rd:Rd env g.h x (.ref a))(bK:g.h.get? a=some (gc vs ep))(r:dt g.v xs vs)(l:xs.length<=eu)(k:∀g',P g'->g'.h.get? a=some (gc vs ep))
theorem zx{l:Type}{x:Str}{i:Nat}{k:List PV->M l}{r:jb aH l}(H:Here S F o g)(n:i3 S.nm x i=true)(e:M.bind (items? F.ρ i) k g.t=r)(j:r≠.aS):∃xs,k xs g.t=r/\YW g F.env x xs λg'=>Rn S.C F.k (.at F.k g) g':=by have s:=H.rd n;unfold items? at e;cases q:F.ρ i with|bB=>replace e:=q▸e;exact absurd e.symm j|cj xs=>rw[q]at e s;obtain⟨vs,ep,d,f⟩:=s.bK;exact⟨xs,e,_,vs,ep,s.rd,d,f,s.nV,λg' y=>y.dD.keep _ _ d s.m (H.bK.st.dP d k7) id⟩|val p=>rw[q]at e s;clear q;cases p with|list xs=>refine dq s λy h f=>?_;clear s;obtain⟨a,vs,ep,rfl,d,f,u⟩:=f;exact⟨xs,e,a,vs,ep,h,H.bK.st.fz _ _ d,f,u,λg' y=>y.st.fz _ _ (y.dD.le.1 _ _ d)⟩|_=>exact absurd e.symm j
theorem N0{x y:Str}{i:Nat}{np d:Pos}(n:kF S y (.builtin "len"))(k:i3 S.nm x i=true):nX S (.Call (.Name y np) [.Name x d] [] pos) λq=>M.bind (items? q i) λxs=>M.pure (false,.int xs.length):=by refine cH (λF o g H r e m=>jk (n _ F o g _ _ _ H ?_)) λ_ _=>rfl;obtain⟨xs,j,a,vs,ep,f,p,t,l,_⟩:=zx H k e m;rw[NS.jO (e:=.Name x d) λ_ _=>rfl];refine callWith_of (P:=λ_=>True) (gP [.Name x d]) (λh _=>⟨.machine,.inr (.inl rfl),Looks.of_pure rfl⟩) (dW (spliced_cons (H.pO k f (spliced_nil ⟨trivial,?_⟩))));rw[<-t.length]at l j;exact call_len_list (cD p) (NG l) ((H.iu (s':={g.s with toks:=g.s.toks+1+1}) (.refl _) rfl rfl).tp j ⟨_,rfl⟩)
theorem N1{x:Str}{i:Nat}{V:Pos}(f:i3 S.nm x i=true)(X:lJ S a fa):nX S (.Subscript (.Name x V) a pos) λD=>M.bind (items? D i) λxs=>M.bind (fa D) λI=>M.bind (mw (gq [] (.list xs) I.2)) λv=>M.pure (false,v):=by refine cH (λF o g H r e k=>?_) λ_ _=>rfl;obtain⟨xs,l,ad,vs,ep,w,B,P,N,T⟩:=zx H f e k;refine Subscript_ (H.pO f w (aY (X F _ g H.self _ rfl (lx l k)) (λ_ _ m=>m.el λZ g1 z h1 U G=>?_) λ_ _ m=>m.el λa p g' z B x J y=>⟨a,p,g',z,(l.symm.trans (pJ B)),⟨x.st,H.toHr.dD x.dD⟩,J,y.pH (λa e=>H.bK.dD.dO a e) λ_ h=>h⟩));subst z;refine pg (R2 U (λ_ h=>h) G) λv Y q d=>?_;have Q:=H.step q;clear G;refine dq (gf ((lu h1).symm.trans l) k) λp O W=>?_;refine d0 (rI O) λn j K L f=>?_;replace d:=K▸d;refine zE d λt u=>?_;clear d;subst u;have E:=cD (T _ q);exact sL (C:=S.C) (A:=F.A) (s:=g1.s) (.list E) (Q.V8 W (BF (g:=⟨v,g1.t,g1.s⟩) E (P.eX q.dD.le) N L f))
structure vF(S:Sc)(op:yw)(es:List Expr)(f:R.Env->M Bool):Prop where
 v:∀F o g pos,Here S F o g->es≠[]->Sm S F o resR (boolOp pos op (evalEach es F.env)) (M.bind (f F.ρ) λb=>M.pure (false,.bool b)) g
 t:∀F o g,Here S F o g->Sm S F o eqR (allTrue op es F.env) (f F.ρ) g
theorem KU{d:yw}:vF S d [] λ_=>M.pure (d==.And):=⟨λ_ _ _ _ _ h=>absurd rfl h,λF o g H r e f=>ay (H.KO e)⟩
noncomputable def xE:yw->Bool|.And=>false|.Or=>true
theorem EW{b:Heap}{x:Bool×PV}{y:ai}{c:Bool}(h:oL b x y g)(d:nq x.2=some c):y=.bool c/\VR g.v (.bool c) y:=by obtain⟨f,p⟩:=x;cases k6 d;clear d;cases f with|false=>exact⟨h,h⟩|true=>obtain⟨_,_,_,_,h,_⟩:=h;cases h
theorem Hl{d:yw}{n:List Expr}{h:R.Env->M Bool}(A:nX S a fa)(z:vF S d n h)(h0:n=[]->∀p t,h p t≠.aS->h p t=.ok (!xE d) t):vF S d (a::n) λp=>M.bind (M.bind (fa p) jn) λb=>if b==xE d then M.pure b else h p where
 v:=λF o g pos H _ r e j=>by
  replace e:=wY (wY e);have u:∀{b:Bool}{g1:Cf}{y:ai},Here S F o g1->y=.bool b->M.bind (if b==xE d then M.pure b else h F.ρ) (λb=>M.pure (false,PV.bool b)) g1.t=r->(n=[]\/(b==xE d)=true)->Ok S.C F.k o resR r y g1.s:=λ{b g1 y}i m f B=>by clear z e;cases q:b==xE d with|true=>rw[q]at f;exact i.tp f m|false=>rw[q]at f B;have l:M.bind (h F.ρ) (λb=>M.pure (false,PV.bool b)) g1.t=r:=f;rw[lu (h0 (B.resolve_right aK) _ _ (lx l j))]at l;refine i.tp l (m.trans ?_);clear h0 l m f;cases b<;>cases d<;>first|rfl|cases q
  cases n with|nil=>exact aY (H.go (Rl:=resR) (A.s F _ g H.self) e j (P:=λy s=>Ok S.C F.k o resR r y s) λD y g1 i _ f m=>by obtain⟨b,w,l⟩:=gf f j;exact u i (EW m w).1 l (.inl rfl)) (λ_ _ h=>h) λ_ _ h=>h|cons y r'=>show aJ _ _ (do let v<-eval a F.env;standAt pos;let t<-Mz [v] (Ub v);match d,t with|.And,false|.Or,true=>pure v|_,_=>boolOp pos d (evalEach (y::r') F.env)) _ _ _;refine af (H.go (Rl:=resR) (A.s F _ g H.self) e j λD y g1 i _ f m=>?_);clear e h0;obtain⟨b,w,l⟩:=gf f j;obtain⟨rfl,E⟩:=EW m w;refine af (cY (af (aZ (gV ?_))));clear w m E f;cases d<;>cases b<;>first|exact ay (u i rfl l (.inr rfl))|exact z.v F o g1 pos i (eQ _ _) r l j
 t:=λF o g H r e j=>by show aJ _ _ (do match d,<-tw a F.env (eval a F.env)with|.And,false=>pure false|.Or,true=>pure true|_,_=>allTrue d n F.env) _ _ _;refine af (H.go (Rl:=eqR) (A.t F _ g H.self) e j λb c g1 i _ f x=>?_);clear h0 e;cases x;cases d<;>cases b<;>first|exact ay (i.KO f)|exact z.t F o g1 i r f j
theorem zy{i:yw}{d:List Expr}{f:R.Env->M Bool}(h0:d≠[])(h:vF S i d f):nX S (.BoolOp i d pos) λj=>M.bind (f j) λb=>M.pure (false,.bool b):=by
 refine⟨λF o g H=>h.v F o g pos H h0,λF o g H=>?_⟩;have e:M.bind (M.bind (f F.ρ) λb=>M.pure (false,.bool b)) jn=f F.ρ:=by rw[ou];funext t;show M.bind (f F.ρ) M.pure t=_;unfold M.bind;cases f F.ρ t<;>rfl
 show Sm S F o eqR _ (M.bind (M.bind (f F.ρ) λb=>M.pure (false,.bool b)) jn) g;rw[e];exact h.t F o g H
end
theorem BK{h:Heap}{a:Addr}{m b:Str->Option ai}(x:h.Ns a m)(y:h.Ns a b):m=b:=by refine uV x λo i ep h1 e _ c=>?_;clear x;refine uV y λg d f k1 k2 _ k3=>?_;clear y;replace k1:=h1▸k1;cases k1;replace k2:=e▸k2;cases k2;funext n;refine zr (c _) ?_;exact zl (k3 _) rfl
noncomputable def C8(b:Nat->Addr)(i:Nat)(a:Addr):Nat->Addr:=λj=>if j=i then a else b j
abbrev Fr.set(F:Fr)(i:Nat)(sl:Slot)(a:Addr):Fr:={F with ρ:=jd F.ρ i sl,ω:=C8 F.ω i a}
theorem fH{a:R.Env}{i:Nat}{s:Slot}:jd a i s i=s:=if_pos rfl
theorem cJ{a:R.Env}{i j:Nat}{s:Slot}(h:j≠i):jd a i s j=a j:=if_neg h
theorem yF{b:Nat->Addr}{i:Nat}{a:Addr}:C8 b i a i=a:=if_pos rfl
theorem nJ{b:Nat->Addr}{i j:Nat}{a:Addr}(h:j≠i):C8 b i a j=b j:=if_neg h
def C9(g:Cf)(y:ai)(a:Addr):Slot->Prop|.bB=>False|.val p=>VR g.v p y|.cj xs=>y=.ref a/\∃N,yc N (.list xs) y g
structure rN(env:aI)(x:Str)(y:ai)(h h':Heap):Prop where
 YX:Rd env h' x y
 UE:∀n u,n≠x->Rd env h n u->Rd env h' n u
 sN:∃m,h'.Ns env.locals m
 cl:∀n c,env.cells.lookup n=some c->∃o v,h'.get? c=some o/\o.data=.cell v
 YN:∀a vs ep,h.get? a=some (gc vs ep)->h'.get? a=some (gc vs ep)
section
variable{sc:dM}{nm:Nm}{F:Fr}{g:Cf}{s':ak}{x:Str}{i:Nat}{y:ai}{a b:Addr}{sl:Slot}
theorem rN.local(B:kE sc nm F g)(C:F.env.kindOf x=some .local){m:Str->Option ai}(l:g.h.Ns F.env.locals m){f:Heap}(p:f.Ns F.env.locals λn=>if n=x then some y else m n)(s:Heap.SameBut F.env.locals g.h f):rN F.env x y g.h f:=by
 have w:∀{c o},g.h.get? c=some o->(∀t ep,o.data≠.dict t ep)->c≠F.env.locals:=λ{c o}e E q=>by refine rq l λH t ep h1 d _=>?_;clear l;replace e:=q▸e;replace e:=h1▸e;clear h1;cases e;exact E t ep d
 refine⟨.inl ⟨C,_,p,if_pos rfl⟩,λn u j r=>?_,⟨_,p⟩,λn c e=>?_,λa vs ep e=>(s.2 a (w e k7)).trans e⟩;·
  rcases r with⟨k,G,h1,d⟩|⟨k,c,D,o,z,A⟩;·exact .inl ⟨k,_,p,by refine zl (if_neg j) ?_;refine zl (BK l h1) ?_;exact d⟩
  ·exact .inr ⟨k,c,D,o,(s.2 c (w z (ot A))).trans z,A⟩
 ·refine lB ((B.cl n c e).bK) λo v h1 d=>?_;exact⟨o,v,(s.2 c (w h1 (ot d))).trans h1,d⟩
theorem rN.cell(d:kE sc nm F g)(E:F.env.kindOf x=some .cell)(t:F.env.cells.lookup x=some b){s:Heap}(p:s.IsCell b (some y))(f:Heap.SameBut b g.h s):rN F.env x y g.h s:=by
 refine lB ((d.cl x b t).bK) λJ H h1 l=>?_;have z:∀{c o},g.h.get? c=some o->(∀v,o.data≠.cell v)->c≠b:=λ{c o}e C q=>by replace e:=q▸e;replace e:=h1▸e;cases e;exact C _ l
 have w:F.env.locals≠b:=by obtain⟨m,o,I,ep,k1,k2,_⟩:=d.sN.ns;exact z k1 λv q=>by replace q:=k2▸q;cases q
 refine⟨.inr ⟨.inl E,b,t,p⟩,λn u j r=>?_,?_,λn c e=>?_,λa vs ep e=>(f.2 a (z e λv q=>by cases q)).trans e⟩;·
  rcases r with⟨k,D,h1,l⟩|⟨k,c,A,o,B,G⟩;·exact .inl ⟨k,D,h1.sameBut f w,l⟩
  ·exact .inr ⟨k,c,A,o,(f.2 c λq=>j (d.nI _ _ _ (q▸A) t)).trans B,G⟩
 ·obtain⟨m,k⟩:=d.sN.ns;exact⟨m,k.sameBut f w⟩
 ·by_cases q:c=b;·refine dq p λo k1 k2=>?_;clear p;exact⟨o,_,q▸k1,k2⟩
  ·refine lB ((d.cl n c e).bK) λo v k1 k2=>?_;exact⟨o,v,(f.2 c q).trans k1,k2⟩
theorem kE.nz(o:kE sc nm F g)(D:nm.lookup x=some i)(f:∀n,nm.lookup n=some i->n=x)(s:rN F.env x y g.h s'.heap)(B:C9 g y a sl)(A:∀j ys,j≠i->F.ρ j=.cj ys->(∃xs,sl=.cj xs)->F.ω j≠a):kE sc nm (F.set i sl a) ⟨g.v,g.t,s'⟩:=by
 refine(?H:gB (by
  exact{o with
   slot:=λn j E=>by
    by_cases q:j=i;·clear D A;subst q;rw[f n E];show vE _ _ _ (C8 _ _ _ _) (jd _ _ _ _);rw[fH,yF];cases sl with|bB=>exact B.elim|val p=>exact⟨y,s.YX,B⟩|cj xs=>obtain⟨rfl,_,_,_,vs,ep,L,M,G,I,N,_,hz,O⟩:=B;cases L;cases M;exact⟨s.YX,⟨vs,ep,s.YN _ _ _ G,I⟩,N,hz,O⟩
    ·show vE _ _ _ (C8 _ _ _ _) (jd _ _ _ _);rw[cJ q,nJ q];have d:n≠x:=λe=>by rw[e,D]at E;cases E;exact q rfl
     have r:=o.slot n j E;cases q':F.ρ j with|bB=>trivial|val p=>rw[q']at r;obtain⟨u,K,P⟩:=r;exact⟨u,s.UE n u d K,P⟩|cj xs=>rw[q']at r;obtain⟨vs,ep,G,I⟩:=r.bK;exact⟨s.UE n _ d r.rd,⟨vs,ep,s.YN _ _ _ G,I⟩,r.nV,r.z,r.m⟩
   sN:=⟨o.sN.m,o.sN.z,s.sN⟩
   cl:=λn c e=>⟨(o.cl n c e).m,(o.cl n c e).z,s.cl n c e⟩
   apart:=λj k xs ys h1 J d=>by
    have l:jd F.ρ i sl j=.cj xs:=h1;have C:jd F.ρ i sl k=.cj ys:=J;clear h1 J;show C8 _ _ _ _≠C8 _ _ _ _;by_cases q:j=i;·clear D f;subst q;have q':k≠j:=λe=>d e.symm;rw[fH]at l;rw[cJ q']at C;rw[yF,nJ q'];exact(A k ys q' C ⟨xs,l⟩).symm
    ·rw[cJ q]at l;rw[nJ q];by_cases q':k=i;·clear D f;subst q';rw[fH]at C;rw[yF];exact A j xs q l ⟨ys,C⟩
     ·rw[cJ q']at C;rw[nJ q'];exact o.apart j k xs ys l C d
   rJ:=λj xs l=>by
    have l:jd F.ρ i sl j=.cj xs:=l;by_cases q:j=i;·exact⟨x,q▸D⟩
    ·rw[cJ q]at l;exact o.rJ j xs l})) gA
 intro w;delta id at w;(try dsimp-zetaHave only at w);refine(?F:gC _) _ w;exactλp _=>p
end
noncomputable def eI(sc:dM)(nm:Nm)(x:Str)(i:Nat):Bool:=nm.lookup x==some i&&(nm.all λp=>p.2 !=i||p.1==x)&&(sc.names.lookup x==some .local||sc.names.lookup x==some .cell)
theorem dX{c:Type}{l:List (Str×c)}{x:Str}{a:c}(h:l.lookup x=some a):(x,a)∈l:=by induction l with|nil=>cases h|cons p r d=>obtain⟨n,b⟩:=p;rw[bc]at h;cases q:x==n with|true=>replace h:=q▸h;clear d;cases h;refine zl (eq_of_beq q) ?_;exact bC|false=>replace h:=q▸h;exact bw _ (d h)
theorem KV{sc:dM}{nm:Nm}{x:Str}{i:Nat}(h:eI sc nm x i=true):nm.lookup x=some i/\(∀y,nm.lookup y=some i->y=x)/\(sc.names.lookup x=some .local\/sc.names.lookup x=some .cell):=by unfold eI at h;rw[ax,ax,i7]at h;refine⟨eq_of_beq h.1.1,λy a=>?_,h.2.imp eq_of_beq eq_of_beq⟩;have:=bj.mp h.1.2 _ (dX a);rw[i7]at this;exact this.elim (λq=>absurd rfl (bne_iff_ne.mp q)) eq_of_beq
def qu(sc:dM)(env:aI)(x:Str)(b:Addr):Prop:=(sc.names.lookup x=some .local/\b=env.locals)\/(sc.names.lookup x=some .cell/\env.cells.lookup x=some b)
section
variable{S:Sc}{F:Fr}{o:Or}{g:Cf}{x:Str}{i:Nat}{y:ai}{a:Addr}{sl:Slot}
theorem Here.nz(H:Here S F o g)(O:eI S.sc S.nm x i=true)(N:C9 g y a sl)(J:∀j ys,j≠i->F.ρ j=.cj ys->(∃xs,sl=.cj xs)->F.ω j≠a)(T:∀b,qu S.sc F.env x b->o.W b\/o.g.h.get? b=none){A:b9}{Q:Unit->ak->Prop}{E:ai->ak->Prop}(q:∀s' b,qu S.sc F.env x b->Heap.SameBut b g.h s'.heap->Here S (F.set i sl a) o ⟨g.v,g.t,s'⟩->Q () s'):aJ S.C.M A (Bs F.env x y) Q E g.s:=by
 refine uU (KV O) λh1 R V=>?_;have w:∀{s':ak}{b:Addr},qu S.sc F.env x b->Heap.SameBut b g.h s'.heap->g.v.z b=none->¬Ad g.v.m b->(∃l,s'.heap.get? b=some l)->(b∈frames F.k->∃m,s'.heap.Ns b m)->rN F.env x y g.h s'.heap->s'.gens=g.s.gens->s'.os=g.s.os->Q () s':=λ{s' b}G d hz u K P U B D=>q s' b G d ⟨H.toHr.touch (W:=λc=>c=b) (λc e=>e▸⟨T b G,hz,u⟩) (λc l n e=>(d.2 c n).trans e) (λc n e=>by clear G d hz u P;subst n;refine zE K λl k=>?_;clear K;replace e:=k▸e;cases e) (λc k n=>by clear K;clear G d hz u;subst n;exact P k) B D,H.en.nz h1 R U N J⟩;rcases V with p|p;·obtain⟨m,u⟩:=H.en.sN.ns;exact MT (H.kindOf p) u (λX f d=>w (.inl ⟨p,rfl⟩) d H.en.sN.z H.en.sN.m (by refine IU f λl _ _ e _=>?_;clear f;exact⟨l,e⟩) (λ_=>⟨_,f⟩) (rN.local H.en (H.kindOf p) u f d) rfl rfl) (by refine zl H.UB ?_;rfl)
 ·refine zE (H.en.Yd x (.inl p)) λc I=>?_;have r:=H.en.cl x c I;obtain⟨l,v,B,D⟩:=r.bK;exact wpAny_storeName_cell H.UB (H.kindOf p) I ⟨l,B,D⟩ λX L d=>w (.inr ⟨p,I⟩) d r.z r.m (by refine dq L λl e _=>?_;clear L;exact⟨l,e⟩) (λk=>absurd k (H.bK.st.dP B (ot D))) (rN.cell H.en (H.kindOf p) I L d) rfl rfl
theorem Here.N3(H:Here S F o g)(c:eI S.sc S.nm x i=true){p:PV}(e:VR g.v p y)(d:∀b,qu S.sc F.env x b->o.W b\/o.g.h.get? b=none){A:b9}{Q:Unit->ak->Prop}{E:ai->ak->Prop}(q:∀s' b,qu S.sc F.env x b->Heap.SameBut b g.h s'.heap->Here S (F.set i (.val p) 0) o ⟨g.v,g.t,s'⟩->Q () s'):aJ S.C.M A (Bs F.env x y) Q E g.s:=H.nz (sl:=.val p) (a:=0) c e (λj ys _ _ h=>by obtain⟨xs,h⟩:=h;injection h) d q
end
inductive vG(sc:dM)(nm:Nm):List Expr->List Nat->Prop|nil:vG sc nm [] []|cons{x:Str}{i:Nat}{p:Pos}{es:List Expr}{is:List Nat}:eI sc nm x i=true->vG sc nm es is->vG sc nm (.Name x p::es) (i::is)
inductive zz(sc:dM)(nm:Nm):Bool->Expr->List Nat->Prop|jO{x:Str}{i:Nat}{p:Pos}:eI sc nm x i=true->zz sc nm false (.Name x p) [i]|Se{es:List Expr}{i j:Nat}{is:List Nat}{k:Nat}{p:Pos}:vG sc nm es (i::j::is)->zz sc nm true (.Tuple es k p) (i::j::is)
structure aho(F F':Fr):Prop where
 A:F'.A=F.A
 k:F'.k=F.k
 env:F'.env=F.env
theorem vG.length{sc:dM}{nm:Nm}{env:aI}{a:List Expr}{is:List Nat}(h:vG sc nm a is):a.length=is.length/\(tL a env).length=a.length/\(tL a env).findIdx? (·.1)=none:=by induction h with|nil=>exact⟨rfl,rfl,rfl⟩|cons _ _ b=>refine uU b λh1 d c=>?_;clear b;refine⟨congrArg (·+1) h1,congrArg (·+1) d,?_⟩;show List.findIdx? _ ((false,_)::_)=none;refine zl (List.findIdx?_cons) ?_;refine zl c ?_;rfl
theorem Dc{is:List Nat}{xs:List PV}{b a:R.Env}(h:nx is xs b=some a):is.length=xs.length:=by
 induction is generalizing xs b with
 |nil=>cases xs with|nil=>rfl|cons=>exact(kK h).elim
 |cons i is c=>cases xs with|nil=>exact(kK h).elim|cons x xs=>exact congrArg (·+1) (c (show nx _ _ _=_ from h))
inductive xF(v:Vw)(h:Heap)(x:PV)(y:ai):Bool->Prop|val:VR v x y->xF v h x y false|bR{T:Addr}{ys:List ai}{xs:List PV}:x=.bR xs->y=.ref T->h.IsTuple T ys.toArray->dt v xs ys->xF v h x y true
theorem xF.eX{v u:Vw}{h:Heap}{x:PV}{y:ai}{t:Bool}(k:v.Le u)(r:xF v h x y t):xF u h x y t:=by cases r with|val a=>exact .val (a.eX k)|bR a b c d=>exact .bR a b c (d.eX k)
section
variable{S:Sc}{o:Or}{W:Addr->Prop}
theorem EX{w:List Expr}{is:List Nat}(I:vG S.sc S.nm w is):∀{F:Fr}{g:Cf}{xs:List PV}{ys:List ai}{d:R.Env}{Q:Unit->ak->Prop}{E:ai->ak->Prop},Here S F o g->(∀x p b,Expr.Name x p∈w->qu S.sc F.env x b->W b/\(o.W b\/o.g.h.get? b=none))->dt g.v xs ys->nx is xs F.ρ=some d->(∀s' a,(∀b B,¬W b->g.h.get? b=some B->s'.heap.get? b=some B)->(∀j,j∉is->a j=F.ω j)->Here S {F with ρ:=d,ω:=a} o ⟨g.v,g.t,s'⟩->Q () s')->aJ S.C.M F.A (xU ((tL w F.env).map (·.2)) ys) Q E g.s:=by
 induction I with
 |nil=>intro F g xs ys d Q E H u m r q;cases xs with|nil=>cases m;cases r;exact wpAny_assignInOrder_none (q g.s F.ω (λ_ _ _ e=>e) (λ_ _=>rfl) H)|cons=>exact(kK r).elim
 |@cons x i p w is P _ O=>intro F g xs ys d Q E H u m r q;cases xs with|nil=>exact(kK r).elim|cons z xs=>revert m;intro f;refine d0 f λy X G m L=>?_;clear f;subst G;exact wpAny_assignInOrder_more (qX (H.N3 P m (λb h=>(u x p b bC h).2) λJ b D V l=>O (F:=F.set i (.val z) 0) l (λx p b h=>u x p b (bw _ h)) L r λs' a U T N=>q s' a (λc B n e=>U c B n ((V.2 c λk=>n (k▸(u x p b bC D).1)).trans e)) (λj K=>(T j λh=>K (.tail _ h)).trans (nJ λk=>K (k▸.head _))) N))
def Wa(a:Expr)(x:Str):Prop:=match a with|.Name y _=>x=y|.Tuple es _ _=>∃p,Expr.Name x p∈es|_=>False
theorem zB{a:Expr}{tg:List Nat}{t:Bool}(I:zz S.sc S.nm t a tg){F:Fr}{g:Cf}{x:PV}{y:ai}{l:R.Env}{Q:Unit->ak->Prop}{E:ai->ak->Prop}(H:Here S F o g)(G:∀x b,Wa a x->qu S.sc F.env x b->W b/\(o.W b\/o.g.h.get? b=none))(w:xF g.v g.h x y t)(z:eV tg x F.ρ=some l)(q:∀s' d,(∀b f,¬W b->g.h.get? b=some f->s'.heap.get? b=some f)->(∀j,j∉tg->d j=F.ω j)->Here S {F with ρ:=l,ω:=d} o ⟨g.v,g.t,s'⟩->Q () s'):aJ S.C.M F.A (gZ a F.env y) Q E g.s:=by
 cases I with
 |@jO x' i p' B=>cases w with|val w=>have e:jd F.ρ i (.val x)=l:=bu z;clear z;subst e;exact qX (H.N3 B w (λb h=>(G _ b rfl h).2) λm b D hs r=>q m _ (λc f n e=>(hs.2 c λk=>n (k▸(G _ b rfl D).1)).trans e) (λj u=>nJ λk=>u (k▸.head _)) r)
 |Se u=>cases w with|bR X N O J=>subst X N;obtain⟨Z,V,U⟩:=u.length (env:=F.env);have l4:=Dc (show nx _ _ _=_ from z);refine wpAny_assign_Tuple H.ok.handled O (by rw[V,Z,l4,aN,J.length]) U λL P=>?_;have K:Kp g.h L:=λb f e=>P b f (λq=>by rw[q,eU]at e;cases e) e;exact EX u (H.iu (s':={g.s with heap:=L}) K rfl rfl) (λx p b B=>G x b ⟨p,B⟩) J z λs' d Y T=>q s' d (λb f n e=>Y b f n (K b f e)) T
end
inductive Jh:Bool->Expr->Prop|name{x:Str}{p:Pos}:Jh false (.Name x p)|bR{es:List Expr}{k:Nat}{p:Pos}:Jh true (.Tuple es k p)
theorem zz.UG{sc:dM}{nm:Nm}{t:Bool}{a:Expr}{tg:List Nat}(h:zz sc nm t a tg):Jh t a:=by cases h with|jO=>exact .name|Se=>exact .bR
theorem zz.bR{sc:dM}{nm:Nm}{t:Bool}{a:Expr}{tg:List Nat}{x:PV}{c b:R.Env}(h:zz sc nm t a tg)(d:eV tg x c=some b):t=true->∃xs,x=.bR xs:=λe=>by cases h with|jO=>cases e|Se=>obtain⟨xs,h,_⟩:=cg (show(ky x).bind _=_ from d);exact⟨xs,pK h⟩
structure Ji(C:Cx)(A:b9)(t:Bool)(v:Vw)(I:Addr)(wr:List Addr)(items:List PV)(P:aH->Prop)(S:Nat->Heap->Prop):Prop where
 frame:∀i k g g',S i g.h->St C k g->St C k g'->v.Le g.v->v.Le g'.v->(∀b∈wr,∀o,g.h.get? b=some o->g'.h.get? b=some o)->P g'.t->S i g'.h
 bK:∀i h,S i h->∀b∈wr,∃o vs,h.get? b=some o/\o.data=.fields vs
 item:∀qv i(s:ak)x(Q E:ai->ak->Prop),Jh t qv->(∀a o,v.z a=some o->s.heap.get? a=some o)->items[i]?=some x->(t=true->∃xs,x=.bR xs)->S i s.heap->(∀y h' tk,xF v h' x y t->S (i+1) h'->(∀b o,b∉wr->s.heap.get? b=some o->h'.get? b=some o)->Q y {s with heap:=h',toks:=tk})->aJ C.M A (Ue (.ref I)) (λr s₁=>∃y,r=some y/\aJ C.M A (kM qv (.ref I) y) (λ_ s₂=>Q y s₂) E s₁) E s
 done:∀(s:ak)(Q:Option ai->ak->Prop)(E:ai->ak->Prop),S items.length s.heap->(∀h' tk,(∀b o,b∉wr->s.heap.get? b=some o->h'.get? b=some o)->Q none {s with heap:=h',toks:=tk})->aJ C.M A (Ue (.ref I)) Q E s
 self:∀i(s:ak)(Q E:ai->ak->Prop),S i s.heap->Q (.ref I) s->aJ C.M A (MC (.ref I)) Q E s
theorem Jj{M:CB}{A:b9}{E:ai->ak->Prop}{s:ak}{n:Str}{p:Pos}{a v:ai}{Q:Unit->ak->Prop}(h:Q () s):aJ M A (kM (.Name n p) a v) Q E s:=ay h
noncomputable def N4:List String:=["enumerate","zip","dict_itemiterator","dict_reverseitemiterator","odict_iterator","itertools.zip_longest","itertools.pairwise"]
theorem N5{M:CB}{A:b9}{E:ai->ak->Prop}{s:ak}{e:List Expr}{k:Nat}{p:Pos}{I T:Addr}{o:Obj}{n:String}{vs:Array ai}{Q:Unit->ak->Prop}(b:s.heap.get? I=some o)(a:o.cls=.type n)(d:o.data=.fields vs)(c:N4.contains n=false)(h:Q () s):aJ M A (kM (.Tuple e k p) (.ref I) (.ref T)) Q E s:=by unfold kM;refine af (wpAny_load b ?_);refine zl a ?_;refine zl d ?_;dsimp only;rw[show["enumerate","zip","dict_itemiterator","dict_reverseitemiterator","odict_iterator","itertools.zip_longest","itertools.pairwise"].contains n=false from c];exact ay h
section
variable{C:Cx}{A:b9}{t:Bool}{v:Vw}{I:Addr}{items:List PV}{P:Nat->ai->Prop}{S':Nat->Heap->Prop}{fp:List Addr}{n:Nat}
theorem Ji.adk{cl:String}{Ps:aH->Prop}(W:Gs C.prog C.w A I fp [I] n P S')(O:n=items.length)(hz:v.z I=none)(L:∀b∈fp,b≠I->∃o,v.z b=some o)(M:∀i y x,items[i]?=some x->P i y->VR v x y)(D:N4.contains cl=false)(p:∀i h,S' i h->∃o vs,h.get? I=some o/\o.cls=.type cl/\o.data=.fields vs):Ji C A t v I [I] items Ps S' where
 frame:=λi k g g' f x y l V m _=>W.frame i _ _ f λb K o e=>by
  by_cases q:b=I;·exact m b (q▸.head _) o e
  ·refine zE (L b K q) λY z=>?_;have r:=x.fz b Y (l.1 _ _ z);replace r:=e▸r;cases r;exact y.fz b o (V.1 _ _ z)
 bK:=λi h f b K=>by refine zl (ao.mp K) ?_;refine d0 (p i h f) λo vs a _ d=>?_;exact⟨o,vs,a,d⟩
 item:=λu i s x Q E Z U B hu f q=>by have N:i<n:=O▸(aU.mp B).1;cases Z with|name=>exact W.item i s _ _ N f λy H G F c m=>⟨y,rfl,Jj (q y H G (.val (M i y x B F)) c m)⟩|bR=>refine W.item i s _ _ N f λy H G F c m=>⟨y,rfl,?_⟩;refine zE (hu rfl) λxs J=>?_;subst J;obtain⟨T,R,ep,rfl,j,S,_⟩:=show CQ _ _ _ _ _ from M i y _ B F;refine d0 (p _ _ c) λo vs h1 X h3=>?_;exact N5 h1 X h3 D (q _ H G (.bR rfl rfl ⟨_,m _ _ (λh=>by replace j:=ao.mp h▸j;replace j:=hz▸j;cases j) (U _ _ j),rfl,ep,rfl⟩ S) c m)
 done:=λs Q E f q=>W.done s Q E (O▸f) q
 self:=W.self
theorem Ji.A5{d e l:Addr}{xs:List PV}{vs:List ai}{ep:Nat}{Ps:aH->Prop}(hh:A.handled=none)(Z:l≠d)(m:e≠d)(Y:l≠e)(hl:v.z l=some (gc vs ep))(hv:dt v xs vs):Ji C A true v e [e,d] (xs.zipIdx.map λp=>.bR [.int p.2,p.1]) Ps (λi h=>(∃D,IsEnum h e d i D)/\(h.IsListIter d l i/\h.IsList l vs.toArray)):=by
 refine(?H:gB (by
  exact let W:=WalksT.enumerateD (prog:=C.prog) (w:=C.w) (A:=A) (Draws.list (A:=A.in1) hh d l Z vs.toArray) e m (by simp[m,dB Y]) (by simp);{
   frame:=λi k g g' c x y le R J _=>W.frame i _ _ c λb a o G=>by
    rcases av.mp a with rfl|a;·exact J _ (.head _) o G
    ·rcases av.mp a with rfl|a;·exact J _ (.tail _ (.head _)) o G
     ·cases ao.mp a;have r:=x.fz _ _ (le.1 _ _ hl);rw[G]at r;clear G;cases r;exact y.fz _ _ (R.1 _ _ hl)
   bK:=λi h c b a=>by
    obtain⟨⟨D,h1⟩,⟨o,M,_,hd⟩,_⟩:=c;rcases av.mp a with rfl|a;·exact⟨_,_,h1,rfl⟩
    ·cases ao.mp a;exact⟨o,_,M,hd⟩
   item:=λK i s x Q E N hzs X _ c q=>by cases N;rw[bV]at X;obtain⟨⟨y,j⟩,V,rfl⟩:=f6 X;rw[List.getElem?_zipIdx]at V;clear X;obtain⟨y',S,he⟩:=f6 V;clear V;cases he;obtain⟨v,f,hvr⟩:=hv.get S;refine W.item i s _ _ (by rw[aN];exact(aU.mp f).1) c λT vals h' tk hp hs hT hm J=>⟨_,rfl,W.go _ _ _ i T _ _ _ hm λO U B=>q _ O tk ?_ U λb o a e=>B b o a (J b o a e)⟩;obtain⟨t,u,L,rfl⟩:=hp;have L:vs.toArray[i]?=some u:=L;rw[uS,f]at L;cases L;refine .bR rfl rfl ?_ (dt.cons ⟨t,by rw[bO]⟩ (dt.cons hvr dt.nil));obtain⟨o,M,r⟩:=hT;exact⟨o,B _ _ (W.apart _ _ _ hm) M,r⟩
   done:=λs Q E c q=>W.done s Q E (by rw[aj,Ug,<-hv.length]at c;exact c) q
   self:=W.self})) gA
 intro w;delta id at w;(try dsimp-zetaHave only[ff,fg,fi,fj,fm,lY]at w);delta jJ nU at w;extract_lets+proofs+implicits+lift at w;refine(?F:gC _) _ w;exactλp _=>p
inductive N6(C:Cx)(h:Heap)(d:Addr)(ks:List PV)(ep:Nat):Prop|mk{K:Type}[k:DecidableEq K]{knd:tE C.prog C.w K}{qh:K->PV}{kvs:List (K×ai)}(ok:ux knd qh)(bK:h.DictAt knd d kvs ep)(e:kvs.map (λkv=>qh kv.1)=ks)(s:∀kv∈kvs,small (qh kv.1))
theorem mB.Hm{K:Type}{d:K->PV}{f:List (PV×PV)}{kvs:List (K×ai)}(h:mB d v f kvs):kvs.map (λe=>d e.1)=f.map (·.1)/\∀e∈kvs,small (d e.1):=by induction h with|nil=>exact⟨rfl,λ_ h=>(bJ h).elim⟩|cons a b c g=>exact⟨congrArg (XM _) g.1,Q3.mpr ⟨a,g.2⟩⟩
theorem xx.Hm{h:Heap}{p:CP}{b:List (PV×PV)}(x:xx C v h p b):∃ep:Nat,(ep:Int)=b.length+p.I1/\N6 C h p.a (b.map (·.1)) ep:=by obtain⟨d,f,c,e⟩:=x;exact⟨_,e,d,f,c.Hm.1,c.Hm.2⟩
def kG(vs items:List PV)(t:aH):Prop:=∀p∈vs,∀l,p=.ref l->∃a,t[l]?=some (.dict a)/\a.map (·.1)=items
theorem Ji.Hm(W:A.handled=none){l:Nat}{p:CP}{w:List PV}{ep:Nat}(hm:v.m[l]?=some p)(K:p.a≠I)(c:(ep:Int)=w.length+p.I1):Ji C A t v I [I] w (kG [.ref l] w) (λi h=>h.IsKeyIter I p.a i w.length ep/\N6 C h p.a w ep)where
 frame:=λi k g g' d x y le O hk F=>⟨d.1.at λo e=>hk I (.head _) o e,by
  obtain⟨es,V,T⟩:=F _ (.head _) l rfl;have r:=qO.bK (show qO _ _ _ _ _ from y.cell l _ p V (O.2 _ _ hm));obtain⟨M,k1,k2⟩:=r.Hm;rw[T]at k2;have:M=ep:=by rw[<-T,aj]at c;exact m7 (k1.trans c.symm)
  exact this▸k2⟩
 bK:=λi h d b z=>by obtain⟨⟨o,h1,_,X⟩,_⟩:=d;rw[ao.mp z];exact⟨o,_,h1,X⟩
 item:=λJ i s x Q E L hzs U Y d q=>by clear c;obtain⟨h1,G,H,N,F⟩:=d;subst N;rw[aj]at h1;rw[bV]at U;obtain⟨kv,D,rfl⟩:=f6 U;cases L with|name=>exact wpAny_pyNext_dict_item h1 H D λB S f u j=>⟨B,rfl,Jj (q B S s.toks (.val (G.vr f (F _ (dp D)))) ⟨by rw[aj];exact u,G,H.extBut j.extBut K,rfl,F⟩ λb o z e=>j.extBut b o (λh=>z (h▸.head _)) e)⟩|bR=>obtain⟨xs,h⟩:=Y rfl;exact absurd h (G.nt _ _)
 done:=λs Q E d q=>by clear c;obtain⟨h1,G,H,N,F⟩:=d;subst N;rw[aj]at h1;exact wpAny_pyNext_dict_end W h1 H (by simp) λS R=>q S s.toks λb o z e=>R b o (λh=>z (h▸.head _)) e
 self:=λ_ _ _ _ d Z=>wpAny_pyIter_keyiter d.1 Z
end
inductive adl(C:Cx)(A:b9)(t:Bool)(o:Or)(items:List PV)(P:aH->Prop)(I:Addr)(g:Cf):Prop|mk(wr:List Addr)(S:Nat->Heap->Prop)(it:Ji C A t g.v I wr items P S)(bK:S 0 g.h)(new:∀b∈wr,o.g.h.get? b=none/\g.v.z b=none/\¬Ad g.v.m b)
structure Jk(S:Sc)(F:Fr)(o:Or)(t:Bool)(vs items:List PV)(I:Addr)(g:Cf):Prop extends Here S F o g where
 nV:items.length<=eu
 it:adl S.C F.A t o items (kG vs items) I g
section
variable{S:Sc}{F:Fr}{o:Or}{g:Cf}{t:Bool}{vs items:List PV}{E Q:ai->ak->Prop}
theorem Here.BM{k:Obj}{l:List Addr}{n:Nat}{P:Nat->ai->Prop}{c:Nat->Heap->Prop}{cl:String}(H:Here S F o g)(W:Gs S.C.prog S.C.w F.A g.h.objs.size l [g.h.objs.size] n P c)(q:n=items.length)(f:∀b∈l,b≠g.h.objs.size->∃o,g.v.z b=some o)(m:∀i y x,items[i]?=some x->P i y->VR g.v x y)(e:N4.contains cl=false)(j:∀i h,c i h->∃o vs,h.get? g.h.objs.size=some o/\o.cls=.type cl/\o.data=.fields vs)(h0:c 0 (g.h.push k))(d:items.length<=eu):Jk S F o t vs items g.h.objs.size ⟨g.v,g.t,{g.s with heap:=g.h.push k}⟩:=have a:=eU g.h;⟨H.iu (s':={g.s with heap:=g.h.push k}) (.push _ _) rfl rfl,d,.mk [g.h.objs.size] c (.adk W q (H.bK.st.gO a) f m e j) h0 λb p=>by refine zl (ao.mp p) ?_;exact⟨H.bK.dD.dO _ a,H.bK.st.gO a,H.bK.st.fM a⟩⟩
theorem Dd{N:Addr}{z:OZ}:∀b∈[N],b≠N->∃o,z b=some o:=λb c a=>absurd (ao.mp c) a
theorem N7{N a:Addr}{z:OZ}{e:Obj}(h:z a=some e):∀b∈[N,a],b≠N->∃o,z b=some o:=λb d c=>by
 rcases av.mp d with rfl|d;·exact absurd rfl c
 ·rw[ao.mp d];exact⟨_,h⟩
theorem N8{v:Vw}{xs:List PV}{ys:List ai}(h:dt v xs ys)(i:Nat)(y:ai)(x:PV)(c:xs[i]?=some x)(a:ys.toArray[i]?=some y):VR v x y:=by refine dq (h.get c) λu b d=>?_;replace a:=uS▸a;replace a:=b▸a;clear b;cases a;exact d
theorem KW{p:PV}{y:ai}(H:Here S F o g)(J:VR g.v p y)(j:di g.t .val [p]=some items)(t:Bool)(q:∀I g',g'.t=g.t->Jk S F o t [p] items I g'->Q (.ref I) g'.s):aJ S.C.M F.A (MC y) Q E g.s:=by
 have G:=H.ok.handled;have B:=eU g.h;replace j:yW g.t p=some items:=j;have n:∀D:PV,(D=.none\/(∃b,D=.bool b)\/(∃i,D=.int i)\/∃is,D=.CI is)->yW g.t D=some items->False:=λD h e=>by rcases h with rfl|⟨_,rfl⟩|⟨_,rfl⟩|⟨_,rfl⟩<;>exact kK e
 cases p with
 |str x=>
  clear n;cases j;obtain⟨x,R,rfl,rfl,m⟩:=J;have Y:∀(i:Nat)y z,(x.cps.toList.map λc=>PV.str [c])[i]?=some z->SignAt x i y->VR g.v z y:=λi y z d w=>by refine lB w λc u V r=>?_;clear w;subst r;replace d:=bV▸d;replace d:=uT▸d;replace d:=V▸d;cases d;exact VR.CR _ _ rfl (show 1<=1048576 by decide)
  have N:(x.cps.toList.map λc=>PV.str [c]).length<=eu:=by refine zl (aj _) ?_;exact m
  cases ha:x.cps.all (·<128)with|false=>exact wpAny_pyIter_wide ha (q _ ⟨g.v,g.t,_⟩ rfl (H.BM (cl:="str_iterator") (Gs.strWide G _ x R) (by refine zl (aj _) ?_;exact zl aV rfl) Dd Y (by decide+kernel) (λi h k=>by refine pg k λo a b c=>?_;clear k;exact⟨o,_,a,b,c⟩) ⟨_,Heap.get?_push_size _ rfl,rfl,rfl⟩ N))|true=>exact wpAny_pyIter_ascii ha (q _ ⟨g.v,g.t,_⟩ rfl (H.BM (cl:="str_ascii_iterator") (Gs.strAscii G _ x R) (by refine zl (aj _) ?_;exact zl aV rfl) Dd Y (by decide+kernel) (λi h k=>by refine pg k λo a b c=>?_;clear k;exact⟨o,_,a,b,c⟩) ⟨_,Heap.get?_push_size _ rfl,rfl,rfl⟩ N))
 |bytes b=>clear n;cases j;obtain⟨b,R,rfl,rfl,m⟩:=J;refine KBw.pyIter_bytes (q _ ⟨g.v,g.t,_⟩ rfl (H.BM (cl:="bytes_iterator") (KBw.walks G _ b R) (by simp) Dd (λi y z d w=>?_) (by decide+kernel) (λi h k=>by refine pg k λo a b c=>?_;clear k;exact⟨o,_,a,b,c⟩) ⟨_,Heap.get?_push_size _ rfl,rfl,rfl⟩ (by refine zl (aj _) ?_;exact m)));refine lB w λc u V r=>?_;clear w;subst r;replace d:=bV▸d;replace d:=bV▸d;replace d:=uT▸d;replace d:=V▸d;cases d;exact⟨_,rfl⟩
 |bR xs=>cases j;obtain⟨a,U,ep,rfl,L,K,m⟩:=J;have f:=H.bK.st.fz _ _ L;exact wpAny_pyIter_tuple (gy f) (q _ ⟨g.v,g.t,_⟩ rfl (H.BM (Gs.tuple G _ a (λe=>by replace f:=e▸f;replace f:=B▸f;cases f) U.toArray) (by refine zl aN ?_;exact zl K.length rfl) (N7 L) (N8 K) (cl:="tuple_iterator") (by decide+kernel) (λi h k=>by obtain⟨⟨o,a,b,c⟩,_⟩:=k;exact⟨o,_,a,b,c⟩) ⟨⟨_,Heap.get?_push_size _ rfl,rfl,rfl⟩,gy (Kp.push _ _ _ _ f)⟩ m))
 |list xs=>cases j;obtain⟨a,U,ep,rfl,L,K,m⟩:=J;have f:=H.bK.st.fz _ _ L;exact VE (cD f) (q _ ⟨g.v,g.t,_⟩ rfl (H.BM (Gs.list G _ a (λe=>by replace f:=e▸f;replace f:=B▸f;cases f) U.toArray) (by refine zl aN ?_;exact zl K.length rfl) (N7 L) (N8 K) (cl:="list_iterator") (by decide+kernel) (λi h k=>by obtain⟨⟨o,a,b,c⟩,_⟩:=k;exact⟨o,_,a,b,c⟩) ⟨⟨_,Heap.get?_push_size _ rfl,rfl,rfl⟩,cD (Kp.push _ _ _ _ f)⟩ m))
 |ref l=>
  clear n;refine dq J λZ hm W=>?_;clear J;subst W;obtain⟨es,he,j⟩:=f6 j;refine dq (iZ he) λ_ e1 m=>?_;cases e1;subst j;obtain⟨hab,h5,O,P⟩:=show qO _ _ _ _ _ from H.bK.st.cell l _ Z m hm;obtain⟨ep,k1,k2⟩:=P.Hm;obtain⟨ok,P,X,w⟩:=id k2;have T:Z.a≠g.h.objs.size:=λe=>by refine zE (y7 P.dictOf) λo h=>?_;replace h:=e▸h;replace h:=B▸h;cases h
  refine wpAny_pyIter_dict O P (q _ ⟨g.v,g.t,_⟩ rfl ⟨H.iu (s':={g.s with heap:=g.h.push _}) (.push _ _) rfl rfl,by refine zl (aj _) ?_;exact aa h5 (by decide),.mk [g.h.objs.size] _ (Ji.Hm G hm T (by refine zl (aj _) ?_;exact k1)) ⟨⟨_,Heap.get?_push_size _ rfl,rfl,?_⟩,?_⟩ λb hb=>?_⟩);·refine zr X ?_;refine zl (aj _) ?_;rfl
  ·exact .mk ok (P.at' λo e=>Kp.push _ _ _ _ e) X w
  ·refine zl (ao.mp hb) ?_;exact⟨H.bK.dD.dO _ B,H.bK.st.gO B,H.bK.st.fM B⟩
 |none=>exact(n _ (.inl rfl) j).elim
 |bool=>exact(n _ (.inr (.inl ⟨_,rfl⟩)) j).elim
 |int=>exact(n _ (.inr (.inr (.inl ⟨_,rfl⟩))) j).elim
 |CI=>exact(n _ (.inr (.inr (.inr ⟨_,rfl⟩))) j).elim
end
noncomputable def Jl(a sc:dM):dM:={a with names:=a.names.map λ(n,k)=>if(k==.free&&sc.kind==.function&&sc.names.lookup n==some .cell)then(n,.cell)else(n,k)}
theorem zC(a:dM)(env:aI):relabel a env=Jl a env.scope:=rfl
def De(env:aI)(l:List (Str×eb))(acc:List (Str×Addr)):List (Str×Addr):=dE (motive:=λ_=>List (Str×Addr)->List (Str×Addr)) (λacc=>acc) (λp _ f acc=>f (if p.2==.free then(p.1,(env.cells.lookup p.1).getD 0)::acc else acc)) l acc
theorem Df{env:aI}{n:Str}{k:eb}{r:List (Str×eb)}{acc:List (Str×Addr)}:De env ((n,k)::r) acc=De env r (if k==.free then(n,(env.cells.lookup n).getD 0)::acc else acc):=rfl
theorem Hn(a:dM)(env:aI)(h:∀x∈a.names,x.2=.free->∃c,env.cells.lookup x.1=some c):Uh a env=pure (De env a.names []):=by
 unfold Uh;have d:∀(l:List (Str×eb))(acc:List (Str×Addr)),(∀x∈l,x.2=.free->∃c,env.cells.lookup x.1=some c)->(forIn l acc λ(x:Str×eb)(r:List (Str×Addr))=>if(x.2==eb.free)=true then(do let c<-cellOf env x.1;pure (gK ((x.1,c)::r)):Sem _)else pure (gK r))=pure (De env l acc):=by
  intro l;induction l with
  |nil=>intro acc _;rfl
  |cons x l i=>
   intro acc f;obtain⟨n,k⟩:=x;rw[List.forIn_cons];by_cases hk:k=.free;·
    subst hk;obtain⟨c,g⟩:=f (n,.free) bC rfl;have e:cellOf env n=pure c:=by unfold cellOf;rw[g]
    simp only[beq_self_eq_true,if_true,e,pure_bind];rw[i _ λy b=>f y (bw _ b)];simp[Df,g]
   ·have j:(k==eb.free)=false:=by simpa using hk
    simp only[j,iS,if_false,pure_bind];rw[i _ λy b=>f y (bw _ b)];simp[Df,j]
 have o:=d a.names [] h;refine(congrArg (λm:Sem (List (Str×Addr))=>m>>=λcs=>pure cs) o).trans ?_;simp
theorem KY(env:aI)(l:List (Str×eb)):∀(acc:List (Str×Addr))(x:Str)(c:Addr),(De env l acc).lookup x=some c->acc.lookup x=some c\/((∃k,(x,k)∈l/\k=.free)/\c=(env.cells.lookup x).getD 0):=by
 induction l with
 |nil=>intro acc x c h;exact .inl h
 |cons a r f=>
  obtain⟨n,k⟩:=a;intro acc x c h;replace h:=Df▸h;rcases f _ x c h with h1|⟨⟨g,h1,d⟩,b⟩;·
   by_cases hk:k=.free;·clear h;subst hk;simp only[beq_self_eq_true,if_true]at h1;rw[bc]at h1;cases q:x==n with|true=>replace h1:=q▸h1;cases h1;refine zl (eq_of_beq q) ?_;exact .inr ⟨⟨.free,bC,rfl⟩,rfl⟩|false=>replace h1:=q▸h1;exact .inl h1
   ·have e:(k==eb.free)=false:=by simpa using hk
    replace h1:=e▸h1;exact .inl h1
  ·exact .inr ⟨⟨g,bw _ h1,d⟩,b⟩
theorem EY(env:aI)(l:List (Str×eb)):∀(acc:List (Str×Addr))(x:Str),(((x,eb.free)∈l)\/∃c,acc.lookup x=some c)->∃c,(De env l acc).lookup x=some c:=by
 induction l with
 |nil=>
  intro acc x h;rcases h with h|h;·cases h
  ·exact h
 |cons a r b=>
  obtain⟨n,k⟩:=a;intro acc x h;rw[Df];apply b;rcases h with h|⟨c,h⟩;·
   rcases av.mp h with h|h;·cases h;right;simp[bc]
   ·exact .inl h
  ·right;split;·rw[bc];cases q:x==n with|true=>exact⟨_,rfl⟩|false=>exact⟨c,h⟩
   ·exact⟨c,h⟩
theorem Ho{a sc:dM}{x:Str}{k:eb}(h:(Jl a sc).names.lookup x=some k):∃b,a.names.lookup x=some b/\(k=b\/(b=.free/\k=.cell/\sc.names.lookup x=some .cell)):=by
 refine(?H:gB (by
  unfold Jl at h;dsimp only at h;generalize a.names=l at h;induction l with
  |nil=>simp at h
  |cons p r d=>
   obtain⟨n,b⟩:=p;replace h:=aM▸h;refine zl bc ?_;cases q:x==n with
   |true=>
    refine⟨b,rfl,?_⟩;dsimp only at h;split at h;·rename_i c;rewrite[bc]at h;replace h:=q▸h;cases h;simp only[ax,beq_iff_eq]at c;exact .inr ⟨c.1.1,rfl,by refine zl (eq_of_beq q) ?_;exact c.2⟩
    ·rewrite[bc]at h;replace h:=q▸h;cases h;exact .inl rfl
   |false=>
    dsimp only at h⊢;refine d ?_;split at h;·rewrite[bc]at h;replace h:=q▸h;exact h
    ·rewrite[bc]at h;replace h:=q▸h;exact h)) gA
 intro w;delta id at w;(try dsimp-zetaHave only at w);refine(?F:gC _) _ w;exactλp _=>p
theorem Wb{a sc:dM}{x:Str}{k:eb}(h:a.names.lookup x=some k):∃b,(Jl a sc).names.lookup x=some b/\(b=k\/(k=.free/\b=.cell)):=by
 unfold Jl;dsimp only;generalize a.names=l at h;induction l with
 |nil=>simp at h
 |cons p r e=>
  obtain⟨n,f⟩:=p;refine zl aM ?_;rw[bc]at h;cases q:x==n with
  |true=>
   replace h:=q▸h;cases h;dsimp only;split;·rename_i c;simp only[ax,beq_iff_eq]at c;exact⟨.cell,by refine zl bc ?_;exact zl q rfl,.inr ⟨c.1.1,rfl⟩⟩
   ·exact⟨_,by refine zl bc ?_;exact zl q rfl,.inl rfl⟩
  |false=>
   replace h:=q▸h;refine dq (e h) λb h1 d=>?_;refine⟨b,?_,d⟩;dsimp only;split;·refine zl bc ?_;refine zl q ?_;exact h1
   ·refine zl bc ?_;refine zl q ?_;exact h1
theorem KZ{prog:jj}{w:se}{A:b9}{R:Ui->ak->Prop}{s:ak}{o a i:Expr}{p:List Expr}{f:dM}{pos:Pos}{C acc:ai}{env:aI}(I:Nat->ak->Prop)(y:∀n s,I n s->aJ (dF prog w) A (Ue C) (λr d=>match r with|none=>R (.ok .next) d|some v=>aJ (dF prog w) A (kM a C v) (λ_ s₂=>aJ (dF prog w) A (gZ a env v) (λ_ l=>aJ (dF prog w) A (forIn p true λc r=>if r=true then do let q<-tw c env (eval c env);pure (gK q)else pure (gK r)) (λq b=>if q=true then aJ (dF prog w) A (eval o env) (λx g=>aJ (dF prog w) A (call (.builtin "list.append") [acc,x]) (λ_ j=>∃m,m<n/\I m j) (λ_ _=>False) g) (λ_ _=>False) b else∃m,m<n/\I m b) (λ_ _=>False) l) (λ_ _=>False) s₂) (λ_ _=>False) d) (λ_ _=>False) s)(n:Nat)(h:I n s):Ed (dF prog w) A (.compLoop (.ListComp o [⟨a,i,p,0⟩] f pos) 0 C acc env) R s:=by refine codeAny_loop rfl I (λn s D=>?_) n h;show aJ _ A ((compTurn (.ListComp o [⟨a,i,p,0⟩] f pos) 0 C acc env).onRaise (λx=>do wD x env;theTreesLotGoes x)) _ _ s;refine wpAny_noted ?_;rw[compTurn_list];refine af (cY (af (aY (y n s D) (λr d h₁=>?_) λ_ _ e=>e.elim)));cases r with|none=>exact ay h₁|some v=>refine af (aY h₁ (λ_ s₂ z=>?_) λ_ _ e=>e.elim);refine af (aY z (λ_ l B=>af (aY B (λq b k=>?_) λ_ _ e=>e.elim)) λ_ _ e=>e.elim);cases q with|false=>exact ay ⟨rfl,k⟩|true=>exact af (af (aY k (λx g t=>af (aY t (λ_ j u=>ay (ay ⟨rfl,u⟩)) λ_ _ e=>e.elim)) λ_ _ e=>e.elim))
def jX(tg:List Nat)(a:R.Env):R.Env:=λj=>if tg.contains j then .bB else xZ a j
theorem wZ{tg:List Nat}{a:R.Env}{j:Nat}(h:j∉tg):jX tg a j=xZ a j:=if_neg λq=>h (jg.mp q)
theorem zD{tg:List Nat}{a:R.Env}{j:Nat}(h:j∈tg):jX tg a j=.bB:=if_pos (jg.mpr h)
theorem N9{a:R.Env}{j:Nat}{xs:List PV}:xZ a j≠.cj xs:=λh=>by unfold xZ at h;cases q:a j with|cj=>replace h:=q▸h;cases h|_=>replace h:=q▸h;cases h
theorem pP{tg:List Nat}{a:R.Env}{j:Nat}{xs:List PV}:jX tg a j≠.cj xs:=λh=>by
 by_cases q:j∈tg;·replace h:=zD q▸h;cases h
 ·replace h:=wZ q▸h;exact N9 h
theorem kE.Oa{sc:dM}{nm:Nm}{F:Fr}{a:R.Env}{g:Cf}(b:kE sc nm F g)(c:∀j,a j=F.ρ j\/a j=.bB):kE sc nm {F with ρ:=a} g:=have k:∀{i xs},a i=.cj xs->F.ρ i=.cj xs:=λ{i xs}h=>(c i).elim (λq=>q.symm.trans h) λq=>by rw[q]at h;cases h
 {b with
 slot:=λx i e=>by
  show vE g F.env x (F.ω i) (a i);rcases c i with q|q;·rw[q];exact b.slot x i e
  ·rw[q];trivial
 apart:=λi j xs ys h1 d=>b.apart i j xs ys (k h1) (k d)
 rJ:=λi xs h=>b.rJ i xs (k h)}
theorem BO{b a:R.Env}{i:Nat}{s:Slot}{is:List Nat}(h:∀j,j∉i::is->b j=a j)(j:Nat)(c:j∉is):jd b i s j=jd a i s j:=by
 by_cases q:j=i;·rw[q,fH,fH]
 ·rw[cJ q,cJ q];exact h j λk=>(av.mp k).elim q c
theorem EZ{is:List Nat}{xs:List PV}{c b a:R.Env}(h:∀j,j∉is->c j=b j)(e:nx is xs c=some a):nx is xs b=some a:=by
 induction is generalizing xs c b with
 |nil=>cases xs with|nil=>exact(funext λj=>h j bJ:c=b)▸e|cons=>exact(kK e).elim
 |cons i is d=>cases xs with|nil=>exact(kK e).elim|cons x xs=>exact d (BO h) e
theorem Dg{tg:List Nat}{x:PV}{c b a:R.Env}(h:∀j,j∉tg->c j=b j)(e:eV tg x c=some a):eV tg x b=some a:=by
 unfold eV at e⊢;by_cases q:tg.length=1;·rw[if_pos q]at e⊢;obtain⟨i,rfl⟩:=lT.mp q;exact(congrArg some (funext λj=>(BO (i:=i) h j bJ).symm)).trans e
 ·rw[if_neg q]at e⊢;obtain⟨xs,h1,d⟩:=cg e;exact Option.bind_eq_some_iff.mpr ⟨xs,h1,EZ h d⟩
theorem zF{is:List Nat}{xs:List PV}{b a:R.Env}(e:nx is xs b=some a)(j)(c:j∉is):a j=b j:=by
 induction is generalizing xs b with
 |nil=>cases xs with|nil=>cases e;rfl|cons=>exact(kK e).elim
 |cons i is d=>cases xs with|nil=>exact(kK e).elim|cons x xs=>exact(d e λh=>c (.tail _ h)).trans (cJ λq=>c (q▸.head _))
theorem rO{tg:List Nat}{x:PV}{c a:R.Env}(e:eV tg x c=some a)(j:Nat)(b:j∉tg):a j=c j:=by
 unfold eV at e;by_cases q:tg.length=1;·rw[if_pos q]at e;obtain⟨i,rfl⟩:=lT.mp q;cases e;exact cJ λq=>b (q▸.head _)
 ·rw[if_neg q]at e;obtain⟨xs,h1,d⟩:=cg e;exact zF d j b
theorem K0{is:List Nat}{xs:List PV}{d a:R.Env}(e:nx is xs d=some a)(ys j)(c:j∈is):a j≠.cj ys:=by
 induction is generalizing xs d with
 |nil=>cases c
 |cons i is b=>
  cases xs with
  |nil=>exact(kK e).elim
  |cons x xs=>
   by_cases q:j∈is;·exact b e q
   ·rw[zF (is:=is) (xs:=xs) e j q];clear b e;cases(av.mp c).resolve_right q;refine zl fH ?_;exact Slot.noConfusion
theorem zG{tg:List Nat}{x:PV}{c a:R.Env}(e:eV tg x c=some a)(j:Nat)(b:j∈tg)(ys:List PV):a j≠.cj ys:=by
 unfold eV at e;by_cases q:tg.length=1;·rw[if_pos q]at e;obtain⟨i,rfl⟩:=lT.mp q;clear q;cases e;cases ao.mp b;show jd c j _ j≠_;rw[fH];exactλh=>by injection h
 ·rw[if_neg q]at e;obtain⟨xs,h1,d⟩:=cg e;exact K0 d ys j b
structure Dh(scope sc:dM)(nm nm':Nm)(tg:List Nat):Prop where
 cell:∀y∈scope.names,y.2≠.cell
 kind:scope.kind=.function
 names:∀y∈scope.names,y.2=.local->scope.names.lookup y.1=some .local
 free:∀y∈scope.names,y.2=.free->sc.names.lookup y.1=some .cell\/sc.names.lookup y.1=some .free
 nm:∀x i,nm'.lookup x=some i->i∈tg\/(scope.names.lookup x=some .free/\nm.lookup x=some i)
section
variable{scope sc:dM}{nm nm':Nm}{tg:List Nat}{F:Fr}{g:Cf}
abbrev Fr.comp(F:Fr)(scope:dM)(C:Addr)(b:R.Env)(a:Nat->Addr):Fr:=⟨F.A,F.k,compEnvC scope (De F.env scope.names []) C F.env,b,a⟩
theorem Oc(X:Dh scope sc nm nm' tg){C:Addr}(b:kE sc nm F g)(B:NM g C):kE (Jl scope sc) nm' (F.comp scope C (jX tg F.ρ) F.ω) g:=by
 have a:∀x c,(De F.env scope.names []).lookup x=some c->(x,eb.free)∈scope.names/\F.env.cells.lookup x=some c:=λx c e=>by
  rcases KY F.env _ _ _ _ e with h|⟨⟨k,h1,rfl⟩,r⟩;·exact(kK h).elim
  ·refine⟨h1,?_⟩;refine zE (b.Yd x (X.free _ h1 rfl)) λE d=>?_;refine zl r ?_;refine zl d ?_;rfl
 have u:∀x,(F.comp scope C (jX tg F.ρ) F.ω).env.kindOf x=(Jl scope sc).names.lookup x:=λx=>by show(relabel scope F.env).names.lookup x=_;refine zl (zC _ _) ?_;exact zl b.scope rfl
 exact{
  scope:=by show relabel scope F.env=_;refine zl (zC _ _) ?_;exact zl b.scope rfl
  kind:=X.kind
  globals:=b.globals
  builtins:=b.builtins
  slot:=λx i e=>by
   show vE g (F.comp scope C (jX tg F.ρ) F.ω).env x (F.ω i) (jX tg F.ρ i);by_cases ht:i∈tg;·refine zl (zD ht) ?_;trivial
   refine zl (wZ ht) ?_;refine zA ((X.nm x i e).resolve_left ht) λh1 r=>?_;have m:=b.slot x i r;unfold xZ;cases q:F.ρ i with
   |bB=>trivial
   |cj xs=>trivial
   |val p=>
    replace m:=q▸m;refine dq m λv w D=>?_;clear m;refine⟨v,?_,D⟩;have f:=dX h1;have o:=X.free _ f rfl;rcases w with⟨k,_⟩|⟨k,c,G,n⟩;·rewrite[fX]at k;replace k:=b.scope▸k;rcases o with q|q<;>(dsimp only at q;replace k:=q▸k;cases k)
    ·refine dq (Wb (sc:=sc) h1) λA l t=>?_;refine zE (EY F.env scope.names [] x (.inl f)) λE d=>?_;have:=(a _ _ d).2;replace this:=G▸this;cases this;refine .inr ⟨?_,c,d,n⟩;refine zl (u _) ?_;refine zl l ?_;clear l;rcases t with rfl|⟨_,rfl⟩;·exact .inr rfl
     ·exact .inl rfl
  sN:=B
  cl:=λx c e=>b.cl x c (a x c e).2
  Yd:=λx s=>by
   have:(x,eb.free)∈scope.names:=by
    rcases s with q|q<;>obtain⟨A,h1,rfl|⟨rfl,_⟩⟩:=Ho q;·exact absurd rfl (X.cell _ (dX h1))
    ·exact dX h1
    ·exact dX h1
    ·exact dX h1
   exact EY F.env scope.names [] x (.inl this)
  nI:=λx y c s z=>b.nI x y c (a x c s).2 (a y c z).2
  apart:=λi j xs ys h1 _=>absurd h1 pP
  rJ:=λi xs h1=>absurd h1 pP}
theorem Hp(X:Dh scope sc nm nm' tg)(a:kE sc nm F g):Uh scope F.env=pure (De F.env scope.names []):=Hn scope F.env λx b c=>a.Yd x.1 (X.free x b c)
end
structure Wr(o:Or)(g:Cf)(h':Heap)(W:Addr->Prop):Prop where
 ok:∀b,W b->(o.W b\/o.g.h.get? b=none)/\g.v.z b=none/\¬Ad g.v.m b
 keep:∀b ob,¬W b->g.h.get? b=some ob->h'.get? b=some ob
 dO:∀b,W b->h'.get? b=none->o.g.h.get? b=none
 was:∀b,W b->∃ob,g.h.get? b=some ob/\(∀es ep,ob.data≠.dict es ep)/\∀v,ob.data≠.cell v
section
variable{S:Sc}{F:Fr}{o:Or}{g:Cf}{W:Addr->Prop}{s':ak}
theorem Wr.not{c:Heap}(x:Wr o g c W){b:Addr}{a:Obj}(e:g.h.get? b=some a)(h:(∃f ep,a.data=.dict f ep)\/∃v,a.data=.cell v):¬W b:=λq=>by obtain⟨d,k1,k2,k3⟩:=x.was b q;rw[e]at k1;cases k1;exact h.elim (λh=>by obtain⟨_,_,h⟩:=h;exact k2 _ _ h) λh=>by obtain⟨_,h⟩:=h;exact k3 _ h
theorem Here.wr(H:Here S F o g)(x:Wr o g s'.heap W)(f:∀i xs,F.ρ i=.cj xs->¬W (F.ω i))(u:s'.gens=g.s.gens)(y:s'.os=g.s.os):Here S F o ⟨g.v,g.t,s'⟩:=by
 refine⟨H.toHr.touch x.ok x.keep x.dO (λb k q=>?_) u y,H.en.keep (P:=λa=>¬W a) (.refl _) ⟨λm h=>?_,λa j p e _=>x.keep a j p e⟩ (λ_ _ _ h _=>h) (λ_ _ _ h _=>h) ?_ (λn c e=>?_) f⟩;·refine pg (x.was b q) λj k1 k2 _=>?_;exact absurd k (H.bK.st.dP k1 k2)
 ·refine rq (id h) λj l ep e d _=>?_;exact h.at' λw r=>x.keep _ _ (x.not e (.inl ⟨l,ep,d⟩)) r
 ·obtain⟨m,j,l,ep,e,d,_⟩:=H.en.sN.ns;exact x.not e (.inl ⟨l,ep,d⟩)
 ·refine lB ((H.en.cl n c e).bK) λj v e d=>?_;exact x.not e (.inr ⟨v,d⟩)
end
def xG(S:Sc)(t:Bool)(b:Expr)(k:AZ)(f:R.Env->M (List PV)):Prop:=∀F o g(Q E:ai->ak->Prop),Here S F o g->f F.ρ g.t≠.aS->(∀vs t',f F.ρ g.t=.ok vs t'->∃items,di t' k vs=some items)->(∀y s,Ex S.C F.k o pI (f F.ρ g.t) y s->E y s)->(∀vs items I g',f F.ρ g.t=.ok vs g'.t->di g'.t k vs=some items->Jk S F o t vs items I g'->Q (.ref I) g'.s)->aJ S.C.M F.A (eval b F.env) (λx a=>aJ S.C.M F.A (MC x) Q E a) E g.s
section
variable{S:Sc}{F:Fr}{o:Or}{g:Cf}{t:Bool}{it:Expr}{f:R.Env->M (Bool×PV)}
theorem Od(e:lJ S it f):xG S t it .val λj=>M.bind (f j) λv=>M.pure [v.2]:=λF o g Q E H l k d q=>aY (H.tW (e F _ g H.self) rfl l (P:=λy s=>aJ S.C.M F.A (MC y) Q E s) λn y g1 m _ b i=>by obtain⟨items,a⟩:=k _ _ b.symm;exact KW m i a t λI g' c R=>q _ items I g' (c▸b.symm) (c▸a) R) (λ_ _ h=>h) d
theorem E0(H:Here S F o g){r:Addr}{a b:Int}{D u v:Tok}{vs:List PV}(p:VF g.h r a b 1 D u v)(B:-1000000<=a/\a<=1000000)(w:-1000000<=b/\b<=1000000)(d:b-a<=1000000){E Q:ai->ak->Prop}(q:∀I g',g'.t=g.t->Jk S F o t vs ((eM (b-a).toNat).map λ(i:Nat)=>.int (a+i)) I g'->Q (.ref I) g'.s):aJ S.C.M F.A (MC (.ref r)) Q E g.s:=by
 have c:bl.Range.rangeSize a b 1=((b-a).toNat:Int):=rangeSize_nat a b;have m:bl.Range.small a b 1=true:=by unfold bl.Range.small bl.Range.rangeFitsLong;refine zl c ?_;simp;exact abc B w d
 refine wpAny_pyIter_range p m (q _ ⟨g.v,g.t,_⟩ rfl (H.BM (cl:="range_iterator") (Gs.range H.ok.handled _ a 1 (b-a).toNat) (by refine zl (aj _) ?_;exact zl lX rfl) Dd (λi y x e n=>?_) (by decide+kernel) (λi h z=>⟨_,_,z,rfl,rfl⟩) ?_ ?_));·refine zE n λt l=>?_;clear n;subst l;replace e:=bV▸e;obtain⟨j,k,rfl⟩:=f6 e;replace k:=(Ru (by have h:=(aU.mp k).1;rwa[lX]at h))▸k;clear e;cases k;refine zl (Int.mul_one _) ?_;exact⟨t,rfl⟩
 ·show _=some _;refine zl c ?_;refine zl (show a+((0:Nat):Int)*1=a from by exact abd) ?_;refine zl (show((b-a).toNat:Int)-((0:Nat):Int)=((b-a).toNat:Int)from by exact abe) ?_;exact Heap.get?_push_size _ rfl
 ·refine zl (aj _) ?_;refine zl lX ?_;refine zl jP ?_;exact abf d
theorem Oe{args:List PV}{a:Type}{f:PV->Option a}{r:a}(h:(match args with|[v]=>f v|_=>none)=some r):∃v,args=[v]/\f v=some r:=by cases args with|nil=>exact(kK h).elim|cons v r=>cases r with|nil=>exact⟨v,rfl,h⟩|cons=>exact(kK h).elim
theorem UH{args:List PV}{a:Type}{f:PV->PV->Option a}{r:a}(h:(match args with|[v,u]=>f v u|_=>none)=some r):∃v u,args=[v,u]/\f v u=some r:=by cases args with|nil=>exact(kK h).elim|cons v r=>cases r with|nil=>exact(kK h).elim|cons u r=>cases r with|nil=>exact⟨v,u,rfl,h⟩|cons=>exact(kK h).elim
theorem Hq{x:Str}{np pos:Pos}{d:List Expr}{k:AZ}{f:R.Env->M (List PV)}(J:k=.range\/k=.ud)(hx:kF S x (.type "range"))(hs:yg d)(hg:rM S d f):xG S t (.Call (.Name x np) d [] pos) k f:=by
 refine(?H:gB (by
  intro F o g Q E H hn X hE q;refine jk (hx _ F o g _ _ _ H ?_);refine zl (hs _ _) ?_;refine callWith_of (P:=λ_=>True) (gP d) (λh _=>⟨.machine,.inr (.inl rfl),Looks.of_pure rfl⟩) (dW (aY (hg F _ g H.self _ rfl hn) (λys _ B=>B.el λvs g1 d j x1 z=>⟨trivial,?_⟩) λ_ _ B=>B.el λa p g' d j x ey y=>hE _ _ ⟨a,p,g',d,j,⟨x.st,H.toHr.dD x.dD⟩,ey,y.pH (λa e=>H.bK.dD.dO a e) λ_ h=>h⟩));subst d;have H1:=H.step x1;refine zE (X _ _ j) λitems c=>?_;have l:∀(s₂:ak)(r:Addr)(a b:Int)(t' u v:Tok),VF s₂.heap r a b 1 t' u v->Kp g1.h s₂.heap->s₂.gens=g1.s.gens->s₂.os=g1.s.os->(-1000000<=a/\a<=1000000)->(-1000000<=b/\b<=1000000)->b-a<=1000000->items=((eM (b-a).toNat).map λ(i:Nat)=>.int (a+i))->aJ S.C.M F.A (MC (.ref r)) Q E s₂:=λs₂ r a b t' u v hr J K T ha hb U V=>E0 (H1.iu (s':=s₂) J K T) (vs:=vs) (t:=t) hr ha hb U λI g' Y R=>q vs items I g' (Y▸j) (Y▸c) (V▸R);clear j X q;rcases J with rfl|rfl;·
   refine dq (Oe c) λp W h=>?_;subst W;clear c;obtain⟨n,D,h⟩:=cg h;clear h;cases bU D;by_cases h2:n<=1000000/\-1000000<=n;case neg=>exact(kK ((if_neg h2).symm.trans h)).elim
   cases(if_pos h2).symm.trans h;obtain⟨v,rfl,G,rfl⟩:=dt.jO z;refine call_range_1 (l _ _ 0 n _ G _ (VF.new ..) (.push _ _) rfl rfl ⟨by decide,by decide⟩ ⟨h2.2,h2.1⟩ (by refine zl (tx _) ?_;exact h2.1) ?_);refine zl (tx _) ?_;exact da λi _=>by exact zl (AN _) rfl
  ·refine lB (UH c) λp p' N h=>?_;subst N;clear c;obtain⟨n,D,h⟩:=cg h;obtain⟨m,O,h⟩:=cg h;clear h;clear h;cases bU D;cases bU O;by_cases h2:-1000000<=n/\m<=1000000/\m-n<=1000000/\n<=1000000/\-1000000<=m;case neg=>exact(kK ((if_neg h2).symm.trans h)).elim
   cases(if_pos h2).symm.trans h;refine qK h2 λa1 a2 a3 a4 Z=>?_;clear h2;obtain⟨v,u,rfl,⟨G,rfl⟩,L,rfl⟩:=dt.two z;exact call_range_2 (l _ _ n m G L _ (VF.new ..) (.push _ _) rfl rfl ⟨a1,a4⟩ ⟨Z,a2⟩ a3 rfl))) gA
 intro w;delta id at w;(try dsimp-zetaHave only[ff,fg,fi,fj,fm]at w);delta jJ nU at w;extract_lets+proofs+implicits+lift at w;refine(?F:gC _) _ w;exactλp _=>p
theorem K1{x:Str}{np pos:Pos}{e:Expr}(N:kF S x (.type "enumerate"))(X:NS e)(I:lJ S e f):xG S true (.Call (.Name x np) [e] [] pos) .A5 λK=>M.bind (f K) λv=>M.pure [v.2]:=by
 intro F o g Q E H O L W q;refine jk (N _ F o g _ _ _ H ?_);refine zl (X.jO _ _) ?_;refine callWith_of (P:=λ_=>True) (gP [e]) (λh _=>⟨.machine,.inr (.inl rfl),Looks.of_pure rfl⟩) (dW (spliced_cons (aY (H.tW (I F _ g H.self) rfl O (P:=λy s=>_) λz y g1 d _ u J=>spliced_nil ⟨trivial,?_⟩) (λ_ _ h=>h) W)));refine zE (L _ _ u.symm) λitems k=>?_;obtain⟨ys,l,h⟩:=f6 (show(iH z.2).map _=_ from k);obtain⟨Y,p⟩:=z;cases h9 l;subst h;obtain⟨a,vs,ep,rfl,w,G,U⟩:=J;have i:=eU g1.h;have j:g1.h.get? (g1.h.objs.size+1)=none:=Heap.get?_none_of_le (e9 _);have c:=d.bK.st.fz _ _ w;have B:∀{b},g1.h.get? b=none->a≠b:=λh e=>by replace c:=e▸c;replace c:=h▸c;cases c
 refine call_enumerate_list (cD c) λD A m T C=>?_;have V:=d.iu (s':={g1.s with heap:=D}) C rfl rfl;exact wpAny_pyIter_enum A (q _ _ _ ⟨g1.v,g1.t,{g1.s with heap:=D}⟩ u.symm k ⟨V,by refine zl (aj _) ?_;refine zl Ug ?_;exact U,.mk [_,_] _ (Ji.A5 d.ok.handled (B i) (XS _) (B j) w G) ⟨⟨.none,A⟩,m,cD (C _ _ c)⟩ λb r=>by
  have n:g1.h.get? b=none:=by
   rcases av.mp r with rfl|r;·exact j
   ·refine zl (ao.mp r) ?_;exact i
  exact⟨d.bK.dD.dO _ n,d.bK.st.gO n,d.bK.st.fM n⟩⟩)
end
inductive UI{α β:Type}(m:M α)(f:α->M β)(t:aH)(r:jb aH β):Prop|mk(a:α)(t1:aH)(h:m t=.ok a t1)(k:f a t1=r)
theorem Jm{c:Type}{a b:c}{t t':aH}(h:M.pure a t=.ok b t'):a=b:=by cases h;rfl
theorem lL{c β:Type}{m:M c}{f:c->M β}{t t':aH}{b:β}(h:M.bind m f t=.ok b t'):UI m f t (.ok b t'):=by unfold M.bind at h;cases q:m t with|ok a d=>replace h:=q▸h;exact⟨a,d,q,h⟩|kc e s=>replace h:=q▸h;cases h|aS=>replace h:=q▸h;cases h
theorem zH{b β:Type}{m:M b}{f:b->M β}{t:aH}{r:jb aH β}(e:M.bind (iM m) f t=r)(h:r≠.aS):UI m f t r:=by
 have n:=lx e h;unfold iM at n;cases q:m t with
 |ok a s=>
  have k:iM m t=.ok a s:=by unfold iM;rw[q]
  exact⟨a,s,q,(lu k).symm.trans e⟩
 |kc e s=>rw[q]at n;exact absurd rfl n
 |aS=>rw[q]at n;exact absurd rfl n
theorem Of{vs items:List PV}{t t':aH}{u:Unit}(h:xu vs items t=.ok u t'):t'=t/\kG vs items t:=by
 unfold xu at h;by_cases q:(vs.all λp=>(u9 p).isNone||(dictAt t p).any λa=>pC (a.map (·.1)) items)=true;·replace h:=if_pos q▸h;cases h;refine⟨rfl,λp b l e=>?_⟩;have r:=bj.mp q p b;subst e;obtain⟨a,h1,c⟩:=any_some (show(dictAt t (.ref l)).any _=true from r);refine dq (iZ h1) λ_ e h=>?_;cases e;exact⟨a,h,RK c⟩
 ·replace h:=if_neg q▸h;cases h
theorem uC{t:aH}{k:AZ}{vs items:List PV}(h:di t k vs=some items):kG vs items t:=λp b l e=>by
 subst e;cases k with
 |val=>refine dq (Oe h) λv a h=>?_;subst a;cases ao.mp b;obtain⟨f,h1,rfl⟩:=f6 (show(dictAt t (.ref l)).map _=_ from h);refine dq (iZ h1) λ_ e h=>?_;cases e;exact⟨f,h,rfl⟩
 |A5=>refine dq (Oe h) λv a h=>?_;subst a;cases ao.mp b;exact(kK h).elim
 |range=>refine dq (Oe h) λv a h=>?_;subst a;cases ao.mp b;exact(kK h).elim
 |ud=>
  refine lB (UH h) λv u c h=>?_;subst c;obtain⟨i,h1,h⟩:=cg h;obtain⟨j,d,h⟩:=cg h;rcases av.mp b with rfl|b;·exact(kK h1).elim
  ·cases ao.mp b;exact(kK d).elim
def dY(tg:List Nat)(c:R.Env->M Bool)(e:R.Env->M (Bool×PV))(d:R.Env)(vs items:List PV)(a:PV):M (Option PV):=M.bind (mw (eV tg a (xZ d))) λb=>M.bind (c b) λt=>M.bind (if t then M.bind (e b) λv=>M.pure (some v.2)else M.pure none) λr=>M.bind (xu vs items) λ_=>M.pure r
def YY(tg:List Nat)(k:AZ)(f:R.Env->M (List PV))(c:R.Env->M Bool)(d:R.Env->M (Bool×PV))(b:R.Env):M (Bool×PV):=M.bind (f b) λvs=>M.bind gr λa=>M.bind (mw (di a k vs)) λitems=>M.bind (iM (collect (dY tg c d b vs items) items)) λout=>M.pure (true,.list out)
theorem E1{f:PV->M (Option PV)}{x:PV}{r vs:List PV}{t t':aH}(h:collect f (x::r) t=.ok vs t'):∃v a b,f x t=.ok v a/\collect f r a=.ok b t'/\vs=v.toList++b:=by obtain⟨v,a,h1,h⟩:=lL h;obtain⟨b,d,c,h⟩:=lL h;cases h;refine⟨v,a,b,h1,c,?_⟩;clear h1 h;clear h;cases v<;>rfl
inductive Og(fe:R.Env->M (Bool×PV))(ρ:R.Env)(t t':aH):Bool->Option PV->Prop|no(e:t'=t):Og fe ρ t t' false none|fZ(r:Bool×PV)(e:fe ρ t=.ok r t'):Og fe ρ t t' true (some r.2)
theorem Oh{tg:List Nat}{l:R.Env->M Bool}{j:R.Env->M (Bool×PV)}{g:R.Env}{vs items:List PV}{x:PV}{t t':aH}{v:Option PV}(h:dY tg l j g vs items x t=.ok v t'):∃a b c,eV tg x (xZ g)=some a/\l a t=.ok b c/\kG vs items t'/\Og j a c t' b v:=by refine dq (gf h (λq=>by injection q)) λa h1 h=>?_;obtain⟨b,m,i,h⟩:=lL h;obtain⟨r,s,d,h⟩:=lL h;obtain⟨u,o,k,f⟩:=lL h;clear h;clear h;refine zA (Of k) λe n=>?_;subst e;clear k;cases f;refine⟨a,b,m,h1,i,n,?_⟩;clear i;cases b with|false=>cases d;exact .no rfl|true=>obtain⟨w,p,f,h⟩:=lL d;clear d;cases h;exact .fZ w f
inductive BP(S:Sc):List Expr->(R.Env->M Bool)->Prop|none:BP S [] λ_=>M.pure true|some{c:Expr}{f:R.Env->M (Bool×PV)}:YT S c f->BP S [c] λρ=>M.bind (f ρ) jn
structure qw(S:Sc)(F:Fr)(o:Or)(v:Vw)(Si:Nat->Heap->Prop)(wr:List Addr)(D:Addr)(i:Nat)(outs:List PV)(g:Cf):Prop extends Here S F o g where
 it:Si i g.h
 acc:∃vs ep,g.h.get? D=some (gc vs ep)/\dt g.v outs vs
 dz:g.v.z D=none/\¬Ad g.v.m D
 wz:∀b∈wr,g.v.z b=none/\¬Ad g.v.m b
 le:v.Le g.v
section
variable{S:Sc}{F:Fr}{o:Or}{g:Cf}{t:Bool}{v:Vw}{I D:Addr}{wr:List Addr}{items:List PV}{P:aH->Prop}{Si:Nat->Heap->Prop}{i:Nat}{outs:List PV}
theorem Hs{d:List Expr}{k:R.Env->M Bool}(h:BP S d k)(H:Here S F o g){b:Bool}{t':aH}(e:k F.ρ g.t=.ok b t'){Q:Bool->ak->Prop}(q:∀g',Here S F o g'->g'.t=t'->Q b g'.s):aJ S.C.M F.A (forIn d true λc r=>if r=true then do let ok<-tw c F.env (eval c F.env);pure (gK ok)else pure (gK r)) Q (λ_ _=>False) g.s:=by cases h with|none=>cases e;exact wpAny_tests_nil (q g H rfl)|some h=>refine wpAny_tests_one (aY (h F _ g H.self _ e λq=>by injection q) (λ_ _ j=>j.el λa g' l f x y=>?_) λ_ _ j=>j.el λ_ _ _ _ f _ _ _=>by injection f);clear e;cases f;cases y;exact l▸q g' (H.step x) rfl
theorem qw.step(T:qw S F o v Si wr D i outs g)(d:Ji S.C F.A t v I wr items P Si){g':Cf}(x:Rn S.C F.k (.at F.k g) g')(j:P g'.t):qw S F o v Si wr D i outs g':=by
 obtain⟨vs,ep,c,f⟩:=T.acc;refine⟨T.toHere.step x,d.frame i _ g g' T.it T.bK.st x.st T.le (T.le.trans x.dD.le) (λb a l e=>?_) j,⟨vs,ep,x.dD.keep _ _ c T.dz.2 (T.bK.st.dP c k7) id,f.eX x.dD.le⟩,⟨x.dD.za T.dz.1 c id,x.dD.RN T.dz.2 c⟩,λb a=>?_,T.le.trans x.dD.le⟩;·refine lB (d.bK i _ T.it b a) λh fs k1 k2=>?_;exact x.dD.keep _ _ e (T.wz b a).2 (T.bK.st.dP k1 λ_ _ q=>by replace q:=k2▸q;cases q) id
 ·refine lB (d.bK i _ T.it b a) λh fs k1 k2=>?_;exact⟨x.dD.za (T.wz b a).1 k1 id,x.dD.RN (T.wz b a).2 k1⟩
theorem qw.env{b:R.Env}{a:Nat->Addr}(T:qw S {F with ρ:=b,ω:=a} o v Si wr D i outs g)(c:∀j,F.ρ j=b j\/F.ρ j=.bB):qw S {F with ω:=a} o v Si wr D i outs g:=⟨⟨T.toHr,T.en.Oa c⟩,T.it,T.acc,T.dz,T.wz,T.le⟩
theorem qw.wrI(T:qw S F o v Si wr D i outs g)(k:Ji S.C F.A t v I wr items P Si)(c:∀b∈wr,o.g.h.get? b=none){d:Heap}(f:∀b o,b∉wr->g.h.get? b=some o->d.get? b=some o):Wr o g d (·∈wr)where ok:=λb a=>⟨.inr (c b a),T.wz b a⟩;keep:=λb l n e=>f b l n e;dO:=λb a _=>c b a;was:=λb a=>by obtain⟨j,fs,k1,k2⟩:=k.bK i _ T.it b a;exact⟨j,k1,(λ_ _ q=>by rw[k2]at q;cases q),λ_ q=>by rw[k2]at q;cases q⟩
end
abbrev Sc.comp(S:Sc)(a:dM)(nm':Nm):Sc:={S with sc:=Jl a S.sc,nm:=nm'}
structure Cp where
 Rb:Expr
 qv:Expr
 K2:Expr
 gp:List Expr
 scope:dM
 tg:List Nat
 k:AZ
 t:Bool
 nm:Nm
 f:R.Env->M (List PV)
 fc:R.Env->M Bool
 fe:R.Env->M (Bool×PV)
abbrev Cp.m(c:Cp)(a:R.Env):M (Bool×PV):=YY c.tg c.k c.f c.fc c.fe a
noncomputable abbrev Cp.e(c:Cp)(pos:Pos):Expr:=.ListComp c.Rb [⟨c.qv,c.K2,c.gp,0⟩] c.scope pos
structure BQ(S:Sc)(c:Cp):Prop where
 ok:Dh c.scope S.sc S.nm c.nm c.tg
 tg:zz (Jl c.scope S.sc) c.nm c.t c.qv c.tg
 sN:∀x,Wa c.qv x->(Jl c.scope S.sc).names.lookup x=some .local
 it:xG S c.t c.K2 c.k c.f
 set:∀env x,AW c.K2 env x=pure x
 cond:BP (S.comp c.scope c.nm) c.gp c.fc
 Rb:lJ (S.comp c.scope c.nm) c.Rb c.fe
structure Lp where
 o:Or
 v:Vw
 Si:Nat->Heap->Prop
 wr:List Addr
 I:Addr
 D:Addr
 L:Addr
 vs:List PV
 items:List PV
structure Wc(S:Sc)(c:Cp)(F:Fr)(l:Lp):Prop where
 it:Ji S.C F.A c.t l.v l.I l.wr l.items (kG l.vs l.items) l.Si
 wr:∀b∈l.wr,l.o.g.h.get? b=none
 L:l.o.g.h.get? l.L=none
 D:l.o.g.h.get? l.D=none
 nV:l.items.length<=eu
abbrev E2(S:Sc)(c:Cp)(F:Fr)(l:Lp)(b:Nat->Addr)(i:Nat)(a:List PV)(g:Cf):Prop:=qw (S.comp c.scope c.nm) (F.comp c.scope l.L (jX c.tg F.ρ) b) l.o l.v l.Si l.wr l.D i a g
section
variable{S:Sc}{c:Cp}{F:Fr}{l:Lp}{ω:Nat->Addr}{i:Nat}{outs:List PV}{g:Cf}
theorem qw.lw{S:Sc}{F:Fr}{o:Or}{g:Cf}{v:Vw}{t:Bool}{I D:Addr}{a:List Addr}{items:List PV}{P:aH->Prop}{b:Nat->Heap->Prop}(T:qw S F o v b a D i outs g)(f:Ji S.C F.A t v I a items P b):D∉a/\F.env.locals∉a:=by
 refine⟨λh=>?_,λh=>?_⟩<;>refine lB (f.bK _ _ T.it _ h) λj fs k1 k2=>?_;·obtain⟨_,_,e,_⟩:=T.acc;replace e:=k1▸e;clear k1;cases e;cases k2
 ·obtain⟨_,_,_,_,e,d,_⟩:=T.en.sN.ns;replace e:=k1▸e;cases e;replace d:=k2▸d;cases d
theorem qw.dl{S:Sc}{F:Fr}{o:Or}{g:Cf}{v:Vw}{D:Addr}{f:List Addr}{b:Nat->Heap->Prop}(T:qw S F o v b f D i outs g):D≠F.env.locals:=λh=>by obtain⟨_,_,e,_⟩:=T.acc;obtain⟨_,_,_,_,a,d,_⟩:=T.en.sN.ns;replace a:=(AQ h)▸a;replace a:=e▸a;cases a;cases d
theorem qw.qn{S:Sc}{F:Fr}{o:Or}{v:Vw}{t:Bool}{I D:Addr}{f:List Addr}{items:List PV}{P:aH->Prop}{j:Nat->Heap->Prop}(T:qw S F o v j f D i outs g)(w:Ji S.C F.A t v I f items P j)(B:P g.t)(u:o.g.h.get? D=none)(G:outs.length<eu)(a:∀i xs,F.ρ i≠.cj xs){p:PV}{y:ai}(z:VR g.v p y){Q E:ai->ak->Prop}(q:∀y s',qw S F o v j f D i (outs++[p]) ⟨g.v,g.t,s'⟩->Q y s'):aJ S.C.M F.A (call (.builtin "list.append") [.ref D,y]) Q E g.s:=by obtain⟨vs,ep,m,k⟩:=T.acc;refine Kb (items:=vs.toArray) ⟨ep,m⟩ (λK H x=>?_) (by rw[aN,k.length];exact aa (bT G) mh);obtain⟨J,d⟩:=H;rw[AU]at d;have r:=T.toHere.wr (W:=λb=>b=D) (s':={g.s with heap:=K}) ⟨λb e=>e▸⟨.inr u,T.dz⟩,λb N n e=>(x.2 b n).trans e,λb e _=>e▸u,λb e=>e▸⟨_,m,k7,λ_ q=>by injection q⟩⟩ (λi xs h=>absurd h (a i xs)) rfl rfl;exact q _ _ ⟨r,w.frame _ _ g _ T.it T.bK.st r.bK.st T.le T.le (λb L N e=>(x.2 b λq=>(T.lw w).1 (q▸L)).trans e) B,⟨_,J,d,k.append (dt.cons z dt.nil)⟩,T.dz,T.wz,T.le⟩
theorem K3(W:BQ S c)(O:Wc S c F l)(T:E2 S c F l ω i outs g)(hs:kG l.vs l.items g.t){x:PV}{w:Option PV}{V:aH}(hx:l.items[i]?=some x)(U:dY c.tg c.fc c.fe F.ρ l.vs l.items x g.t=.ok w V)(hl:outs.length<eu){N Q:ak->Prop}(q:∀ω' g',E2 S c F l ω' (i+1) (outs++w.toList) g'->g'.t=V->kG l.vs l.items V->Q g'.s):aJ S.C.M F.A (Ue (.ref l.I)) (λr f=>match r with|none=>N f|some v=>aJ S.C.M F.A (kM c.qv (.ref l.I) v) (λ_ s₂=>aJ S.C.M F.A (gZ c.qv (F.comp c.scope l.L (jX c.tg F.ρ) ω).env v) (λ_ R=>aJ S.C.M F.A (forIn c.gp true λa r=>if r=true then do let J<-tw a (F.comp c.scope l.L (jX c.tg F.ρ) ω).env (eval a (F.comp c.scope l.L (jX c.tg F.ρ) ω).env);pure (gK J)else pure (gK r)) (λJ u=>if J=true then aJ S.C.M F.A (eval c.Rb (F.comp c.scope l.L (jX c.tg F.ρ) ω).env) (λx B=>aJ S.C.M F.A (call (.builtin "list.append") [.ref l.D,x]) (λ_ P=>Q P) (λ_ _=>False) B) (λ_ _=>False) u else Q u) (λ_ _=>False) R) (λ_ _=>False) s₂) (λ_ _=>False) f) (λ_ _=>False) g.s:=by
 refine(?H:gB (by
  refine uV (Oh U) λd b t2 h1 h2 m hc=>?_;have n:eV c.tg x (jX c.tg F.ρ)=some d:=Dg (λj hj=>(wZ hj).symm) h1;have wk:∀j,jX c.tg F.ρ j=d j\/jX c.tg F.ρ j=.bB:=λj=>by
   by_cases q:j∈c.tg;·exact .inr (zD q)
   ·exact .inl (rO n j q).symm
  have ow:∀i xs,d i≠.cj xs:=λj xs h=>by
   by_cases q:j∈c.tg;·exact zG n j q xs h
   ·replace h:=rO n j q▸h;exact pP h
  refine aY (O.it.item c.qv i g.s x _ _ W.tg.UG (λa o z=>T.bK.st.fz a o (T.le.1 a o z)) hx (W.tg.bR h1) T.it λy h1 tk hit hS hk=>?_) (λr f h=>by revert h;intro G;refine dq G λy e h=>?_;clear G;subst e;exact h) (λ_ _ h=>h);have Ha:=T.toHere.wr (s':={g.s with heap:=h1,toks:=tk}) (T.wrI O.it O.wr hk) (λi xs h=>absurd h pP) rfl rfl;refine zB (S:=S.comp c.scope c.nm) W.tg Ha (W:=λb=>b=l.L) (λx b hx st=>?_) (hit.eX T.le) n λs2 k K _ Y=>?_;·
   rcases st with⟨_,rfl⟩|⟨q,_⟩;·exact⟨rfl,.inr O.L⟩
   ·replace q:=W.sN x hx▸q;cases q
  have T2:qw (S.comp c.scope c.nm) (F.comp c.scope l.L d k) l.o l.v l.Si l.wr l.D (i+1) outs ⟨g.v,g.t,s2⟩:=by obtain⟨vs,ep,E,hr⟩:=T.acc;exact⟨Y,O.it.frame _ _ ⟨g.v,g.t,{g.s with heap:=h1,toks:=tk}⟩ _ hS Ha.bK.st Y.bK.st T.le T.le (λb U ob e=>K b ob (λq=>(T.lw O.it).2 (q▸U)) e) hs,⟨vs,ep,K _ _ T.dl (hk _ _ (T.lw O.it).1 E),hr⟩,T.dz,T.wz,T.le⟩
  refine Hs W.cond Y.self h2 λZ H3 e3=>?_;clear U h2;cases hc with
  |no e=>subst e;refine zl (if_neg aK) ?_;exact q k Z (by refine zl (yx _) ?_;refine zl (aT _) ?_;exact qw.env (F:=F.comp c.scope l.L (jX c.tg F.ρ) k) (T2.step O.it H3.bK (e3▸m)) wk) e3 m
  |fZ r e=>
   refine zl (if_pos rfl) ?_;refine aY (W.Rb _ _ Z H3 _ (show c.fe d Z.t=.ok r V from e3▸e) λq=>by injection q) (λxv s4 X=>X.el λa g4 es E x4 y4=>?_) λ_ _ X=>X.el λ_ _ _ _ E _ _ _=>by injection E
   clear e;subst es;cases E;refine pg (R2 x4 (λ_ h=>h) y4) λv5 le5 x5 hy=>?_;exact(T2.step O.it x5 m).qn O.it m O.D hl ow hy λ_ s' T6=>q k _ (qw.env (F:=F.comp c.scope l.L (jX c.tg F.ρ) k) T6 wk) rfl m)) gA
 intro w;(try dsimp-zetaHave only at w);refine(?F:gC _) _ w;exactλp _=>p
structure adn(S:Sc)(c:Cp)(F:Fr)(l:Lp)(out:List PV)(tF:aH)(n i:Nat)(ω:Nat->Addr)(outs rest:List PV)(g:Cf):Prop where
 hn:n+i=l.items.length+1
 hi:i<=l.items.length
 ho:outs.length<=i
 hs:kG l.vs l.items g.t
 hc:collect (dY c.tg c.fc c.fe F.ρ l.vs l.items) (l.items.drop i) g.t=.ok rest tF
 he:out=outs++rest
 hT:E2 S c F l ω i outs g
theorem Oi(W:BQ S c)(O:Wc S c F l){out:List PV}{z:aH}(T:E2 S c F l ω 0 [] g)(E:kG l.vs l.items g.t)(a:collect (dY c.tg c.fc c.fe F.ρ l.vs l.items) l.items g.t=.ok out z){pos:Pos}{G:Ui->ak->Prop}(q:∀d g',Here (S.comp c.scope c.nm) (F.comp c.scope l.L (jX c.tg F.ρ) d) l.o g'->VU l.o.g.h (.list out) (.ref l.D) g'->g'.t=z->G (.ok .next) g'.s):Ed S.C.M F.A (.compLoop (c.e pos) 0 (.ref l.I) (.ref l.D) (F.comp c.scope l.L (jX c.tg F.ρ) ω).env) G g.s:=by
 refine(?H:gB (by
  refine KZ (λn s'=>∃i ω outs rest g',g'.s=s'/\adn S c F l out z n i ω outs rest g') (λn s' h=>?_) (l.items.length+1) ⟨0,ω,[],out,g,rfl,rfl,cy _,bf _,E,a,rfl,T⟩;clear a;revert h;intro f;refine CH f λi d outs rest g' e h=>?_;clear f;subst e;obtain⟨r,U,m,E,a,k,T⟩:=h;cases j:l.items[i]? with
  |none=>clear r;cases gH U (j9.mp j);replace a:=XT▸a;cases a;rw[aT]at k;subst k;refine O.it.done g'.s _ _ T.it λN J K=>?_;obtain⟨vs,ep,k1,k2⟩:=T.acc;exact q d ⟨g'.v,g'.t,{g'.s with heap:=N,toks:=J}⟩ (T.toHere.wr (s':={g'.s with heap:=N,toks:=J}) (T.wrI O.it O.wr K) (λi xs h=>absurd h pP) rfl rfl) (.mk out _ vs ep rfl rfl (K _ _ (T.lw O.it).1 k1) k2 (aa m O.nV) O.D T.dz.1 T.dz.2) rfl
  |some x=>
   have b:i<l.items.length:=(aU.mp j).1;replace a:=j8 b▸a;replace a:=(aU.mp j).2▸a;refine rq (E1 a) λw Y X h1 R u=>?_;subst u;refine K3 W O T E j h1 (aA m (aw b O.nV)) λy V P Q B=>?_;clear a h1;subst Q;refine⟨n-1,?_,i+1,y,_,X,V,rfl,?_,b,?_,B,R,?_,P⟩;·exact abg r b
   ·exact abh r b
   ·refine zl ah ?_;refine aW m ?_;clear k P;cases w;·exact cy _
    ·exact bf _
   ·refine zl k ?_;exact zl (aG _ _ _) rfl)) gA
 intro w;(try dsimp-zetaHave only[ff,fg,fi,fj,fm,lY]at w);delta jJ nU at w;extract_lets+proofs+implicits+lift at w;refine(?F:gC _) _ w;exactλp _=>p
theorem BR(W:BQ S c){o:Or}(H:Here S F o g){r:jb aH (Bool×PV)}(e:c.m F.ρ g.t=r)(hr:r≠.aS){pos N:Pos}{use:Option (ai->Sem Unit)}{Q E:ai->ak->Prop}(hE:∀y s,Ex S.C F.k o pI r y s->E y s)(q:∀out g' D L,r=.ok (true,.list out) g'.t->Rn S.C F.k (.at F.k g) g'->VU g.h (.list out) (.ref D) g'->NM g' L->g.h.get? L=none->D≠L->compPost S.C.M F.A E use Q (.ref D) L (.ok .next) g'.s):aJ S.C.M F.A (comprehension (c.e pos) c.scope F.env N (newList []) false (eval c.K2 F.env) use) Q E g.s:=by
 refine wpAny_comprehension_free rfl (W.set F.env) (Hp W.ok H.en) W.ok.kind W.ok.names ?_;have P:∀{vs t'},c.f F.ρ g.t=.ok vs t'->∃items,di t' c.k vs=some items/\M.bind (iM (collect (dY c.tg c.fc c.fe F.ρ vs items) items)) (λout=>M.pure (true,.list out)) t'=r:=λ{vs t'}z=>gf (o:=di t' c.k vs) (t:=t') ((lu z).symm.trans e) hr;refine W.it F (.at F.k g) g _ _ H.self (lx e hr) (λvs t' z=>(P z).imp λ_ h=>h.1) (λy s hq=>hq.el λa p g' es z x ey y=>hE _ _ ⟨a,p,g',es,e.symm.trans (pJ z),⟨x.st,H.toHr.dD x.dD⟩,ey,y.pH (λa e=>H.bK.dD.dO a e) λ_ h=>h⟩) λvs items I g1 z B R=>?_;refine dq (P z) λX hi e1=>?_;replace hi:=B▸hi;cases hi;obtain⟨out,tF,hc,e2⟩:=zH e1 hr;obtain⟨wr,Si,it,bK,K⟩:=R.it;refine VG (wpAny_newFunctionEnv W.ok.cell (λ_ h=>(bJ h).elim) (λj n d=>?_) W.ok.kind);dsimp only at n d⊢;generalize hH3:g1.s.heap.push {cls:=.type "list",dict:=none,data:=.seq ([]:List ai).toArray}=Y at n d⊢;have U:Y.objs.size=g1.h.objs.size+1:=by refine zr hH3 ?_;exact zl (Heap.size_push _ _) rfl
 have fD:g1.h.get? g1.h.objs.size=none:=eU _;have J:g1.h.get? Y.objs.size=none:=Heap.get?_none_of_le (by refine zl U ?_;exact e9 _);have V:g1.h.objs.size≠Y.objs.size:=by refine zl U ?_;exact cq (cB _)
 have w:Kp g1.h j:=λb o e=>d.extBut b o (λq=>by replace e:=q▸e;replace e:=J▸e;cases e) (Heap.get?_push_of_some _ (hH3▸Heap.get?_push_of_some _ e));have hDo:j.get? g1.h.objs.size=some (gc [] 0):=d.extBut _ _ V (Heap.get?_push_of_some _ (by refine zr hH3 ?_;exact Heap.get?_push_size _ rfl));generalize Y.objs.size=L at*;generalize g1.h.objs.size=D at*;have Z:=R.toHere.iu (s':={g1.s with heap:=j,toks:=g1.s.toks+([]:List (Str×ai)).length}) w rfl rfl;have hL:NM ⟨g1.v,g1.t,{g1.s with heap:=j,toks:=g1.s.toks+([]:List (Str×ai)).length}⟩ L:=⟨R.bK.st.fM J,R.bK.st.gO J,_,n⟩;let l:Lp:=⟨.at F.k g,g1.v,Si,wr,I,D,L,vs,items⟩;have O:Wc S c F l:=⟨it,λb hb=>(K b hb).1,R.bK.dD.dO _ J,R.bK.dD.dO _ fD,R.nV⟩;have G:Si 0 j:=it.frame 0 F.k g1 _ bK R.bK.st Z.bK.st (.refl _) (.refl _) (λb _ ob e=>w b ob e) (uC B);have T:E2 S c F l F.ω 0 [] ⟨g1.v,g1.t,{g1.s with heap:=j,toks:=g1.s.toks+([]:List (Str×ai)).length}⟩:=⟨⟨Z.toHr,Oc W.ok Z.en hL⟩,G,⟨[],0,hDo,dt.nil⟩,⟨R.bK.st.gO fD,R.bK.st.fM fD⟩,λb hb=>(K b hb).2,.refl _⟩;have u:Ed S.C.M F.A (.compLoop (c.e pos) 0 (.ref I) (.ref D) (F.comp c.scope L (jX c.tg F.ρ) F.ω).env) (compPost S.C.M F.A E use Q (.ref D) L) {g1.s with heap:=j,toks:=g1.s.toks+([]:List (Str×ai)).length}:=Oi (l:=l) W O T (uC B) hc λω' g' H' hN et=>q out g' D L (by refine zl et ?_;exact e2.symm) H'.bK hN H'.en.sN (R.bK.dD.dO _ J) V;exact codeAny_compStart_list u (it.self 0 _ _ _ G u)
theorem Oj(W:BQ S c){pos:Pos}:nX S (c.e pos) c.m:=by refine cH (λF o g H r e w=>?_) λ_ _=>rfl;rw[eval_ListComp];refine BR (use:=none) W H e w (λ_ _ h=>h) λout g' D L E x J p d q=>?_;obtain⟨m,j⟩:=p.ns;refine⟨m,j,λf u=>?_⟩;have y:=(H.self.toHr.step x).touch (W:=λb=>b=L) (s':={g'.s with heap:=f}) (λb e=>e▸⟨.inr d,p.z,p.m⟩) (λb o n e=>(u.2 b n).trans e) (λb e _=>e▸d) (λb k e=>absurd (e▸k) (H.bK.st.lH d)) rfl rfl;obtain⟨xs,a,vs,ep,A,C,B,I,G,K,hz,j⟩:=J;cases A;cases C;exact⟨_,⟨g'.v,g'.t,_⟩,rfl,E,⟨y.bK.st,H.toHr.dD y.bK.dD⟩,resR.pH (λa e=>H.bK.dD.dO a e) (show oL g.h (true,.list out) _ _ from .mk out _ vs ep rfl rfl ((u.2 _ q).trans B) I G K hz j)⟩
end
def w0(F:Fr)(a:Addr):Prop:=(a=F.env.locals\/∃y,F.env.cells.lookup y=some a)\/∃i xs,F.ρ i=.cj xs/\F.ω i=a
structure Wk(S:Sc)(F:Fr)(o:Or)(g:Cf):Prop extends Here S F o g where
 frame:F.env.frame=some F.env.locals
 BS:∃outer,F.k=F.env::outer/\o.F=frames outer
 w:∀a,w0 F a->o.W a\/o.g.h.get? a=none
def HR(N:Addr->Prop)(x:Bool×PV)(y:ai)(g:Cf):Prop:=match x.1 with|false=>VR g.v x.2 y|true=>yc N x.2 y g
abbrev Or.new(o:Or)(a:Addr):Prop:=o.W a\/o.g.h.get? a=none
theorem yc.imp{N N':Addr->Prop}{p:PV}{y:ai}{g:Cf}(h:∀a,N a->N' a)(r:yc N p y g):yc N' p y g:=by obtain⟨xs,a,vs,ep,f,b,c,j,i,e,hz,d⟩:=r;exact⟨xs,a,vs,ep,f,b,c,j,i,h _ e,hz,d⟩
theorem HR.of{N:Addr->Prop}{b:Heap}{x:Bool×PV}{y:ai}{g:Cf}(r:oL b x y g)(h:∀a,b.get? a=none->N a):HR N x y g:=by obtain⟨f,p⟩:=x;cases f with|false=>exact r|true=>exact yc.imp h r
theorem HR.imp{N N':Addr->Prop}{x:Bool×PV}{y:ai}{g:Cf}(r:HR N x y g)(h:∀a,N a->N' a):HR N' x y g:=by obtain⟨f,p⟩:=x;cases f with|false=>exact r|true=>exact yc.imp h r
def FlR(o:Or)(a:Fl)(f:Flow)(g:Cf):Prop:=match a with|.next=>f=.next|.ret v=>∃x,f=.ret x/\HR o.new v x g
inductive Ea(S:Sc)(F:Fr)(o:Or)(r:jb Sx Fl)(f:Flow)(s:ak):Prop|mk(fl:Fl)(ρ:R.Env)(ω:Nat->Addr)(g:Cf)(e:g.s=s)(ho:r=.ok fl ⟨ρ,g.t⟩)(wk:Wk S {F with ρ:=ρ,ω:=ω} o g)(fr:FlR o fl f g)
abbrev flL(F:Fr)(x:ai):Prop:=x=.none\/x=n6 F.env.locals
abbrev uD(S:Sc)(F:Fr)(o:Or){a:Type}(r:jb Sx a):ai->ak->Prop:=Ex S.C F.k o (flL F) r
def oR(S:Sc)(a:aI->Sem Flow)(m:T Fl):Prop:=∀F o g r,Wk S F o g->m ⟨F.ρ,g.t⟩=r->r≠.aS->aJ S.C.M F.A (a F.env) (Ea S F o r) (uD S F o r) g.s
section
variable{α β γ:Type}{m:T α}{f:α->T β}{x x':Sx}{a:α}{r:jb Sx β}{n:R.Env->M α}{ρ:R.Env}{t t':aH}{p:PV}
theorem rP(h:m x=.ok a x'):T.bind m f x=f a x':=by unfold T.bind;exact zl h rfl
theorem oU(h:m x=.kc p t):T.bind m f x=.kc p t:=by unfold T.bind;rw[h]
theorem ox(e:T.bind m f x=r)(h:r≠.aS):m x≠.aS:=λq=>h (by refine zr e ?_;unfold T.bind;exact zl q rfl)
theorem zI(h:n ρ t=.ok a t'):T.ex n ⟨ρ,t⟩=.ok a ⟨ρ,t'⟩:=by unfold T.ex;dsimp only;exact zl h rfl
theorem w5(h:n ρ t=.kc p t'):T.ex n ⟨ρ,t⟩=.kc p t':=by unfold T.ex;dsimp only;exact zl h rfl
theorem zJ(h:T.ex n ⟨ρ,t⟩≠.aS):n ρ t≠.aS:=λq=>h (by unfold T.ex;dsimp only;exact zl q rfl)
theorem Di{k:R.Env->Option R.Env}{f:Unit->T β}(e:T.bind (T.env k) f ⟨ρ,t⟩=r)(h:r≠.aS):∃b,k ρ=some b/\f () ⟨b,t⟩=r:=by unfold T.bind T.env at e;dsimp only at e;cases q:k ρ with|none=>rw[q]at e;exact absurd e.symm h|some b=>rw[q]at e;exact⟨b,rfl,e⟩
end
section
variable{S:Sc}{F:Fr}{o:Or}{g g':Cf}{α β γ:Type}{Rl:Kt α β}{t:Sem β}{m:R.Env->M α}{f:α->T γ}{r:jb Sx γ}
theorem Wk.step(x:Wk S F o g)(y:Rn S.C F.k (.at F.k g) g'):Wk S F o g':=⟨x.toHere.step y,x.frame,x.BS,x.w⟩
theorem Here.ex{d q:Type}(x:Here S F o g){r:jb d α}{r':jb q β}{y:ai}{s:ak}(h:Ex S.C F.k (.at F.k g) pI r y s)(i:∀b t,r=.kc b t->r'=.kc b t):Ex S.C F.k o (flL F) r' y s:=by obtain⟨a,p,g',n,e,c,j,l⟩:=h;exact⟨a,p,g',n,i _ _ e,⟨c.st,x.toHr.dD c.dD⟩,j,l.pH (λa e=>x.bK.dD.dO a e) λ_ h=>.inl h⟩
theorem Wk.go(x:Wk S F o g)(H:Sm S F (.at F.k g) Rl t (m F.ρ) g)(e:T.bind (T.ex m) f ⟨F.ρ,g.t⟩=r)(i:r≠.aS){P:β->ak->Prop}(q:∀a b g',Wk S F o g'->Rn S.C F.k (.at F.k g) g'->f a ⟨F.ρ,g'.t⟩=r->Rl.r g.h a b g'->P b g'.s):aJ S.C.M F.A t P (uD S F o r) g.s:=aY (H _ rfl (zJ (ox e i))) (λ_ _ l=>l.el λa g' j c y d=>j▸q a _ g' (x.step y) y ((rP (zI c)).symm.trans e) d) λ_ _ h=>x.ex h λ_ _ c=>e.symm.trans (oU (w5 c))
theorem Wk.tW{t:Sem ai}{m:R.Env->M (Bool×PV)}{f:(Bool×PV)->T γ}(x:Wk S F o g)(H:Sm S F (.at F.k g) resR t (m F.ρ) g)(e:T.bind (T.ex m) f ⟨F.ρ,g.t⟩=r)(i:r≠.aS){P:ai->ak->Prop}(q:∀a y g',Wk S F o g'->Rn S.C F.k (.at F.k g) g'->f a ⟨F.ρ,g'.t⟩=r->VR g'.v a.2 y->P y g'.s):aJ S.C.M F.A t P (uD S F o r) g.s:=aY (H _ rfl (zJ (ox e i))) (λ_ _ j=>j.el λa g' l b y c=>by refine pg (R2 y (λ_ h=>h) c) λv p d n=>?_;exact l▸q a _ ⟨v,g'.t,g'.s⟩ (x.step d) d ((rP (zI b)).symm.trans e) n) λ_ _ h=>x.ex h λ_ _ b=>e.symm.trans (oU (w5 b))
theorem Wk.next{r:jb Sx Fl}(x:Wk S F o g)(e:.ok .next ⟨F.ρ,g.t⟩=r):Ea S F o r .next g.s:=⟨_,F.ρ,F.ω,g,rfl,e.symm,x,rfl⟩
noncomputable abbrev Or.re(o:Or)(W:Addr->Prop)(g:Cf):Or:=⟨o.F,W,g⟩
variable{W:Addr->Prop}
theorem Wk.re(x:Wk S F o g)(h1:∀a,w0 F a->W a)(j:∀a,W a->o.W a\/o.g.h.get? a=none):Wk S F (o.re W g) g where
 ok:=x.ok
 bK:=⟨x.bK.st,.refl _ _ _⟩
 sub:=λa h=>by
  obtain⟨c,d,i⟩:=x.BS;replace h:=d▸h;refine dq (y9 h) λenv k1 k2=>?_;clear h;rcases av.mp k1 with rfl|k1;·replace k2:=x.frame▸k2;cases k2;exact .inr (.inl (h1 _ (.inl (.inl rfl))))
  ·exact .inl (by show a∈o.F;refine zl i ?_;exact eP.mpr ⟨env,k1,k2⟩)
 A1:=x.A1
 al:=λa h=>x.bK.st.oq (x.A1 a h)
 dj:=λa h q=>(j a q).elim (x.dj a h) λq=>by refine zE (x.al a h) λb e=>?_;replace q:=e▸q;cases q
 en:=x.en
 frame:=x.frame
 BS:=x.BS
 w:=λa h=>.inl (h1 a h)
theorem Hr.join{C:Cx}{d:Nat}{A:b9}{k:List aI}(x:Hr C d A k o g)(b:∀a,W a->o.W a\/o.g.h.get? a=none)(y:BA (o.re W g) g'):BA o g':=x.bK.dD.trans y (λa h=>h.elim .inl λh=>.inr (b a h)) b λ_ h=>h
theorem Wk.join{c:R.Env}{b:Nat->Addr}(x:Wk S F o g)(d:∀a,W a->o.W a\/o.g.h.get? a=none)(y:Wk S {F with ρ:=c,ω:=b} (o.re W g) g'):Wk S {F with ρ:=c,ω:=b} o g':=⟨⟨⟨y.ok,⟨y.bK.st,x.toHr.join d y.bK.dD⟩,x.sub,x.A1,x.al,x.dj⟩,y.en⟩,y.frame,x.BS,λa h=>(y.w a h).elim (d a) λe=>.inr (x.bK.dD.dO a e)⟩
theorem Ea.join{r:jb Sx Fl}(x:Wk S F o g)(i:∀a,W a->o.W a\/o.g.h.get? a=none){f:Flow}{s:ak}(h:Ea S F (o.re W g) r f s):Ea S F o r f s:=by obtain⟨d,l,n,g',p,c,j,b⟩:=h;refine⟨d,l,n,g',p,c,x.join i j,?_⟩;clear c;cases d with|next=>exact b|ret v=>refine dq b λy e k=>?_;clear b;exact⟨y,e,k.imp λa h=>h.elim (i a) λh=>.inr (x.bK.dD.dO a h)⟩
theorem uD.join(x:Wk S F o g)(j:∀a,W a->o.W a\/o.g.h.get? a=none){y:ai}{s:ak}(h:uD S F (o.re W g) r y s):uD S F o r y s:=by obtain⟨a,p,g',d,c,b,i,k⟩:=h;exact⟨a,p,g',d,c,⟨b.st,x.toHr.join j b.dD⟩,i,k.pH (λa e=>x.bK.dD.dO a e) λ_ h=>h⟩
end
section
variable{sc:dM}{nm:Nm}{S:Sc}{F:Fr}{o:Or}{g:Cf}{i:Nat}{s':ak}
theorem kE.xX(f:kE sc nm F g){sl:Slot}(h:∀x,nm.lookup x=some i->vE g F.env x (F.ω i) sl)(b:∀xs,sl=.cj xs->(∃y,nm.lookup y=some i)/\∀j ys,j≠i->F.ρ j=.cj ys->F.ω j≠F.ω i):kE sc nm {F with ρ:=jd F.ρ i sl} g:={f with
 slot:=λx j e=>by
  show vE g F.env x (F.ω j) (jd F.ρ i sl j);by_cases q:j=i;·clear b;subst q;rw[fH];exact h x e
  ·rw[cJ q];exact f.slot x j e
 apart:=λj k xs ys h1 l c=>by
  have a:jd F.ρ i sl j=.cj xs:=h1;have d:jd F.ρ i sl k=.cj ys:=l;clear h1 l;by_cases q:j=i;·clear h;subst q;rw[fH]at a;rw[cJ (dB c)]at d;exactλe=>(b xs a).2 k ys (dB c) d e.symm
  ·rw[cJ q]at a;by_cases q':k=i;·clear h;subst q';rw[fH]at d;exact(b ys d).2 j xs q a
   ·rw[cJ q']at d;exact f.apart j k xs ys a d c
 rJ:=λj xs h1=>by
  have a:jd F.ρ i sl j=.cj xs:=h1;by_cases q:j=i;·clear h h1;subst q;rw[fH]at a;exact(b xs a).1
  ·rw[cJ q]at a;exact f.rJ j xs a}
theorem kE.drop(a:kE sc nm F g):kE sc nm {F with ρ:=jd F.ρ i .bB} g:=a.Oa λj=>by
 by_cases q:j=i;·subst q;exact .inr fH
 ·exact .inl (cJ q)
theorem w6(a:kE sc nm F g){xs:List PV}(h:F.ρ i=.cj xs):∃y,nm.lookup y=some i/\V6 g F.env y (F.ω i) xs:=by obtain⟨y,b⟩:=a.rJ i xs h;have s:=a.slot y i b;rw[h]at s;exact⟨y,b,s⟩
theorem Jn(a:kE sc nm F g){xs:List PV}(h:F.ρ i=.cj xs){y:Str}(b:nm.lookup y=some i):V6 g F.env y (F.ω i) xs:=by have s:=a.slot y i b;rw[h]at s;exact s
theorem Wr.rd{W:Addr->Prop}{j:Heap}(x:Wr o g j W){env:aI}{n:Str}{u:ai}(r:Rd env g.h n u):Rd env j n u:=r.imp (λh=>by obtain⟨a,m,b,c⟩:=h;exact⟨a,m,by refine rq (id b) λf s ep e d _=>?_;exact b.at' λq p=>x.keep _ _ (x.not e (.inl ⟨s,ep,d⟩)) p,c⟩) λh=>by obtain⟨a,c,b,f,k,l⟩:=h;exact⟨a,c,b,f,x.keep c f (x.not k (.inr ⟨_,l⟩)) k,l⟩
theorem Jo{xs:List PV}{sl:Slot}(c:F.ρ i=.cj xs)(a:Addr)(h:w0 {F with ρ:=jd F.ρ i sl} a):w0 F a:=h.imp id λh=>by
 refine lB h λj ys h1 b=>?_;clear h;by_cases q:j=i;·clear h h1;subst q;exact⟨j,xs,c,b⟩
 ·exact⟨j,ys,(cJ q).symm.trans h1,b⟩
theorem Wk.Ol(x:Wk S F o g){xs ys:List PV}{vs:List ai}{ep:Nat}(c:F.ρ i=.cj xs)(G:dt g.v ys vs)(D:ys.length<=eu)(f:s'.heap.get? (F.ω i)=some (gc vs ep))(A:Heap.SameBut (F.ω i) g.h s'.heap)(I:s'.gens=g.s.gens)(p:s'.os=g.s.os):Wk S {F with ρ:=jd F.ρ i (.cj ys)} o ⟨g.v,g.t,s'⟩:=by
 refine dq (w6 x.en c) λy l r=>?_;obtain⟨us,C,d,_⟩:=r.bK;have W:Wr o g s'.heap (·=F.ω i):=⟨λb e=>e▸⟨x.w _ (.inr ⟨i,xs,c,rfl⟩),r.z,r.m⟩,λb J n e=>(A.2 b n).trans e,(λb e q=>by subst e;replace q:=f▸q;cases q),λb e=>e▸⟨_,d,k7,λ_ q=>by injection q⟩⟩;have H:Here S {F with ρ:=jd F.ρ i .bB} o g:=⟨x.toHr,x.en.drop⟩;have u:=H.wr W (λj zs h q=>by
  have h:jd F.ρ i .bB j=.cj zs:=h;by_cases k:j=i;·clear c f A l r d W H q;subst k;replace h:=fH▸h;cases h
  ·replace h:=cJ k▸h;exact x.en.apart j i _ _ h c k q) I p
 have E:=u.en.xX (i:=i) (sl:=.cj ys) (λn B=>⟨W.rd (Jn x.en c B).rd,⟨vs,ep,f,G⟩,D,r.z,r.m⟩) λ_ _=>⟨⟨y,l⟩,λj zs k h=>x.en.apart j i _ _ ((cJ k).symm.trans h) c k⟩;have e:jd (jd F.ρ i .bB) i (.cj ys)=jd F.ρ i (.cj ys):=funext λj=>by
  by_cases k:j=i;·clear c f A l r d W H u E;subst k;refine zl fH ?_;exact zl fH rfl
  ·refine zl (cJ k) ?_;refine zl (cJ k) ?_;exact zl (cJ k) rfl
 exact⟨⟨u.toHr,e▸E⟩,x.frame,x.BS,λa h=>x.w a (Jo c a h)⟩
theorem Wk.iP(x:Wk S F o g){xs:List PV}(f:F.ρ i=.cj xs):∃v,g.v.Le v/\Wk S {F with ρ:=jd F.ρ i (.val (.list xs))} o ⟨v,g.t,g.s⟩:=by
 refine dq (w6 x.en f) λy B r=>?_;clear B;obtain⟨us,ep,l,A⟩:=r.bK;have u:∀{b p},g.h.get? b=some p->p.data≠(gc us ep).data->b≠F.ω i:=λh k q=>by replace h:=q▸h;replace h:=l▸h;cases h;exact k rfl
 have E:=(x.en.drop (i:=i)).keep (g':=⟨R.iP g.v (F.ω i) (gc us ep),g.t,g.s⟩) (P:=λa=>a≠F.ω i) (mi r.z) ⟨λ_ h=>h,λ_ _ _ h _=>h⟩ (λa p _ z k=>(pG k).trans z) (λ_ _ _ h _=>h) (by obtain⟨m,p,D,ep,e,d,_⟩:=x.en.sN.ns;exact u e λq=>by replace q:=d▸q;cases q) (λn c e=>by refine lB ((x.en.cl n c e).bK) λp v e d=>?_;exact u e λq=>by replace q:=d▸q;cases q) λj zs h=>by
  have h:jd F.ρ i .bB j=.cj zs:=h;by_cases k:j=i;·clear f r l u;subst k;replace h:=fH▸h;cases h
  ·replace h:=cJ k▸h;exact x.en.apart j i _ _ h f k
 have E:=E.xX (i:=i) (sl:=.val (.list xs)) (λn C=>⟨.ref (F.ω i),(Jn x.en f C).rd,.mk _ us ep rfl (if_pos rfl) (A.eX (mi r.z)) r.nV⟩) λ_ h=>by injection h
 have e:jd (jd F.ρ i .bB) i (.val (.list xs))=jd F.ρ i (.val (.list xs)):=funext λj=>by
  by_cases k:j=i;·clear f r l u E;clear E;subst k;refine zl fH ?_;exact zl fH rfl
  ·refine zl (cJ k) ?_;refine zl (cJ k) ?_;exact zl (cJ k) rfl
 exact⟨_,mi r.z,⟨⟨x.ok,⟨x.bK.st.qp l r.z r.m (x.bK.st.dP l k7),x.bK.dD.qp r.z (x.w _ (.inr ⟨i,xs,f,rfl⟩)).symm⟩,x.sub,x.A1,x.al,x.dj⟩,e▸E⟩,x.frame,x.BS,λa h=>x.w a (Jo f a h)⟩
theorem Wk.nz(x:Wk S F o g){n:Str}{a:Bool×PV}{y:ai}(u:eI S.sc S.nm n i=true)(J:HR o.new a y g)(l:∀c,a.1=true->y=.ref c->¬w0 F c){A:b9}{Q:Unit->ak->Prop}{E:ai->ak->Prop}(q:∀s' z c,qu S.sc F.env n c->Heap.SameBut c g.h s'.heap->Wk S {F with ρ:=jd F.ρ i (iW a),ω:=z} o ⟨g.v,g.t,s'⟩->Q () s'):aJ S.C.M A (Bs F.env n y) Q E g.s:=by
 refine(?H:gB (by
  have N:∀{c},qu S.sc F.env n c->w0 F c:=λh=>.inl (h.elim (λh=>.inl h.2) λh=>.inr ⟨n,h.2⟩);have r:∀ad sl,iW a=sl->C9 g y ad sl->((∃xs,sl=.cj xs)->o.new ad/\¬w0 F ad)->aJ S.C.M A (Bs F.env n y) Q E g.s:=λad sl O G K=>x.toHere.nz (sl:=sl) (a:=ad) u G (λj ys _ P B e=>(K B).2 (.inr ⟨j,ys,P,e⟩)) (λc h=>x.w c (N h)) λs' c U W I=>by
   refine q s' (C8 F.ω i ad) c U W (O▸⟨I,x.frame,x.BS,λd h=>?_⟩);clear u q I;rcases h with h|⟨j,xs,h1,b⟩;·exact x.w d (.inl h)
   ·have h1:jd F.ρ i sl j=.cj xs:=h1;have b:C8 F.ω i ad j=d:=b;by_cases k:j=i;·subst k;rw[fH]at h1;rw[yF]at b;exact b▸(K ⟨xs,h1⟩).1
    ·rw[cJ k]at h1;rw[nJ k]at b;exact x.w d (.inr ⟨j,xs,h1,b⟩)
  obtain⟨f,p⟩:=a;clear q;cases f with|false=>exact r 0 (.val p) rfl J λh=>by obtain⟨_,h⟩:=h;injection h|true=>obtain⟨xs,ad,vs,ep,L,D,B,T,R,m,hz,V⟩:=J;cases L;exact r ad (.cj xs) rfl ⟨D,o.new,.mk xs ad vs ep rfl D B T R m hz V⟩ λ_=>⟨m,l ad rfl D⟩)) gA
 intro w;(try dsimp-zetaHave only at w);refine(?F:gC _) _ w;exactλp _=>p
theorem rQ(b:kE sc nm F g){a:Addr}(h:w0 F a):∃c,g.h.get? a=some c:=by
 rcases h with(rfl|⟨y,e⟩)|⟨j,xs,h1,rfl⟩;·obtain⟨m,c,l,ep,e,d,_⟩:=b.sN.ns;exact⟨_,e⟩
 ·refine lB ((b.cl y a e).bK) λc v e d=>?_;exact⟨_,e⟩
 ·refine dq (w6 b h1) λy k r=>?_;obtain⟨us,ep,f,_⟩:=r.bK;exact⟨_,f⟩
end
theorem ib(b d c e a):@R.Fr.mk b d c e a=R.jJ (@R.nU _ (@R.Fr.mk) b d c e a):=rfl
theorem ic(a b c):@R.Cf.mk a b c=R.jJ (@R.nU _ (@R.Cf.mk) a b c):=rfl
theorem ie(a b c):@R.Or.re a b c=R.jJ (@R.nU _ (@R.Or.re) a b c):=rfl
theorem ig(a b d c):@R.T.bind a b d c=R.jJ (@R.nU _ (@R.T.bind) a b d (R.jJ c)):=rfl
theorem ij(a b d c):@R.M.bind a b d c=R.jJ (@R.nU _ (@R.M.bind) a b d (R.jJ c)):=rfl
abbrev rR(e:Expr):Prop:=∀t a env,Bt e t a env=pure false
section
variable{S:Sc}{F:Fr}{o:Or}{g g':Cf}{e c:Expr}{f fc:R.Env->M (Bool×PV)}{pos np:Pos}{n:Str}{i:Nat}
theorem Ea.to{r:jb Sx Fl}{t:Sem Flow}{b:R.Env}{a:Nat->Addr}{s:ak}(h:aJ S.C.M F.A t (Ea S {F with ρ:=b,ω:=a} o r) (uD S {F with ρ:=b,ω:=a} o r) s):aJ S.C.M F.A t (Ea S F o r) (uD S F o r) s:=aY h (λ_ _ h=>by obtain⟨l,b,a,g',k,d,m,j⟩:=h;exact⟨l,b,a,g',k,d,m,j⟩) λ_ _ h=>h
theorem Sf(h:lJ S e f):oR S (λenv=>exec (.Return (some e) pos) env) (T.bind (T.ex f) λv=>T.pure (.ret v)):=λF o g r x k d=>qY (x.go (h F _ g x.self) k d λa y g' l _ j b=>⟨_,F.ρ,F.ω,g',rfl,j.symm,l,y,rfl,HR.of b λa e=>.inr (x.bK.dD.dO a e)⟩)
theorem Here.plain(x:Here S F o g):interactive F.env=false:=by unfold interactive;refine zl x.en.scope ?_;refine zl x.en.kind ?_;rfl
theorem Om(k:rR e)(d:lJ S e f):oR S (λenv=>exec (.Expr e pos) env) (T.bind (T.ex f) λ_=>T.pure .next):=λF o g r x l b=>Gu (x.go (d F _ g x.self) l b λa y g' j _ h _=>j.next h) x.plain (k _ _ _)
theorem Wd{b a:List Stmt}{j mb:T Fl}(m:YT S c fc)(u:oR S (λenv=>qf b env) j)(s:oR S (λenv=>qf a env) mb):oR S (λenv=>exec (.If c b a pos) env) (T.bind (T.ex λp=>M.bind (fc p) jn) λt=>if t then j else mb):=λF o g r x q d=>by dsimp only;rw[exec_If];refine af (cY (af (x.go (Rl:=eqR) (m F _ g x.self) q d λt v g' l _ k h=>?_)));cases h;cases t with|true=>exact u F o g' r l k d|false=>exact s F o g' r l k d
theorem Oo:oR S (λenv=>qf [] env) (T.pure .next):=λF o g r x a b=>ei (x.next a)
def Dk(a:T Fl)(b:Fl):T Fl:=match b with|.next=>a|.ret v=>T.pure (.ret v)
theorem K4{B:Stmt}{rest:List Stmt}{m d:T Fl}(h1:oR S (λenv=>exec B env) m)(E:oR S (λenv=>qf rest env) d):oR S (λenv=>qf (B::rest) env) (T.bind m (Dk d)):=λF o g r x s w=>by
 refine jU (aY (h1 F o g _ x rfl (ox s w)) (λG s' h=>?_) λe s' h=>?_);·obtain⟨l,q,t,g',u,b,C,z⟩:=h;subst u;have A:=(rP (f:=Dk d) b).symm.trans s;clear b;cases l with|next=>cases z;exact Ea.to (E {F with ρ:=q,ω:=t} o g' r C A w)|ret v=>obtain⟨y,rfl,k⟩:=z;exact⟨.ret v,q,t,g',rfl,A.symm,C,y,rfl,k⟩
 ·obtain⟨a,p,g',u,b,j,D,l⟩:=h;exact⟨a,p,g',u,s.symm.trans (oU b),j,D,l⟩
theorem Sh(s:eI S.sc S.nm n i=true)(D:rR e)(z:lJ S e f):oR S (λenv=>exec (.Assign [.Name n np] e pos) env) (T.bind (T.ex f) λv=>T.bind (T.env λe=>some (jd e i (iW v))) λ_=>T.pure .next):=λF o g r x B w=>VH (x.go (z F _ g x.self) B w λa y g' C G u j=>C.nz s (HR.of j λc h=>.inr (x.bK.dD.dO c h)) (λc h1 A h=>by refine zE (rQ x.en h) λb k=>?_;obtain⟨E,p⟩:=a;clear u;cases h1;obtain⟨xs,ad,vs,ep,_,m,_,_,_,d,_,_⟩:=j;replace m:=A▸m;clear ho hz hm;cases m;replace d:=k▸d;cases d) λs' l c _ _ q=>⟨.next,_,l,⟨g'.v,g'.t,s'⟩,rfl,u.symm,q,rfl⟩) (D _ _ _)
theorem Oq{a:List Stmt}{h:T Fl}(j:oR S (λenv=>qf a env) h):oR S (λenv=>qf a env) (T.bind (T.bind (T.env (Na i)) λ_=>T.pure Fl.next) (Dk h)):=λF o g r x b d=>by unfold T.bind T.env Na at b;dsimp only at b;cases q:F.ρ i with|cj xs=>replace b:=q▸b;refine dq (x.iP q) λv l k=>?_;exact Ea.to (j {F with ρ:=jd F.ρ i (.val (.list xs))} o ⟨v,g.t,g.s⟩ r k b d)|_=>replace b:=q▸b;exact j F o g r x b d
theorem Ot(d:i3 S.nm n i=true):oR S (λenv=>exec (.Return (some (.Name n np)) pos) env) λs=>match s.env i with|.cj xs=>.ok (.ret (true,.list xs)) s|.val v=>.ok (.ret (false,v)) s|.bB=>.aS:=λF o g r x b k=>by have a:=x.rd d;dsimp only at b;cases q:F.ρ i with|bB=>rw[q]at b;exact absurd b.symm k|val p=>rw[q]at a b;obtain⟨v,h,j⟩:=a;exact qY (x.pO d h ⟨_,F.ρ,F.ω,g,rfl,b.symm,x,v,rfl,j⟩)|cj xs=>rw[q]at a b;obtain⟨vs,ep,l,j⟩:=a.bK;have t:=x.w (F.ω i) (.inr ⟨i,xs,q,rfl⟩);refine qY (x.pO d a.rd ⟨_,F.ρ,F.ω,g,rfl,b.symm,x,_,rfl,?_⟩);exact .mk xs _ vs ep rfl rfl l j a.nV t a.z a.m
end
section
variable{S:Sc}{F:Fr}{o:Or}{g g':Cf}{e:Expr}{f:R.Env->M (Bool×PV)}{pos np apos qx We:Pos}{n:Str}{i:Nat}{c:Cp}
theorem Here.YZ(H:Here S F o g){L:Addr}{u:Heap}(x:Heap.SameBut L g.h u)(w:NM g L)(A:o.g.h.get? L=none)(j:L≠F.env.locals)(I:L∉frames F.k):Here S F o ⟨g.v,g.t,{g.s with heap:=u}⟩:=by
 obtain⟨m,G,C,ep,h1,E,_⟩:=w.ns;have B:∀{b l},g.h.get? b=some l->(∀C ep,l.data≠.dict C ep)->b≠L:=λh k q=>by replace h:=q▸h;replace h:=h1▸h;cases h;exact k _ _ E
 exact⟨H.toHr.touch (W:=λb=>b=L) (s':={g.s with heap:=u}) (λb e=>e▸⟨.inr A,w.z,w.m⟩) (λb o n e=>(x.2 b n).trans e) (λb e _=>e▸A) (λb k e=>absurd (e▸k) I) rfl rfl,H.en.keep (P:=λa=>a≠L) (.refl _) ⟨λm h=>h.at' λo e=>(x.2 _ j.symm).trans e,λa o p e _=>(x.2 a p).trans e⟩ (λ_ _ _ h _=>h) (λ_ _ _ h _=>h) j.symm (λn c e=>by refine lB ((H.en.cl n c e).bK) λG v e d=>?_;exact B e (ot d)) λi xs h=>by refine dq (w6 H.en h) λy J r=>?_;obtain⟨us,ep,D,_⟩:=r.bK;exact B D k7⟩
theorem E3(W:BQ S c)(Wf:eI S.sc S.nm n i=true)(hsw:∀env:aI,env.scope=S.sc->Bt (c.e pos) (some (.Name n np)) We.line env=pure true):oR S (λenv=>exec (.Assign [.Name n np] (c.e pos) We) env) (T.bind (T.ex c.m) λv=>T.bind (T.env λe=>some (jd e i (iW v))) λ_=>T.pure .next):=λF o g r x er hr=>by
 dsimp only;refine zl (exec_Assign_arm _ _ _) ?_;refine af (cY ?_);rw[show swapsWithSole [Expr.Name n np] (c.e pos) We.line F.env=pure true from hsw F.env x.en.scope];refine af (ay ?_);refine zl (if_pos rfl) ?_;refine af ?_;show aJ _ _ (comprehension (c.e pos) c.scope F.env _ (newList []) false (eval c.K2 F.env) (some _)>>=λ_=>pure ()) _ _ g.s;refine af (aY (BR (o:=.at F.k g) W x.self rfl (zJ (ox er hr)) (E:=uD S F o r) (Q:=λ_ s'=>Ea S F o r .next s') (λy s h=>x.ex h λ_ _ ho=>er.symm.trans (oU (w5 ho))) λout g1 D L ho y hN hL MK hDL=>?_) (λ_ s' h=>ay (ay h)) λ_ _ h=>h);have e1:=(rP (zI ho)).symm.trans er;have x1:=x.step y;show aJ _ _ (assignAll (.ref D) _) _ _ g1.s;refine qX (x1.nz (a:=(true,.list out)) Wf (yc.imp (λc h=>.inr (x.bK.dD.dO c h)) hN) (λc _ h2 h=>?_) λs' ω' c hc hs x2=>?_);·refine zE (rQ x.en h) λb k=>?_;obtain⟨xs,ad,vs,ep,_,e2,_,_,_,hbn,_,_⟩:=hN;replace e2:=h2▸e2;clear ho_1 hz hm;cases e2;replace hbn:=k▸hbn;cases hbn
 ·have hne:L≠F.env.locals:=λq=>by refine zE (rQ x.en (.inl (.inl rfl))) λb k=>?_;replace MK:=q▸MK;replace MK:=k▸MK;cases MK
  have hLc:L≠c:=λq=>by refine zE (rQ x.en (a:=c) (.inl (hc.elim (λh=>.inl h.2) λh=>.inr ⟨n,h.2⟩))) λb k=>?_;replace MK:=q▸MK;replace MK:=k▸MK;cases MK
  obtain⟨m,hm⟩:=hL.ns;have hm':s'.heap.Ns L m:=hm.at' λo e=>(hs.2 L hLc).trans e;exact⟨m,hm',λh' hs'=>⟨.next,_,ω',⟨g1.v,g1.t,{s' with heap:=h'}⟩,rfl,e1.symm,⟨x2.toHere.YZ hs' ⟨hL.m,hL.z,m,hm'⟩ (x.bK.dD.dO _ MK) hne (x.bK.st.lH MK),x2.frame,x2.BS,x2.w⟩,rfl⟩⟩
theorem BU{b a:R.Env}(h:rA i b=some a):a=b/\∃xs,b i=.cj xs:=by unfold rA at h;cases q:b i with|cj xs=>replace h:=q▸h;cases h;exact⟨rfl,xs,rfl⟩|_=>replace h:=q▸h;cases h
theorem E4{b:Str}{z:String}{G:Nat->PV->R.Env->Option R.Env}(Z:i3 S.nm n i=true)(hs:NS e)(k:(apos.endLine==qx.line)=true)(u:qe "list" b z)(K:yr (.builtin z)=pure (.type "method_descriptor"))(hf:lJ S e f)(hG:∀F o g xs vs ep p y d(Q E:ai->ak->Prop),Here S F o g->F.ρ i=.cj xs->g.h.get? (F.ω i)=some (gc vs ep)->dt g.v xs vs->xs.length<=eu->VR g.v p y->G i p F.ρ=some d->(∀ys us m s',d=jd F.ρ i (.cj ys)->dt g.v ys us->ys.length<=eu->s'.heap.get? (F.ω i)=some (gc us m)->Heap.SameBut (F.ω i) g.h s'.heap->s'.gens=g.s.gens->s'.os=g.s.os->Q .none s')->aJ S.C.M F.A (call (.builtin z) [.ref (F.ω i),y]) Q E g.s):oR S (λenv=>exec (.Expr (.Call (.Attribute (.Name n np) b apos) [e] [] qx) pos) env) (T.bind (T.env (rA i)) λ_=>T.bind (T.ex f) λv=>T.bind (T.env (G i v.2)) λ_=>T.pure .next):=λF o g r x er H=>by refine dq (Di er H) λ_ h0 e0=>?_;obtain⟨rfl,xs,D⟩:=BU h0;have j:=x.rd Z;replace j:=D▸j;obtain⟨vs,ep,Y,_⟩:=j.bK;have ht:=hs.jO F.env qx;refine Gu ?_ x.plain rfl;refine tK rfl (C6 hs.jO (show 1<20 by decide)) k ht (x.pO Z j.rd ⟨"list",z,Kc,u,K,(cD Y).typeIs,λa q=>by cases q;exact⟨_,Y,rfl⟩,?_⟩);refine callWith_of (P:=λ_=>True) (gP [e]) (λh _=>⟨.machine,.inr (.inl rfl),Looks.of_pure rfl⟩) (dW (spliced_cons (x.tW (hf F _ g x.self) e0 H λa y g1 O st e1 hv=>spliced_nil ⟨trivial,?_⟩)));refine dq (Di e1 H) λd w e2=>?_;have B:=w6 O.en D;revert B;intro l;refine dq l λ_ _ B=>?_;clear l;obtain⟨V,X,U,N⟩:=B.bK;refine hG F o g1 xs V X a.2 y d _ _ O.toHere D U N B.nV hv w λys us m s' hq I hl W J hg L=>?_;clear w;subst hq;exact⟨.next,_,F.ω,⟨g1.v,g1.t,s'⟩,rfl,e2.symm,O.Ol D I hl W J hg L,rfl⟩
theorem Sj(x:i3 S.nm n i=true)(C:NS e)(a:(apos.endLine==qx.line)=true)(r:lJ S e f):oR S (λenv=>exec (.Expr (.Call (.Attribute (.Name n np) (Str.ofString "append") apos) [e] [] qx) pos) env) (T.bind (T.env (rA i)) λ_=>T.bind (T.ex f) λv=>T.bind (T.env (Nb i v.2)) λ_=>T.pure .next):=by refine E4 x C a PySem.F.slot_list_append PySem.F.type_list_append r λF o g xs vs ep p y z Q E H w u l A B b q=>?_;unfold Nb at b;rw[w]at b;obtain⟨d,b⟩:=dc b;cases b;refine Kb (items:=vs.toArray) ⟨ep,u⟩ (λt j h=>?_) (by rw[aN,l.length];exact aa A mh);obtain⟨m,k⟩:=j;exact q (xs++[p]) (vs++[y]) m {g.s with heap:=t} rfl (l.append (dt.cons B dt.nil)) (by rw[ah];exact d) (by rw[k,AU]) h rfl rfl
theorem Sk(G:i3 S.nm n i=true)(L:NS e)(h:(apos.endLine==qx.line)=true)(C:lJ S e f):oR S (λenv=>exec (.Expr (.Call (.Attribute (.Name n np) (Str.ofString "extend") apos) [e] [] qx) pos) env) (T.bind (T.env (rA i)) λ_=>T.bind (T.ex f) λv=>T.bind (T.env (Nc i v.2)) λ_=>T.pure .next):=by
 refine E4 G L h IP PySem.F.type_list_extend C λF o g xs vs ep p y I Q E H D m A z J j q=>?_;unfold Nc at j;rw[D]at j;cases p with
 |list ys=>
  obtain⟨d,j⟩:=dc j;cases j;obtain⟨K,us,r,rfl,w,B,_⟩:=J;have a:=A.length;have b:=B.length;rw[jP]at d z;refine kQ IP ⟨_,m,rfl⟩ PySem.F.entry_list_extend (PySem.F.args_list_extend_2 _ _) (AutoSeq1.list_extend_list_list_0 _ vs.toArray ep K us.toArray r ?_ ?_ ?_) ⟨m,H.bK.st.fz _ _ w,?_⟩;·rw[aN,aN,a,b];unfold bl.List.listTooLong;rw[bN];simp;exactλ_=>aa (bT d) (by decide)
  ·rw[aN,bN];exact abj z a
  ·rw[aN,aN,bN];exact abk d a b
  ·have l:=Heap.get?_update_self (Obj.mapSeq λx=>x++us.toArray) m (Obj.isFreed_of_seq (Obj.data_mapSeq (o:=gc vs ep) rfl _).choose_spec);have k:∃t,(Obj.mapSeq (λx=>x++us.toArray) (gc vs ep))=gc (vs++us) t:=by refine⟨if(vs.toArray++us.toArray).size==vs.toArray.size then ep else ep+1,?_⟩;show(⟨.type "list",none,.seq (vs.toArray++us.toArray) (if(vs.toArray++us.toArray).size==vs.toArray.size then ep else ep+1),#[]⟩:Obj)=_;rw[List.append_toArray]
   obtain⟨t,u⟩:=k;rw[u]at l;exact q (xs++ys) (vs++us) t {g.s with heap:=g.s.heap.update (F.ω i) (Obj.mapSeq λx=>x++us.toArray)} rfl (A.append B) (by rw[ah,jP];exact bT d) l (Heap.SameBut.update ..) rfl rfl
 |_=>exact(kK j).elim
end
section
variable{prog:jj}{w:se}{K:Type}[DecidableEq K]{knd:tE prog w K}{A:b9}{E:ai->ak->Prop}{s:ak}
theorem Ht{d:Addr}{kvs:List (K×ai)}{ep:Nat}{k:K}{u v:ai}{Q:Unit->ak->Prop}(c:knd.is k u=true)(J:s.heap.DictAt knd d kvs ep)(z:kvs.length<=jD)(B:∀D r,D.DictAt knd d (gY kvs k v) r->r+kvs.length=ep+(gY kvs k v).length->Heap.SameBut d s.heap D->Q () {s with heap:=D,toks:=s.toks+1}):aJ (dF prog w) A (dictSet d u v) Q E s:=by
 refine(?H:gB (by
  refine Ee J λo h q I m C x y=>?_;clear J;have hes:h.size<=jD:=by
   have M:=x.length;have N:h.toList.length=h.size:=by simp
   exact abi z M N
  unfold dictSet;try with_reducible refine aZ ?_
  refine af (knd.pyHash c ?_);unfold dictSetHashed;try with_reducible refine aZ ?_
  refine af (wpAny_dictFind_of (s:={s with toks:=s.toks+1}) c q m C ?_);have f:(h.findIdx? λe=>knd.is k e.key)=kvs.findIdx? λt=>decide (t.1=k):=by refine zr (x.findIdx k) ?_;obtain⟨l⟩:=h;simp
  cases n:h.findIdx? λe=>knd.is k e.key with
  |some i=>
   refine af (tJ (af (wpAny_updateDict (s:={s with toks:=s.toks+1}) q m (wpAny_point (B _ ep ⟨_,_,Heap.get?_update_self _ q (Obj.isFreed_of_dict (Obj.data_mapDict m _)),I.mapDict _,Obj.data_mapDict m _,C.modify _ _,?_,?_⟩ ?_ (Heap.SameBut.update ..))))));·
    rewrite[gY];refine zl (if_pos (xl (f▸n))) ?_;have P:(h.toList.findIdx? λe=>knd.is k e.key)=some i:=by refine zr n ?_;obtain⟨l⟩:=h;simp
    have:=x.modify y P v;obtain⟨l⟩:=h;simpa using this
   ·rewrite[gY];refine zl (if_pos (xl (f▸n))) ?_;refine zl (keys_map_store _ _ _) ?_;exact y
   ·rewrite[gY];refine zl (if_pos (xl (f▸n))) ?_;simp
  |none=>
   have j:k∉kvs.map (·.1):=not_mem_of_findIdx_none (f▸n);have g:¬(kvs.any λt=>decide (t.1=k))=true:=by rw[XR];rintro⟨t,G,O⟩;exact j (aL.mpr ⟨t,G,of_decide_eq_true O⟩)
   refine af (tJ (wpAny_updateDictKeys (hz:=hes) (s:={s with toks:=s.toks+1}) q m (B _ (ep+1) ⟨_,_,Heap.get?_update_self _ q (Obj.isFreed_of_dict (Obj.data_mapDictKeys m _)),I.mapDictKeys _,Obj.data_mapDictKeys m _,C.push c _,?_,?_⟩ ?_ (Heap.SameBut.update ..))));·rewrite[gY];refine zl (if_neg g) ?_;have:=x.append c (knd.hash k) v;obtain⟨l⟩:=h;simpa using this
   ·rewrite[gY];refine zl (if_neg g) ?_;refine zl ba ?_;rewrite[qW];refine⟨y,by simp,λa R b L=>?_⟩;simp only[aM,fP,ao]at L;clear c B f n g;subst L;exactλe=>j (e▸R)
   ·rewrite[gY];refine zl (if_neg g) ?_;simp;exact o6)) gA
 intro w;delta id at w;(try dsimp-zetaHave only at w);refine(?F:gC _) _ w;exactλp _=>p
theorem zK{d:Addr}{kvs:List (K×ai)}{ep:Nat}{k:K}{a v:ai}{Q:Unit->ak->Prop}(c:knd.is k a=true)(j:s.heap.DictAt knd d kvs ep)(i:kvs.length<=jD)(m:∀e b,e.DictAt knd d (gY kvs k v) b->b+kvs.length=ep+(gY kvs k v).length->Heap.SameBut d s.heap e->Q () {s with heap:=e,toks:=s.toks+1}):aJ (dF prog w) A (rf (.ref d) a v) Q E s:=by
 have f:=j.dictOf.typeIs;unfold rf;try with_reducible refine aZ ?_
 refine af (VI f (by decide) ?_);refine af (Kd (name:=Str.ofString "__setitem__") f F.slot_dict_setitem (mP F.slot_dict_setitem f F.entry_dict_setitem ?_ (F.args_dict_setitem_3 _ _ _)));show aJ _ _ (bl.Dict.notOrdered "__setitem__" ⟨[.ref d,a,v],[]⟩>>=_) _ _ s;refine af (wpAny_notOrdered_dict f ?_);show aJ _ _ (dictSet d a v>>=_) _ _ s;exact af (Ht c j i λe b g l h=>ay ⟨.none,rfl,ay (m e b g l h)⟩)
end
theorem Ou(k v:PV)(c:List (PV×PV)):(q7 k v c).length<=c.length+1:=by induction c with|nil=>exact bf _|cons p c d=>obtain⟨a,b⟩:=p;rw[yT];cases a.lD k with|true=>exact e9 _|false=>exact aB d
theorem pF.length{v:Vw}{fs:List (At×PV)}{ds:List gI}(h:pF v fs ds):ds.length=fs.length:=by induction h with|nil=>rfl|cons _ _ _ a=>exact congrArg (·+1) a
theorem pF.xX{v:Vw}{n:At}{p:PV}{y c:ai}{e:Int}{t:Tok}(g:c=.str (Str.ofString (atName n)) t)(i:VR v p y){fs:List (At×PV)}{ds:List gI}(h:pF v fs ds):pF v (En n p fs) (putL (Str.ofString (atName n)) e c y ds):=by
 induction h with
 |nil=>exact .cons ⟨t,g⟩ i .nil
 |@cons a l d m ds b f j k=>
  clear g;obtain⟨t',b⟩:=b;rw[VP,putL,b,EV];by_cases q:a=n;·subst q;rw[if_pos rfl,if_pos (decide_eq_true rfl)];exact .cons ⟨t',rfl⟩ i j
  ·rw[if_neg q,if_neg (by simpa using q)];exact .cons ⟨t',b⟩ f k
theorem Ov(name:Str)(c:Int)(b v:ai)(a:List gI):(putL name c b v a).length<=a.length+1:=by
 induction a with
 |nil=>exact bf _
 |cons e a d=>
  rw[putL];split;·exact e9 _
  ·exact aB d
section
variable{S:Sc}{F:Fr}{o:Or}{g:Cf}{p k q:PV}{ov kv v:ai}{r:jb aH Unit}{n:At}{E:ai->ak->Prop}
theorem Bc(H:Here S F o g)(L:VR g.v p ov)(J:VR g.v k kv)(T:VR g.v q v)(e:R.setItem p k q g.t=r)(D:r≠.aS):aJ S.C.M F.A (rf ov kv v) (Ok S.C F.k o eqR r) E g.s:=by
 unfold R.setItem at e;cases f:dictAt g.t p with
 |none=>rw[f]at e;exact absurd e.symm D
 |some u=>
  rw[f]at e;by_cases hc:(iU k u&&decide (u.length<4096))=true;case neg=>exact absurd ((if_neg hc).symm.trans e).symm D
  replace e:=(if_pos hc).symm.trans e;obtain⟨B,a⟩:=bF.mp hc;obtain⟨l,rfl,Q⟩:=iZ f;obtain⟨I,K,rfl⟩:=L;have w:qO S.C g.v g.h I u:=H.bK.st.cell l _ I Q K;obtain⟨y,f,G,O,rfl,N⟩:=xx.by w.bK B J;have d:=G.length;have a:=of_decide_eq_true a;refine zK N f (by rw[d,bN];exact abl d a) λV P z m x=>?_;have j:=mB.xX y (y.small J) T G f.nodup;have i:=j.length;exact⟨(),⟨g.v,_,{g.s with heap:=V,toks:=g.s.toks+1}⟩,rfl,e.symm,H.bK.xX H.A1 K (c:=.dict (q7 _ q u)) ⟨w.ab,aa (Ou _ q u) (by exact abn d a),w.ns,.mk y z j (by exact abo O d m i)⟩ (λb W n _ U=>(x.2 b n).trans U) rfl rfl,rfl⟩
set_option tactic.hygienic true in theorem Bd(X:Fx S.C)(H:Here S F o g)(ho:VR g.v p ov)(hv:VR g.v q v)(e:xt p n q g.t=r)(hr:r≠.aS):aJ S.C.M F.A (IQ ov (Str.ofString (atName n)) v) (Ok S.C F.k o eqR r) E g.s:=by
 refine(?H:gB (by
  unfold xt at e;cases hd:instOf g.t p with
  |none=>replace e:=hd▸e;exact absurd e.symm hr
  |some cf=>
   replace e:=hd▸e;by_cases V4:cf.2.length<100;case neg=>exact absurd ((if_neg V4).symm.trans e).symm hr
   replace e:=(if_pos V4).symm.trans e;refine dq (instOf_inv hd) λl He hl=>?_;subst He;refine dq ho λpl hm KH=>?_;clear ho;subst KH;have I:I3 g.v g.h pl cf.1 cf.2:=H.bK.st.cell l _ pl hl hm;obtain⟨ds,m,h2,hR,hlen⟩:=I.q8;have h1:=I.bK;have hne:=I.ab;have a:=(X.att cf.1 n).2;unfold Jd at a;rw[ax,ax,ax]at a;obtain⟨⟨⟨a1,a2⟩,a3⟩,a4⟩:=a;have a3:=eq_of_beq a3;have a4:=eq_of_beq a4;have Xk:=H.A0;have afb:getL (Str.ofString (atName n)) ds=some none\/∃v,getL (Str.ofString (atName n)) ds=some (some v):=by unfold getL;refine zl hR.NU ?_;cases ds.find? (·.key.isStr (Str.ofString (atName n)))with|some _=>exact .inr ⟨_,rfl⟩|none=>exact .inl rfl
   have hds:=hR.length;refine set_plain Xk (instAt_of h1 h2) a4 (osa_open (s:={g.s with toks:=g.s.toks+1}) Xk (instAt_of h1 h2) a1 a3 λb=>?_);refine dq (PySem.W.any_some a2) λcd hc hd'=>?_;refine af (ay (af (af (wB h1 (af (Looks.here (s:={g.s with toks:=g.s.toks+1}) (looks_clsIn Xk hc) ?_))))));refine zl hd' ?_;refine ay (a:=some pl.b) (af (ay (af ?_)));unfold nsSet;refine af (af (XU (ay (af (MD (af (wB h2 ?_)))))));dsimp only;have cc:Rv (Str.ofString (atName n)) ds.toArray=false:=by refine zl (aRefKeyMayBeTheName_at _ _) ?_;refine zr Bq ?_;refine zr Bq ?_;refine zl hR.NU ?_;exact zl (lU _) rfl
   refine zl cc ?_;have Y0:=putName_dict (Str.ofString (atName n)) (PyData.keyHash S.C.w.params (Str.ofString (atName n))) (.str (Str.ofString (atName n)) (g.s.toks+1)) v ds m;have Jp:=Heap.get?_update_self (Obj.putName (Str.ofString (atName n)) (PyData.keyHash S.C.w.params (Str.ofString (atName n))) (.str (Str.ofString (atName n)) (g.s.toks+1)) v) h2 (by refine zl Y0 ?_;rfl);have Ow:∀b,b≠pl.b->(g.h.update pl.b (Obj.putName (Str.ofString (atName n)) (PyData.keyHash S.C.w.params (Str.ofString (atName n))) (.str (Str.ofString (atName n)) (g.s.toks+1)) v)).get? b=g.h.get? b:=λb hb=>Heap.get?_update_other _ _ (dB hb);replace Jp:=Y0▸Jp;have hpl:=Ov (Str.ofString (atName n)) (PyData.keyHash S.C.w.params (Str.ofString (atName n))) (.str (Str.ofString (atName n)) (g.s.toks+1)) v ds;refine XW h2 ?_;refine af (XX Jp (XY (by refine zl aN ?_;refine zl bN ?_;exact abt V4 hds hpl)) ?_);exact ay ⟨(),⟨g.v,_,_⟩,rfl,e.symm,H.bK.xX H.A1 hm (c:=.inst cf.1 (En n q cf.2)) ⟨hne,(Ow _ hne).trans h1,_,_,Jp,hR.xX rfl hv,by exact abu V4 hds hpl⟩ (λb o _ hb e=>(Ow b hb).trans e) rfl rfl,rfl⟩)) gA
 intro w;delta id at w;(try dsimp-zetaHave only at w);refine(?F:gC _) _ w;exactλp _=>p
end
theorem Sl{k:Int}{n j:Nat}(h:0<=k/\k.toNat=j\/k<0/\0<=k+n/\(k+n).toNat=j)(b:j<n)(a:n<=eu):bl.List.listFitsIndex k=true:=by
 rw[jP]at a;rcases h with⟨h,e⟩|⟨h,e,_⟩;·exact fitsIndex_of h (o32 a rfl (e▸b))
 ·exact fitsIndex_neg h (o38 a rfl e)
theorem toNat_of{k:Int}{n j:Nat}(h:0<=k/\k.toNat=j\/k<0/\0<=k+n/\(k+n).toNat=j)(h0:0<=k):k.toNat=j:=h.elim (·.2) λh=>absurd h.1 (bY.mpr h0)
theorem E5{prog:jj}{w:se}{A:b9}{E:ai->ak->Prop}{s:ak}{l:Addr}{vs:List ai}{ep:Nat}{k:Int}{j:Nat}{x:ai}{Q:Option (Nat×ai)->ak->Prop}{f:Int->Sem (Option (Nat×ai))}(e:∀i,f (.ofNat i)=seqItemAt l i>>=λr=>pure (r.map (i,·)))(c:∀i,f (.negSucc i)=bl.List.listItems (.ref l)>>=λxs=>pure ((J9 (Int.negSucc i) xs.size).bind λi=>xs[i]?.map (i,·)))(b:s.heap.get? l=some (gc vs ep))(d:J9 k vs.length=some j)(h0:0<=k->k.toNat=j)(a:vs[j]?=some x)(q:Q (some (j,x)) s):aJ (dF prog w) A (f k) Q E s:=by
 have a:vs.toArray[j]?=some x:=by rw[uS];exact a
 cases k with|ofNat n=>cases h0 (bb n);rw[e];refine af (wpAny_seqItemAt b rfl (ay ?_));rw[show Int.toNat (Int.ofNat n)=n from rfl]at a;rw[a];exact q|negSucc n=>rw[c];refine af (af (wy b rfl (ay (ay ?_))));rw[aN,d,Bu,a];exact q
theorem yh{prog:jj}{w:se}{A:b9}{E:ai->ak->Prop}{s:ak}{l:Addr}{vs:List ai}{ep:Nat}{k:Int}{j:Nat}{t:Tok}{v:ai}{Q:Unit->ak->Prop}(d:s.heap.get? l=some (gc vs ep))(q:ju k vs.length=some j)(c:vs.length<=eu)(p:∀e f,e.get? l=some (gc (vs.set j v) f)->Heap.SameBut l s.heap e->Q () {s with heap:=e}):aJ (dF prog w) A (rf (.ref l) (.int k t) v) Q E s:=by
 have h:s.heap.IsList l vs.toArray:=cD d;have r:(gc vs ep).data=.seq vs.toArray ep:=rfl;have u:=jP;refine uU (wV q) λh1 n m=>?_;have a:∃i,(s.heap.update l (Obj.mapSeq (·.setIfInBounds j v))).get? l=some (gc (vs.set j v) i):=by have g:=Heap.get?_update_self (Obj.mapSeq (·.setIfInBounds j v)) d (Obj.isFreed_of_seq (Obj.data_mapSeq (o:=gc vs ep) rfl _).choose_spec);refine⟨if(vs.toArray.setIfInBounds j v).size==vs.toArray.size then ep else ep+1,?_⟩;refine zl g ?_;show some (⟨.type "list",none,.seq (vs.toArray.setIfInBounds j v) (if(vs.toArray.setIfInBounds j v).size==vs.toArray.size then ep else ep+1),#[]⟩:Obj)=_;exact zl (List.setIfInBounds_toArray _ _ _) rfl
 revert a;intro b;refine zE b λi a=>?_;clear b;unfold rf;try with_reducible refine aZ ?_
 refine af (VI h.typeIs (by decide) ?_);refine af (Kd (name:=Str.ofString "__setitem__") h.typeIs F.slot_list_setitem (mP F.slot_list_setitem h.typeIs F.entry_list_setitem ?_ (F.args_list_setitem_3 _ _ _)));show aJ _ _ (bl.List.listSubscript? (.int k t)>>=_) _ _ s;refine af (wpAny_listSubscript_int (Sl m n c) (af (E5 (λ_=>rfl) (λ_=>rfl) d h1 (toNat_of m) (aX n) (af (wpAny_setSeqItemAt d r ?_)))));first|exact af (ay (ay ⟨.none,rfl,ay (p _ _ a (Heap.SameBut.update ..))⟩))|exact ay ⟨.none,rfl,ay (p _ _ a (Heap.SameBut.update ..))⟩
section
variable{prog:jj}{w:se}{A:b9}{E:ai->ak->Prop}{s:ak}
theorem K5{I a:Addr}{vs:List ai}(C:A.handled=none)(r:a≠I)(m:Nat):∀(i:Nat)(s:ak)(Q:List ai->ak->Prop),s.heap.IsListIter I a i->s.heap.IsList a vs.toArray->i+m<=vs.length->(∀q z,q.IsListIter I a (i+m)->q.IsList a vs.toArray->(∀b o,b∉[I]->s.heap.get? b=some o->q.get? b=some o)->Q ((vs.drop i).take m) {s with heap:=q,toks:=z})->aJ (dF prog w) A (draw (.ref I) m) Q E s:=by
 induction m with
 |zero=>intro i s Q j t _ u;show aJ _ _ (pure []) Q E s;exact ay (by simpa using u s.heap s.toks j t λ_ _ _ e=>e)
 |succ m D=>
  intro i s Q j t n u;have y:i<vs.length:=by exact abm n
  have W:=Gs.list (prog:=prog) (w:=w) C I a r vs.toArray;show aJ _ _ (Ue (.ref I)>>=_) Q E s;refine af (W.item i s _ _ (by simpa using y) ⟨j,t⟩ λv h₁ z x c d=>?_);dsimp only;refine af (aZ (D (i+1) _ _ c.1 c.2 (by exact abq n) λp l k f g=>ay ?_));have x:vs[i]?=some v:=by simpa using x
  have F:vs.drop i=v::vs.drop (i+1):=by obtain⟨h,e⟩:=aU.mp x;rw[j8 h,e]
  have:=u p l (by rw[show i+(m+1)=i+1+m by exact abr];exact k) f λb o B e=>g b o B (d b o B e);rw[F,Rw]at this;exact this
theorem w7{a:Addr}{vs:List ai}{Q:List ai->ak->Prop}(n:A.handled=none)(l:s.heap.IsList a vs.toArray)(v:∀m t,(∀b o,s.heap.get? b=some o->m.get? b=some o)->Q vs {s with heap:=m,toks:=t}):aJ (dF prog w) A (CE (.ref a) vs.length none) Q E s:=by
 refine(?H:gB (by
  have i:a≠s.heap.objs.size:=by refine dq l λo u _=>?_;clear l;exact cq (Heap.lt_size u)
  unfold CE;refine af ?_;unfold notIterableAtAll;refine af (t7 l.typeIs F.slot_list_iter.lookup ?_);refine ay ?_;simp only[iS,if_false];refine af (aZ (VE l ?_));refine af (aZ (K5 n i vs.length 0 _ _ ⟨_,Heap.get?_push_size _ rfl,rfl,rfl⟩ (l.push _) (by exact abp) λh₁ t c h d=>?_));have j:Ka vs.length (List.drop 0 vs)=vs:=by refine zl qb ?_;exact lS (bf _)
  refine zl j ?_;refine zl (if_neg (by simp)) ?_;have W:=Gs.list (prog:=prog) (w:=w) n s.heap.objs.size a i vs.toArray;rw[bO]at c;refine af (aZ (W.done _ _ _ ⟨by simpa using c,h⟩ λk f g=>?_));simp only[Option.isSome_none,iS,if_false];refine ay (v k f λb o e=>?_);have r:b∉[s.heap.objs.size]:=λq=>by replace e:=ao.mp q▸e;rewrite[eU]at e;cases e
  exact g b o r (d b o r (Kp.push _ _ b o e)))) gA
 intro w;delta id at w;(try dsimp-zetaHave only at w);refine(?F:gC _) _ w;exactλp _=>p
end
abbrev AE(t:Expr):Prop:=∀env a,tL (t::a) env=(false,gZ t env)::tL a env
abbrev Ye(a:List Expr):Prop:=∀env,tL a env=a.map λt=>(false,gZ t env)
theorem Ye.cons{t:Expr}{a:List Expr}(h:AE t)(k:Ye a):Ye (t::a):=λenv=>(h env a).trans (congrArg ((false,gZ t env)::·) (k env))
abbrev Y1(t:Expr):Prop:=∀a env,dQ [t] a env=pure none
abbrev Hu(e:Expr):Prop:=∀b k p a env,dQ [.Tuple b k p] e env=pure none/\swapsWithSole [.Tuple b k p] e a env=pure false
def zL(a:Bool×PV)(y:ai)(c:Addr):Prop:=a.1=true/\y=.ref c
noncomputable def E6:List (Bool×PV)->List ai->Addr->Prop|a::as,y::ys,c=>zL a y c\/E6 as ys c|_,_,_=>False
noncomputable def w8(N:Addr->Prop):List (Bool×PV)->List ai->Cf->Prop|[],ys,_=>ys=[]|a::as,ys,g=>∃y us,ys=y::us/\HR N a y g/\w8 N as us g/\∀c,zL a y c->¬E6 as us c
structure Sn(N:Addr->Prop)(g:Cf)(c:Addr):Prop where
 n:N c
 z:g.v.z c=none
 m:¬Ad g.v.m c
 bK:∃vs ep,g.h.get? c=some (gc vs ep)
theorem HR.cj{N:Addr->Prop}{a:Bool×PV}{y:ai}{g:Cf}(r:HR N a y g){c:Addr}(h:zL a y c):Sn N g c:=by obtain⟨f,p⟩:=a;obtain⟨h1,rfl⟩:=h;cases h1;obtain⟨xs,ad,vs,ep,j,e,b,l,k,d,hz,i⟩:=r;cases e;exact⟨d,hz,i,vs,ep,b⟩
theorem w8.cj{N:Addr->Prop}{g:Cf}{c:Addr}{as:List (Bool×PV)}:∀{ys:List ai},w8 N as ys g->E6 as ys c->Sn N g c:=by induction as with|nil=>intro _ r h;cases r;exact h.elim|cons _ _ d=>intro _ r h;refine wF r λy us a h1 b _=>?_;clear r;subst a;exact h.elim h1.cj λh=>d b h
structure Ox(g g':Cf)(c:Addr):Prop where
 bK:∀vs ep,g.h.get? c=some (gc vs ep)->g'.h.get? c=some (gc vs ep)
 z:g'.v.z c=none
 m:¬Ad g'.v.m c
theorem HR.keep{N N':Addr->Prop}{a:Bool×PV}{y:ai}{g g':Cf}(b:g.v.Le g'.v)(n:∀c,N c->zL a y c->N' c)(k:∀c,zL a y c->Ox g g' c)(r:HR N a y g):HR N' a y g':=by obtain⟨f,p⟩:=a;cases f with|false=>exact VR.eX b r|true=>obtain⟨xs,ad,vs,ep,j,e,d,o,l,i,_,_⟩:=r;have h:=k ad ⟨rfl,e⟩;exact⟨xs,ad,vs,ep,j,e,h.bK _ _ d,o.eX b,l,n _ i ⟨rfl,e⟩,h.z,h.m⟩
theorem w8.keep{N N':Addr->Prop}{g g':Cf}(e:g.v.Le g'.v){as:List (Bool×PV)}:∀{ys:List ai},(∀c,N c->E6 as ys c->N' c)->(∀c,E6 as ys c->Ox g g' c)->w8 N as ys g->w8 N' as ys g':=by induction as with|nil=>intro _ _ _ r;exact r|cons _ _ i=>intro _ n k r;refine wF r λy us b h1 f d=>?_;clear r;subst b;exact⟨y,us,rfl,h1.keep e (λc a h=>n c a (.inl h)) λc h=>k c (.inl h),i (λc a h=>n c a (.inr h)) (λc h=>k c (.inr h)) f,d⟩
theorem w8.length{N:Addr->Prop}{g:Cf}{as:List (Bool×PV)}:∀{ys:List ai},w8 N as ys g->ys.length=as.length:=by induction as with|nil=>intro _ r;cases r;rfl|cons _ _ c=>intro _ r;refine wF r λy us a _ b _=>?_;clear r;subst a;exact congrArg (·+1) (c b)
theorem w8.plain{N:Addr->Prop}{g:Cf}{xs:List PV}:∀{ys:List ai},dt g.v xs ys->w8 N (xs.map λv=>(false,v)) ys g:=by induction xs with|nil=>intro _ r;exact r|cons _ _ h=>intro _ r;refine d0 r λv f a e b=>?_;clear r;subst a;exact⟨v,f,rfl,e,h b,λc d=>by injection d.1⟩
theorem Sn.dD{C:Cx}{k:List aI}{N:Addr->Prop}{g g':Cf}{c:Addr}(h:Sn N g c)(b:St C k g)(x:BA (.at k g) g'):Ox g g' c:=by obtain⟨vs,ep,a⟩:=h.bK;exact⟨λus e a=>x.keep _ _ a h.m (b.dP a k7) id,x.za h.z a id,x.RN h.m a⟩
noncomputable def rsR:Kt (List (Bool×PV)) (List ai):=⟨λb=>w8 λa=>b.get? a=none,λ{b d x y g}k r=>w8.keep (.refl _) (λc a _=>k c a) (λc h=>⟨λ_ _ e=>e,(w8.cj r h).z,(w8.cj r h).m⟩) r⟩
def xH(S:Sc)(a:List Expr)(f:R.Env->M (List (Bool×PV))):Prop:=∀F o g,Here S F o g->Sm S F o rsR (VC (a.map λe=>(false,eval e F.env))) (f F.ρ) g
section
variable{S:Sc}{F:Fr}{o:Or}{g g':Cf}{e:Expr}{es:List Expr}{f:R.Env->M (Bool×PV)}{fs:R.Env->M (List (Bool×PV))}
theorem K6:xH S [] λ_=>M.pure []:=λF o g H r e a=>spliced_nil (H.V7 (Rl:=rsR) e.symm rfl)
theorem Hv(u:lJ S e f)(E:xH S es fs):xH S (e::es) λs=>M.bind (f s) λv=>M.bind (fs s) λvs=>M.pure (v::vs):=λF o g H r B q=>by refine spliced_cons (H.go (Rl:=resR) (u F _ g H.self) B q λa y g1 d _ i w=>?_);refine aY (E F _ g1 d.self _ rfl (lx i q)) (λus G l=>l.el λas C es j m t=>?_) λ_ _ l=>l.el λa p g' es j x z y=>⟨a,p,g',es,(i.symm.trans (pJ j)),⟨x.st,d.toHr.dD x.dD⟩,z,y.pH (λa e=>d.bK.dD.dO a e) λ_ h=>h⟩;subst es;have D:=d.step m;have b:HR (λa=>o.g.h.get? a=none) a y g1:=HR.of w λ_ h=>h;exact⟨_,C,rfl,(lu j).symm.trans i|>.symm,D.bK,y,us,rfl,b.keep m.dD.le (λ_ h _=>h) λc h=>(b.cj h).dD d.bK.st m.dD,rsR.pH (λa e=>d.bK.dD.dO a e) t,λc h1 A=>by refine zEE ((b.cj h1).bK) λvs ep k=>?_;have:g1.h.get? c=none:=(w8.cj t A).n;replace this:=k▸this;cases this⟩
inductive Y2(S:Sc)(F:Fr)(o:Or)(r:jb Sx Unit)(s:ak):Prop|mk(ρ:R.Env)(ω:Nat->Addr)(g:Cf)(e:g.s=s)(ho:r=.ok () ⟨ρ,g.t⟩)(wk:Wk S {F with ρ:=ρ,ω:=ω} o g)
theorem Y2.el{S:Sc}{F:Fr}{o:Or}{r:jb Sx Unit}{s:ak}{P:Prop}(h:Y2 S F o r s)(f:∀a b g,g.s=s->r=.ok () ⟨a,g.t⟩->Wk S {F with ρ:=a,ω:=b} o g->P):P:=h.casesOn f
def Oy(S:Sc)(b:aI->ai->Sem Unit)(m:(Bool×PV)->T Unit):Prop:=∀F o g a y r,Wk S F o g->HR o.new a y g->(∀c,zL a y c->¬w0 F c)->m a ⟨F.ρ,g.t⟩=r->r≠.aS->aJ S.C.M F.A (b F.env y) (λ_=>Y2 S F o r) (uD S F o r) g.s
def K7(S:Sc)(a:aI->List (ai->Sem Unit))(b:List (Bool×PV)->T Unit):Prop:=∀F o g as ys r,Wk S F o g->w8 o.new as ys g->(∀c,E6 as ys c->¬w0 F c)->b as ⟨F.ρ,g.t⟩=r->r≠.aS->aJ S.C.M F.A (xU (a F.env) ys) (λ_=>Y2 S F o r) (uD S F o r) g.s
theorem E7{n:Str}{i:Nat}(d:eI S.sc S.nm n i=true):Oy S (λenv v=>Bs env n v) λa=>T.env λe=>some (jd e i (iW a)):=λF o g a y r x l h k p=>x.nz d l (λc h1 j=>h c ⟨h1,j⟩) λs' b c _ _ m=>⟨_,b,⟨g.v,g.t,s'⟩,rfl,k.symm,m⟩
theorem Wk.Y3(x:Wk S F o g){a:Bool×PV}{y:ai}(l:HR o.new a y g)(m:∀c,zL a y c->¬w0 F c):∃v,g.v.Le v/\Wk S F o ⟨v,g.t,g.s⟩/\VR v a.2 y:=by obtain⟨f,p⟩:=a;cases f with|false=>exact⟨g.v,.refl _,x,l⟩|true=>obtain⟨xs,ad,vs,ep,r,j,d,C,B,u,hz,A⟩:=l;cases r;have b:=m ad ⟨rfl,j⟩;have E:=x.en.keep (g':=⟨R.iP g.v ad (gc vs ep),g.t,g.s⟩) (P:=λa=>a≠ad) (mi hz) ⟨λ_ h=>h,λ_ _ _ h _=>h⟩ (λa D _ z k=>(pG k).trans z) (λ_ _ _ h _=>h) (λq=>b (.inl (.inl q.symm))) (λn c e q=>b (.inl (.inr ⟨n,q▸e⟩))) λi xs h q=>b (.inr ⟨i,xs,h,q⟩);exact⟨_,mi hz,⟨⟨⟨x.ok,⟨x.bK.st.qp d hz A (x.bK.st.dP d k7),x.bK.dD.qp hz u.symm⟩,x.sub,x.A1,x.al,x.dj⟩,E⟩,x.frame,x.BS,x.w⟩,.mk ad vs ep j (if_pos rfl) (C.eX (mi hz)) B⟩
theorem zM{b:aI->ai->Sem Unit}{m:PV->R.Env->M Unit}(h:∀F o g p y r,Here S F o g->VR g.v p y->m p F.ρ g.t=r->r≠.aS->aJ S.C.M F.A (b F.env y) (Ok S.C F.k o eqR r) (Ex S.C F.k o pI r) g.s):Oy S b λa=>T.ex (m a.2):=λF o g a y r x q j c l=>by refine pg (x.Y3 q j) λv w d u=>?_;replace c:T.ex (m a.2) ⟨F.ρ,g.t⟩=r:=c;exact aY (h F (.at F.k ⟨v,g.t,g.s⟩) ⟨v,g.t,g.s⟩ a.2 y _ d.self u rfl (zJ (c▸l))) (λ_ _ n=>n.el λ_ g' es i z _=>⟨F.ρ,F.ω,g',es,c.symm.trans (zI i),d.step z⟩) λ_ _ h=>d.ex h λ_ _ i=>c.symm.trans (w5 i)
variable{ob k:Expr}{fo fk:R.Env->M (Bool×PV)}{pos np:Pos}{n:Str}{i:Nat}
theorem Oz(X:Fx S.C){a:At}(d:lJ S ob fo):Oy S (λenv v=>gZ (.Attribute ob (Str.ofString (atName a)) pos) env v) λv=>T.ex λe=>M.bind (fo e) λb=>xt b.2 a v.2:=zM (m:=λp e=>M.bind (fo e) λb=>xt b.2 a p) λF o g p y r H w q c=>by refine af (aZ (H.tW (d F _ g H.self) q c λx u g1 t l j s=>?_));exact af (cY (af (aZ (aY (Bd X t s (w.eX l) j c) (λ_ _ h=>rg h) λ_ _ h=>h))))
theorem So(q:lJ S ob fo)(l:lJ S k fk):Oy S (λenv v=>gZ (.Subscript ob k pos) env v) λv=>T.ex λe=>M.bind (fo e) λc=>M.bind (fk e) λb=>R.setItem c.2 b.2 v.2:=zM (m:=λp e=>M.bind (fo e) λc=>M.bind (fk e) λb=>R.setItem c.2 b.2 p) λF o g p y r H D z d=>by refine af (aZ (H.tW (q F _ g H.self) z d λE u g1 j t s C=>af (aZ (j.tW (l F _ g1 j.self) s d λb w G B a x A=>?_))));exact af (cY (af (aZ (aY (Bc B (C.eX a) A ((D.eX t).eX a) x d) (λ_ _ h=>rg h) λ_ _ h=>h))))
theorem OA(I:i3 S.nm n i=true)(Y:lJ S k fk):Oy S (λenv v=>gZ (.Subscript (.Name n np) k pos) env v) λa=>T.bind (T.env (rA i)) λ_=>T.bind (T.ex fk) λq=>T.env (Kn i q.2 a.2):=by
 refine(?H:gB (by
  exactλF o g a y r x Q X P l=>by
   refine dq (Di P l) λ_ h0 N=>?_;obtain⟨rfl,xs,u⟩:=BU h0;refine pg (x.Y3 Q X) λv le z W=>?_;have G:=z.rd I;replace G:=u▸G;show aJ _ _ (gZ (.Subscript (.Name n np) k pos) F.env y) _ _ g.s;refine af (aZ (z.pO I G.rd (af (aZ (z.tW (Y F _ _ z.self) N l λq w d K U b J=>?_)))));have b:T.env (Kn i q.2 a.2) ⟨F.ρ,d.t⟩=r:=b;unfold T.env Kn at b;dsimp only at b;replace b:=u▸b;obtain⟨fl,Z⟩:=q;cases Z with
   |int j=>cases B:ju j xs.length with|none=>dsimp only at b;replace b:=B▸b;exact absurd b.symm l|some m=>dsimp only at b;replace b:=B▸b;refine zE J λt C=>?_;clear J;subst C;refine dq (w6 K.en u) λ_ _ D=>?_;obtain⟨vs,ep,O,h⟩:=D.bK;have c:=h.length;refine af (cY (af (aZ (yh O (c▸B) (c▸D.nV) λL V E A=>rg ?_))));exact⟨_,F.ω,⟨d.v,d.t,{d.s with heap:=L}⟩,rfl,b.symm,K.Ol (s':={d.s with heap:=L}) u (h.set m (W.eX U.dD.le)) (by refine zl t6 ?_;exact D.nV) E A rfl rfl⟩
   |_=>exact absurd b.symm l)) gA
 intro w;delta id at w;(try dsimp-zetaHave only[ff,fg,fi,fj,fm,lY,ib,ic,ie,ig,ij]at w);delta jJ nU at w;extract_lets+proofs+implicits+lift at w;refine(?F:gC _) _ w;exactλp _=>p
def mT(as:List (Bool×PV)):T Unit:=match as with|[]=>T.pure ()|_=>λ_=>.aS
def eY(m:(Bool×PV)->T Unit)(b:List (Bool×PV)->T Unit)(as:List (Bool×PV)):T Unit:=match as with|a::as=>T.bind (m a) λ_=>b as|_=>λ_=>.aS
theorem zO:K7 S (λ_=>[]) mT:=λF o g as ys r x d b a c=>by clear b;cases as with|cons=>exact absurd a.symm c|nil=>cases d;exact ay ⟨F.ρ,F.ω,g,rfl,a.symm,x⟩
theorem mW{j:aI->ai->Sem Unit}{d:aI->List (ai->Sem Unit)}{m:(Bool×PV)->T Unit}{L:List (Bool×PV)->T Unit}(h1:Oy S j m)(Z:K7 S d L):K7 S (λenv=>j env::d env) (eY m L):=λF o g as ys r x Q U B J=>by
 cases as with
 |nil=>exact absurd B.symm J
 |cons a as=>
  refine wF Q λy us P l A hd=>?_;clear Q;subst P;replace B:T.bind (m a) (λ_=>L as) ⟨F.ρ,g.t⟩=r:=B;show aJ _ _ (do Mz us (j F.env y);xU (d F.env) us) _ _ g.s;have O:∀c,w0 F c\/zL a y c->o.new c:=λc h=>h.elim (x.w c) λh=>(l.cj h).n;have x0:=x.re (W:=λc=>w0 F c\/zL a y c) (λ_=>.inl) O;refine af (aZ (aY (h1 F _ g a y _ x0 (l.keep (.refl _) (λc _ h=>.inl (.inr h)) λc h=>⟨λ_ _ e=>e,(l.cj h).z,(l.cj h).m⟩) (λc h=>U c (.inl h)) rfl (ox B J)) (λ_ s' K=>K.el λH I g' es u C=>?_) λ_ _ h=>?_));·
   subst es;have V:=(rP u).symm.trans B;have N:∀c,E6 as us c->¬(w0 F c\/zL a y c):=λc h q=>q.elim (U c (.inr h)) λq=>hd c q h;have E:w8 o.new as us g':=w8.keep C.bK.dD.le (λ_ a _=>a) (λc h=>by have k:=w8.cj A h;obtain⟨vs,ep,G⟩:=k.bK;exact⟨λus e u=>C.bK.dD.keep _ _ u k.m (λq=>x.bK.st.dP G k7 (x.A1 _ q)) (N c h),C.bK.dD.za k.z G (N c h),C.bK.dD.RN k.m G⟩) A;refine aY (Z {F with ρ:=H,ω:=I} o g' as us r (x.join O C) E (λc h q=>?_) V J) (λ_ _ K=>K.el λH I g' es u x=>⟨H,I,g',es,u,x⟩) λ_ _ h=>h;rcases C.w c q with v|v;·exact N c h v
   ·refine zEE ((w8.cj A h).bK) λvs ep G=>?_;have v:g.h.get? c=none:=v;replace v:=G▸v;cases v
  ·obtain⟨b,p,g',es,u,D,X,Y⟩:=uD.join x O h;exact⟨b,p,g',es,B.symm.trans (oU u),D,X,Y⟩
end
theorem yj{C:Cx}{A:b9}{s:ak}{E:ai->ak->Prop}{x:PV}{y:ai}{v:Vw}{xs:List PV}{Q:List ai->ak->Prop}(i:A.handled=none)(d:∀a o,v.z a=some o->s.heap.get? a=some o)(l:x=.bR xs\/x=.list xs)(n:VR v x y)(j:∀ys c g,dt v xs ys->Kp s.heap c->Q ys {s with heap:=c,toks:=g}):aJ C.M A (CE y xs.length none) Q E s:=by
 rcases l with rfl|rfl<;>obtain⟨a,vs,ep,rfl,h,f,_⟩:=n;·have:=Ke (prog:=C.prog) (w:=C.w) (E:=E) (Q:=Q) i (gy (d _ _ h)) λc m=>j vs c s.toks f λb o e=>m b o (λq=>by rw[q,eU]at e;cases e) e;rw[aN,f.length]at this;exact this
 ·rw[<-f.length];exact w7 i (cD (d _ _ h)) λc g k=>j vs c g f k
theorem sS{env:aI}(a:List Expr):(a.map λt=>((false:Bool),gZ t env)).findIdx? (·.1)=none/\(a.map λt=>((false:Bool),gZ t env)).map (·.2)=a.map λt=>gZ t env:=by refine⟨List.findIdx?_eq_none_iff.mpr λy b=>?_,by rw[bE];rfl⟩;obtain⟨t,_,rfl⟩:=aL.mp b;rfl
section
variable{S:Sc}{F:Fr}{o:Or}{g g1:Cf}{e:Expr}{f:R.Env->M (Bool×PV)}{fs:R.Env->M (List (Bool×PV))}{pos Hw K8:Pos}{r:jb Sx Fl}{ts es:List Expr}{ms:List (Bool×PV)->T Unit}{k k':Nat}
theorem zP{n:T Unit}{x:Sx}{t:Sem Unit}{s:ak}(e:T.bind n (λ_=>T.pure Fl.next) x=r)(h:aJ S.C.M F.A t (λ_=>Y2 S F o (n x)) (uD S F o (n x)) s):aJ S.C.M F.A t (λ_=>Ea S F o r .next) (uD S F o r) s:=aY h (λ_ _ d=>d.el λl m g' es a x=>⟨.next,l,m,g',es,e.symm.trans (rP a),x,rfl⟩) λ_ _ d=>d.el λb p g' es a c i j=>⟨b,p,g',es,e.symm.trans (oU a),c,i,j⟩
theorem Here.OB(x:Here S F o g){c:Addr}(h:g.h.get? c=none):¬w0 F c:=λq=>by refine zE (rQ x.en q) λb k=>?_;replace k:=h▸k;cases k
theorem Here.adq(x:Here S F o g){a:Bool×PV}{y:ai}(b:oL g.h a y g1):HR o.new a y g1/\∀c,zL a y c->¬w0 F c:=have k:HR (λc=>g.h.get? c=none) a y g1:=HR.of b λ_ h=>h;⟨k.imp λc h=>.inr (x.bK.dD.dO c h),λc h=>x.OB (k.cj h).n⟩
theorem Hx{t:Expr}{m:(Bool×PV)->T Unit}(h1:AE t)(i:Y1 t)(p:rR e)(h:lJ S e f)(l:Oy S (λenv v=>gZ t env v) m):oR S (λenv=>exec (.Assign [t] e pos) env) (T.bind (T.ex f) λv=>T.bind (m v) λ_=>T.pure .next):=λF o g r x j c=>Rx (x.go (h F _ g x.self) j c λa y g' n _ d b=>by refine zA (x.adq b) λk1 k2=>?_;refine zl (h1 _ _) ?_;exact zP d (l F o g' a y _ n k1 k2 rfl (ox d c))) (p _ _ _) (i _ F.env)
theorem OC(h1:Ye ts)(m:Hu e)(B:lJ S e f)(E:K7 S (λenv=>ts.map λt=>gZ t env) ms):oR S (λenv=>exec (.Assign [.Tuple ts k Hw] e pos) env) (T.bind (T.ex f) λv=>Ko ts.length ms v.2):=λF o g r x C j=>by
 refine Assign_Tuple (x.tW (B F _ g x.self) C j λa y g' i _ b u=>?_) (m _ _ _ _ F.env).2 (m _ _ _ 0 F.env).1;unfold Ko at b;cases q:oo a.2 with
 |none=>replace b:=q▸b;exact absurd b.symm j
 |some xs=>
  replace b:=q▸b;dsimp only at b;by_cases hl:xs.length=ts.length;case neg=>replace b:=if_neg hl▸b;exact absurd b.symm j
  replace b:=if_pos hl▸b;have l:a.2=.bR xs\/a.2=.list xs:=by obtain⟨G,p⟩:=a;clear u;cases p<;>first|exact(kK q).elim|(cases q;exact .inl rfl)|(cases q;exact .inr rfl)
  refine af (cY ?_);refine zl (h1 _) ?_;unfold unpack;refine zl ((sS ts).1) ?_;refine zl (aj _) ?_;refine zr hl ?_;refine af (aZ (yj x.ok.handled i.bK.st.fz l u λys A z d D=>?_));refine zl ((sS ts).2) ?_;exact zP b (E F o ⟨g'.v,g'.t,{g'.s with heap:=A,toks:=z}⟩ _ ys _ ⟨i.toHere.iu (s':={g'.s with heap:=A,toks:=z}) D rfl rfl,i.frame,i.BS,i.w⟩ (.plain d) (λc h=>absurd (w8.cj (N:=λ_=>False) (.plain d) h).n id) rfl (ox b j))
theorem Wk.bR(x:Wk S F o g){D:List (Bool×PV)->T Fl}(X:yg es)(Q:es.length<=1000)(V:xH S es fs)(d:∀J t as t',fs J t=.ok as t'->as.length=es.length)(e:T.bind (T.ex fs) D ⟨F.ρ,g.t⟩=r)(H:r≠.aS){P:List ai->ak->Prop}{p:Pos}(q:∀as ys g',as.length=es.length->Wk S F o g'->w8 o.new as ys g'->(∀c,E6 as ys c->¬w0 F c)->D as ⟨F.ρ,g'.t⟩=r->P ys g'.s):aJ S.C.M F.A (eval (.Tuple es k p) F.env) (λv b=>aJ S.C.M F.A (CE v es.length none) P (uD S F o r) b) (uD S F o r) g.s:=by refine VD ?_;refine zl (X _ _) ?_;refine aY (V F _ g x.self _ rfl (zJ (ox e H))) (λys _ K=>K.el λas g1 u i W a=>?_) λ_ _ h=>x.ex h λ_ _ i=>e.symm.trans (oU (w5 i));subst u;have I:=(rP (zI i)).symm.trans e;have y:=d _ _ _ _ i;have E:=w8.length a;refine⟨by refine zl E ?_;refine zl y ?_;exact aa (oP Q) mh,?_⟩;have L:(g1.h.push (vw ys 0)).IsTuple g1.h.objs.size ys.toArray:=gy (Heap.get?_push_size _ rfl);refine zl (show es.length=ys.toArray.size by rw[aN,E,y]) ?_;refine Ke x.ok.handled L λl O=>?_;have G:Kp g1.h l:=λc B e=>O c B (λq=>by have j:=Kp.push g1.h (vw ys 0) c B e;replace j:=q▸j;rewrite[eU]at j;cases j) (Kp.push _ _ c B e);have U:=(x.step W).toHere.iu (s':={g1.s with heap:=l}) G rfl rfl;exact q as ys ⟨g1.v,g1.t,{g1.s with heap:=l}⟩ y ⟨U,x.frame,x.BS,x.w⟩ (w8.keep (N:=λc=>g.h.get? c=none) (N':=o.new) (g:=g1) (g':=⟨g1.v,g1.t,{g1.s with heap:=l}⟩) (.refl _) (λc n _=>.inr (x.bK.dD.dO c n)) (λc h=>⟨λ_ _ e=>G _ _ e,(w8.cj a h).z,(w8.cj a h).m⟩) a) (λc h=>x.toHere.OB (w8.cj a h).n) I
theorem K9(h1:Ye ts)(b:ts.length=es.length)(w:yg es)(n:es.length<=1000)(m:∀env:aI,env.scope=S.sc->dQ [.Tuple ts k Hw] (.Tuple es k' K8) env=pure none)(p:xH S es fs)(a:∀j t as t',fs j t=.ok as t'->as.length=es.length)(q:K7 S (λenv=>ts.map λt=>gZ t env) ms):oR S (λenv=>exec (.Assign [.Tuple ts k Hw] (.Tuple es k' K8) pos) env) (T.bind (T.ex fs) λvs=>T.bind (ms vs) λ_=>T.pure .next):=λF o g r x l c=>by refine Assign_Tuple (aY (x.bR w n p a l c (P:=λys s=>aJ S.C.M F.A (xU (ts.map λt=>gZ t F.env) ys) (λ_=>Ea S F o r .next) (uD S F o r) s) λas ys g' _ u k1 k2 d=>zP d (q F o g' as ys _ u k1 k2 rfl (ox d c))) (λv i h=>?_) λ_ _ h=>h) rfl (m F.env x.en.scope);refine af (cY ?_);refine zl (h1 _) ?_;unfold unpack;refine zl ((sS ts).1) ?_;refine zl (aj _) ?_;refine zl b ?_;refine af (aZ (aY h (λitems s₂ h=>?_) λ_ _ h=>h));refine zl ((sS ts).2) ?_;exact h
theorem vH{a:R.Env}{i j:Nat}{s t:Slot}(h:i≠j):jd (jd a i s) j t=jd (jd a j t) i s:=funext λl=>by
 by_cases q:l=i;·subst q;rw[cJ h,fH,fH]
 ·by_cases q':l=j;·subst q';rw[fH,cJ q,fH]
  ·rw[cJ q',cJ q,cJ q,cJ q']
abbrev zQ(i:Nat)(a:Bool×PV):T Unit:=T.env λe=>some (jd e i (iW a))
theorem rS{n:Str}{i:Nat}(b:eI S.sc S.nm n i=true):Oy S (λenv=>bindName env n) (zQ i):=λF o g a y r x j c h d=>wpAny_bindName (E7 b F o g a y r x j c h d)
theorem Hy{i d:Str}{b a:Nat}{q u:Pos}(W:yg es)(D:es.length=2)(N:∀env:aI,env.scope=S.sc->dQ [.Tuple [.Name i q,.Name d u] k Hw] (.Tuple es k' K8) env=pure (some [i,d]))(O:xH S es fs)(B:∀I t as t',fs I t=.ok as t'->as.length=es.length)(C:b≠a)(n:eI S.sc S.nm i b=true)(m:eI S.sc S.nm d a=true):oR S (λenv=>exec (.Assign [.Tuple [.Name i q,.Name d u] k Hw] (.Tuple es k' K8) pos) env) (T.bind (T.ex fs) λvs=>T.bind (eY (zQ b) (eY (zQ a) mT) vs) λ_=>T.pure .next):=by refine(?H:gB (by exactλF o g r x L G=>by have A:=mW (rS m) (mW (rS n) zO);refine Assign_Tuple_swapped (names:=[i,d]) (aY (x.bR W (by exact abv D) O B L G λas ys g' Q V k1 k2 z=>?_) (λv E h=>by rw[D]at h;exact h) λ_ _ h=>h) rfl (N F.env x.en.scope);revert k1 k2 z;refine YI (Q.trans D) λl j=>?_;·intro k1 k2 z;obtain⟨y,us,rfl,h1,⟨s,J,rfl,K,rfl,_⟩,U⟩:=k1;have z:jb.ok Fl.next ⟨jd (jd F.ρ b (iW l)) a (iW j),g'.t⟩=r:=z;rw[vH C]at z;exact zP (show T.bind (eY (zQ a) (eY (zQ b) mT) [j,l]) (λ_=>T.pure Fl.next) ⟨F.ρ,g'.t⟩=r from z) (A F o g' [j,l] [s,y] _ V ⟨s,_,rfl,K,⟨y,_,rfl,h1,rfl,λc _ h=>h.elim⟩,λc P h=>U c (h.resolve_right id) (.inl P)⟩ (λc h=>k2 c (h.elim (λh=>.inr (.inl h)) λh=>.inl (h.resolve_right id))) rfl λh=>by injection h))) gA;intro w;delta id at w;(try dsimp-zetaHave only[ff,fg,fi,fj,fm,lY,ua,ub,uc,ib,ic,ie,ig,ij]at w);delta jJ nU at w;extract_lets+proofs+implicits+lift at w;refine(?F:gC _) _ w;exactλp _=>p
theorem Hz{l i j:Str}{d a b:Nat}{z B D:Pos}(hs:yg es)(P:es.length=3)(hw:∀env:aI,env.scope=S.sc->dQ [.Tuple [.Name l z,.Name i B,.Name j D] k Hw] (.Tuple es k' K8) env=pure (some [l,i,j]))(hg:xH S es fs)(L:∀Y t as t',fs Y t=.ok as t'->as.length=es.length)(O:d≠a)(K:d≠b)(G:a≠b)(u:eI S.sc S.nm l d=true)(s:eI S.sc S.nm i a=true)(y:eI S.sc S.nm j b=true):oR S (λenv=>exec (.Assign [.Tuple [.Name l z,.Name i B,.Name j D] k Hw] (.Tuple es k' K8) pos) env) (T.bind (T.ex fs) λvs=>T.bind (eY (zQ d) (eY (zQ a) (eY (zQ b) mT)) vs) λ_=>T.pure .next):=by refine(?H:gB (by exactλF o g r x er X=>by have J:=mW (rS y) (mW (rS s) (mW (rS u) zO));refine Assign_Tuple_swapped (names:=[l,i,j]) (aY (x.bR hs (by exact abw P) hg L er X λas ys g' l1 x' k1 k2 I=>?_) (λv U h=>by rw[P]at h;exact h) λ_ _ h=>h) rfl (hw F.env x.en.scope);revert k1 k2 I;refine ac8 (l1.trans P) λq n m=>?_;·intro k1 k2 I;obtain⟨E,us,rfl,h1,⟨A,Z,rfl,h2,⟨C,V,rfl,h3,rfl,_⟩,Q⟩,W⟩:=k1;have I:jb.ok Fl.next ⟨jd (jd (jd F.ρ d (iW q)) a (iW n)) b (iW m),g'.t⟩=r:=I;rw[vH O,vH K,vH G]at I;exact zP (show T.bind (eY (zQ b) (eY (zQ a) (eY (zQ d) mT)) [m,n,q]) (λ_=>T.pure Fl.next) ⟨F.ρ,g'.t⟩=r from I) (J F o g' [m,n,q] [C,A,E] _ x' ⟨C,_,rfl,h3,⟨A,_,rfl,h2,⟨E,_,rfl,h1,rfl,λc _ h=>h.elim⟩,λc N h=>W c (h.resolve_right id) (.inl N)⟩,λc N h=>h.elim (λh=>Q c h (.inl N)) λh=>W c (h.resolve_right id) (.inr (.inl N))⟩ (λc h=>k2 c (h.elim (λh=>.inr (.inr (.inl h))) λh=>h.elim (λh=>.inr (.inl h)) λh=>.inl (h.resolve_right id))) rfl λh=>by injection h))) gA;intro w;delta id at w;(try dsimp-zetaHave only[ff,fg,fi,fj,fm,lY,ua,ub,uc,ib,ic,ie,ig,ij]at w);delta jJ nU at w;extract_lets+proofs+implicits+lift at w;refine(?F:gC _) _ w;exactλp _=>p
end
theorem La{C:Cx}{g:Cf}{k:List aI}:(∀env∈k,Frm C g env)->g.h.FunFrames C.h0 k:=by induction k with|nil=>intro _;exact trivial|cons env r i=>intro b;obtain⟨c,L,d,a⟩:=b env bC;obtain⟨m,o,l,ep,h1,f,_⟩:=a.ns;exact⟨by refine zl c ?_;decide,⟨L,o,d,a.h0,h1,λvs q=>by replace q:=f▸q;cases q⟩,i λe j=>b e (bw _ j)⟩
structure Nt(k:List aI)(V:Addr->Prop)(h h':Heap):Prop where
 keep:∀b o,h.get? b=some o->b∉frames k->¬V b->h'.get? b=some o
 slots:∀b o,h.get? b=some o->¬V b->∃sl,h'.get? b=some {o with slots:=sl}
 dO:∀b,h'.get? b=none->h.get? b=none
theorem Nt.ns{k:List aI}{V:Addr->Prop}{h b:Heap}(x:Nt k V h b){a:Addr}{m:Str->Option ai}(e:¬V a)(c:h.Ns a m):b.Ns a m:=by refine rq c λo i ep h1 f d=>?_;clear c;refine zE (x.slots a o h1 e) λsl g=>?_;exact⟨_,i,ep,g,f,d⟩
structure Ro(C:Cx)(k:List aI)(o:Or)(g:Cf):Prop where
 bK:Rn C k o g
 sub:∀a∈frames k,a∈o.F\/o.W a\/o.g.h.get? a=none
 A1:∀a∈o.F,a∈frames k
theorem Hr.ro{C:Cx}{d:Nat}{A:b9}{k:List aI}{o:Or}{g g':Cf}(x:Hr C d A k o g)(y:Rn C k o g'):Ro C k o g':=⟨y,x.sub,x.A1⟩
structure NtV(k:List aI)(b:Heap)(g:Cf)(a:Addr):Prop where
 n:b.get? a=none
 z:g.v.z a=none
 m:¬Ad g.v.m a
 f:a∉frames k
section
variable{C:Cx}{k:List aI}{o:Or}{g:Cf}{V:Addr->Prop}{s':ak}
theorem Ro.nt(x:Ro C k o g)(N:Nt k V g.h s'.heap)(d:∀a,V a->NtV k o.g.h g a)(j:s'.gens=g.s.gens)(l:s'.os=g.s.os):Ro C k o ⟨g.v,g.t,s'⟩:=by
 have S:=x.bK.st;have P:=x.bK.dD;refine⟨⟨{S with
  fz:=λa o e=>N.keep a o (S.fz a o e) (λq=>by replace e:=(S.frame q).z▸e;cases e) λq=>by replace e:=(d a q).z▸e;cases e
  cell:=λi c p e k=>(S.cell i c p e k).eX (.refl _) (λo e=>N.keep _ o e (λq=>(S.frame q).m (Ad.fst k)) λq=>(d _ q).m (Ad.fst k)) λo e=>N.keep _ o e (λq=>(S.frame q).m (Ad.snd k)) λq=>(d _ q).m (Ad.snd k)
  qi:=λenv h=>⟨(S.qi env h).kind,by refine dq ((S.qi env h).bK) λL e r=>?_;exact⟨L,e,r.h0,r.z,r.m,by obtain⟨m,n⟩:=r.ns;exact⟨m,N.ns (λq=>(d L q).f (eP.mpr ⟨env,h,e⟩)) n⟩⟩⟩},{P with
  keep:=λa b e h f w=>N.keep a b (P.keep a b e h f w) (λq=>(x.sub a q).elim f λq=>q.elim w λq=>by replace e:=q▸e;cases e) λq=>by replace e:=(d a q).n▸e;cases e
  qi:=λa h m e=>N.ns (λq=>(d a q).f (x.A1 a h)) (P.qi a h m e)
  dO:=λa e=>P.dO a (N.dO a e)
  gens:=j.trans P.gens
  os:=l.trans P.os}⟩,x.sub,x.A1⟩
end
theorem BV{w:Heap}{M:CB}{A:b9}{s:ak}{env:aI}{f:List aI}{L e:Addr}{l:ai}{m:Bool}{vs:Array ai}{d:Addr}{sl:Array (Option ai)}{Q:Unit->ak->Prop}{E:ai->ak->Prop}(C:A.frames=some (env::f))(J:env.frame=some L)(N:s.heap.FunFrames w (env::f))(H:s.heap.get? e=some ⟨.ref badAddr,some d,.fields vs,sl⟩)(y:e∉frames (env::f))(G:1<vs.size)(q:∀B F I,Nt (env::f) (λa=>a=e) s.heap B->s.heap.get? F=none->B.get? e=some ⟨.ref badAddr,some d,.fields (vs.setIfInBounds 1 (.ref F)),sl⟩->B.get? F=some {cls:=.type "traceback",data:=.fields I}->I[3]?=some (n6 L)->Q () {s with heap:=B}):aJ M A (do let a<-frameOf env;let t<-entryPlaceOf L m;let b<-EntryCells.newEntry l a .none (n6 L) .none t;setField (.ref e) 1 b) Q E s:=by
 refine af (wpAny_frameOf_fun C N J λh₁ c=>?_);refine af (wpAny_entryPlaceOf λt x=>?_);unfold EntryCells.newEntry newFields;refine af (VG ?_ (x.sizeOk5 _ _ _ _ _));have i:h₁.get? e=some ⟨.ref badAddr,some d,.fields vs,sl⟩:=(c.2.1 e y).trans H;have j:=Heap.get?_push_of_some (h:=h₁) {cls:=.type "traceback",dict:=none,data:=.fields ([l,.ref L,.none,n6 L,.none]++(if t.isEmpty then bL 6 ai.none else t)).toArray} i;refine Gv j rfl G ?_;have z:h₁.objs.size≠e:=pf (Heap.lt_size i);have v:=Obj.data_mapFields (o:=⟨.ref badAddr,some d,.fields vs,sl⟩) rfl (·.setIfInBounds 1 (ai.ref h₁.objs.size));have k:=Heap.get?_update_self (Obj.mapFields (·.setIfInBounds 1 (ai.ref h₁.objs.size))) j (Obj.isFreed_of_fields v);have n:=(Heap.get?_update_other (h₁.push {cls:=.type "traceback",dict:=none,data:=.fields ([l,.ref L,.none,n6 L,.none]++(if t.isEmpty then bL 6 ai.none else t)).toArray}) (Obj.mapFields (·.setIfInBounds 1 (ai.ref h₁.objs.size))) (dB z)).trans (Heap.get?_push_size h₁ rfl);have g:∀b o,b≠e->h₁.get? b=some o->((h₁.push {cls:=.type "traceback",dict:=none,data:=.fields ([l,.ref L,.none,n6 L,.none]++(if t.isEmpty then bL 6 ai.none else t)).toArray}).update e (Obj.mapFields (·.setIfInBounds 1 (ai.ref h₁.objs.size)))).get? b=some o:=λb o r p=>by rw[Heap.get?_update_other _ _ (dB r)];exact Heap.get?_push_of_some _ p
 refine q _ h₁.objs.size _ ⟨λb o p K D=>g b o D ((c.2.1 b K).trans p),λb o p D=>?_,λb p=>?_⟩ ?_ k n ?_;·obtain⟨u,h1⟩:=c.2.2 b o p;exact⟨u,g b _ D h1⟩
 ·clear H y q i j z n;cases q':s.heap.get? b with
  |none=>rfl
  |some o=>
   by_cases r:b=e;·clear g;subst r;rw[k]at p;cases p
   ·obtain⟨u,h1⟩:=c.2.2 b o q';rw[g b _ r h1]at p;cases p
 ·cases q':s.heap.get? h₁.objs.size with|none=>rfl|some o=>obtain⟨u,h1⟩:=c.2.2 _ o q';exact absurd (Heap.lt_size h1) (fT _)
 ·clear k g;rcases x with rfl|⟨_,_,_,_,_,_,_,rfl⟩<;>simp
def Y4(h:Heap)(e:Addr):Prop:=∃o vs T,h.get? e=some o/\o.data=.fields vs/\vs[1]?=some (.ref T)
section
variable{C:Cx}{k:List aI}{o:Or}{g:Cf}{A:b9}{e L:Addr}{told:PV}{E:ai->ak->Prop}{Q:Unit->ak->Prop}
theorem Nt.refl{h:Heap}:Nt k (λ_=>False) h h:=⟨λb o e _ _=>e,λb o e _=>⟨o.slots,e⟩,λ_ e=>e⟩
theorem Ro.Wg{env:aI}{j:List aI}(x:Ro C k o g)(hk:k=env::j)(hfr:A.frames=some k)(hf:env.frame=some L)(hF:RO o.g.h (frames k) (λx=>x=.none\/x=n6 L) g e told)(q:∀s',Ro C k o ⟨g.v,g.t,s'⟩->RO o.g.h (frames k) (·=n6 L) ⟨g.v,g.t,s'⟩ e told->Y4 s'.heap e->Q () s'):aJ C.M A (wD (.ref e) env) Q E g.s:=by
 refine(?H:gB (by
  subst hk;have X:=x.bK.st;have hlv:=x.bK.dD.dO;obtain⟨d,vs,y,t,hs,n,sl,K,hd,hv,P,hbd,N,J,O,G,B,hT⟩:=hF;have heF:=X.dP K λ_ _ q=>by injection q
  have hl:=La X.qi;unfold wD;refine zl hf ?_;have Ve:NtV (env::j) o.g.h g e:=⟨P,J,O,heF⟩;have z:∀w:ai,(vs.setIfInBounds 1 w)[1]?=some w/\1<(vs.setIfInBounds 1 w).size:=λw=>by simp[N]
  cases hT with
  |none h1=>refine af (qZ K rfl h1 ?_);refine zl (if_neg (by decide)) ?_;refine BV hfr hf hl K heF N λh' I ts S f D ht' h3=>?_;exact q {g.s with heap:=h'} (x.nt S (λa h=>h▸Ve) rfl rfl) ⟨d,_,y,t,hs,n,sl,D,S.keep d _ hd B (dB G),hv,P,hbd,(z _).2,J,O,G,B,.some I _ ts _ (z _).1 (λq=>by replace f:=q▸f;replace f:=K▸f;cases f) (λq=>by replace f:=q▸f;replace f:=hd▸f;cases f) (hlv I f) ht' rfl h3 rfl (X.gO f) (X.fM f)⟩ ⟨_,_,I,D,rfl,(z _).1⟩
  |some T oT ts u h1 U R V r m h3 hx W hmT=>
   have hTF:T∉frames (env::j):=X.dP r λ_ _=>by refine zl m ?_;exactλq=>by injection q
   refine af (qZ K rfl h1 ?_);refine zl (if_pos (show(ai.ref T !=ai.none)=true from rfl)) ?_;refine af (qZ r m h3 ?_);by_cases hxL:u=n6 L;·subst hxL;refine zl (if_pos (beq_self_eq_true _)) ?_;exact ay (q g.s x ⟨d,vs,y,t,hs,n,sl,K,hd,hv,P,hbd,N,J,O,G,B,.some T oT ts _ h1 U R V r m h3 rfl W hmT⟩ ⟨_,_,T,K,rfl,h1⟩)
   ·clear h1;cases hx.resolve_right hxL;rw[if_neg (show¬((ai.none==n6 L)=true)fromλh=>hxL (eq_of_beq h))];refine af (Gv r m (Gw.mp h3).1 ?_);have i:∀c,c≠T->(g.h.update T (Obj.mapFields (·.setIfInBounds 3 ai.none))).get? c=g.h.get? c:=λc l=>Heap.get?_update_other _ _ (dB l);have Y:=Heap.get?_update_self (Obj.mapFields (·.setIfInBounds 3 ai.none)) r (Obj.isFreed_of_fields (Obj.data_mapFields m _));have Z:(g.h.update T (Obj.mapFields (·.setIfInBounds 3 ai.none))).FunFrames C.h0 (env::j):=hl.of_keeps λc o l hnf=>⟨o,(i c λq=>by clear U R V W hmT hTF i Y;subst q;replace l:=r▸l;cases l;exact hnf _ m).trans l,rfl⟩;refine BV (s:={g.s with heap:=g.h.update T (Obj.mapFields (·.setIfInBounds 3 ai.none))}) hfr hf Z ((i e (dB U)).trans K) heF N λh' I ts' S f D ht' h3'=>?_;have b:g.h.get? I=none:=by
     by_cases l:I=T;·replace f:=l▸f;replace f:=Y▸f;cases f
     ·exact(i I l).symm.trans f
    have N':Nt (env::j) (λa=>a=e\/a=T) g.h h':=⟨λc o l hF hV=>S.keep c o ((i c λq=>hV (.inr q)).trans l) hF λq=>hV (.inl q),λc o l hV=>S.slots c o ((i c λq=>hV (.inr q)).trans l) λq=>hV (.inl q),λc l=>by
     have k:=S.dO c l;by_cases Y5:c=T;·replace k:=Y5▸k;replace k:=Y▸k;cases k
     ·exact(i c Y5).symm.trans k⟩
    exact q {g.s with heap:=h'} (x.nt N' (λa h=>h.elim (λh=>h▸Ve) λh=>h▸⟨V,W,hmT,hTF⟩) rfl rfl) ⟨d,_,y,t,hs,n,sl,D,S.keep d _ ((i d (dB R)).trans hd) B (dB G),hv,P,hbd,(z _).2,J,O,G,B,.some I _ ts' _ (z _).1 (λq=>by replace b:=q▸b;replace b:=K▸b;cases b) (λq=>by replace b:=q▸b;replace b:=hd▸b;cases b) (hlv I b) ht' rfl h3' rfl (X.gO b) (X.fM b)⟩ ⟨_,_,I,D,rfl,(z _).1⟩)) gA
 intro w;delta id at w;(try dsimp-zetaHave only at w);refine(?F:gC _) _ w;exactλp _=>p
theorem Ro.Dl(x:Ro C k o g){fs:List Addr}{Y:ai->Prop}{r:Option Addr}(hF:RO o.g.h fs Y g e told)(q:∀s',Ro C k o ⟨g.v,g.t,s'⟩->RO o.g.h fs (·=r.elim .none λf=>n6 f) ⟨g.v,g.t,s'⟩ e told->Q () s'):aJ C.M A (Kg (.ref e) r) Q E g.s:=by
 obtain⟨d,vs,y,t,X,n,sl,R,W,V,O,F,B,p,D,P,H,Z⟩:=hF;unfold Kg;cases Z with
 |none h1=>refine af (qZ R rfl h1 ?_);refine zl (if_neg (by decide)) ?_;exact ay (q g.s x ⟨d,vs,y,t,X,n,sl,R,W,V,O,F,B,p,D,P,H,.none h1⟩)
 |some T oT ts u h1 G z I m j h3 hx J K=>
  have S:T∉frames k:=x.bK.st.dP m λ_ _=>by refine zl j ?_;exactλq=>by injection q
  refine af (qZ R rfl h1 ?_);refine zl (if_pos (show(ai.ref T !=ai.none)=true from rfl)) ?_;have l:3<ts.size:=(Gw.mp h3).1;refine Gv m j l ?_;have b:∀c,c≠T->(g.h.update T (Obj.mapFields (·.setIfInBounds 3 (r.elim ai.none λf=>n6 f)))).get? c=g.h.get? c:=λc i=>Heap.get?_update_other _ _ (dB i);have w:=Heap.get?_update_self (Obj.mapFields (·.setIfInBounds 3 (r.elim ai.none λf=>n6 f))) m (Obj.isFreed_of_fields (Obj.data_mapFields j _));have N:Nt k (·=T) g.h (g.h.update T (Obj.mapFields (·.setIfInBounds 3 (r.elim ai.none λf=>n6 f)))):=⟨λc o i _ U=>(b c U).trans i,λc o i U=>⟨o.slots,(b c U).trans i⟩,λc i=>by
   by_cases Y5:c=T;·replace i:=Y5▸i;replace i:=w▸i;cases i
   ·exact(b c Y5).symm.trans i⟩
  exact q _ (x.nt (s':={g.s with heap:=_}) N (λa h=>h▸⟨I,J,K,S⟩) rfl rfl) ⟨d,vs,y,t,X,n,sl,(b e (dB G)).trans R,(b d (dB z)).trans W,V,O,F,B,p,D,P,H,.some T _ _ _ h1 G z I w (Obj.data_mapFields j _) (by simp[l]) rfl J K⟩
end
section
variable{S:Sc}{F:Fr}{o:Or}{g g':Cf}{α:Type}{pos:Pos}{body:List Stmt}
theorem uD.UJ{r:jb Sx α}{v:ai}{s':ak}{E n:ai->ak->Prop}(x:Wk S F o g)(h:uD S F o r v s')(q:∀a,uD S F o r v a->E v a):aJ S.C.M F.A (wD v F.env) (λ_ a=>Gx S.C.M F.A F.env E v a) n s':=by obtain⟨e,c,g1,G,l,f,rfl,p⟩:=h;obtain⟨d,D,_⟩:=x.BS;subst G;refine(x.toHr.ro f).Wg D x.ok.frames x.frame p λs1 u w b=>?_;unfold Gx;refine rq b λJ I H k i j=>?_;clear b;refine af (qZ (s:=s1) k i j ?_);rewrite[if_neg (show¬((ai.ref H==ai.none)=true)fromλh=>by injection h)];refine u.Dl w λB y m=>q _ ⟨e,c,⟨g1.v,g1.t,B⟩,rfl,l,y.bK,rfl,m.pH (λ_ h=>h) λv z=>.inr ?_⟩;refine zl z ?_;refine zl x.frame ?_;rfl
def Y6(S:Sc)(e:Expr)(f:R.Env->M Bool):Prop:=∀F o g,Here S F o g->Sm S F o eqR (tw e F.env (eval e F.env)) (f F.ρ) g
theorem Lb{c:Expr}{fb:Nat->R.Env->M Bool}{mb m:Nat->T Fl}(h0:∀x,m 0 x=.aS)(hs:∀n,m (n+1)=T.bind (T.ex (fb n)) λt=>if t then T.bind (mb n) (Dk (m n))else T.pure .next)(N:Nat)(hc:∀n,n<N->Y6 S c (fb n))(hb:∀n,n<N->oR S (λenv=>qf body env) (mb n)):oR S (λenv=>exec (.While c body [] pos) env) (m N):=by
 refine(?H:gB (by
  exactλF o g r x er E=>by
   have V:∀v i,uD S F o r v i->notedBy S.C.M F.A F.env (λe s'=>Gx S.C.M F.A F.env (uD S F o r) e s') v i:=λv i h=>h.UJ x λ_ h=>h;refine wpAny_While (codeAny_whileLoop (λn s'=>n<=N/\∃d l g',g'.s=s'/\Wk S {F with ρ:=d,ω:=l} o g'/\m n ⟨d,g'.t⟩=r) ?_ N ⟨bf _,F.ρ,F.ω,g,rfl,x,er⟩);rintro n s'⟨J,d,l,g1,z,X,B⟩;subst z;cases n with
   |zero=>rw[h0]at B;exact absurd B.symm E
   |succ k=>
    rw[hs k]at B;refine aY (X.go (Rl:=eqR) (hc k (VJ J) _ _ g1 X.self) B E λa t K W _ j O=>?_) (λ_ _ h=>h) V;cases O;cases a with
    |false=>rw[if_neg aK];exact ei ⟨.next,d,l,K,rfl,j.symm,W,rfl⟩
    |true=>
     rw[if_pos rfl];have j:T.bind (mb k) (Dk (m k)) ⟨d,K.t⟩=r:=j;refine aY (hb k (VJ J) {F with ρ:=d,ω:=l} o K _ W rfl (ox j E)) (λf s3 L=>?_) λv s3 L=>V v s3 ?_;·obtain⟨I,q,u,P,z,D,U,Q⟩:=L;subst z;have Y:=(rP (f:=Dk (m k)) D).symm.trans j;clear D;cases I with|next=>cases Q;exact⟨k,cB k,ji J,q,u,P,rfl,U,Y⟩|ret v=>obtain⟨y,rfl,hv⟩:=Q;exact(⟨.ret v,q,u,P,rfl,Y.symm,U,y,rfl,hv⟩:Ea S F o r (.ret y) P.s)
     ·obtain⟨b,p,g',z,D,G,Z,I⟩:=L;exact⟨b,p,g',z,j.symm.trans (oU D),G,Z,I⟩)) gA
 intro w;delta id at w;(try dsimp-zetaHave only[ff,fg,fi,fj,fm,lY,ib,ic,ie,ig,ij]at w);delta jJ nU at w;extract_lets+proofs+implicits+lift at w;refine(?F:gC _) _ w;exactλp _=>p
theorem sU{k:AZ}{vs items:List PV}(h:di [] k vs=some items)(t:aH):di t k vs=some items/\kG vs items t:=by
 have c:∀p∈vs,∀l,p≠.ref l:=λp b l e=>by refine dq (uC h p b l e) λd h _=>?_;exact by injection h
 refine⟨?_,λp b l e=>absurd e (c p b l)⟩;cases k with
 |val=>refine dq (Oe h) λp a h=>?_;subst a;cases p with|ref l=>exact absurd rfl (c _ (.head _) l)|_=>exact h
 |_=>exact h
theorem Wk.wr{W:Addr->Prop}{s':ak}(x:Wk S F o g)(y:Wr o g s'.heap W)(h:∀a,W a->¬w0 F a)(b:s'.gens=g.s.gens)(c:s'.os=g.s.os):Wk S F o ⟨g.v,g.t,s'⟩:=⟨x.toHere.wr y (λi xs e q=>h _ q (.inr ⟨i,xs,e,rfl⟩)) b c,x.frame,x.BS,x.w⟩
theorem Wk.Y7{a:Expr}{tg:List Nat}{t:Bool}{p:PV}{y:ai}{e:R.Env}{Q:Unit->ak->Prop}{E:ai->ak->Prop}(x:Wk S F o g)(j:zz S.sc S.nm t a tg)(D:xF g.v g.h p y t)(f:eV tg p F.ρ=some e)(q:∀s' d,(∀b m,¬w0 F b->g.h.get? b=some m->s'.heap.get? b=some m)->(∀c,w0 {F with ρ:=e,ω:=d} c->w0 F c)->Wk S {F with ρ:=e,ω:=d} o ⟨g.v,g.t,s'⟩->Q () s'):aJ S.C.M F.A (gZ a F.env y) Q E g.s:=zB j x.toHere (W:=w0 F) (λn b _ z=>have w:w0 F b:=.inl (z.elim (λh=>.inl h.2) λh=>.inr ⟨n,h.2⟩);⟨w,x.w b w⟩) D f λs' d r B H=>by
 have l:∀c,w0 {F with ρ:=e,ω:=d} c->w0 F c:=λc h=>h.imp id λh=>by refine lB h λi xs h1 u=>?_;clear h;have k:i∉tg:=λq=>zG f i q xs h1;exact⟨i,xs,(rO f i k).symm.trans h1,(B i k).symm.trans u⟩
 exact q s' d r l ⟨H,x.frame,x.BS,λc h=>x.w c (l c h)⟩
structure Y8(S:Sc)(F:Fr)(o:Or)(v:Vw)(Si:Nat->Heap->Prop)(wr:List Addr)(b:PV->T Fl)(items:List PV)(r:jb Sx Fl)(n i:Nat)(ρ:R.Env)(ω:Nat->Addr)(g:Cf):Prop where
 hn:n+i=items.length+1
 hi:i<=items.length
 wk:Wk S {F with ρ:=ρ,ω:=ω} o g
 e:A7 b (items.drop i) ⟨ρ,g.t⟩=r
 it:Si i g.h
 wz:∀c∈wr,g.v.z c=none/\¬Ad g.v.m c/\¬w0 {F with ρ:=ρ,ω:=ω} c
 le:v.Le g.v
theorem Lc{F:α->T Fl}{a:α}{r:List α}:A7 F (a::r)=T.bind (F a) (Dk (A7 F r)):=rfl
theorem Sp{j D:Expr}{tg:List Nat}{t:Bool}{k:AZ}{f:R.Env->M (List PV)}{mb:T Fl}(V:zz S.sc S.nm t j tg)(X:xG S t D k f)(adw:∀env x,AW D env x=pure x)(Y:oR S (λenv=>qf body env) mb):oR S (λenv=>exec (.For j D body [] pos) env) (T.bind (T.ex f) λvs=>λs=>match di [] k vs with|some items=>A7 (λJ=>T.bind (T.env (eV tg J)) λ_=>mb) items s|none=>.aS):=by
 refine(?H:gB (by
  exactλF o g r x er hr=>by
   have hM:∀{vs t'},f F.ρ g.t=.ok vs t'->∃items,di [] k vs=some items/\A7 (λJ=>T.bind (T.env (eV tg J)) λ_=>mb) items ⟨F.ρ,t'⟩=r:=λ{vs t'}e=>by have O:=(rP (zI e)).symm.trans er;cases q:di [] k vs with|none=>replace O:=q▸O;exact absurd O.symm hr|some items=>replace O:=q▸O;exact⟨items,rfl,O⟩
   have hX:∀y s,Ex S.C F.k (.at F.k g) pI (f F.ρ g.t) y s->uD S F o r y s:=λy s h=>x.ex h λ_ _ P=>er.symm.trans (oU (w5 P));have hE:∀v s'',uD S F o r v s''->notedBy S.C.M F.A F.env (λe s'=>Gx S.C.M F.A F.env (uD S F o r) e s') v s'':=λv s'' h=>h.UJ x λ_ h=>h;refine wpAny_For (X F (.at F.k g) g _ _ x.self (zJ (ox er hr)) (λvs t' P=>(hM P).imp λ_ h=>(sU h.1 t').1) hX λvs items I g1 P hi R=>?_) (adw F.env);refine dq (hM P) λady hi0 O=>?_;cases(sU hi0 g1.t).1.symm.trans hi;obtain⟨wr,Si,it,U,N⟩:=R.it;have x1:=x.step R.bK;have nw:∀c∈wr,o.g.h.get? c=none:=λc d=>x.bK.dD.dO c (N c d).1;refine codeAny_forLoop_any (λn s'=>∃i ρ ω g',g'.s=s'/\Y8 S F o g1.v Si wr _ items r n i ρ ω g') ?_ (items.length+1) ⟨0,F.ρ,F.ω,g1,rfl,rfl,cy _,x1,O,U,λc d=>⟨(N c d).2.1,(N c d).2.2,x.OB (N c d).1⟩,.refl _⟩;rintro n s'⟨i,ρ,ω,l,es,hn,hil,x2,u,hS,K,Q⟩;subst es;have E:∀h',(∀c B,c∉wr->l.h.get? c=some B->h'.get? c=some B)->Wr o l h' (·∈wr):=λh' hk=>⟨λc d=>⟨.inr (nw c d),(K c d).1,(K c d).2.1⟩,hk,λc d _=>nw c d,λc d=>by refine lB (it.bK _ _ hS c d) λo' fs k1 k2=>?_;exact⟨o',k1,(λ_ _ q=>by replace q:=k2▸q;cases q),λ_ q=>by replace q:=k2▸q;cases q⟩⟩;cases hx:items[i]? with
   |none=>clear hn;cases gH hil (j9.mp hx);replace u:=XT▸u;refine it.done l.s _ _ hS λh' tk hk=>ei ?_;exact⟨.next,ρ,ω,⟨l.v,l.t,{l.s with heap:=h',toks:=tk}⟩,rfl,u.symm,x2.wr (s':={l.s with heap:=h',toks:=tk}) (E h' hk) (λc d=>(K c d).2.2) rfl rfl,rfl⟩
   |some p=>
    have L:i<items.length:=(aU.mp hx).1;replace u:=j8 L▸u;replace u:=(aU.mp hx).2▸u;replace u:=Lc▸u;refine dq (Di (β:=Fl) rfl (ox u hr)) λW m _=>?_;have eF:∀t',T.bind (T.env (eV tg p)) (λ_=>mb) ⟨ρ,t'⟩=mb ⟨W,t'⟩:=λt'=>by unfold T.bind T.env;dsimp only;exact zl m rfl
    refine aY (it.item j i l.s p _ _ V.UG (λa B z=>x2.bK.st.fz a B (Q.1 a B z)) hx (V.bR m) hS λy h1 tk hit hS1 hk=>?_) (λr s₁ h=>by revert h;intro hzz;refine dq hzz λy e h=>?_;clear hzz;subst e;exact h) (λ_ _ h=>h);have x3:=x2.wr (s':={l.s with heap:=h1,toks:=tk}) (E h1 hk) (λc d=>(K c d).2.2) rfl rfl;refine x3.Y7 V (hit.eX Q) m λs4 ω4 hk4 hw4 G=>?_;have hS4:Si (i+1) s4.heap:=it.frame _ F.k ⟨l.v,l.t,{l.s with heap:=h1,toks:=tk}⟩ ⟨l.v,l.t,s4⟩ hS1 x3.bK.st G.bK.st Q Q (λc d B e=>hk4 c B (K c d).2.2 e) (sU hi0 _).2;have x5:=G.re (λ_ h=>h) G.w;refine aY (Y {F with ρ:=W,ω:=ω4} _ ⟨l.v,l.t,s4⟩ _ x5 rfl (by refine zr (eF _) ?_;exact ox u hr)) (λf s5 h5=>?_) λv s5 h5=>hE v s5 ?_;·
     obtain⟨fl,ρ5,ω5,g5,es,ho5,Z,fr⟩:=h5;subst es;have e5:=(rP (f:=Dk (A7 _ (items.drop (i+1)))) ((eF _).trans ho5)).symm.trans u;have x7:=G.join G.w Z;clear ho5;cases fl with
     |next=>
      cases fr;have al:∀c∈wr,∃B fs,s4.heap.get? c=some B/\B.data=.fields fs:=it.bK _ _ hS4;refine⟨items.length+1-(i+1),by exact abx hn L,i+1,ρ5,ω5,g5,rfl,by exact aby L,L,x7,e5,it.frame _ F.k ⟨l.v,l.t,s4⟩ g5 hS4 G.bK.st x7.bK.st Q (Q.trans Z.bK.dD.le) (λc d B e=>?_) (sU hi0 _).2,λc d=>?_,Q.trans Z.bK.dD.le⟩;·refine lB (al c d) λob' fs k1 k2=>?_;exact Z.bK.dD.keep c B e (K c d).2.1 (λq=>G.bK.st.dP k1 (λ_ _ q=>by replace q:=k2▸q;cases q) (x.A1 c q)) λq=>(K c d).2.2 (hw4 c q)
      ·refine lB (al c d) λob' fs k1 k2=>?_;have nw:¬w0 {F with ρ:=W,ω:=ω4} c:=λq=>(K c d).2.2 (hw4 c q);exact⟨Z.bK.dD.za (K c d).1 k1 nw,Z.bK.dD.RN (K c d).2.1 k1,λq=>(Z.w c q).elim nw λh=>by have h:s4.heap.get? c=none:=h;replace h:=k1▸h;cases h⟩
     |ret v=>refine dq fr λy He hv=>?_;clear fr;subst He;exact(⟨.ret v,ρ5,ω5,g5,rfl,e5.symm,x7,y,rfl,hv.imp λa h=>h.elim (G.w a) λh=>.inr (G.bK.dD.dO a h)⟩:Ea S F o r (.ret y) g5.s)
    ·obtain⟨b,p,g',es,P,U,ey,fl⟩:=uD.join G G.w h5;exact⟨b,p,g',es,u.symm.trans (oU ((eF _).trans P)),U,ey,fl⟩)) gA
 intro w;delta id at w;(try dsimp-zetaHave only[ff,fg,fi,fj,fm,ib,ic,ie,ig,ij]at w);delta jJ nU at w;extract_lets+proofs+implicits+lift at w;refine(?F:gC _) _ w;exactλp _=>p
end
structure Ld(S:Sc)(fd:qg)(body:List Stmt)(ps:List Str)(lo np:Nat)(a:Addr):Prop where
 sc:fd.scope=S.sc
 bK:∃oc od osl,S.C.K.lookup a=some ⟨oc,od,.func fd,osl⟩
 body:fd.body=.stmts body
 kind:S.sc.kind=.function
 co:fd.scope.isCoroutine=false
 gen:fd.scope.isGenerator=false
 glb:fd.globals=fU
 bui:fd.builtins=p9
 clo:fd.closure=[]
 code:codeIn S.C.K fd.code fd.qualname=true
 np_:ps.length=np
 pnm:∀i x,S.nm.lookup x=some i->i<np->ps[i]?=some x
 nodup:ps.Nodup
 pk:∀x∈ps,S.sc.names.lookup x=some .local\/S.sc.names.lookup x=some .cell
 OD:∀x,S.sc.names.lookup x≠some .free
 bind:∀(s:ak)vs,Kp S.C.h0 s.heap->lo<=vs.length->vs.length<=np->BindsTo s fd ⟨vs,[]⟩ (ps.zip (vs++bL (np-vs.length) .none))
theorem w9{names:List (Str×eb)}:∀{n:Nat}{acc:List (Str×Addr)}{x:Str},(names.lookup x=some .cell\/(acc.lookup x).isSome=true)->((Kh n names acc).lookup x).isSome=true:=by
 induction names with
 |nil=>
  intro n acc x h;rcases h with h|h;·simp at h
  ·exact h
 |cons d r e=>
  obtain⟨y,a⟩:=d;intro n acc x h;show(List.lookup x (if a==.cell then Kh (n+1) r ((y,n)::acc)else Kh n r acc)).isSome=true;have b:∀c,(acc.lookup x).isSome=true->(((y,c)::acc).lookup x).isSome=true:=λc h=>by
   refine zl bc ?_;cases x==y;·exact h
   ·rfl
  cases f:a==.cell with
  |true=>
   refine e ?_;rcases h with h|h;·rw[bc]at h;cases q:x==y with|true=>exact .inr (by refine zl bc ?_;refine zl q ?_;rfl)|false=>replace h:=q▸h;exact .inl h
   ·exact .inr (b n h)
  |false=>
   refine e ?_;rcases h with h|h;·rw[bc]at h;cases q:x==y with|true=>replace h:=q▸h;cases h;exact absurd f (by decide)|false=>replace h:=q▸h;exact .inl h
   ·exact .inr h
theorem HA{k:Str->Option eb}{x:Str}{a:List (Str×ai)}:∀{m:Str->Option ai},x∉a.map (·.1)->bindL k a m x=m x:=by
 induction a with
 |nil=>intro _ _;exact rfl
 |cons b r c=>
  obtain⟨n,v⟩:=b;intro m h;rw[bindL,c (λq=>h (bw _ q))];split;·have:x≠n:=λq=>h (by refine zl q ?_;exact bC);simp[this]
  ·rfl
theorem HB{k:Str->Option eb}{x:Str}{a:List (Str×ai)}:∀{m:Str->Option ai},x∉a.map (·.1)->bindC k a m x=m x:=by
 induction a with
 |nil=>intro _ _;exact rfl
 |cons b r c=>
  obtain⟨n,v⟩:=b;intro m h;rw[bindC,c (λq=>h (bw _ q))];split;·rfl
  ·have:x≠n:=λq=>h (by refine zl q ?_;exact bC);simp[this]
theorem zR{k:Str->Option eb}{x:Str}(d:k x=some .local){a:List (Str×ai)}{m:Str->Option ai}{v:ai}(b:(a.map (·.1)).Nodup)(h:(x,v)∈a):bindL k a m x=some v:=by
 induction a generalizing m with
 |nil=>cases h
 |cons p r c=>
  obtain⟨n,u⟩:=p;rw[aM,gJ]at b;rw[bindL];rcases av.mp h with e|h;·clear h c;cases e;rw[HA b.1,if_pos d];simp
  ·exact c b.2 h
theorem OE{k:Str->Option eb}{x:Str}(d:k x≠some .local){a:List (Str×ai)}{m:Str->Option ai}{v:ai}(b:(a.map (·.1)).Nodup)(h:(x,v)∈a):bindC k a m x=some v:=by
 induction a generalizing m with
 |nil=>cases h
 |cons p r c=>
  obtain⟨n,u⟩:=p;rw[aM,gJ]at b;rw[bindC];rcases av.mp h with e|h;·clear h c;cases e;rw[HB b.1,if_neg d];simp
  ·exact c b.2 h
theorem dt.Y9{v:Vw}(n):dt v (bL n .none) (bL n .none):=by induction n with|zero=>exact dt.nil|succ n a=>exact dt.cons rfl a
theorem mX{vs:List PV}{i:Nat}{ys:List PV}:mx vs i≠.cj ys:=λh=>by unfold mx at h;cases q:vs[i]? with|none=>replace h:=q▸h;cases h|some v=>replace h:=q▸h;cases h
section
variable{C:Cx}{S:Sc}{d:Nat}{A:b9}{k:List aI}{o:Or}{g g':Cf}{fd:qg}{body:List Stmt}{ps:List Str}{lo np:Nat}{a:Addr}{xs:List PV}{vs:List ai}{α β:Type}{F:Fr}
theorem Nl.deeper(h:Nl (d+1) A k)(env:aI):Nl d (A.deeper env) (env::k)where
 handled:=h.handled
 depth:=by have:=h.depth;show A.depth+1+4*d+20<_;exact o9 this
 units:=by have:=h.units;show A.units+3+16*d+200<_;exact abz this
 frames:=by show A.frames.map _=_;refine zl h.frames ?_;rfl
 guards:=h.guards
theorem oy{env:aI}(h:env.frame=some env.locals):frames (env::k)=env.locals::frames k:=rh h
theorem uD.Za{r:jb Sx α}{r':jb aH β}{v:ai}{s':ak}{E:ai->ak->Prop}(x:Wk S F o g)(i:F.k=F.env::k)(h:uD S F o r v s')(s:∀b t,r=.kc b t->r'=.kc b t):aJ S.C.M F.A (leaving F.env v) (λ_ f=>Ex S.C k o pI r' v f) E s':=by obtain⟨e,b,g1,P,K,c,rfl,D⟩:=h;subst P;unfold leaving;refine af ((x.toHr.ro c).Wg i x.ok.frames x.frame D λs1 J L _=>J.Dl L λm N B=>?_);have z:Rn S.C (F.env::k) o ⟨g1.v,g1.t,m⟩:=i▸N.bK;obtain⟨d,us,y,t,R,n,sl,a1,O,I,Q,u,G,w,H,p,j,l⟩:=B;exact⟨e,b,⟨g1.v,g1.t,m⟩,rfl,s _ _ K,⟨z.st.pop,z.dD⟩,rfl,d,us,y,t,R,n,sl,a1,O,I,Q,u,G,w,H,p,λq=>j (by rw[i,oy x.frame];exact bw _ q),l⟩
theorem OF(X:Ld S fd body ps lo np a)(H:Hr S.C (S.d+1) A k o g)(hv:dt g.v xs vs)(h1:lo<=xs.length)(L:xs.length<=np){Q:aI->ak->Prop}{E:ai->ak->Prop}{A':b9}(q:∀env s',Wk S ⟨A.deeper env,env::k,env,mx (gu np xs),λ_=>0⟩ (.at k g) ⟨g.v,g.t,s'⟩->Q env s'):aJ S.C.M A' (bindArgs fd ⟨vs,[]⟩) (λK N=>aJ S.C.M A' (newFunctionEnv fd.scope fd.globals fd.closure K (fd.qualname++".<locals>.") (some a) fd.code none fd.builtins) (λenv s₂=>s₂.heap.NoLimit/\Q env s₂) E N) E g.s:=by
 refine(?H:gB (by
  have r:=hv.length;have u:=H.bK.st;refine X.bind g.s vs u.keep (by refine zl r ?_;exact h1) (by refine zl r ?_;exact L) _ _ _ _ ?_;refine zl X.sc ?_;refine zl X.clo ?_;have R:dt g.v (gu np xs) (vs++bL (np-vs.length) ai.none):=by unfold gu;refine zl r ?_;exact hv.append (dt.Y9 _)
  have G:(vs++bL (np-vs.length) ai.none).length=np:=by refine zl ah ?_;refine zl MU ?_;refine zl r ?_;exact fK L
  generalize vs++bL (np-vs.length) ai.none=us at R G;have l:(ps.zip us).map (·.1)=ps:=by exact zl (List.map_fst_zip (by rw[X.np_,G];exact bf _)) rfl
  refine Gy X.kind (λx z=>?_) λenv f s' D=>?_;·
   have z:x.1∈ps:=by refine zr l ?_;exact dH z
   exact(X.pk x.1 z).imp id λh=>⟨h,w9 (.inl h)⟩
  have Y:=D.toInCall.keep;have U:env.scope=S.sc:=by refine zl f ?_;rfl
  have eG:env.globals=fU:=by refine zl f ?_;exact X.glb
  have eB:env.builtins=p9:=by refine zl f ?_;exact X.bui
  have V:env.frame=some env.locals:=by refine zl f ?_;rfl
  have eL:env.locals=g.h.objs.size:=by refine zl f ?_;rfl
  have eC:env.cells=Kh (g.h.objs.size+1) S.sc.names []:=by refine zl f ?_;rfl
  have J:g.h.get? env.locals=none:=by refine zl eL ?_;exact eU _
  have T:∀x c,env.cells.lookup x=some c->g.h.get? c=none:=λx c m=>Heap.get?_none_of_le (bT (eL▸D.above x c (ri m)));have O:=u.iu Y;have I:=D.toInCall.ns;have hg:s'.gens=g.s.gens/\s'.os=g.s.os:=by obtain⟨h,tk,rfl⟩:=D.toInCall.same;exact⟨rfl,rfl⟩
  refine⟨S.C.lim.keeps λb o e=>Y b o (u.keep b o e),q env s' ?_⟩;have hE:kE S.sc S.nm ⟨A.deeper env,env::k,env,mx (gu np xs),λ_=>0⟩ ⟨g.v,g.t,s'⟩:={
   scope:=U
   kind:=X.kind
   globals:=eG
   builtins:=eB
   slot:=λx i z=>by
    show vE _ env x 0 (((gu np xs)[i]?).elim .bB .val);cases q:(gu np xs)[i]? with
    |none=>trivial
    |some p=>
     refine dq (R.get q) λv P Z=>?_;have W:i<np:=G▸(aU.mp P).1;have hp:=X.pnm i x z W;have hm:(x,v)∈ps.zip us:=dp (i:=i) (GI.mpr ⟨hp,P⟩);refine⟨v,?_,Z⟩;rcases X.pk x (dp hp)with h|h;·
      have B:env.kindOf x=some .local:=by rewrite[fX];refine zl U ?_;exact h
      exact .inl ⟨B,_,I,zR B (by refine zl l ?_;exact X.nodup) hm⟩
     ·have B:env.kindOf x=some .cell:=by rewrite[fX];refine zl U ?_;exact h
      refine zE (cV.mp (w9 (n:=g.h.objs.size+1) (acc:=[]) (names:=S.sc.names) (x:=x) (.inl h))) λc m=>?_;replace m:=(AQ eC)▸m;have:=D.cell x c m;rw[OE (by refine zl B ?_;decide) (by refine zl l ?_;exact X.nodup) hm]at this;exact .inr ⟨.inl B,c,m,this⟩
   sN:=⟨u.fM J,u.gO J,_,I⟩
   cl:=λx c m=>⟨u.fM (T x c m),u.gO (T x c m),by refine dq (D.cell x c m) λo h1 L=>?_;exact⟨o,_,h1,L⟩⟩
   Yd:=λx z=>by
    rcases z with z|z;·refine zE (cV.mp (w9 (n:=g.h.objs.size+1) (acc:=[]) (names:=S.sc.names) (x:=x) (.inl z))) λc m=>?_;exact⟨c,by refine zl (show(⟨A.deeper env,env::k,env,mx (gu np xs),λ_=>0⟩:Fr).env.cells=_ from eC) ?_;exact m⟩
    ·exact absurd z (X.OD x)
   nI:=λx y c h1 L=>name_of_addr D.apart (ri h1) (ri L)
   apart:=λi j ys zs h=>absurd h mX
   rJ:=λi ys h=>absurd h mX}
  have mf:∀a∈frames (env::k),a=env.locals\/a∈frames k:=λa h=>by replace h:=oy V▸h;exact av.mp h
  have hSt:St S.C (env::k) ⟨g.v,g.t,s'⟩:={O with
   qi:=λe he=>by
    clear f D eG eB eL eC T hE mf;rcases av.mp he with rfl|he;·refine⟨by refine zl U ?_;exact X.kind,e.locals,V,?_,u.gO J,u.fM J,_,I⟩;cases q:S.C.h0.get? e.locals with|none=>rfl|some o=>have:=u.keep _ _ q;replace this:=J▸this;cases this
    ·exact O.qi e he}
  exact{
   ok:=H.ok.deeper env
   bK:=⟨hSt,(BA.refl _ _ _).iu Y hg.1 hg.2⟩
   sub:=λa h=>(mf a h).elim (λh=>.inr (.inr (h▸J))) .inl
   A1:=λa h=>by refine zl (oy V) ?_;exact bw _ h
   al:=λa h=>u.oq h
   dj:=λ_ _ h=>h
   en:=hE
   frame:=V
   BS:=⟨k,rfl,rfl⟩
   w:=λc m=>.inr (by
    rcases m with(rfl|⟨y,hy⟩)|⟨i,ys,W,_⟩;·exact J
    ·exact T y c hy
    ·exact absurd W mX)})) gA
 intro w;delta id at w;(try dsimp-zetaHave only at w);refine(?F:gC _) _ w;exactλp _=>p
def Sq(Q E:ai->ak->Prop):Ui->ak->Prop:=λr s'=>match r with|.ok (.ret v)=>Q v s'|.ok _=>False|.error e=>E e s'
def mj(C:Cx)(d:Nat)(f:ai)(b:List PV->M (Bool×PV)):Prop:=∀A k o g xs ys r,Hr C d A k o g->dt g.v xs ys->b xs g.t=r->r≠.aS->Ed C.M A (.call f ⟨ys,[]⟩) (Sq (Ok C k o resR r) (Ex C k o pI r)) g.s
theorem mj.call{f:ai}{b:List PV->M (Bool×PV)}(h:mj C d f b):oQ C d f b:=λA k o g xs ys H i r e c=>Gz (h A k o g xs ys r H i e c)
theorem HC{c:FC}{s:cb}(X:Ld S fd body ps c.lo c.np a)(R:oR S (λenv=>qf body env) (yX s bx c.body)):mj S.C (S.d+1) (.ref a) (yY s c):=by
 refine(?H:gB (by
  exactλA k o g xs ys r H O e B=>by
   unfold yY at e;by_cases hc:c.lo<=xs.length/\xs.length<=c.np;case neg=>exact absurd ((if_neg hc).symm.trans e).symm B
   replace e:=(if_pos hc).symm.trans e;have Q:yX s bx c.body ⟨mx (gu c.np xs),g.t⟩≠.aS:=λq=>B (by rw[<-e,q]);obtain⟨V,U,L,u⟩:=X.bK;refine MV (by have:=H.ok.depth;exact abA this) (H.bK.st.keep a _ (S.C.A0 a _ u)) rfl X.co X.gen X.body (codeRec_of (λa o e=>H.bK.st.keep a o (S.C.A0 a o e)) X.code) ?_;refine OF X H O hc.1 hc.2 λenv J x=>codeAny_func (aY (R _ _ _ _ x rfl Q) (λf s₂ h=>?_) λv s₂ h=>?_);·obtain⟨m,N,T,g',z,j,K,I⟩:=h;subst z;have j:yX s bx c.body ⟨mx (gu c.np xs),g.t⟩=.ok m ⟨N,g'.t⟩:=j;rw[j]at e;have G:Rn S.C k (.at k g) g':=⟨K.bK.st.pop,K.bK.dD⟩;cases m with|next=>cases I;exact⟨_,g',rfl,e.symm,(H.step G).bK,(rfl:VR g'.v .none .none)⟩|ret v=>obtain⟨y,rfl,D⟩:=I;refine⟨_,g',rfl,e.symm,(H.step G).bK,?_⟩;obtain⟨m,p⟩:=v;clear e j;clear j;cases m with|false=>exact D|true=>exact yc.imp (λa h=>H.bK.dD.dO a (h.resolve_left id)) D
   ·refine aY (h.Za x rfl (r':=r) (E:=λP l=>Ex S.C k o pI r P l) λn t q=>?_) (λ_ l h=>?_) λ_ _ h=>h;·have q:yX s bx c.body ⟨mx (gu c.np xs),g.t⟩=.kc n t:=q;rw[q]at e;exact e.symm
    ·obtain⟨b,p,g',z,j,i,M,m⟩:=h;exact(⟨b,p,g',z,j,(H.step i).bK,M,m.pH (λa e=>H.bK.dD.dO a e) λ_ h=>h⟩:Ex S.C k o pI r v l))) gA
 intro w;delta id at w;(try dsimp-zetaHave only at w);refine(?F:gC _) _ w;exactλp _=>p
theorem Nl.OH{L:Addr}{rest:List ai}(h:Nl (d+1) A k):Nl d (A.under (.builtin "type.__call__" ⟨.ref L::rest,[]⟩)) k where
 handled:=h.handled
 depth:=by have h1:=h.depth;show A.depth+1+4*d+20<_;exact o9 h1
 units:=by have h1:=h.units;show A.units+1+16*d+200<_;exact abB h1
 frames:=h.frames
 guards:=h.guards
def Zb(c:Cl)(b:List PV->M (Bool×PV))(xs:List PV):M (Bool×PV):=M.bind (sE (.inst c [])) λo=>M.bind (iM (b (o::xs))) λr=>if isNone r.2 then M.pure (false,o)else aS
theorem HD(X:Fx C){c:Cl}{I:List PV->M (Bool×PV)}(U:mj C d (.ref (xD (iI c))) I):mj C (d+1) (.ref (cI c)) (Zb c I):=by
 refine(?H:gB (by
  exactλA k o g xs ys r H P e J=>by
   have e:M.bind (iM (I (.ref g.t.length::xs))) (λr=>if isNone r.2 then M.pure (false,.ref g.t.length)else aS) (g.t++[.inst c []])=r:=e;obtain⟨⟨f,p⟩,Z,h1,D⟩:=zH e J;cases p<;>first|exact absurd D.symm J|skip
   refine uU (X.cls c) λY W Q=>?_;have G:C.K.In g.h:=λa o e=>H.bK.st.keep a o (C.A0 a o e);have x:g.h.get? g.h.objs.size=none:=eU _;have y:g.h.get? (g.h.objs.size+1)=none:=Heap.get?_none_of_le (e9 _);have j:=H.bK.st;have E:Kp g.h ((g.h.push emptyDict).push (instObj (cI c) g.h.objs.size)):=(Kp.push _ _).trans (.push _ _);have T:=H.bK.iu (s':={g.s with heap:=(g.h.push emptyDict).push (instObj (cI c) g.h.objs.size)}) E rfl rfl;have O:((g.h.push emptyDict).push (instObj (cI c) g.h.objs.size)).get? (g.h.objs.size+1)=some (instObj (cI c) g.h.objs.size):=by have:=Heap.get?_push_size (g.h.push emptyDict) (o:=instObj (cI c) g.h.objs.size) rfl;rw[Heap.size_push]at this;exact this
   have R:=T.push (p:=⟨g.h.objs.size+1,g.h.objs.size,0⟩) (c:=.inst c []) ⟨XS _,O,[],0,Kp.push _ _ _ _ (Heap.get?_push_size _ rfl),.nil,cy _⟩ ⟨j.gO y,j.gO x⟩ ⟨j.fM y,j.fM x⟩ ⟨j.lH y,j.lH x⟩ ⟨H.bK.dD.dO _ y,H.bK.dD.dO _ x⟩;have L:Hr C d (A.under (.builtin "type.__call__" ⟨.ref (cI c)::ys,[]⟩)) k o ⟨⟨g.v.z,g.v.m++[⟨g.h.objs.size+1,g.h.objs.size,0⟩]⟩,g.t++[.inst c []],{g.s with heap:=(g.h.push emptyDict).push (instObj (cI c) g.h.objs.size)}⟩:=⟨H.ok.OH,R,H.sub,H.A1,H.al,H.dj⟩;have i:VR ⟨g.v.z,g.v.m++[⟨g.h.objs.size+1,g.h.objs.size,0⟩]⟩ (.ref g.t.length) (.ref (g.h.objs.size+1)):=⟨⟨g.h.objs.size+1,g.h.objs.size,0⟩,by refine zl j.iG ?_;show(g.v.m++[_])[g.v.m.length]?=_;refine zl (ec (bf _)) ?_;refine zl (lW _) ?_;rfl,rfl⟩;have b:=U _ k _ _ _ _ _ L.self (dt.cons i (P.eX (yD _ _))) h1 λh=>by injection h
   show Ed C.M A _ _ ⟨g.s.heap,g.s.gens,g.s.drawn,g.s.toks,g.s.os⟩;refine make_core (makes_of G Y) (looks_findIn G W) (λq=>bind_fn G q Q) (.inl rfl) (codeAny_mono b λr' s' n=>?_);clear h1 b;cases r' with
   |error e=>obtain⟨_,_,_,_,B,_,_,_⟩:=n;cases B
   |ok N=>
    cases N with
    |ret v=>obtain⟨a,g',V,B,l,u⟩:=n;cases B;refine⟨?_,_,g',V,D.symm,(L.step l).bK,VR.eX l.dD.le i⟩;clear D;cases f with|false=>exact u|true=>obtain⟨_,_,_,_,h,_⟩:=u;cases h
    |_=>exact n.elim)) gA
 intro w;delta id at w;(try dsimp-zetaHave only[ff,fg,fi,fj,fm,lY,ua,ub,uc,ib,ic,ie,ig,ij]at w);delta jJ nU at w;extract_lets+proofs+implicits+lift at w;refine(?F:gC _) _ w;exactλp _=>p
end
section
variable{prog:jj}{w:se}{A:b9}{E:ai->ak->Prop}{s:ak}{env:aI}
theorem zS{o:Expr}{name:Str}{d pos:Pos}{args:List Expr}{c:List (Bool×Sem ai)}{Q:ai->ak->Prop}(k:attributeBase o name env (eval o env)=eval o env)(l:((MA pos (wA args env)).all (λx=>!x.1)&&(backToKw pos (Q2 [] env)).all (λx=>x.1.isSome)&&decide (args.length+([]:List MB).length+(if([]:List MB).isEmpty then 0 else 1)<30))=true)(i:(d.endLine==pos.line)=true)(g:MA pos (wA args env)=c)(h:aJ (dF prog w) A (eval o env) (λp b=>∃f a,(∀t(n:ai×List ai->ak->Prop),n (f,a) b->aJ (dF prog w) A (getMethod p name t) n E b)/\aJ (dF prog w) A (callWith pos f a c []) Q E b) E s):aJ (dF prog w) A (eval (.Call (.Attribute o name d) args [] pos) env) Q E s:=by
 subst g;rewrite[arm_eval_Call];refine zl k ?_;refine af (aY h (λp b h₁=>?_) λ_ _ e=>e);refine lB h₁ λf a r q=>?_;clear h₁;refine af (cY ?_);have j:methodCallForm (args.length+([]:List MB).length) (MA pos (wA args env)) (backToKw pos (Q2 [] env))=true:=l;have m:methodCallPos true o env d pos=pure pos:=by unfold methodCallPos;simp[i]
 unfold methodCall;refine zl j ?_;refine af (aZ (r _ _ ?_));exact af (nS m q)
end
theorem Zc(a:At)(m:Mt)(t:Tok):(ai.str (Str.ofString (atName a)) t).isStr (Str.ofString (uB m))=false:=by
 have b:∀(a:At)(m:Mt),(ai.str (Str.ofString (atName a)) 0).isStr (Str.ofString (uB m))=false:=by intro a m;cases a<;>cases m<;>decide+kernel
 exact b a m
theorem pF.Wh{v:Vw}(m:Mt){fs:List (At×PV)}{ds:List gI}(h:pF v fs ds):AV (Str.ofString (uB m)) ds=some none:=by
 have f:ds.find? (·.key.isStr (Str.ofString (uB m)))=none:=by induction h with|nil=>rfl|cons a _ _ b=>obtain⟨t,a⟩:=a;rw[D7,a,Zc];exact b
 unfold AV;rw[f,h.NU];rfl
def Zd(m:Mt)(a:Fn->List PV->M (Bool×PV))(f:M (List PV))(v:PV):M (Bool×PV):=M.bind (qN m v) λk=>M.bind f λvs=>match k with|some f=>a f (v::vs)|none=>R.dictGet v vs
inductive OI(m:Mt)(v:PV)(t:aH):Option Fn->Prop|fn(c:Cl)(fs:List (At×PV))(f:Fn)(l:Nat)(e:v=.ref l)(h:t[l]?=some (.inst c fs))(k:MJ c m=some f):OI m v t (some f)|dict(l:Nat)(es:List (PV×PV))(e:v=.ref l)(h:t[l]?=some (.dict es))(k:m=.get):OI m v t none
theorem Lf{g:Type}{m:Mt}{v:PV}{t:aH}{k:Option Fn->M g}{r:jb aH g}(e:M.bind (qN m v) k t=r)(d:r≠.aS):∃x,OI m v t x/\k x t=r:=by
 refine(?H:gB (by
  cases h:instOf t v with
  |some p=>refine dq (instOf_inv h) λl a c=>?_;subst a;cases b:MJ p.1 m with|some f=>exact⟨_,.fn _ _ f l rfl c b,(show M.bind (qN m (.ref l)) k t=k (some f) t by unfold M.bind qN;refine zl h ?_;dsimp only;exact zl b rfl).symm.trans e⟩|none=>exact absurd (e.symm.trans (by unfold M.bind qN;refine zl h ?_;dsimp only;exact zl b rfl)) d
  |none=>
   by_cases hc:((dictAt t v).isSome&&decide (m=.get))=true;·refine zA (bF.mp hc) λh1 i=>?_;refine zE (cV.mp h1) λj hes=>?_;clear h1;refine dq (iZ hes) λl a c=>?_;subst a;exact⟨_,.dict l j rfl c (of_decide_eq_true i),(show M.bind (qN m (.ref l)) k t=k none t by unfold M.bind qN;refine zl h ?_;dsimp only;exact zl (if_pos hc) rfl).symm.trans e⟩
   ·exact absurd (e.symm.trans (by unfold M.bind qN;refine zl h ?_;dsimp only;exact zl (if_neg hc) rfl)) d)) gA
 intro w;delta id at w;(try dsimp-zetaHave only at w);refine(?F:gC _) _ w;exactλp _=>p
section
variable{S:Sc}{F:Fr}{o:Or}{g:Cf}{E:ai->ak->Prop}
theorem Be(H:Here S F o g){l:Nat}{c:CP}(J:g.v.m[l]?=some c){xs:List PV}{ys:List ai}(n:dt g.v xs ys){r:jb aH (Bool×PV)}(e:R.dictGet (.ref l) xs g.t=r)(d:r≠.aS):aJ S.C.M F.A (call (.builtin "dict.get") (.ref c.a::ys)) (Ok S.C F.k o resR r) E g.s:=by
 cases xs with
 |nil=>exact absurd e.symm d
 |cons k xs=>
  cases xs with
  |cons _ _=>exact absurd e.symm d
  |nil=>
   obtain⟨y,rfl,I⟩:=n.jO;unfold R.dictGet at e;dsimp only at e;clear n;cases b:dictAt g.t (.ref l)with
   |none=>rw[b]at e;exact absurd e.symm d
   |some j=>
    rw[b]at e;by_cases Wf:iU k j=true;case neg=>exact absurd ((if_neg Wf).symm.trans e).symm d
    replace e:=(if_pos Wf).symm.trans e;obtain⟨_,D,B⟩:=iZ b;cases D;have p:qO S.C g.v g.h c j:=H.bK.st.cell l _ c B J;obtain@⟨P,O,knd,i,kvs,ep,f,G,b,z,N,rfl,w⟩:=xx.by p.bK Wf I;refine call_meetsIn MW b.dictOf.typeIs PySem.F.entry_dict_get (PySem.F.args_dict_get_2 _ _) (meets_dict_get _ c.a w p.ns) ⟨_,b.dictOf.mapOf,?_⟩;have q:=H.iu (s':={g.s with toks:=g.s.toks+1}) (.refl _) rfl rfl;have L:=z.eH G f;generalize dw (i f) j=x at L e;generalize mZ kvs f=u at L⊢;cases L with|none=>exact q.tp e rfl|some K=>exact q.tp e K
theorem Lg(X:Fx S.C){m:Mt}{e:Expr}{j pos:Pos}{A:List Expr}{Y:R.Env->M (Bool×PV)}{f:R.Env->M (List PV)}{cf:Fn->List PV->M (Bool×PV)}(ho:lJ S e Y)(hb:zw e)(hs:yg A)(hl:A.length<20)(s:(j.endLine==pos.line)=true)(V:rM S A f)(W:∀c f,MJ c m=some f->oQ S.C S.d (.ref (xD f)) (cf f)):nX S (.Call (.Attribute e (Str.ofString (uB m)) j) A [] pos) λρ=>M.bind (Y ρ) λG=>Zd m cf (f ρ) G.2:=by refine(?H:gB (by refine cH (λF o g H r U z=>zS (hb _ _ _) (C6 hs hl) s (hs _ _) (H.tW (ho F _ g H.self) U z λG y g1 u _ e1 hy=>?_)) λ_ _=>rfl;obtain⟨x,hx,T⟩:=Lf e1 z;obtain⟨f',p⟩:=G;have Xk:=u.A0;clear e1 U;cases hx with|fn c fs f l O h k=>cases O;obtain⟨i,b,rfl⟩:=hy;have I:I3 g1.v g1.h i c fs:=u.bK.st.cell l _ i h b;obtain⟨ds,n,i1,i2,_⟩:=I.q8;have Q:=X.mok c m f k;unfold C3 at Q;rw[ax,ax,ax,ax]at Q;obtain⟨⟨⟨⟨m1,m2⟩,m3⟩,m4⟩,m5⟩:=Q;refine⟨.ref (xD f),[.ref i.a],λN Q' q=>method_fn Xk (instAt_of I.bK i1) (eq_of_beq m1) (eq_of_beq m2) (eq_of_beq m3) (eq_of_beq m4) (by show(lookIn _ (dictOf ds n)).map _=_;rw[lookIn_dict,i2.Wh m];rfl) q,?_⟩;exact callWith_of (P:=λh=>S.C.K.In h) (gP A) (λh X=>keeps_K m5 h X) (dW (u.go (Rl:=valsR) (V F _ g1 u.self) T z λxs ys g2 B D L t=>⟨B.A0,W c f k _ _ _ _ _ _ B.toHr (dt.cons (show VR g2.v (.ref l) (.ref i.a)from⟨i,D.2 _ _ b,rfl⟩) t) r L z⟩))|dict l J O h k=>clear W;cases O;subst k;obtain⟨i,b,rfl⟩:=hy;have hD:qO S.C g1.v g1.h i J:=u.bK.st.cell l _ i h b;obtain⟨ok,Z,_,_⟩:=hD.bK;refine⟨.builtin "dict.get",[.ref i.a],λN Q' q=>getMethod_builtin Z.dictOf.typeIs PySem.F.plainAttrs_dict MW PySem.F.type_dict_get Z.dictOf.mapOf.noDict q,?_⟩;exact callWith_of (P:=λ_=>True) (gP A) (λh _=>⟨.machine,.inr (.inl rfl),Looks.of_pure rfl⟩) (dW (u.go (Rl:=valsR) (V F _ g1 u.self) T z λxs ys g2 B D L t=>⟨trivial,Be B (D.2 _ _ b) t L z⟩)))) gA;intro w;delta id at w;(try dsimp-zetaHave only[ff,fg,fi,fj,fm,lY,ua,ub,uc,ib,ic,ie,ig,ij]at w);delta jJ nU at w;extract_lets+proofs+implicits+lift at w;refine(?F:gC _) _ w;exactλp _=>p
end
open PySem PySem.W
noncomputable abbrev rT(t:Addr):Array ai:=#[.ref t,.none,.none,.none,.bool false,.none]
section
variable{M:CB}{A:b9}{E:ai->ak->Prop}{h:Heap}{g:Array GenState}{d:Drawn}{t:Nat}{os:OsState}
variable{nm q:Str}{C N:Addr}{bs bm:List ai}{hdct:Bool}{sn:List Str}{sub:List ai}{ab:Bool}{col:Option Bool}{dd:Option Addr}{k0 k1 k2 k3 k5:Option ai}{Bn newId inN:String}{bmN:List ai}
theorem Lh{env:aI}{s:ak}{x:Sem ai}{Q:Flow->ak->Prop}(b:bm.contains (.type "BaseException")=true)(l:A.handled=none)(h:aJ M A x (λv a=>∃e t i,v=.ref e/\a.heap.get? C=some (q0 nm q C N bs bm hdct sn sub ab col dd k0 k1 k2 k3 k5 newId)/\a.heap.get? e=some ⟨.ref C,i,.fields (rT t),#[]⟩/\E (.ref e) a) E s):aJ M A (XZ env (some x) none) Q E s:=by
 refine(?H:gB (by
  have c:(ai.ref C::bm).contains (.type "BaseException")=true:=by refine zl iR ?_;refine zl b ?_;exact zl (Bool.or_true _) rfl
  unfold XZ;refine af (aY h (λv a h₁=>?_) λ_ _ x=>x);refine uV h₁ λe t i f j m k=>?_;clear h₁;subst f;obtain⟨n,g,d,o,os⟩:=a;repeat(first|with_reducible refine jl m ?_|with_reducible refine jl j ?_|(with_reducible refine xm j ?_;rewrite[c])|wp_step)
  exact wpAny_raiseNew_none l k)) gA
 intro w;delta id at w;(try dsimp-zetaHave only at w);refine(?F:gC _) _ w;exactλp _=>p
end
section
variable{prog:jj}{w:se}{A:b9}{R:Ui->ak->Prop}{E:ai->ak->Prop}{h:Heap}{g:Array GenState}{d:Drawn}{t:Nat}{os:OsState}
variable{nm q:Str}{C N:Addr}{bs bm:List ai}{hdct:Bool}{sn:List Str}{sub:List ai}{ab:Bool}{col:Option Bool}{dd:Option Addr}{k0 k1 k2 k3 k5:Option ai}{Bn newId inN:String}{bmN:List ai}
theorem E8(a:ME Bn newId inN bmN)(m:bm.contains (.type Bn)=true)(n:bm.contains (.type "AttributeError")=false)(l:bm.contains (.type "NameError")=false){rest:List ai}(k:h.get? C=some (q0 nm q C N bs bm hdct sn sub ab col dd k0 k1 k2 k3 k5 newId))(o:R (.ok (.ret (.ref (h.objs.size+1)))) ⟨(h.push {cls:=.type "tuple",data:=.seq rest.toArray}).push {cls:=.ref C,data:=.fields (rT h.objs.size)},g,d,t,os⟩)(e:rest.length<=jD):Ed (dF prog w) A (.builtin newId ⟨.ref C::rest,[]⟩) R ⟨h,g,d,t,os⟩:=by
 refine(?H:gB (by
  have c:=a.ends;have f:(ai.ref C::bm).contains (.type Bn)=true:=by rw[iR,m,Bool.or_true]
  have i:(ai.ref C::bm).contains (.type "AttributeError")=false:=by rw[iR,n];rfl
  have b:(ai.ref C::bm).contains (.type "NameError")=false:=by rw[iR,l];rfl
  refine codeAny_builtinAt a.entry ?_;unfold Builtin.«BaseException.__new__»;refine Yr ?_;show PySem.wpAt _ _ _ (stack>>=_) _ _ _;refine Yr (PySem.wpAt_stack λp j=>Ry ?_);wp_walk;refine Ry ?_;rw[a.owner];repeat(first|with_reducible refine wpAny_madeHere_exc a.canon k ?_|with_reducible refine jl k ?_|(with_reducible refine xm k ?_;first|rewrite[f]|rewrite[i]|rewrite[b])|wp_step)
  show R _ _;rw[Heap.size_push];exact o)) gA
 intro w;delta _root_.id at w;(try dsimp-zetaHave only at w);refine(?F:gC _) _ w;exactλp _=>p
theorem Bf{K:Frag}(v:ME Bn newId inN bmN)(J:bm.contains (.type Bn)=true)(L:bm.contains (.type "AttributeError")=false)(G:bm.contains (.type "NameError")=false){rest:List ai}{u:Addr}{Q:Fin->ak->Prop}(X:K.In h)(k:h.get? C=some (q0 nm q C N bs bm hdct sn sub ab col dd k0 k1 k2 k3 k5 newId))(D:findIn K (.ref C) "__init__"=some (some (.ref u)))(z:typeIn K (.ref u)=some (.type "function"))(m:∀S rest,peek K S (sj newId ⟨.ref C::rest,[]⟩)=some ())(j:rest.length<=jD)(B:∀s e t',(∀b o,h.get? b=some o->s.get? b=some o)->h.get? e=none->s.get? e=some ⟨.ref C,none,.fields (rT t'),#[]⟩->aJ (dF prog w) A (call (.ref u) (.ref e::rest)) (λr s'=>r=.none/\Q (.done (.ret (.ref e))) s') E ⟨s,g,d,t,os⟩):aJ (dF prog w) A (Builtin.«type.__call__» ⟨.ref C::rest,[]⟩) Q E ⟨h,g,d,t,os⟩:=by
 refine(?H:gB (by
  repeat(first|with_reducible refine jl k ?_|with_reducible refine wpAny_madeBy_exc k ?_|wp_step)
  refine codeAny_call_builtin_code (Code.quiet_builtin _ v.quiet) ((Looks.of_peek X (m _ rest)).here ?_);refine E8 v J L G k ?_ j;show aJ _ _ _ _ _ _;have n:∀b o,h.get? b=some o->((h.push {cls:=.type "tuple",data:=.seq rest.toArray}).push {cls:=.ref C,data:=.fields #[.ref h.objs.size,.none,.none,.none,.bool false,.none]}).get? b=some o:=λb o e=>Heap.get?_push_of_some _ (Heap.get?_push_of_some _ e);have i:=n _ _ k;have f:((h.push {cls:=.type "tuple",data:=.seq rest.toArray}).push {cls:=.ref C,data:=.fields #[.ref h.objs.size,.none,.none,.none,.bool false,.none]}).get? (h.objs.size+1)=some {cls:=.ref C,data:=.fields #[.ref h.objs.size,.none,.none,.none,.bool false,.none]}:=by heap_get
  have l:(ai.ref C::bm).contains (.ref C)=true:=by simp
  have c:K.In ((h.push {cls:=.type "tuple",data:=.seq rest.toArray}).push {cls:=.ref C,data:=.fields #[.ref h.objs.size,.none,.none,.none,.bool false,.none]}):=λa o e=>n a o (X a o e);unfold tI;repeat(first|with_reducible refine jl f ?_|(with_reducible refine xm i ?_;rewrite[l])|wp_step)
  show aJ _ _ (Gp (.ref C) _) _ _ _;refine(looks_findIn c D).here ?_;refine aZ (af ?_);refine(bind_fn c _ z).here ?_;refine af (aY (B _ (h.objs.size+1) h.objs.size n (Heap.get?_none_of_le (e9 _)) f) (λr s' y=>?_) λ_ _ x=>x);obtain⟨rfl,I⟩:=y;wp_walk;exact I)) gA
 intro w;delta id at w;(try dsimp-zetaHave only at w);refine(?F:gC _) _ w;exactλp _=>p
theorem Dm{K:Frag}(k:ME Bn newId inN bmN)(m:bm.contains (.type Bn)=true)(v:bm.contains (.type "AttributeError")=false)(u:bm.contains (.type "NameError")=false){rest:List ai}{j:Addr}{Q:ai->ak->Prop}(X:K.In h)(c:h.get? C=some (q0 nm q C N bs bm hdct sn sub ab col dd k0 k1 k2 k3 k5 newId))(s:findIn K (.ref C) "__init__"=some (some (.ref j)))(l:typeIn K (.ref j)=some (.type "function"))(i:∀S rest,peek K S (sj newId ⟨.ref C::rest,[]⟩)=some ())(a:rest.length<=jD)(n:∀f e t',(∀b o,h.get? b=some o->f.get? b=some o)->h.get? e=none->f.get? e=some ⟨.ref C,none,.fields (rT t'),#[]⟩->aJ (dF prog w) (A.under (.builtin "type.__call__" ⟨.ref C::rest,[]⟩)) (call (.ref j) (.ref e::rest)) (λr s'=>r=.none/\Q (.ref e) s') E ⟨f,g,d,t,os⟩):aJ (dF prog w) A (call (.ref C) rest) Q E ⟨h,g,d,t,os⟩:=by
 refine(?H:gB (by
  have y:=tc_lookup;have z:=tc_bind (.ref C);have x:(⟨h,g,d,t,os⟩:ak).TypeIs (.ref C) "type":=⟨_,c,rfl⟩;refine Gz (codeAny_of_tree ?_);show aJ _ _ (callAny (.ref C) _) _ _ _;repeat(any_goals(first|assumption|with_reducible refine jl c ?_|wp_step))
  refine⟨rfl,?_⟩;exact codeAny_call_builtin_at (Code.quiet_builtin _ (by decide+kernel)) entry_typeCall (wpAny_check_type_call_sub c (Bf k m v u X c s l i a n)))) gA
 intro w;delta id at w;(try dsimp-zetaHave only at w);refine(?F:gC _) _ w;exactλp _=>p
end
open PySem.Calls PyProof.Rows PySem.SeqAt
section
open Builtin Builtin.ObjectAttr
section
variable{prog:jj}{w:se}{A:b9}{K:Frag}{C x:Addr}{s:ak}{R:Ui->ak->Prop}
noncomputable def vI(C:Addr):List ai:=[.ref C,.ref 39,.type "Exception",.type "BaseException",.type "object"]
theorem zT(a:ai)(C:Addr):refuseLoop a "__setattr__" (vI C)=pure ():=by unfold vI;rw[refuseLoop_ref,refuseLoop_ref];exact PySem.F.store_Exception.passes a
theorem E9(C:Addr):(vI C).contains (.type "object")=true:=List.elem_iff.mpr (.tail _ (.tail _ (.tail _ (.tail _ (.head _)))))
def pQ(K:Frag)(C:Addr)(name:Str):Bool:=(clsIn K C).any (λa=>a.mro==vI C&&a.hasDict)&&takerIn K C name==some none&&sO (findIn K (.ref C) "__setattr__") "object.__setattr__"
theorem Fb{name:Str}(h:pQ K C name=true):∃a,clsIn K C=some a/\a.mro=vI C/\a.hasDict=true/\takerIn K C name=some none/\findIn K (.ref C) "__setattr__"=some (some (.builtin "object.__setattr__")):=by unfold pQ at h;rw[ax,ax]at h;obtain⟨a,b,h1⟩:=R.any_some h.1.1;rw[ax]at h1;exact⟨a,b,eq_of_beq h1.1,h1.2,eq_of_beq h.1.2,eq_of_beq h.2⟩
theorem Sr{E:ai->ak->Prop}{name:Str}{v:ai}{fs:Array ai}{sl:Array (Option ai)}{Q:Unit->ak->Prop}(X:K.In s.heap)(y:s.heap.get? x=some ⟨.ref C,none,.fields fs,sl⟩)(P:pQ K C name=true)(q:∀z d J n V t,(∀b o,b≠x->s.heap.get? b=some o->z.get? b=some o)->s.heap.get? d=none->d≠x->z.get? x=some ⟨.ref C,some d,.fields fs,sl⟩->z.get? d=some (dictOf [⟨J,.str name t,v⟩] n)->Q () {s with heap:=z,toks:=V}):aJ (dF prog w) A (IQ (.ref x) name v) Q E s:=by
 refine(?H:gB (by
  refine M4 (Fb P) λN D B G S J=>?_;have I:InstAt s.heap x ⟨.ref C,none,.fields fs,sl⟩ C none:=⟨y,rfl,rfl,trivial⟩;refine set_plain X I J ?_;have r:=PySem.F.store_object;have T:N.mro.isEmpty=false:=by refine zl B ?_;rfl
  have sub:Looks (dF prog w) s.heap (tI (.ref x) (.type "object")) true:=I.type.andThen (looks_mroIn X (by unfold mroIn;refine zl D ?_;refine zl (Bu _ _) ?_;refine zl (if_neg (by rw[T];decide)) ?_;refine zl B ?_;exact zl (E9 _) rfl));refine Q4 (s:={s with toks:=s.toks+1}) r.slot.plain r.entry (@check_slot (dF prog w) _ _ {s with toks:=s.toks+1} "object.__setattr__" "object" "__setattr__" (.ref x) [.str name s.toks,v] [] _ r.kind r.split sub (r.args (.ref x) (.str name s.toks) v) ?_);obtain⟨i,M,L⟩:=cg S;have W:Looks (dF prog w) s.heap (mroOf (.ref C)) N.mro:=(looks_clsIn X D).andThen .now;have U:Looks (dF prog w) s.heap (storeTaker? i) none:=by
   clear M;cases i with
   |none=>cases L;exact .now
   |some a=>
    obtain⟨b,j,e⟩:=f6 L;refine(looks_takesIn X j).andThen ?_;clear j;cases b;·exact .now
    ·cases e
  rewrite[osa_eq];refine zl (refuse_eq _ _) ?_;refine af (af (I.type.here (s:={s with toks:=s.toks+1}) (af (W.here (s:={s with toks:=s.toks+1}) ?_))));refine zl B ?_;refine zl (zT _ _) ?_;refine ay (af (I.type.here (s:={s with toks:=s.toks+1}) (af ((looks_findIn X M).here (s:={s with toks:=s.toks+1}) (af (U.here (s:={s with toks:=s.toks+1}) ?_))))));refine af (ay (af (af (wB y (af (Looks.here (s:={s with toks:=s.toks+1}) (looks_clsIn X D) ?_))))));refine zl G ?_;have g:(s.heap.push {cls:=.type "dict",data:=.dict #[]}).get? x=some ⟨.ref C,none,.fields fs,sl⟩:=Heap.get?_push_of_some _ y;have l:x≠s.heap.objs.size:=cq (Heap.lt_size y);dsimp only;simp only[typeHasDict,Bool.not_true,Bool.or_false,iS,if_false];refine af (wpAny_alloc' ?_);refine af (wpAny_update' g ?_);refine ay ?_;have h:((s.heap.push {cls:=.type "dict",data:=.dict #[]}).update x λo=>{cls:=o.cls,dict:=some s.heap.objs.size,data:=o.data,slots:=o.slots}).get? s.heap.objs.size=some {cls:=.type "dict",data:=.dict #[]}:=(Heap.get?_update_ne _ _ _ _ l.symm).trans (Heap.get?_push_at rfl rfl);have m:=Heap.get?_update_self (λo:Obj=>{cls:=o.cls,dict:=some s.heap.objs.size,data:=o.data,slots:=o.slots}) g rfl;have u:∀b o,b≠x->s.heap.get? b=some o->((s.heap.push {cls:=.type "dict",data:=.dict #[]}).update x λo=>{cls:=o.cls,dict:=some s.heap.objs.size,data:=o.data,slots:=o.slots}).get? b=some o:=λb o j e=>(Heap.get?_update_ne _ _ _ _ j).trans (Heap.get?_push_of_some _ e);generalize((s.heap.push {cls:=.type "dict",data:=.dict #[]}).update x λo=>{cls:=o.cls,dict:=some s.heap.objs.size,data:=o.data,slots:=o.slots})=h₁ at h m u⊢;show aJ _ _ (storeInDict s.heap.objs.size (.str name s.toks) name v) _ _ _;unfold storeInDict newKeyGuard;refine af (ay (af ?_));unfold nsSet;refine af (af (XU (ay (af (MD (af (wB h ?_)))))));dsimp only;have O:Rv name (#[]:Array gI)=false:=rfl;refine zl O ?_;have k:=putName_dict name (PyData.keyHash w.params name) (.str name (s.toks+1)) v [] 0;have c:=Heap.get?_update_self (Obj.putName name (PyData.keyHash w.params name) (.str name (s.toks+1)) v) h (by show(Obj.putName name (PyData.keyHash w.params name) (.str name (s.toks+1)) v (dictOf [] 0)).isFreed=false;refine zl k ?_;rfl);have c:_=some (Obj.putName name (PyData.keyHash w.params name) (.str name (s.toks+1)) v (dictOf [] 0)):=c;have f:∀b,b≠s.heap.objs.size->(h₁.update s.heap.objs.size (Obj.putName name (PyData.keyHash w.params name) (.str name (s.toks+1)) v)).get? b=h₁.get? b:=λb j=>Heap.get?_update_other _ _ (dB j);replace c:=k▸c;refine XW h ?_;refine af (XX c (XY (by simp[putL,bN])) ?_);exact ay (q _ _ _ _ _ _ (λb o j e=>(f b (cq (Heap.lt_size e))).trans (u b o j e)) (eU _) l.symm ((f x l).trans m) c))) gA
 intro w;delta _root_.id at w;(try dsimp-zetaHave only[ff,fg,fi,fj,fm,ib,ic,ie,ig,ij]at w);delta jJ nU at w;extract_lets+proofs+implicits+lift at w;refine(?F:gC _) _ w;exactλp _=>p
end
end
section
open Builtin Builtin.ObjectAttr
variable{prog:jj}{w:se}{A:b9}{K:Frag}{C x:Addr}{s:ak}{E:ai->ak->Prop}
def rU(K:Frag)(C:Addr)(name:Str):Bool:=hasDictIn K C&&findIn K (.ref C) name==some none&&sO (findIn K (.ref C) "__getattribute__") "BaseException.__getattribute__"&&findIn K (.ref C) "__getattr__"==some none&&subIn K (.ref C) (.type "BaseException")==some true
theorem Fc{name:Str}(h:rU K C name=true):hasDictIn K C=true/\findIn K (.ref C) name=some none/\findIn K (.ref C) "__getattribute__"=some (some (.builtin "BaseException.__getattribute__"))/\findIn K (.ref C) "__getattr__"=some none/\subIn K (.ref C) (.type "BaseException")=some true:=by unfold rU at h;rw[ax,ax,ax,ax]at h;exact⟨h.1.1.1.1,eq_of_beq h.1.1.1.2,eq_of_beq h.1.1.2,eq_of_beq h.1.2,eq_of_beq h.2⟩
theorem Ss{name:Str}{v:ai}{fs:Array ai}{sl:Array (Option ai)}{f:Addr}{ds:List gI}{n:Nat}{a:Bool}{Q:ai->ak->Prop}(X:K.In s.heap)(k:s.heap.get? x=some ⟨.ref C,some f,.fields fs,sl⟩)(b:s.heap.get? f=some (dictOf ds n))(h:rU K C name=true)(m:lookIn name (dictOf ds n)=some (some v))(i:handedIn v=true)(q:∀r,Q v {s with toks:=r}):aJ (dF prog w) A (PySem.getAttr (.ref x) name a) Q E s:=by
 refine(?H:gB (by
  refine qK (Fc h) λh1 j t z y=>?_;have I:InstAt s.heap x ⟨.ref C,some f,.fields fs,sl⟩ C (some (dictOf ds n)):=⟨k,rfl,rfl,b⟩;have g:=PySem.F.attr_Exception;have d:=I.type (M:=dF prog w);have l:=looks_findIn (M:=dF prog w) X t;have u:=looks_findIn (M:=dF prog w) X z;have o:=looks_find (M:=dF prog w) X I (findObj_own h1 j rfl m);have sub:Looks (dF prog w) s.heap (tI (.ref x) (.type "BaseException")) true:=d.andThen (looks_subIn X y);unfold PySem.getAttr getAttrBy;refine af (MD (aZ (af (d.here (s:={s with toks:=s.toks+1}) (af (l.here (s:={s with toks:=s.toks+1}) ?_))))));dsimp only;have e:(onTheHeap (ai.ref C)&&ai.builtin "BaseException.__getattribute__"==ai.builtin "object.__getattribute__")=false:=by
   have:(ai.builtin "BaseException.__getattribute__"==ai.builtin "object.__getattribute__")=false:=by decide+kernel
   refine zl this ?_;exact zl (lU _) rfl
  refine zl e ?_;show aJ _ _ (Ys _ _ _ _ _ _) _ _ _;unfold Ys;refine af ?_;show aJ _ _ (Gp (.ref C) "__getattr__") _ _ _;refine u.here (s:={s with toks:=s.toks+1}) (af (wpAny_attempt (aZ ?_)));unfold callGetattribute;have c:(a&&onTheHeap (ai.builtin "BaseException.__getattribute__"))=false:=by cases a<;>rfl
  refine zl c ?_;show aJ _ _ (boundAndCalled _ _ _) _ _ _;unfold boundAndCalled;refine zl (g.ga.bind _) ?_;refine af (ay (Gz (Q4 (s:={s with toks:=s.toks+1}) g.ga.plain PySem.F.entry_bexc_ga (@check_slot (dF prog w) _ _ {s with toks:=s.toks+1} "BaseException.__getattribute__" "BaseException" "__getattribute__" (.ref x) [.str name s.toks] [] _ (by decide+kernel) (by decide+kernel) sub (PySem.F.args_bexc_ga _ _) ?_))));refine af (ay (af (ay (af (d.here (s:={s with toks:=s.toks+1}) (af (o.here (s:={s with toks:=s.toks+1}) ?_)))))));refine ay ?_;show aJ _ _ (handedOut v) _ _ _;refine zl (handedOut_of i) ?_;exact ay (q _))) gA
 intro w;delta _root_.id at w;(try dsimp-zetaHave only at w);refine(?F:gC _) _ w;exactλp _=>p
end
noncomputable abbrev selfS:Str:=Str.ofString "self"
section
variable{C:Cx}{A:b9}{s:ak}
theorem Li{sc:dM}{fd:qg}{U:Addr}{sp vp ap pos:Pos}(F:Ld ⟨C,0,sc,[]⟩ fd [.Assign [.Attribute (.Name selfS sp) toldS ap] (.Name toldS vp) pos] [selfS,toldS] 1 2 U)(k1:sc.names.lookup selfS=some .local)(k2:sc.names.lookup toldS=some .local)(I:pQ C.K badAddr toldS=true)(G:A.depth<Gm){e:Addr}{v:ai}{fs:Array ai}{sl:Array (Option ai)}(L:Kp C.h0 s.heap)(he:s.heap.get? e=some ⟨.ref badAddr,none,.fields fs,sl⟩){Q E:ai->ak->Prop}(q:∀k d u n m t,(∀b o,b≠e->s.heap.get? b=some o->k.get? b=some o)->s.heap.get? d=none->d≠e->k.get? e=some ⟨.ref badAddr,some d,.fields fs,sl⟩->k.get? d=some (dictOf [⟨u,.str toldS t,v⟩] n)->Q .none {s with heap:=k,toks:=m}):aJ C.M A (call (.ref U) [.ref e,v]) Q E s:=by
 obtain⟨oc,od,Z,p⟩:=F.bK;have p:=L _ _ (C.A0 _ _ p);have X:C.K.In s.heap:=λa o e=>L a o (C.A0 a o e);refine Gz (MV G p rfl F.co F.gen F.body (codeRec_of X F.code) ?_);refine F.bind s [.ref e,v] L (e9 1) (bf 2) _ _ _ _ ?_;refine zl F.clo ?_;refine zl F.sc ?_;refine Gy F.kind (λx N=>?_) λenv B s' H=>?_;·
  have N:x.1=selfS\/x.1=toldS:=by
   simp at N;rcases N with rfl|rfl;·exact .inl rfl
   ·exact .inr rfl
  rcases N with h|h;·exact .inl (by refine zl h ?_;exact k1)
  ·exact .inl (by refine zl h ?_;exact k2)
 ·have j:=H.toInCall.keep;have T:env.scope=sc:=by refine zl B ?_;rfl
  have y:=H.toInCall.ns;obtain⟨k,w,rfl⟩:=H.toInCall.same;have r:k.get? e=some ⟨.ref badAddr,none,.fields fs,sl⟩:=j _ _ he;have O:C.K.In k:=λa o e=>j _ _ (X a o e);have Y:env.kindOf selfS=some .local:=by rewrite[fX];refine zl T ?_;exact k1
  have V:env.kindOf toldS=some .local:=by rewrite[fX];refine zl T ?_;exact k2
  have z:env.scope.kind=.function:=by refine zl T ?_;exact F.kind
  have W:∀pos(g:ak)(P l:ai->ak->Prop),g.heap=k->P (.ref e) g->aJ C.M (A.deeper env) (eval (.Name selfS pos) env) P l g:=λpos g P l R D=>by clear H j r O;subst R;exact Gr (nT z Y y (zR (by exact Y) F.nodup bC) D) (by decide+kernel)
  have mt:∀pos(g:ak)(P l:ai->ak->Prop),g.heap=k->P v g->aJ C.M (A.deeper env) (eval (.Name toldS pos) env) P l g:=λpos g P l R D=>by clear H j r O W;subst R;exact Gr (nT z V y (zR (by exact V) F.nodup (bw _ bC)) D) (by decide+kernel)
  have J:∀(l:ai->ak->Prop)(P:Unit->ak->Prop),(∀i d u n m t,(∀b o,b≠e->k.get? b=some o->i.get? b=some o)->k.get? d=none->d≠e->i.get? e=some ⟨.ref badAddr,some d,.fields fs,sl⟩->i.get? d=some (dictOf [⟨u,.str toldS t,v⟩] n)->P () {heap:=i,gens:=s.gens,drawn:=s.drawn,toks:=m,os:=s.os})->aJ C.M (A.deeper env) (IQ (.ref e) toldS v) P l {heap:=k,gens:=s.gens,drawn:=s.drawn,toks:=w,os:=s.os}:=λl P D=>Sr (s:={heap:=k,gens:=s.gens,drawn:=s.drawn,toks:=w,os:=s.os}) O r I λi d u n m t a b c S f=>D i d u n m t a b c S f;refine⟨C.lim.keeps λb o e=>j b o (L b o e),codeAny_func (jU (Rx (mt _ _ _ _ rfl ?_) rfl rfl))⟩;show aJ _ _ (gZ _ env v) _ _ _;refine af (aZ (W _ _ _ _ rfl ?_));refine af (cY (af (aZ (J _ _ λi d u n m t a b c S f=>?_))));refine rg ?_;refine ei ?_;refine q i d u n m t (λb o hb e=>a b o hb (j b o e)) ?_ c S f;cases q':s.heap.get? d with|none=>rfl|some o=>replace b:=j _ _ q'▸b;cases b
end
inductive Wi(K:Frag):Prop|mk(nm q:Str)(N:Addr)(bs bm:List ai)(hdct:Bool)(sn:List Str)(sub:List ai)(ab:Bool)(col:Option Bool)(dd:Option Addr)(k0 k1 k2 k3 k5:Option ai)(bK:K.lookup badAddr=some (q0 nm q badAddr N bs bm hdct sn sub ab col dd k0 k1 k2 k3 k5 "Exception.__new__"))(h1:bm.contains (.type "Exception")=true)(h2:bm.contains (.type "AttributeError")=false)(h3:bm.contains (.type "NameError")=false)(h4:bm.contains (.type "BaseException")=true)
inductive OJ(C:Cx)(fI:Addr):Prop|mk(sc:dM)(fd:qg)(sp vp ap pos:Pos)(fn:Ld ⟨C,0,sc,[]⟩ fd [.Assign [.Attribute (.Name selfS sp) toldS ap] (.Name toldS vp) pos] [selfS,toldS] 1 2 fI)(k1:sc.names.lookup selfS=some .local)(k2:sc.names.lookup toldS=some .local)
structure Fd(C:Cx)(fI:Addr):Prop where
 cls:Wi C.K
 Ze:findIn C.K (.ref badAddr) "__init__"=some (some (.ref fI))
 ty:typeIn C.K (.ref fI)=some (.type "function")
 keep:keepIn C.K (.ref badAddr)=true
 Zf:∀S rest,peek C.K S (sj "Exception.__new__" ⟨.ref badAddr::rest,[]⟩)=some ()
 set:pQ C.K badAddr toldS=true
 get:rU C.K badAddr toldS=true
 fn:OJ C fI
section
variable{S:Sc}{F:Fr}{o:Or}{g g':Cf}{fI:Addr}{x:Str}{e:Expr}{f:R.Env->M (Bool×PV)}{np qx pos:Pos}{s':ak}
theorem Lj(B:Fd S.C fI)(hx:kF S x (.ref badAddr))(W:NS e)(hf:lJ S e f):oR S (λenv=>exec (.Raise (some (.Call (.Name x np) [e] [] qx)) none pos) env) (T.bind (T.ex f) λv=>λs=>.kc v.2 s.mS):=by
 refine(?H:gB (by
  exactλF o g r z er hr=>by
   obtain⟨nm',q',N,bs,bm,hdct,sn,sub,ab,col,dd,k0,k1,k2,k3,k5,Y,V,O,G,I⟩:=B.cls;obtain⟨sc,fd,sp,vp,ap,ps,Fn,f1,f2⟩:=B.fn;dsimp only;rw[arm_exec_Raise];refine af (cY ?_);show aJ _ _ (XZ F.env (some (do let v<-eval (.Call (.Name x np) [e] [] qx) F.env;standAt pos;pure v)) none) _ _ g.s;refine Lh (C:=badAddr) (nm:=nm') (q:=q') (N:=N) (bs:=bs) (bm:=bm) (hdct:=hdct) (sn:=sn) (sub:=sub) (ab:=ab) (col:=col) (dd:=dd) (k0:=k0) (k1:=k1) (k2:=k2) (k3:=k3) (k5:=k5) (newId:="Exception.__new__") I z.ok.handled (af ?_);refine jk (hx _ F o g _ _ _ z.toHere ?_);refine zl (W.jO _ _) ?_;refine callWith_of (P:=λh=>S.C.K.In h) (gP [e]) (λh X=>keeps_K B.keep h X) (dW (spliced_cons (z.tW (hf F _ g z.self) er hr λa v g1 k _ e1 hv=>?_)));have j:=k.bK.st.keep;have X:=k.A0;refine spliced_nil ⟨X,?_⟩;show aJ _ _ _ _ _ ⟨g1.s.heap,g1.s.gens,g1.s.drawn,g1.s.toks,g1.s.os⟩;refine Dm PySem.F.excBase_Exception V O G X (X _ _ Y) B.Ze B.ty B.Zf (by refine zl bN ?_;show 1<=16777216;decide) λh' ex t' i D U=>?_;have u:(F.A.under (.builtin "type.__call__" ⟨[.ref badAddr,v],[]⟩)).depth<Gm:=by have h1:=z.ok.depth;show F.A.depth+1<_;exact abC h1
   refine Li (s:=⟨h',g1.s.gens,g1.s.drawn,g1.s.toks,g1.s.os⟩) Fn f1 f2 B.set u (λa o e=>i a o (j a o e)) U λd E W n Z tt l Q L c y=>⟨rfl,af (cY (ay ?_))⟩;have b:g1.h.get? E=none:=by cases q:g1.h.get? E with|none=>rfl|some o=>have:=i _ _ q;replace this:=Q▸this;cases this
   have m:Kp g1.h d:=λa o q=>l a o (λq2=>by replace q:=q2▸q;replace q:=D▸q;cases q) (i a o q);have J:=k.bK.st;exact⟨ex,t',_,rfl,m _ _ (X _ _ Y),c,ex,a.2,⟨g1.v,g1.t,⟨d,g1.s.gens,g1.s.drawn,Z,g1.s.os⟩⟩,rfl,e1.symm,k.bK.iu (s':=⟨d,g1.s.gens,g1.s.drawn,Z,g1.s.os⟩) m rfl rfl,rfl,E,rT t',v,tt,W,n,#[],c,y,hv,k.bK.dD.dO _ D,k.bK.dD.dO _ b,(show 1<6 by decide),J.gO D,J.fM D,dB L,J.lH b,.none rfl⟩)) gA
 intro w;delta id at w;(try dsimp-zetaHave only[ff,fg,fi,fj,fm,ib,ic,ie,ig,ij]at w);delta jJ nU at w;extract_lets+proofs+implicits+lift at w;refine(?F:gC _) _ w;exactλp _=>p
theorem Wk.Zg(X:Wk S F o g)(I:S.nm.lookup x=none){m:Str->Option ai}{u:Option ai}(B:g.h.Ns F.env.locals m)(l:s'.heap.Ns F.env.locals λn=>if n=x then u else m n)(y:Heap.SameBut F.env.locals g.h s'.heap)(K:s'.gens=g.s.gens)(j:s'.os=g.s.os):Wk S F o ⟨g.v,g.t,s'⟩:=by
 have b:=X.en;have A:∀{c o},g.h.get? c=some o->(∀C ep,o.data≠.dict C ep)->c≠F.env.locals:=λ{c o}e H q=>by refine rq B λN C ep h1 d _=>?_;clear B;replace e:=q▸e;replace e:=h1▸e;clear h1;cases e;exact H C ep d
 have D:∀n v,n≠x->Rd F.env g.h n v->Rd F.env s'.heap n v:=λn v a r=>by
  rcases r with⟨k,P,h1,d⟩|⟨k,c,L,o,j,G⟩;·exact .inl ⟨k,_,l,by refine zl (if_neg a) ?_;refine zl (BK B h1) ?_;exact d⟩
  ·exact .inr ⟨k,c,L,o,(y.2 c (A j (ot G))).trans j,G⟩
 have E:kE S.sc S.nm F ⟨g.v,g.t,s'⟩:={b with
  slot:=λn i e=>by
   have a:n≠x:=λq=>by replace e:=q▸e;replace e:=I▸e;cases e
   have r:=b.slot n i e;cases q:F.ρ i with|bB=>trivial|val p=>replace r:=q▸r;refine dq r λv h1 d=>?_;clear r;exact⟨v,D n v a h1,d⟩|cj xs=>replace r:=q▸r;obtain⟨vs,ep,j,J⟩:=r.bK;exact⟨D n _ a r.rd,⟨vs,ep,(y.2 _ (A j k7)).trans j,J⟩,r.nV,r.z,r.m⟩
  sN:=⟨b.sN.m,b.sN.z,_,l⟩
  cl:=λn c e=>⟨(b.cl n c e).m,(b.cl n c e).z,by refine lB ((b.cl n c e).bK) λo v h1 d=>?_;exact⟨o,v,(y.2 c (A h1 (ot d))).trans h1,d⟩⟩}
 exact⟨⟨X.toHr.touch (W:=λc=>c=F.env.locals) (λc e=>e▸⟨X.w _ (.inl (.inl rfl)),b.sN.z,b.sN.m⟩) (λc O n e=>(y.2 c n).trans e) (λc e q=>by subst e;refine IU l λ_ _ _ k _=>?_;clear l;replace q:=k▸q;cases q) (λc _ e=>e▸⟨_,l⟩) K j,E⟩,X.frame,X.BS,X.w⟩
theorem OK{h:g8}{k:List g8}{l:Pos}(j:lJ S e f):oR S (λenv=>exec (.Try [.Return (some e) l] (h::k) [] [] pos) env) (λs=>match f s.env s.mS with|.ok v mS=>.ok (.ret v) ⟨s.env,mS⟩|.kc _ _=>.aS|.aS=>.aS):=λF o g r x b i=>by
 dsimp only at b;refine X0 (jU (qY (aY (j F _ g x.self _ rfl λq=>i (by rw[<-b,q])) (λv s' h=>?_) λn s' h=>?_)));·obtain⟨a,g1,m,c,y,d⟩:=h;rw[c]at b;exact⟨_,F.ρ,F.ω,g1,m,b.symm,x.step y,v,rfl,HR.of d λa e=>.inr (x.bK.dD.dO a e)⟩
 ·obtain⟨_,_,_,_,c,_,_,_⟩:=h;rw[c]at b;exact absurd b.symm i
variable{ex found:Str}{y:Nat}{fp xp ap sp hp:Pos}
theorem Wk.Wj(X:Wk S F o g)(B:Fd S.C fI)(hx:kF S x (.ref badAddr))(Wf:eI S.sc S.nm found y=true)(K:S.nm.lookup ex=none)(hel:S.sc.names.lookup ex=some .local)(h1:(ex==("__debug__":Str))=false){α:Type}{r:jb aH α}{v:ai}(h:Ex S.C F.k (.at F.k g) pI r v s'){Q:Flow->ak->Prop}{E:ai->ak->Prop}(q:∀b G g',r=.kc b g'.t->Wk S {F with ρ:=jd F.ρ y (.val b),ω:=G} o g'->Q .next g'.s):aJ S.C.M F.A (wD v F.env) (λ_ s₂=>aJ S.C.M F.A (Kg v none) (λ_ O=>aJ S.C.M F.A (handleBy v F.env [.ExceptHandler (some (.Name x np)) (some ex) [.Assign [.Name found fp] (.Attribute (.Name ex xp) toldS ap) sp] hp]) Q E O) E s₂) E s':=by
 refine(?H:gB (by
  obtain⟨nm',q',N,bs,bm,hdct,sn,sub,ab,col,dd,k0,k1,k2,k3,k5,hC,hc1,hc2,hc3,hc4⟩:=B.cls;obtain⟨e,b,g1,es,ho,V,rfl,fl⟩:=h;subst es;obtain⟨U,hk,_⟩:=X.BS;have W:=X.toHere.kindOf hel;refine(X.self.toHr.ro V).Wg hk X.ok.frames X.frame (fl.pH (λ_ h=>h) λv h=>.inl h) λs1 y1 f1 _=>y1.Dl f1 λs2 y2 f2=>?_;have X2:=X.step y2.bK;refine wpAny_handleBy_cons (codeAny_handlers_test (hx (F.A.mark (some (.ref e))) F _ ⟨g1.v,g1.t,s2⟩ _ _ _ X2.toHere ?_)) (by intro q;cases q);obtain⟨d₂,vs₂,v₂,t₂,hs₂,n₂,T,z,_⟩:=id f2;refine wpAny_excMatches_sub_self (X2.A0 _ _ hC) z rfl hc4 (codeAny_handlers_suite_as ?_);refine y2.Dl f2 λs3 y3 f3=>?_;have Y:=X.step y3.bK;obtain⟨dx,vs,v,t,hs,n,sl,he,hd,hv,hbe,hbd,hsz,hze,hme,hed,Z,hT⟩:=f3;obtain⟨m,hm⟩:=Y.en.sN.ns;have lF:F.env.locals∈frames F.k:=by refine zl hk ?_;refine zl (oy X.frame) ?_;exact bC
  have eL:e≠F.env.locals:=λq=>Y.bK.st.dP he (λ_ _ q=>by injection q) (q▸lF);have dL:dx≠F.env.locals:=λq=>Z (q▸lF);refine MT (s:=s3) W hm (λd j i=>?_) (by refine zl X.UB ?_;rfl);have L:=Y.Zg (s':={s3 with heap:=d,toks:=s3.toks+1}) K hm j i rfl rfl;refine jU (VH (Attribute_any_ (Gr (nT (s:={s3 with heap:=d,toks:=s3.toks+1}) X.UB W j (by exact zl (if_pos rfl) rfl) ?_) h1) (by rw[Uc];rfl)) rfl);refine Ss (s:={s3 with heap:=d,toks:=s3.toks+1}) L.A0 ((i.2 _ eL).trans he) ((i.2 _ dL).trans hd) B.get (by rfl) hv.NW λtk=>?_;have X5:Wk S F o ⟨g1.v,g1.t,{s3 with heap:=d,toks:=tk}⟩:=⟨L.toHere.iu (s':={s3 with heap:=d,toks:=tk}) (.refl _) rfl rfl,L.frame,L.BS,L.w⟩;refine X5.nz (a:=(false,b)) Wf hv (λc h _=>by injection h) ?_;intro P G c _ _ X6;refine ei ?_;obtain⟨m6,J⟩:=X6.en.sN.ns;exact wpAny_nameGoes_keeps W J (by refine zl X.UB ?_;rfl) λl u D I=>q b G ⟨g1.v,g1.t,{P with heap:=l,toks:=P.toks+1}⟩ ho (X6.Zg (s':={P with heap:=l,toks:=P.toks+1}) K J D I rfl rfl))) gA
 intro w;delta id at w;(try dsimp-zetaHave only[ff,fg,fi,fj,fm,ib,ic,ie,ig,ij]at w);delta jJ nU at w;extract_lets+proofs+implicits+lift at w;refine(?F:gC _) _ w;exactλp _=>p
end
def Bg(f:R.Env->M (Bool×PV))(y:Nat):T Fl:=λs=>match f s.env s.mS with|.ok _ mS=>.ok .next ⟨s.env,mS⟩|.kc told mS=>.ok .next ⟨jd s.env y (.val told),mS⟩|.aS=>.aS
section
variable{S:Sc}{fI:Addr}{c e1 e2:Expr}{fc f1 f2:R.Env->M (Bool×PV)}{x ex found:Str}{y:Nat}{p1 p2 ip np fp xp ap sp hp pos:Pos}
theorem HE{e:Expr}{f:R.Env->M (Bool×PV)}{F:Fr}{o:Or}{g:Cf}{p:Pos}{r:jb Sx Fl}(X:Wk S F o g)(h:lJ S e f)(m:rR e)(b:Bg f y ⟨F.ρ,g.t⟩=r)(d:r≠.aS){Q:Flow->ak->Prop}{E:ai->ak->Prop}(q:∀s',Ea S F o r .next s'->Q .next s')(k:∀v s',Ex S.C F.k (.at F.k g) pI (f F.ρ g.t) v s'->E v s'):aJ S.C.M F.A (qf [.Expr e p] F.env) Q E g.s:=by unfold Bg at b;dsimp only at b;refine jU (Gu (aY (h F _ g X.self _ rfl λq=>d (by rw[<-b,q])) (λv s' l=>l.el λa g1 n i z j=>?_) k) X.plain (m _ _ _));rw[i]at b;exact ei (q s' ⟨.next,F.ρ,F.ω,g1,n,b.symm,X.step z,rfl⟩)
theorem OL(B:Fd S.C fI)(hx:kF S x (.ref badAddr))(L:eI S.sc S.nm found y=true)(D:S.nm.lookup ex=none)(O:S.sc.names.lookup ex=some .local)(hd:(ex==("__debug__":Str))=false)(hc:YT S c fc)(h1:lJ S e1 f1)(h2:lJ S e2 f2)(K:rR e1)(P:rR e2):oR S (λenv=>exec (.Try [.If c [.Expr e1 p1] [.Expr e2 p2] ip] [.ExceptHandler (some (.Name x np)) (some ex) [.Assign [.Name found fp] (.Attribute (.Name ex xp) toldS ap) sp] hp] [] [] pos) env) (T.bind (T.ex λi=>iM (M.bind (fc i) jn)) λt=>Bg (if t then f1 else f2) y):=by
 refine(?H:gB (by
  exactλF o g r X U Q=>by
   refine X0 (jU ?_);rw[exec_If];refine af (cY (af ?_));obtain⟨b,V,Y⟩:∃b V,M.bind (fc F.ρ) jn g.t=.ok b V:=by have n:=zJ (n:=λi=>iM (M.bind (fc i) jn)) (ox U Q);unfold iM at n;cases q:M.bind (fc F.ρ) jn g.t with|ok a s=>exact⟨a,s,rfl⟩|_=>rw[q]at n;exact absurd rfl n
   refine aY (hc F _ g X.self _ Y λh=>by injection h) (λt s1 I=>I.el λt' g1 es u z J=>?_) λv s1 I=>I.el λ_ _ _ _ u _ _ _=>by injection u
   cases J;subst es;have Z:=(rP (f:=λt=>Bg (if t then f1 else f2) y) (zI (n:=λi=>iM (M.bind (fc i) jn)) (t':=g1.t) (a:=t) (by unfold iM;rw[Y.trans u]))).symm.trans U;have X1:=X.step z;have l:∀(e:Expr)(f:R.Env->M (Bool×PV))(p:Pos),lJ S e f->rR e->Bg f y ⟨F.ρ,g1.t⟩=r->aJ S.C.M F.A (qf [.Expr e p] F.env) (λG s=>G=.next/\Ea S F o r .next s) (λv s=>Ex S.C F.k (.at F.k g1) pI (f F.ρ g1.t) v s/\Bg f y ⟨F.ρ,g1.t⟩=r) g1.s:=λe f p hf N d=>HE X1 hf N d Q (λ_ h=>⟨rfl,h⟩) λ_ _ h=>⟨h,d⟩;have j:∀(f:R.Env->M (Bool×PV))(v:ai)(s:ak),(Ex S.C F.k (.at F.k g1) pI (f F.ρ g1.t) v s/\Bg f y ⟨F.ρ,g1.t⟩=r)->aJ S.C.M F.A (wD v F.env) (λ_ s₂=>aJ S.C.M F.A (Kg v none) (λ_ m=>aJ S.C.M F.A (handleBy v F.env [.ExceptHandler (some (.Name x np)) (some ex) [.Assign [.Name found fp] (.Attribute (.Name ex xp) toldS ap) sp] hp]) (Ea S F o r) (uD S F o r) m) (uD S F o r) s₂) (uD S F o r) s:=λf v s h=>by obtain⟨h,d⟩:=h;refine X1.Wj B hx L D O hd h λW E g' he X'=>⟨.next,_,E,g',rfl,?_,X',rfl⟩;unfold Bg at d;dsimp only at d;rw[he]at d;exact d.symm
   clear u;cases t with|true=>exact aY (l e1 f1 p1 h1 K Z) (λG s h=>by obtain⟨e,h⟩:=h;subst e;exact ei (ei h)) λv s h=>j f1 v s h|false=>exact aY (l e2 f2 p2 h2 P Z) (λG s h=>by obtain⟨e,h⟩:=h;subst e;exact ei (ei h)) λv s h=>j f2 v s h)) gA
 intro w;delta id at w;(try dsimp-zetaHave only[ff,fg,fi,fj,fm,ib,ic,ie,ig,ij]at w);delta jJ nU at w;extract_lets+proofs+implicits+lift at w;refine(?F:gC _) _ w;exactλp _=>p
end
def uE{b:Type}(c:Nat->Nat->Bool)(t:KasT b):b:=KasT.rec (motive:=λ_=>b) (λa=>a) (λi j _ f=>f (c i j)) t
def Bh{a:Type}(c:Nat->Nat->Bool)(n:Nat)(t:KasT a):Bool:=KasT.rec (motive:=λ_=>Bool) (λ_=>true) (λi j _ f=>m8 i n&&(m8 j n&&f (c i j))) t
theorem HF{a:Type}{c:Nat->Nat->Bool}{n i j:Nat}{k:Bool->KasT a}:Bh c n (.ask i j k)=(m8 i n&&(m8 j n&&Bh c n (k (c i j)))):=rfl
theorem HG{b:Type}{c a:Nat->Nat->Bool}{n:Nat}(h:∀i j,i<n->j<n->c i j=a i j)(t:KasT b)(q:Bh c n t=true):uE c t=uE a t:=by induction t with|ret _=>rfl|ask i j k d=>rw[HF,ax,ax,kS,kS]at q;show uE c (k (c i j))=uE a (k (a i j));rw[<-h i j q.1 q.2.1,d _ q.2.2]
theorem HH{b:Type}{c a:Nat->Nat->Bool}{n:Nat}(h:∀i j,i<n->j<n->c i j=a i j)(t:KasT b)(q:Bh c n t=true):Bh a n t=true:=by induction t with|ret _=>rfl|ask i j k d=>rw[HF,ax,ax]at q⊢;refine⟨q.1,q.2.1,?_⟩;rw[<-h i j (kS.mp q.1) (kS.mp q.2.1)];exact d _ q.2.2
theorem Lk{e:Type}{b:Nat->Nat->(Bool->ak->Prop)->ak->Prop}{c:Nat->Nat->Bool}{n:Nat}{s:ak}{Q:e->ak->Prop}(h:∀i j C,i<n->j<n->C (c i j) s->b i j C s)(t:KasT e)(d:Bh c n t=true)(q:Q (uE c t) s):t.kasWp b Q s:=by induction t with|ret a=>exact q|ask i j k f=>rw[HF,ax,ax]at d;exact h i j _ (kS.mp d.1) (kS.mp d.2.1) (f (c i j) d.2.2 q)
structure Ord{α:Type}(lt:α->α->Bool):Prop where
 Yf:∀a,lt a a=false
 tr:∀a b c,lt a b=true->lt b c=true->lt a c=true
 tot:∀a b,lt a b=false->lt b a=false->a=b
theorem Ord.Zh{c:Type}{lt:c->c->Bool}(O:Ord lt){a b:c}(h:lt a b=true):lt b a=false:=by cases q:lt b a with|false=>rfl|true=>have:=O.tr _ _ _ h q;rw[O.Yf]at this;cases this
theorem Ord.ntr{e:Type}{lt:e->e->Bool}(O:Ord lt){a b c:e}(h1:lt b a=false)(d:lt c b=false):lt c a=false:=by cases q:lt c a with|false=>rfl|true=>cases f:lt a b with|true=>have:=O.tr _ _ _ q f;replace this:=d▸this;cases this|false=>have:=O.tot _ _ f h1;clear h1 f;subst this;replace d:=q▸d;cases d
abbrev vJ{c:Type}(lt:c->c->Bool)(l:List c):Prop:=l.Pairwise λa b=>lt b a=false
theorem OM{d:Type}{lt:d->d->Bool}(O:Ord lt){l c:List d}(p:l.Perm c)(h:vJ lt l)(g:vJ lt c):l=c:=by
 induction l generalizing c with
 |nil=>exact(List.nil_perm.mp p).symm
 |cons a l j=>
  cases c with
  |nil=>exact absurd p.length_eq (Nat.succ_ne_zero _)
  |cons b c=>
   have h1:=bG.mp h;have i:=bG.mp g;clear h g;have f:a=b:=by
    rcases av.mp (p.subset bC)with e|m;·exact e
    ·rcases av.mp (p.symm.subset bC)with e|k;·exact e.symm
     ·exact O.tot _ _ (i.1 a m) (h1.1 b k)
   subst f;exact congrArg (a::·) (j ((List.perm_cons a).mp p) h1.2 i.2)
theorem Fe{a:Type}(lt:a->a->Bool)(x:a)(l):(YE lt x l).Perm (x::l):=by
 induction l with
 |nil=>exact List.Perm.refl _
 |cons y r b=>
  rw[Uu];by_cases q:lt x y=true;·exact Yt (if_pos q)
  ·refine zl (if_neg q) ?_;exact(b.cons y).trans (List.Perm.swap x y r)
theorem zU{a:Type}(lt:a->a->Bool)(l):(fR lt l).Perm l:=by induction l with|nil=>exact List.Perm.refl _|cons x r b=>exact(Fe lt x _).trans (b.cons x)
theorem Su{a:Type}{lt:a->a->Bool}(O:Ord lt)(x:a){l}(h:vJ lt l):vJ lt (YE lt x l):=by
 induction l with
 |nil=>exact iE _ _
 |cons y r b=>
  rw[Uu];have c:=bG.mp h;by_cases q:lt x y=true;·
   rw[if_pos q];refine bG.mpr ⟨λz hz=>?_,h⟩;clear h b;rcases av.mp hz with rfl|hz;·exact O.Zh q
   ·exact O.ntr (O.Zh q) (c.1 z hz)
  ·rw[if_neg q];clear h;refine bG.mpr ⟨λz hz=>?_,b c.2⟩;clear b;rcases av.mp ((Fe lt x r).subset hz)with rfl|hz;·exact qV.mpr q
   ·exact c.1 z hz
theorem Ll{a:Type}{lt:a->a->Bool}(O:Ord lt)(l):vJ lt (fR lt l):=by induction l with|nil=>exact .nil|cons x r b=>exact Su O x b
theorem rW{a:Type}{lt:a->a->Bool}(O:Ord lt){l b:List a}(p:b.Perm l)(h:vJ lt b):fR lt l=b:=OM O ((zU lt l).trans p.symm) (Ll O l) h
noncomputable def lists(n k:Nat):List (List Nat):=oZ [[]] (λ_ f=>f.flatMap λl=>(eM n).map λx=>x::l) k
theorem Sv{n k:Nat}:lists n (k+1)=(lists n k).flatMap λl=>(eM n).map λx=>x::l:=rfl
theorem Lm{n:Nat}{l:List Nat}:(∀x∈l,x<n)->l∈lists n l.length:=by induction l with|nil=>intro _;exact ao.mpr rfl|cons x l b=>intro h;rw[aO,Sv,mQ];exact⟨l,b λy a=>h y (bw _ a),aL.mpr ⟨x,iC.mpr (h x bC),rfl⟩⟩
noncomputable def rk(a:List Nat)(i:Nat):Nat:=a.getD i 0
def Dn(l:List Nat):Bool:=dE true (λx r f=>r.all (λy=>kN x y)&&f) l
theorem ON{x:Nat}{r:List Nat}:Dn (x::r)=(r.all (λy=>kN x y)&&Dn r):=rfl
noncomputable def UK(n:Nat)(p:List Nat):Bool:=p.isPerm (eM n)
def qy(n:Nat)(a:List Nat):Bool:=Bh (λi j=>m8 (rk a i) (rk a j)) n (kas_sort n)&&let p:=(uE (λi j=>m8 (rk a i) (rk a j)) (kas_sort n)).toList;UK n p&&Dn (p.map (rk a))
def ml(x:Nat)(l:List Nat):Nat:=dE 0 (λy _ f=>if m8 y x then f+1 else f) l
theorem Zi{x y:Nat}{r:List Nat}:ml x (y::r)=if m8 y x then ml x r+1 else ml x r:=rfl
def Ff(a:List Nat):Bool:=a.all λx=>Nat.beq x (ml x a)
theorem HI:((lists 2 2).all λa=>!Ff a||qy 2 a)=true/\((lists 3 3).all λa=>!Ff a||qy 3 a)=true/\((lists 4 4).all λa=>!Ff a||qy 4 a)=true/\((lists 5 5).all λa=>!Ff a||qy 5 a)=true:=by decide+kernel
noncomputable def lN{a:Type}(lt:a->a->Bool)(x:a)(l:List a):Nat:=(l.filter λy=>lt y x).length
theorem Jq{c:Type}{lt:c->c->Bool}{x y:c}{l:List c}(h:∀a∈l,lt a x=true->lt a y=true):lN lt x l<=lN lt y l:=by induction l with|nil=>exact bf _|cons z l b=>have b:=b λa d=>h a (bw _ d);have hz:=h z bC;unfold lN at b⊢;refine zl dZ ?_;refine zl dZ ?_;cases q:lt z x with|true=>refine zl (hz q) ?_;simp;exact b|false=>cases e:lt z y with|true=>simp;exact o0 b|false=>simpa using b
theorem Sw{c:Type}{lt:c->c->Bool}{x y z:c}{l:List c}(h:∀a∈l,lt a x=true->lt a y=true)(hz:z∈l)(h1:lt z x=false)(f:lt z y=true):lN lt x l<lN lt y l:=by
 induction l with
 |nil=>cases hz
 |cons w l b=>
  have e:=Jq (l:=l) λa d=>h a (bw _ d);have g:=h w bC;rcases av.mp hz with rfl|hz;·unfold lN at e⊢;rw[dZ,dZ,h1,f];simp;exact abD e
  ·have b:=b (λa d=>h a (bw _ d)) hz;unfold lN at b⊢;rw[dZ,dZ];cases q:lt w x with|true=>rw[g q];simp;exact o11 b|false=>cases i:lt w y with|true=>simp;exact abF b|false=>simpa using b
theorem zV{b:Type}{lt:b->b->Bool}(O:Ord lt){x y:b}{l:List b}(d:x∈l):m8 (lN lt x l) (lN lt y l)=lt x y:=by
 cases q:lt x y with
 |true=>have:=Sw (lt:=lt) (l:=l) (λa _ h=>O.tr _ _ _ h q) d (O.Yf x) q;refine zl kS ?_;exact this
 |false=>
  have:lN lt y l<=lN lt x l:=Jq λa _ h=>by clear d;cases e:lt a x with|true=>rfl|false=>cases c:lt x a with|true=>have:=O.tr _ _ _ c h;replace this:=q▸this;cases this|false=>have:=O.tot _ _ e c;clear e c;subst this;replace h:=q▸h;cases h
  refine zr (X7 _) ?_;refine zl kS ?_;exact o10 this
theorem OO{a:Type}{lt:a->a->Bool}(O:Ord lt){x:a}{l:List a}(m:List a)(h:∀y∈m,y∈l):ml (lN lt x l) (m.map λy=>lN lt y l)=lN lt x m:=by induction m with|nil=>rfl|cons y m b=>rw[aM,Zi,zV O (h y bC),b λz hz=>h z (bw _ hz)];unfold lN;rw[dZ];cases lt y x<;>simp
theorem Sy{b:Type}{lt:b->b->Bool}(O:Ord lt)(l:List b):Ff (l.map λy=>lN lt y l)=true:=by unfold Ff;rw[bj];intro x c;refine dq (aL.mp c) λy d a=>?_;subst a;refine zl (OO O l λ_ h=>h) ?_;simp
theorem HJ{a:Type}{lt:a->a->Bool}(O:Ord lt){x:a}{l:List a}(b:x∈l):lN lt x l<l.length:=by
 unfold lN;have h1:=gm (λy=>lt y x) l;have c:(l.filter λy=>lt y x).length≠l.length:=λq=>by have:=List.length_filter_eq_length_iff.mp q x b;rw[O.Yf]at this;cases this
 exact abE h1 c
theorem Lo{l:List Nat}(h:Dn l=true):l.Pairwise (·<=·):=by induction l with|nil=>exact List.Pairwise.nil|cons x r b=>rw[ON,ax,bj]at h;exact bG.mpr ⟨λy a=>aE (h.1 y a),b h.2⟩
theorem OP{n:Nat}{p:List Nat}(h:UK n p=true):p.Perm (eM n):=List.isPerm_iff.mp h
theorem HK{v:Type}{lt:v->v->Bool}(O:Ord lt)(l:List v)(d:v)(t:2<=l.length)(z:l.length<=5):Bh (λi j=>lt (l.getD i d) (l.getD j d)) l.length (kas_sort l.length)=true/\(∀i∈(uE (λi j=>lt (l.getD i d) (l.getD j d)) (kas_sort l.length)).toList,i<l.length)/\((uE (λi j=>lt (l.getD i d) (l.getD j d)) (kas_sort l.length)).toList.map λi=>l.getD i d)=fR lt l:=by
 have A:∀a:List Nat,(∀x∈a,x<a.length)->2<=a.length->a.length<=5->Ff a=true->qy a.length a=true:=λa C t z G=>by
  obtain⟨L,K,N,I⟩:=HI;have E:=Lm C;have f:∀n,(lists n n).all (λa=>!Ff a||qy n a)=true->a.length=n->qy n a=true:=λn M B=>by rw[B]at E;have:=bj.mp M a E;rw[G]at this;simpa using this
  generalize B:a.length=n at t z;obtain⟨k,rfl⟩:∃k,n=k+2:=⟨n-2,(eN t).symm⟩;exact RG (P:=λk=>a.length=k+2->qy (k+2) a=true) (Nat.lt_of_add_lt_add_right (n:=2) (qT z)) (f 2 L) (f 3 K) (f 4 N) (f 5 I) B
 have c:(l.map λy=>lN lt y l).length=l.length:=aj _;have w:=A (l.map λy=>lN lt y l) (λx J=>by obtain⟨y,H,rfl⟩:=aL.mp J;rw[c];exact HJ O H) (by rw[c];exact t) (by rw[c];exact z) (Sy O l);rw[c]at w;unfold qy at w;rw[ax,ax]at w;obtain⟨s,r,o⟩:=w;have g:∀i,i<l.length->rk (l.map λy=>lN lt y l) i=lN lt (l.getD i d) l:=λi b=>by unfold rk;rw[bQ,bQ,bV,aX b];rfl
 have m:∀i,i<l.length->l.getD i d∈l:=λi b=>by rw[bQ,aX b];exact Bv b
 have q:∀i j,i<l.length->j<l.length->m8 (rk (l.map λy=>lN lt y l) i) (rk (l.map λy=>lN lt y l) j)=lt (l.getD i d) (l.getD j d):=λi j b u=>by rw[g i b,g j u,zV O (m i b)]
 refine⟨HH q _ s,?_⟩;rw[<-HG q _ s];generalize(uE (λi j=>m8 (rk (l.map λy=>lN lt y l) i) (rk (l.map λy=>lN lt y l) j)) (kas_sort l.length)).toList=p at r o;have D:=OP r;have e:∀i∈p,i<l.length:=λi b=>iC.mp (D.subset b);refine⟨e,(rW O ?_ ?_).symm⟩;·
  refine(D.map λi=>l.getD i d).trans (Yt ?_);apply List.ext_getElem?;intro i;rw[bV];by_cases b:i<l.length;·rw[Ru b,aX b];simp[bQ,b]
  ·rw[j9.mpr (by simpa using b),j9.mpr (by exact abG c b)];rfl
 ·have F:=Lo o;rw[ee]at F;rw[vJ,ee];refine IS (λ{i j}b u h=>?_) F;rw[g i (e i b),g j (e j u)]at h;rw[<-zV O (m j (e j u)),<-X7,kS];exact o10 h
section
variable{prog:jj}{w:se}{A:b9}{E:ai->ak->Prop}{s:ak}
theorem Lq{a:Addr}{vs:List ai}{n:Nat}{P:PySem.Fin->ak->Prop}{c:Nat->Nat->Bool}{κ:SortKind}(y:s.heap.get? a=some (seqObj "list" vs.toArray n))(m:2<=vs.length)(f:vs.length<64)(d:∀g(Q:SortKind->ak->Prop),(∀b o,b≠a->s.heap.get? b=some o->g.get? b=some o)->Q κ {s with heap:=g}->aJ (dF prog w) A (keyKind' vs.toArray) Q (λ_ _=>False) {s with heap:=g})(u:∀g i j(C:Bool->ak->Prop),(∀b o,b≠a->s.heap.get? b=some o->g.get? b=some o)->i<vs.length->j<vs.length->C (c i j) {s with heap:=g}->aJ (dF prog w) A (keyLt' κ (vs.getD i ai.none) (vs.getD j ai.none)) C (λ_ _=>False) {s with heap:=g})(T:Bh c vs.length (kas_sort vs.length)=true)(h:∀g e,(∀b o,b≠a->s.heap.get? b=some o->g.get? b=some o)->g.get? a=some (seqObj "list" ((uE c (kas_sort vs.length)).toList.map λi=>vs.getD i ai.none).toArray e)->P (.done (.ret .none)) {s with heap:=g}):aJ (dF prog w) A (Builtin.«list.sort» ⟨[.ref a],[]⟩) P E s:=by
 refine(?H:gB (by
  have ha:a<s.heap.objs.size:=Heap.lt_size y;obtain⟨G,t⟩:∃G,(s.heap.update a (Obj.mapSeq λ_=>(#[]:Array ai))).get? a=some (seqObj "list" #[] G):=⟨_,get?_update_seq y λ_=>#[]⟩;have k1:∀b o,b≠a->s.heap.get? b=some o->(((s.heap.update a (Obj.mapSeq λ_=>(#[]:Array ai))).push (seqObj "tuple" vs.toArray 0)).push (seqObj "list" #[] 0)).get? b=some o:=λb o D e=>Heap.get?_push_of_some _ (Heap.get?_push_of_some _ ((Heap.get?_update_other _ _ (dB D)).trans e));have z:(((s.heap.update a (Obj.mapSeq λ_=>(#[]:Array ai))).push (seqObj "tuple" vs.toArray 0)).push (seqObj "list" #[] 0)).get? a=some (seqObj "list" #[] G):=Heap.get?_push_of_some _ (Heap.get?_push_of_some _ t);refine zl (list_sort_plain _) ?_;refine af (listItems_at y rfl ?_);refine af (listUpdate_at y rfl ?_ (by refine zl aN ?_;refine zl bN ?_;exact o1 m f) (cy _));refine af (seqEpoch_at t rfl ?_);refine af (wpAny_newTuple ?_ (by show vs.length<=_;refine zl bN ?_;exact o1 m f));refine af (kJ ?_ (cy _));refine aZ ?_;show aJ (dF prog w) A _ P E {s with heap:=((s.heap.update a (Obj.mapSeq λ_=>(#[]:Array ai))).push (seqObj "tuple" vs.toArray 0)).push (seqObj "list" #[] 0)};generalize((s.heap.update a (Obj.mapSeq λ_=>(#[]:Array ai))).push (seqObj "tuple" vs.toArray 0)).push (seqObj "list" #[] 0)=h₁ at k1 z⊢;dsimp only;have v:¬vs.toArray.size<2:=by refine zl aN ?_;exact abH m f
  refine zl (if_neg v) ?_;refine zl (if_neg v) ?_;refine af (aY (d h₁ (λk s'=>k=κ/\s'={s with heap:=h₁}) k1 ⟨rfl,rfl⟩) (λK s0 B=>?_) λ_ _ x=>x.elim);clear d;refine zA B λO N=>?_;clear B;subst O;subst N;have B:(kas_sort vs.length).kasWp (kas_ask prog w A K vs) (λp L=>p=uE c (kas_sort vs.length)/\L={s with heap:=h₁}) {s with heap:=h₁}:=Lk (c:=c) (n:=vs.length) (λi j C W Y Z=>u h₁ i j C k1 W Y Z) _ T ⟨rfl,rfl⟩;refine af (aY (kat_run (Q:=λl s'=>∃p:Array Nat,arrOf l=p.map (kas_item (vs.toArray.zip vs.toArray))/\failedOf l=none/\p.size=vs.length/\p=uE c (kas_sort vs.length)/\s'={s with heap:=h₁}) rfl m f (λV l s' a1 a2 X a4=>⟨V,a2,X,a1,a4⟩) B) ?_ λ_ _ e=>e);rintro⟨⟨⟩,l⟩s'⟨p,M,U,S,R,rfl⟩;dsimp only;have r:=kat_snds rfl M;have q:(AX (p.toList.map λi=>vs.getD i ai.none)).size=vs.length:=by refine zl aN ?_;refine zl (aj _) ?_;refine zl aV ?_;exact zl S rfl
  refine zl r ?_;obtain⟨I,J⟩:∃I,(h₁.update a (Obj.mapSeq λ_=>AX (p.toList.map λi=>vs.getD i ai.none))).get? a=some (seqObj "list" (AX (p.toList.map λi=>vs.getD i ai.none)) I):=⟨_,get?_update_seq z λ_=>AX (p.toList.map λi=>vs.getD i ai.none)⟩;refine af (seqEpoch_at z rfl ?_);refine af (listUpdate_at z rfl ?_ (cy _) (aa (bA q) (by refine zl bN ?_;exact abL m f S q)));refine zl U ?_;simp only[bne_self_eq_false,iS,if_false];refine ay (h _ I (λb o D e=>(Heap.get?_update_other _ _ (dB D)).trans (k1 b o D e)) ?_);refine zr R ?_;exact J)) gA
 intro w;delta id at w;(try dsimp-zetaHave only[ff,fg,fi,fj,fm,lY,ua,ub,uc,ib,ic,ie,ig,ij]at w);delta jJ nU at w;extract_lets+proofs+implicits+lift at w;refine(?F:gC _) _ w;exactλp _=>p
theorem Fg{l:Addr}{vs:List ai}{Q:ai->ak->Prop}{c:Nat->Nat->Bool}{κ:SortKind}(I:s.heap.IsList l vs.toArray)(v:2<=vs.length)(n:vs.length<64)(g:∀a(Q:SortKind->ak->Prop),(∀b o,s.heap.get? b=some o->a.get? b=some o)->Q κ {s with heap:=a}->aJ (dF prog w) A.in1.in1 (keyKind' vs.toArray) Q (λ_ _=>False) {s with heap:=a})(u:∀a i j(C:Bool->ak->Prop),(∀b o,s.heap.get? b=some o->a.get? b=some o)->i<vs.length->j<vs.length->C (c i j) {s with heap:=a}->aJ (dF prog w) A.in1.in1 (keyLt' κ (vs.getD i ai.none) (vs.getD j ai.none)) C (λ_ _=>False) {s with heap:=a})(y:Bh c vs.length (kas_sort vs.length)=true)(h:∀a D e,(∀b o,s.heap.get? b=some o->a.get? b=some o)->s.heap.get? D=none->a.get? D=some (seqObj "list" ((uE c (kas_sort vs.length)).toList.map λi=>vs.getD i ai.none).toArray e)->Q (.ref D) {s with heap:=a}):aJ (dF prog w) A (call (.builtin "sorted") [.ref l]) Q E s:=by
 refine(?H:gB (by
  refine Calls.call_function_entry kind_sorted plain_sorted entry_sorted (args_sorted1 _) ?_;unfold Builtin.«sorted»;refine af (m:=Uj "sorted" 1 1 _) (ay ?_);refine af (collect_list I ?_ (by rw[bN];exact o1 v n));refine af (kJ ?_ (by rw[bN];exact o1 v n));have r:((s.heap.push (seqObj "list" #[] 0)).update s.heap.objs.size (Obj.mapSeq (·++vs.toArray))).objs.size=s.heap.objs.size+1:=by rw[Heap.size_update,size_push']
  have f:(((s.heap.push (seqObj "list" #[] 0)).update s.heap.objs.size (Obj.mapSeq (·++vs.toArray))).push (seqObj "list" vs.toArray 0)).get? (s.heap.objs.size+1)=some (seqObj "list" vs.toArray 0):=by rw[<-r];exact Heap.get?_push_size _ rfl
  have d:∀b o,s.heap.get? b=some o->(((s.heap.push (seqObj "list" #[] 0)).update s.heap.objs.size (Obj.mapSeq (·++vs.toArray))).push (seqObj "list" vs.toArray 0)).get? b=some o:=λb o q=>by have t:b<s.heap.objs.size:=Heap.lt_size q;rw[Heap.get?_push_ne _ _ _ (by rw[r];exact cq (gT t)),Heap.get?_update_ne _ _ _ _ (cq t),Heap.get?_push_ne _ _ _ (cq t)];exact q
  show aJ _ _ _ _ _ {s with heap:=((s.heap.push (seqObj "list" #[] 0)).update s.heap.objs.size (Obj.mapSeq (·++vs.toArray))).push (seqObj "list" vs.toArray 0)};rw[r];generalize hH:((s.heap.push (seqObj "list" #[] 0)).update s.heap.objs.size (Obj.mapSeq (·++vs.toArray))).push (seqObj "list" vs.toArray 0)=H at f d⊢;have x:∀{a:Heap},(∀b o,b≠s.heap.objs.size+1->H.get? b=some o->a.get? b=some o)->∀b o,s.heap.get? b=some o->a.get? b=some o:=λk b o e=>k b o (cq (gT (Heap.lt_size e))) (d b o e);refine af (aZ (mP slot_list_sort ⟨_,f,rfl⟩ entry_list_sort (Lq (s:={s with heap:=H}) (κ:=κ) (c:=c) f v n (λa J k q=>g a J (x k) q) (λa i j C k B G q=>u a i j C (x k) B G q) y λa e k z=>⟨_,rfl,ay ⟨_,rfl,h a _ e (x k) (Heap.get?_none_of_le (e9 _)) z⟩⟩) (args_list_sort _))))) gA
 intro w;delta id at w;(try dsimp-zetaHave only at w);refine(?F:gC _) _ w;exactλp _=>p
end
section
variable{prog:jj}{w:se}{A:b9}{E:ai->ak->Prop}{s:ak}
theorem HL{a:Addr}{vs:List ai}{n:Nat}{P:PySem.Fin->ak->Prop}(g:s.heap.get? a=some (seqObj "list" vs.toArray n))(j:vs.length<2)(h:∀l e,(∀b o,b≠a->s.heap.get? b=some o->l.get? b=some o)->l.get? a=some (seqObj "list" vs.toArray e)->P (.done (.ret .none)) {s with heap:=l}):aJ (dF prog w) A (Builtin.«list.sort» ⟨[.ref a],[]⟩) P E s:=by
 have r:a<s.heap.objs.size:=Heap.lt_size g;obtain⟨m,c⟩:∃m,(s.heap.update a (Obj.mapSeq λ_=>(#[]:Array ai))).get? a=some (seqObj "list" #[] m):=⟨_,get?_update_seq g λ_=>#[]⟩;have k1:∀b o,b≠a->s.heap.get? b=some o->(((s.heap.update a (Obj.mapSeq λ_=>(#[]:Array ai))).push (seqObj "tuple" vs.toArray 0)).push (seqObj "list" #[] 0)).get? b=some o:=λb o k e=>Heap.get?_push_of_some _ (Heap.get?_push_of_some _ ((Heap.get?_update_other _ _ (dB k)).trans e));have i:(((s.heap.update a (Obj.mapSeq λ_=>(#[]:Array ai))).push (seqObj "tuple" vs.toArray 0)).push (seqObj "list" #[] 0)).get? a=some (seqObj "list" #[] m):=Heap.get?_push_of_some _ (Heap.get?_push_of_some _ c);refine zl (list_sort_plain _) ?_;refine af (listItems_at g rfl ?_);refine af (listUpdate_at g rfl ?_ (by refine zl aN ?_;refine zl bN ?_;exact o12 j) (cy _));refine af (seqEpoch_at c rfl ?_);refine af (wpAny_newTuple ?_ (by show vs.length<=_;refine zl bN ?_;exact o12 j));refine af (kJ ?_ (cy _));refine aZ ?_;show aJ (dF prog w) A _ P E {s with heap:=((s.heap.update a (Obj.mapSeq λ_=>(#[]:Array ai))).push (seqObj "tuple" vs.toArray 0)).push (seqObj "list" #[] 0)};generalize((s.heap.update a (Obj.mapSeq λ_=>(#[]:Array ai))).push (seqObj "tuple" vs.toArray 0)).push (seqObj "list" #[] 0)=h₁ at k1 i⊢;dsimp only;have f:vs.toArray.size<2:=by refine zl aN ?_;exact j
 refine zl (if_pos f) ?_;refine zl (if_pos f) ?_;refine af (ay ?_);refine zl (StateT.run_pure _ _) ?_;refine af (ay ?_);dsimp only;have d:(arrOf (SortSt.mk' general' (vs.toArray.zip vs.toArray) #[] 7 none)).map (·.2)=vs.toArray:=by show(vs.toArray.zip vs.toArray).map (·.2)=_;apply mJ.mp;simp[List.map_snd_zip]
 refine zl d ?_;obtain⟨p,q⟩:∃p,(h₁.update a (Obj.mapSeq λ_=>vs.toArray)).get? a=some (seqObj "list" vs.toArray p):=⟨_,get?_update_seq i λ_=>vs.toArray⟩;refine af (seqEpoch_at i rfl ?_);refine af (listUpdate_at i rfl ?_ (cy _) (by refine zl aN ?_;refine zl bN ?_;exact abI j));simp only[bne_self_eq_false,iS,if_false];exact ay (h _ p (λb o k e=>(Heap.get?_update_other _ _ (dB k)).trans (k1 b o k e)) q)
end
theorem Jr:Ord tQ where Yf:=λa=>decide_eq_false (m9 a);tr:=λa b c h1 d=>decide_eq_true (ea (of_decide_eq_true h1) (of_decide_eq_true d));tot:=λa b h1 d=>D8 (bY.mp (of_decide_eq_false d)) (bY.mp (of_decide_eq_false h1))
noncomputable def lex{β:Type}(f:β->β->Bool)(a b:Int×β):Bool:=decide (a.1<b.1)||(a.1==b.1&&f a.2 b.2)
theorem mE{β:Type}{f:β->β->Bool}{a b:Int×β}:lex f a b=true↔a.1<b.1\/a.1=b.1/\f a.2 b.2=true:=by unfold lex;rw[i7,ax,beq_iff_eq,decide_eq_true_iff]
theorem Js{β:Type}{f:β->β->Bool}(O:Ord f):Ord (lex f)where Yf:=λa=>qV.mpr λh=>(mE.mp h).elim (m9 _) λh=>aK ((O.Yf _).symm.trans h.2);tr:=λa b c h1 d=>mE.mpr ((mE.mp h1).elim (λh1=>.inl ((mE.mp d).elim (ea h1) λd=>d.1▸h1)) λh1=>(mE.mp d).imp (λd=>h1.1.symm▸d) λd=>⟨h1.1.trans d.1,O.tr _ _ _ h1.2 d.2⟩);tot:=λa b h1 d=>by have e:a.1=b.1:=D8 (bY.mp λq=>aK (d.symm.trans (mE.mpr (.inl q)))) (bY.mp λq=>aK (h1.symm.trans (mE.mpr (.inl q))));have n:∀{x:Bool},¬x=true->x=false:=qV.mpr;exact Prod.ext e (O.tot _ _ (n λq=>aK (h1.symm.trans (mE.mpr (.inr ⟨e,q⟩)))) (n λq=>aK (d.symm.trans (mE.mpr (.inr ⟨e.symm,q⟩)))))
theorem vK:Ord d7:=Js (Js Jr)
noncomputable abbrev GB(t:Int×Int×Int):PV:=.bR [.int t.1,.int t.2.1,.int t.2.2]
theorem BW{c:Type}{f:PV->Option c}{k:c->PV}(h:∀p a,f p=some a->p=k a){xs:List PV}:∀{b:List c},IW f xs=some b->xs=b.map k:=by induction xs with|nil=>intro b e;cases e;rfl|cons x xs g=>intro b e;obtain⟨a,h1,e⟩:=cg (show(f x).bind _=_ from e);obtain⟨r,d,rfl⟩:=f6 e;rw[h x a h1,g d];rfl
theorem xI{xs:List PV}{a:List Int}(e:lq xs=some a):xs=a.map .int:=BW (λ_ _ h=>bU h) e
theorem HM(p:PV)(t:Int×Int×Int)(h:M9 p=some t):p=GB t:=by obtain⟨l,h1,h⟩:=cg h;rw[pK h1];clear h1;cases l with|nil=>exact(kK h).elim|cons a l=>cases l with|nil=>exact(kK h).elim|cons b l=>cases l with|nil=>exact(kK h).elim|cons c l=>cases l with|nil=>obtain⟨i,f,h⟩:=cg h;obtain⟨j,d,h⟩:=cg h;obtain⟨k,e,rfl⟩:=f6 h;rw[bU f,bU d,bU e]|cons=>exact(kK h).elim
theorem VR.Zj{v:Vw}{t:Int×Int×Int}{y:ai}(h:VR v (GB t) y):∃a ep c d b,y=.ref a/\v.z a=some (vw [.int t.1 c,.int t.2.1 d,.int t.2.2 b] ep):=by obtain⟨a,vs,ep,e,hz,f,_⟩:=h;obtain⟨_,_,rfl,⟨c,rfl⟩,_,_,rfl,⟨d,rfl⟩,_,_,rfl,⟨b,rfl⟩,rfl⟩:=f;exact⟨a,ep,c,d,b,e,hz⟩
theorem dt.Sz{v:Vw}{xs:List PV}{vs:List ai}(h:dt v xs vs)(d:PV)(e:ai){is:List Nat}:(∀i∈is,i<xs.length)->dt v (is.map λi=>xs.getD i d) (is.map λi=>vs.getD i e):=by
 induction is with
 |nil=>intro _;exact dt.nil
 |cons i is g=>
  intro b;have a:=b i bC;have h1:xs[i]?=some (xs.getD i d):=by refine zl (bQ) ?_;refine zl (aX a) ?_;rfl
  refine dq (h.get h1) λy l c=>?_;have f:vs.getD i e=y:=by refine zl (bQ) ?_;refine zl l ?_;rfl
  exact dt.cons (show VR v (xs.getD i d) (vs.getD i e)by refine zl f ?_;exact c) (g λj k=>b j (bw _ k))
section
variable{prog:jj}{w:se}{A:b9}{E:ai->ak->Prop}{s:ak}
theorem SA{x y:Addr}{t u:Int×Int×Int}{n k:Nat}{a1 e d c f g:Tok}(j:s.heap.get? x=some (vw [.int t.1 a1,.int t.2.1 e,.int t.2.2 d] n))(h:s.heap.get? y=some (vw [.int u.1 c,.int u.2.1 f,.int u.2.2 g] k)){C:Bool->ak->Prop}(q:C (d7 t u) s):aJ (dF prog w) A (keyLt' (tuples' true) (.ref x) (.ref y)) C (λ_ _=>False) s:=by
 refine kat_lt j rfl h rfl ?_;have l:d7 t u=(decide (t.1<u.1)||(t.1==u.1&&(decide (t.2.1<u.2.1)||(t.2.1==u.2.1&&decide (t.2.2<u.2.2))))):=rfl;replace q:=l▸q;show KatLex prog w A true (decide (3<3)) C [(.int t.1 a1,.int u.1 c),(.int t.2.1 e,.int u.2.1 f),(.int t.2.2 d,.int u.2.2 g)] 0 s;refine kat_cons (Bw (kat_go (λh1=>kat_yes ?_) λh1=>kat_no (oneLt_int ?_)));·
  replace q:=h1▸q;have m:decide (t.1<u.1)=false:=by rw[beq_iff_eq]at h1;simp[h1]
  replace q:=m▸q;refine kat_cons (Bw (kat_go (λa=>kat_yes ?_) λa=>kat_no (kat_one _ _ (lt_int ?_))));·
   replace q:=a▸q;have i:decide (t.2.1<u.2.1)=false:=by rw[beq_iff_eq]at a;simp[a]
   replace q:=i▸q;refine kat_cons (Bw (kat_go (λb=>kat_yes (kat_nil ?_)) λb=>kat_no (kat_one _ _ (lt_int ?_))));·
    have n3:decide (t.2.2<u.2.2)=false:=by rw[beq_iff_eq]at b;simp[b]
    replace q:=n3▸q;simpa using q
   ·show C _ s;simpa using q
  ·show C _ s;replace q:=a▸q;simpa using q
 ·replace q:=h1▸q;simpa using q
end
theorem HN{v:Vw}{h:Heap}(hz:∀a o,v.z a=some o->h.get? a=some o){b:List (Int×Int×Int)}:∀{vs:List ai},dt v (b.map GB) vs->∃fs,KatTups h vs fs/\fs.length=vs.length/\∀y∈fs,∃i t,y=.int i t:=by induction b with|nil=>intro _ e;cases e;exact⟨[],KatTups.nil,rfl,λv h=>(bJ h).elim⟩|cons t b g=>intro _ e;refine d0 e λ_ m c h1 f=>?_;clear e;subst c;obtain⟨a,ep,j,l,k,rfl,d⟩:=h1.Zj;refine pg (g f) λfs k1 k2 k3=>?_;exact⟨.int t.1 j::fs,KatTups.cons (hz _ _ d) rfl rfl rfl k1,congrArg (·+1) k2,Q3.mpr ⟨⟨_,_,rfl⟩,k3⟩⟩
theorem Lr{b:Type}{l:List b}{i:Nat}{d a:b}(h:l[i]?=some a):l.getD i d=a:=by rw[bQ,h];rfl
theorem xJ{b:Type}{lt:b->b->Bool}{l:List b}(h:l.length<2):fR lt l=l:=by cases l with|nil=>rfl|cons a l=>cases l with|nil=>rfl|cons=>exact absurd h (Nat.not_lt_of_le (aB (aB (cy _))))
theorem SD{vs:List ai}{is:List Int}(h:vs.length=is.length)(k:∀(j:Nat)v i,vs[j]?=some v->is[j]?=some i->∃t,v=.int i t):IntsAre vs is:=by
 induction vs generalizing is with
 |nil=>cases is with|nil=>exact .nil|cons=>cases h
 |cons v vs a=>cases is with|nil=>cases h|cons i is=>obtain⟨t,rfl⟩:=k 0 v i rfl rfl;exact .cons _ _ (a (AO h) λj v i h1 b=>k (j+1) v i h1 b)
theorem zW{v:Vw}{vs:List ai}{is:List Int}(h:IntsAre vs is):dt v (is.map .int) vs:=by induction h with|nil=>exact dt.nil|cons _ _ _ a=>exact dt.cons ⟨_,rfl⟩ a
section
variable{C:Cx}{A:b9}{k:List aI}{g:Cf}{y:ai}
theorem uF(b:St C k g){c:Heap}{D:Addr}{xs:List PV}{us:List ai}{e:Nat}(a:g.h.get? D=none)(d:c.get? D=some (gc us e))(j:dt g.v xs us)(i:xs.length<=eu){s':ak}(f:s'.heap=c):oL g.h (true,.list xs) (.ref D) ⟨g.v,g.t,s'⟩:=yc.mk xs D us e rfl rfl (by show s'.heap.get? D=_;refine zl f ?_;exact d) j i a (b.gO a) (b.fM a)
theorem Fh(I:St C k g){d:List (Int×Int×Int)}(B:VR g.v (.list (d.map GB)) y)(F:d.length<=5)(w:2<=d.length):yd C A (call (.builtin "sorted") [y]) g λy g'=>oL g.h (true,.list ((fR d7 d).map GB)) y g':=by
 intro Q E q;obtain⟨a,vs,ep,rfl,S,p,Z⟩:=B;have b:vs.length=d.length:=by refine zl p.length ?_;exact zl (aj _) rfl
 refine uU (HK vK d (0,0,0) w F) λM O r=>?_;have hz:∀{f:Heap},Kp g.h f->∀a o,g.v.z a=some o->f.get? a=some o:=λk a o e=>k a o (I.fz a o e);have u:∀i,i<d.length->∃x n a1 H G,vs.getD i ai.none=.ref x/\g.v.z x=some (vw [.int (d.getD i (0,0,0)).1 a1,.int (d.getD i (0,0,0)).2.1 H,.int (d.getD i (0,0,0)).2.2 G] n):=λi l=>by
  have R:(d.map GB)[i]?=some (GB (d.getD i (0,0,0))):=by refine zl (bV) ?_;refine zl (bQ) ?_;refine zl (aX l) ?_;rfl
  refine dq (p.get R) λv B p=>?_;obtain⟨x,n,a1,H,G,rfl,K⟩:=p.Zj;exact⟨x,n,a1,H,G,Lr B,K⟩
 replace M:=(AQ b)▸M;refine Fg (κ:=tuples' true) (c:=λi j=>d7 (d.getD i (0,0,0)) (d.getD j (0,0,0))) (cD (I.fz _ _ S)) (by exact abJ F w b) (by exact abK F w b) (λf Q' k q'=>?_) (λf i j C k l X q'=>?_) M λf D e k V J=>?_;·refine pg (HN (hz k) p) λfs k1 k2 k3=>?_;refine kat_kind (T:=.type "int") (s:={g.s with heap:=f}) k1 (by exact abM F w b k2) (λv B=>?_) (by decide) q';refine zEE (k3 v B) λi t N=>?_;subst N;exact Looks.of_pure rfl
 ·refine CH (u i (by exact o14 b l)) λx n a1 H G Y K=>?_;refine CH (u j (by exact o14 b X)) λy m b1 b2 b3 U P=>?_;refine zl Y ?_;refine zl U ?_;exact SA (s:={g.s with heap:=f}) (hz k _ _ K) (hz k _ _ P) q'
 ·refine q (.ref D) f g.s.drawn g.s.toks k (uF I V J ?_ ?_ rfl);·
   have L:=p.Sz (GB (0,0,0)) ai.none (is:=(uE (λi j=>d7 (d.getD i (0,0,0)) (d.getD j (0,0,0))) (kas_sort vs.length)).toList) (λi l=>by refine zl (aj _) ?_;replace l:=b▸l;exact O i l);have W:((uE (λi j=>d7 (d.getD i (0,0,0)) (d.getD j (0,0,0))) (kas_sort vs.length)).toList.map λi=>(d.map GB).getD i (GB (0,0,0)))=(fR d7 d).map GB:=by refine zl b ?_;refine zr r ?_;refine zl bE ?_;refine da λi _=>?_;show(d.map GB).getD i (GB (0,0,0))=GB (d.getD i (0,0,0));refine zl (bQ) ?_;refine zl (bQ) ?_;refine zl (bV) ?_;cases d[i]?<;>rfl
   replace L:=W▸L;exact L
  ·refine zl (aj _) ?_;refine zl ((zU d7 d).length_eq) ?_;refine zl jP ?_;exact abR F w b
theorem Dp(t:St C k g){n:List (Int×Int×Int)}(G:VR g.v (.list (n.map GB)) y)(j:n.length<2):yd C A (call (.builtin "sorted") [y]) g λy g'=>oL g.h (true,.list ((fR d7 n).map GB)) y g':=by
 refine(?H:gB (by
  intro Q E q;obtain⟨l,vs,ep,rfl,z,u,D⟩:=G;have a:vs.length=n.length:=by rw[u.length,aj]
  refine Calls.call_function_entry kind_sorted plain_sorted entry_sorted (args_sorted1 _) ?_;unfold Builtin.«sorted»;refine af (m:=Uj "sorted" 1 1 _) (ay ?_);refine af (collect_list (cD (t.fz _ _ z)) ?_ (by rw[bN];exact o13 j a));refine af (kJ ?_ (by rw[bN];exact o13 j a));have i:((g.s.heap.push (seqObj "list" #[] 0)).update g.s.heap.objs.size (Obj.mapSeq (·++vs.toArray))).objs.size=g.s.heap.objs.size+1:=by rw[Heap.size_update,size_push']
  have d:(((g.s.heap.push (seqObj "list" #[] 0)).update g.s.heap.objs.size (Obj.mapSeq (·++vs.toArray))).push (seqObj "list" vs.toArray 0)).get? (g.s.heap.objs.size+1)=some (seqObj "list" vs.toArray 0):=by rw[<-i];exact Heap.get?_push_size _ rfl
  have c:∀b o,g.s.heap.get? b=some o->(((g.s.heap.push (seqObj "list" #[] 0)).update g.s.heap.objs.size (Obj.mapSeq (·++vs.toArray))).push (seqObj "list" vs.toArray 0)).get? b=some o:=λb o q=>by have f:b<g.s.heap.objs.size:=Heap.lt_size q;rw[Heap.get?_push_ne _ _ _ (by rw[i];exact cq (gT f)),Heap.get?_update_ne _ _ _ _ (cq f),Heap.get?_push_ne _ _ _ (cq f)];exact q
  show aJ _ _ _ _ _ {g.s with heap:=((g.s.heap.push (seqObj "list" #[] 0)).update g.s.heap.objs.size (Obj.mapSeq (·++vs.toArray))).push (seqObj "list" vs.toArray 0)};rw[i];generalize hH:((g.s.heap.push (seqObj "list" #[] 0)).update g.s.heap.objs.size (Obj.mapSeq (·++vs.toArray))).push (seqObj "list" vs.toArray 0)=H at d c⊢;have B:g.h.get? (g.s.heap.objs.size+1)=none:=Heap.get?_none_of_le (e9 _);refine af (aZ (mP slot_list_sort ⟨_,d,rfl⟩ entry_list_sort (HL (s:={g.s with heap:=H}) d (by exact abO j a) λx e k r=>⟨_,rfl,ay ⟨_,rfl,?_⟩⟩) (args_list_sort _)));exact q _ x g.s.drawn g.s.toks (λb o e=>k b o (cq (gT (Heap.lt_size e))) (c b o e)) (uF t B r (by rw[xJ j];exact u) (by rw[xJ j];exact D) rfl))) gA
 intro w;delta id at w;(try dsimp-zetaHave only at w);refine(?F:gC _) _ w;exactλp _=>p
theorem Fi(R:St C k g)(X:A.handled=none){l:Nat}{J:List (PV×PV)}{is:List Int}(hv:VR g.v (.ref l) y)(Z:g.t[l]?=some (.dict J))(O:J.map (·.1)=is.map .int)(n:is.length<64):yd C A (call (.builtin "sorted") [y]) g λy g'=>oL g.h (true,.list ((fR tQ is).map .int)) y g':=by
 refine(?H:gB (by
  intro Q E q;obtain⟨U,hm,rfl⟩:=hv;have S:qO C g.v g.h U J:=R.cell l _ U Z hm;obtain@⟨K',dK,knd,I,kvs,ep,ok,hd,T,hn⟩:=S.bK;have c:J.length=is.length:=by have h:=congrArg cZ O;rwa[aj,aj]at h
  have d:kvs.length=is.length:=T.length.trans c;refine Calls.call_function_entry kind_sorted plain_sorted entry_sorted (args_sorted1 _) ?_;unfold Builtin.«sorted»;refine af (m:=Uj "sorted" 1 1 _) (ay ?_);refine af (kdu_collect (kdl_dict (knd:=knd) (kvs:=kvs) (ep:=ep) S.ns) (by exact X) hd (by rw[d,bN];exact abN n c d) λD K acc k z=>?_);have f:acc.toList.length=is.length:=by rw[aV,z.1,d]
  have hI:IntsAre acc.toList is:=SD f λj v i h1 h2=>by
   obtain⟨P,x,e1,W⟩:=z.2 j v (by rw[<-uT];exact h1);obtain⟨p,e3,e4,_⟩:=T.get e1;have e5:(J.map (·.1))[j]?=some (I P):=by rw[bV,e3];rfl
   rw[O,bV,h2]at e5;have r:=ok.vr (v:=g.v) W e4;rw[<-bu (show some (PV.int i)=some (I P)from e5)]at r;exact r
  refine af (kJ ?_ (by rw[f,bN];exact abP n c d f));have B:(D.push (seqObj "list" acc.toList.toArray 0)).get? D.objs.size=some (seqObj "list" acc.toList.toArray 0):=Heap.get?_push_size _ rfl;show aJ _ _ _ _ _ {g.s with heap:=D.push (seqObj "list" acc.toList.toArray 0),toks:=K};have M:g.h.get? D.objs.size=none:=by cases q':g.h.get? D.objs.size with|none=>rfl|some o=>exact absurd (Heap.lt_size (k _ _ q')) (fT _)
  refine af (aZ (mP (s:={g.s with heap:=D.push (seqObj "list" acc.toList.toArray 0),toks:=K}) slot_list_sort ⟨_,B,rfl⟩ entry_list_sort (list_sort_tree (s:={g.s with heap:=D.push (seqObj "list" acc.toList.toArray 0),toks:=K}) B hI (by exact abQ n c d f) λout L a1 V Y=>⟨_,rfl,ay ⟨_,rfl,?_⟩⟩) (args_list_sort _)));obtain⟨e,N⟩:=sortedHeap_at (out:=out) B;have u:fR tQ is=L:=rW Jr V (Y.imp λ{a b}h=>by simp only[tQ,decide_eq_false_iff_not];exact abS h);refine q _ _ g.s.drawn K (λb o e=>?_) (uF (us:=out.toList) (e:=e) R M (by rw[N]) (by rw[u];exact zW a1) (by rw[u,aj,V.length_eq,jP];exact abT n c d f) rfl);have G:=Heap.lt_size (k b o e);rw[sortedHeap_old (cq G) (by rw[size_push'];exact gT G)];exact Heap.get?_push_of_some _ (k b o e))) gA
 intro w;delta id at w;(try dsimp-zetaHave only at w);refine(?F:gC _) _ w;exactλp _=>p
theorem Bj{d:Nat}:oQ C d (.builtin "sorted") λxs=>M.bind gr λn=>mw (gX n .sorted xs):=by
 refine(?H:gB (by
  exactλA k o g xs ys H u r e z=>by
   refine dq (sR e z) λp q i=>?_;clear e;refine dq (yE q) λx c h=>?_;subst c;clear q;obtain⟨y,rfl,f⟩:=u.jO;unfold vf at h;have b:∀{p:PV},.ok (true,p) g.t=r->yd C A (call (.builtin "sorted") [y]) g (λy g'=>oL g.h (true,p) y g')->aJ C.M A (call (.builtin "sorted") [y]) (Ok C k o resR r) (Ex C k o pI r) g.s:=λ{p}i G=>yd.ok (R:=resR) (a:=(true,p)) G H.bK i.symm;clear u;cases m:iH x with
   |some xs=>
    replace h:=m▸h;obtain⟨v,h1,h⟩:=cg h;by_cases h5:v.length<=5;case neg=>exact(kK ((if_neg h5).symm.trans h)).elim
    cases(if_pos h5).symm.trans h;replace f:=h9 m▸f;rewrite[BW HM h1]at f;by_cases j:v.length<2;·exact b i (Dp H.bK.st f j)
    ·exact b i (Fh H.bK.st f h5 (iz j))
   |none=>
    replace h:=m▸h;clear m;obtain⟨D,h1,h⟩:=cg h;obtain⟨is,j,h⟩:=cg h;by_cases h64:is.length<64;case neg=>exact(kK ((if_neg h64).symm.trans h)).elim
    cases(if_pos h64).symm.trans h;refine dq (iZ h1) λl c B=>?_;subst c;exact b i (Fi H.bK.st H.ok.handled f B (xI j) h64))) gA
 intro w;(try dsimp-zetaHave only[ff,fg,fi,fj,fm,lY,ua,ub,uc,ib,ic,ie,ig,ij]at w);delta jJ nU at w;extract_lets+proofs+implicits+lift at w;refine(?F:gC _) _ w;exactλp _=>p
end
noncomputable abbrev ik:Str:=Str.ofString "cells"
noncomputable abbrev i4:Str:=Str.ofString "mixed"
theorem sV{s:Slot}{p:PV}(h:ny s=some p):s=.val p:=by cases s with|val q=>exact congrArg _ (bu h)|_=>exact(kK h).elim
theorem HO{b:R.Env}{i:Nat}{t:aH}{d:Nat×List Int×Int}(h:kY b i t=some d):b i=.val (.ref d.1)/\t[d.1]?=some (.cK d.2.1 d.2.2):=by obtain⟨l,h1,h⟩:=cg h;obtain⟨p,f,h1⟩:=cg h1;obtain⟨⟨cs,m⟩,a,rfl⟩:=f6 h;obtain⟨c,e,a⟩:=cg a;rw[sV f,wR h1];refine⟨rfl,?_⟩;cases c with|cK=>cases a;exact e|_=>exact(kK a).elim
theorem xa(a b:ai):mZ [(ik,a),(i4,b)] ik=some a/\mZ [(ik,a),(i4,b)] i4=some b:=by
 have e:decide (ik=i4)=false:=by decide
 constructor<;>simp[mZ,e]
inductive Wl(C:Cx)(F:Fr)(g:Cf)(x:Str)(d:Nat×List Int×Int):Prop|mk(p:CP)(rd:Rd F.env g.h x (.ref p.a))(bK:g.v.m[d.1]?=some p)(dk:I4 C g.h p d.2.1 d.2.2)
section
variable{S:Sc}{F:Fr}{o:Or}{g:Cf}{x y:Str}{i j:Nat}{np mp kp sp lp cp apos qx k1 k2 p1 p2 p pos:Pos}{kn n1 n2 n3:Nat}{d:Nat×List Int×Int}{Q E:ai->ak->Prop}
theorem Here.cK(H:Here S F o g)(c:i3 S.nm x i=true)(h:kY F.ρ i g.t=some d):Wl S.C F g x d:=by obtain⟨h1,f⟩:=HO h;have a:=H.rd c;rw[h1]at a;obtain⟨v,e,p,b,rfl⟩:=a;exact⟨p,e,b,H.bK.st.cell d.1 _ p f b⟩
theorem Here.Dq(H:Here S F o g)(e:i3 S.nm x i=true){p:CP}{b:Str}{v:ai}{kvs:List (Str×ai)}(f:Rd F.env g.h x (.ref p.a))(c:g.h.DictOf (tG S.C.prog S.C.w) p.a kvs)(k:mZ kvs b=some v)(q:∀l,Q v {g.s with toks:=l}):aJ S.C.M F.A (eval (.Subscript (.Name x np) (.Constant (.str b) kn kp) pos) F.env) Q E g.s:=by refine Subscript_ (H.pO e f (kR ?_));refine sL (s:={g.s with toks:=g.s.toks+1}) ⟨"dict",_,c.typeIs,Vz.lookup⟩ ?_;exact XN (s:={g.s with toks:=g.s.toks+1}) (tH _ _ b g.s.toks) c.mapOf k (q _)
theorem Ls(b:i3 S.nm x i=true):nX S (.Subscript (.Name x np) (.Constant (.str i4) kn kp) pos) (og i):=by refine cH (λF o g H r e c=>?_) λ_ _=>rfl;unfold og at e;cases a:kY F.ρ i g.t with|none=>rw[a]at e;exact absurd e.symm c|some d=>rw[a]at e;obtain⟨p,k,_,f,_,_,_,t,h⟩:=H.cK b a;exact H.Dq b k h (xa _ _).2 λl=>(H.iu (s':={g.s with toks:=l}) (.refl _) rfl rfl).tp e ⟨t,rfl⟩
theorem HP(I:i3 S.nm x i=true)(U:IL (tn .ne) (.List [] lp)=false):nX S (.Compare (.Subscript (.Name x np) (.Constant (.str ik) kn kp) sp) [tn .ne] [.List [] lp] pos) (ku i):=by
 refine(?H:gB (by
  have M:lJ S (.Compare (.Subscript (.Name x np) (.Constant (.str ik) kn kp) sp) [tn .ne] [.List [] lp] pos) (ku i):=λF o g H r e N=>by
   unfold ku at e;cases u:kY F.ρ i g.t with
   |none=>replace e:=u▸e;exact absurd e.symm N
   |some d=>
    replace e:=u▸e;obtain⟨p,P,n,O,J,_,⟨vs,ep,f,L⟩,t,G⟩:=H.cK I u;refine wpAny_Compare1 (H.Dq I P G (xa _ _).1 λK=>XQ (spliced_nil ⟨by refine zl bN ?_;exact cy _,?_⟩)) U;have R:=H.iu (s':={g.s with heap:=g.h.push (gc [] 0),toks:=K}) (.push _ _) rfl rfl;have D:=eU g.h;have hz:g.v.z p.b=none:=H.bK.st.I1 _ (Ad.snd n);have V:p.b≠g.h.objs.size:=λq=>by replace f:=q▸f;replace f:=D▸f;cases f
    have T:St S.C [] ⟨iP ⟨iP ⟨g.v.z,[]⟩ p.b (gc vs ep)|>.z,[]⟩ g.h.objs.size (gc [] 0),[],{g.s with heap:=g.h.push (gc [] 0),toks:=K}⟩:={
     vy:=λa B e=>by have h0:=H.bK.st.vy a B e;show(if a=_ then _ else if a=_ then _ else g.v.z a)=_;refine zl (if_neg (λq=>by rw[q,H.bK.st.gO D]at h0;cases h0)) ?_;refine zl (if_neg (λq=>by rw[q,hz]at h0;cases h0)) ?_;exact h0
     fz:=λa B e=>by
      have e:(if a=g.h.objs.size then some (gc [] 0)else if a=p.b then some (gc vs ep)else g.v.z a)=some B:=e;by_cases q:a=g.h.objs.size;·replace e:=if_pos q▸e;cases e;refine zl q ?_;exact Heap.get?_push_size _ rfl
      ·replace e:=if_neg q▸e;by_cases q':a=p.b;·replace e:=if_pos q'▸e;cases e;refine zl q' ?_;exact Kp.push _ _ _ _ f
       ·replace e:=if_neg q'▸e;exact Kp.push _ _ _ _ (H.bK.st.fz _ _ e)
     iG:=rfl
     cell:=λ_ _ _ e=>by injection e
     apart:=λ_ _ _ _ e=>by injection e
     I1:=λ_ h=>by revert h;intro k;refine dq k λ_ h _=>?_;clear k;cases h
     qi:=λ_ h=>(bJ h).elim}
    refine BE (c:=.ne) (a:=PV.list (d.2.1.reverse.map .int)) (b:=PV.list []) T H.units (show CQ _ _ _ _ _ from CQ.mk p.b vs ep rfl ((if_neg V).trans (if_pos rfl)) (zW L) (by refine zl (aj _) ?_;refine zl ef ?_;refine zl jP ?_;exact abU J)) (show CQ _ _ _ _ _ from CQ.mk _ [] 0 rfl (if_pos rfl) dt.nil (cy _)) (r:=!d.2.1.isEmpty) ?_ λA=>(R.iu (s':={g.s with heap:=g.h.push (gc [] 0),toks:=A}) (.refl _) rfl rfl).tp e rfl;obtain⟨l,cs,m⟩:=d;clear e u n J sm L G;cases cs with|nil=>rfl|cons c cs=>show(if lE Kk (.list ((c::cs).reverse.map .int)) (.list [])then some (!PV.lD (.list ((c::cs).reverse.map .int)) (.list []))else none)=_;cases q:(c::cs).reverse.map PV.int with|nil=>simp at q|cons _ _=>rfl
  refine⟨M,Hh M λ{F g Q E}q=>?_⟩;have:tw (.Compare (.Subscript (.Name x np) (.Constant (.str ik) kn kp) sp) [tn .ne] [.List [] lp] pos) F.env (eval (.Compare (.Subscript (.Name x np) (.Constant (.str ik) kn kp) sp) [tn .ne] [.List [] lp] pos) F.env)=(eval (.Compare (.Subscript (.Name x np) (.Constant (.str ik) kn kp) sp) [tn .ne] [.List [] lp] pos) F.env>>=λv=>Mz [v] (Ub v)):=by rw[Yp,eval_Compare1];simp only[bind_assoc]
  refine zl this ?_;exact af (aY q (λ_ _ h=>aZ h) λ_ _ h=>h))) gA
 intro w;delta id at w;(try dsimp-zetaHave only[ff,fg,fi,fj,fm,ib,ic,ie,ig,ij]at w);delta jJ nU at w;extract_lets+proofs+implicits+lift at w;refine(?F:gC _) _ w;exactλp _=>p
theorem Lu:∀{is:List Int}{vs:List ai}{c:Int},IntsAre vs (is++[c])->∃us t,vs=us++[.int c t]/\IntsAre us is:=λ{is}=>by
 induction is with
 |nil=>intro vs c h;cases h with|cons _ t h=>cases h;exact⟨[],t,rfl,.nil⟩
 |cons i is e=>intro vs c h;cases h with|cons _ t h=>refine lB (e h) λus t' a b=>?_;subst a;exact⟨.int i t::us,t',rfl,.cons i t b⟩
theorem Fj{v:Vw}{is:List Int}:∀{vs:List ai},dt v (is.map .int) vs->IntsAre vs is:=by induction is with|nil=>intro _ h;cases h;exact .nil|cons i is a=>intro _ h;obtain⟨_,_,rfl,⟨t,rfl⟩,b⟩:=h;exact .cons i t (a b)
theorem Lv(V:i3 S.nm x i=true)(u:(apos.endLine==qx.line)=true):nX S (.Call (.Attribute (.Subscript (.Name x np) (.Constant (.str ik) kn kp) sp) (Str.ofString "pop") apos) [] [] qx) (qM i):=by
 refine(?H:gB (by
  refine cH (λF o g H r e T=>?_) λ_ _=>rfl;unfold qM at e;cases R:kY F.ρ i g.t with
  |none=>rw[R]at e;exact absurd e.symm T
  |some d=>
   obtain⟨l,cs,m⟩:=d;rw[R]at e;cases cs with
   |nil=>exact absurd e.symm T
   |cons c cs=>
    obtain⟨p,Y,N,B,G,z,⟨vs,ep,A,O⟩,t,U⟩:=H.cK V R;dsimp only at G z O;rw[AP]at O;obtain⟨us,k,rfl,W⟩:=Lu O;refine tK rfl (C6 .nil (by decide)) u (yg.nil _ _) (H.Dq V Y U (xa _ _).1 λI=>⟨"list","list.pop",Kc,MX,PySem.F.type_list_pop,⟨_,A,rfl⟩,λa q=>by cases q;exact⟨_,A,rfl⟩,?_⟩);refine callWith_of (P:=λ_=>True) (gP []) (λh _=>⟨.machine,.inr (.inl rfl),Looks.of_pure rfl⟩) (dW (spliced_nil ⟨trivial,?_⟩));have J:=IntsAre.length W;have K:(us++[ai.int c k]).toArray.size<=jD:=by rw[aN,bN,ah,J,ef];rw[aO]at G;exact aa G (by decide)
    have X:(us++[ai.int c k]).toArray[(us++[ai.int c k]).toArray.size-1]?=some (.int c k):=by simp
    refine kQ (s:={g.s with toks:=I}) MX ⟨_,A,rfl⟩ PySem.F.entry_list_pop (PySem.F.args_list_pop_1 _) (MeetsSeq.list_pop_last p.b _ ep _ X K) ⟨A,?_⟩;obtain⟨L,D⟩:∃L,(g.h.update p.b (Obj.mapSeq λxs=>xs.eraseIdxIfInBounds ((us++[ai.int c k]).toArray.size-1))).get? p.b=some (gc us L):=by
     have h:=get?_update_seq (c:="list") (xs:=(us++[ai.int c k]).toArray) A λxs=>xs.eraseIdxIfInBounds ((us++[ai.int c k]).toArray.size-1);have:((us++[ai.int c k]).toArray.eraseIdxIfInBounds ((us++[ai.int c k]).toArray.size-1))=us.toArray:=by rw[List.eraseIdxIfInBounds_toArray];congr 1;rw[List.eraseIdx_append_of_length_le (by simp)];simp
     rw[this]at h;exact⟨_,h⟩
    have f:∀b,b≠p.b->(g.h.update p.b (Obj.mapSeq λxs=>xs.eraseIdxIfInBounds ((us++[ai.int c k]).toArray.size-1))).get? b=g.h.get? b:=λb hb=>Heap.get?_update_other _ _ (dB hb);show Ok _ _ _ _ _ _ {g.s with heap:=(g.h.update p.b (Obj.mapSeq λxs=>xs.eraseIdxIfInBounds ((us++[ai.int c k]).toArray.size-1))),toks:=I};generalize(g.h.update p.b (Obj.mapSeq λxs=>xs.eraseIdxIfInBounds ((us++[ai.int c k]).toArray.size-1)))=M at D f⊢;have Z:I4 S.C M p cs m:=⟨B,ji G,z,⟨us,L,D,W⟩,t,U.at λo e=>(f _ B).trans e⟩;exact⟨_,⟨g.v,_,{g.s with heap:=M,toks:=I}⟩,rfl,e.symm,H.bK.xX (s':={g.s with heap:=M,toks:=I}) (c:=.cK cs m) H.A1 N Z (λb ob _ n e=>(f b n).trans e) rfl rfl,(⟨k,rfl⟩:VR g.v (.int c) (.int c k))⟩)) gA
 intro w;delta id at w;(try dsimp-zetaHave only[ff,fg,fi,fj,fm,ib,ic,ie,ig,ij]at w);delta jJ nU at w;extract_lets+proofs+implicits+lift at w;refine(?F:gC _) _ w;exactλp _=>p
theorem Lw(L:i3 S.nm x i=true):Oy S (λenv v=>gZ (.Subscript (.Name x np) (.Constant (.str i4) kn kp) pos) env v) λa=>T.ex λe=>pB i a.2 e:=by
 refine(?H:gB (by
  exact zM (m:=λp e=>pB i p e) λF o g q v r H M e K=>by
   unfold pB at e;cases D:(br q).bind λk=>(kY F.ρ i g.t).map λd=>(k,d)with
   |none=>rw[D]at e;exact absurd e.symm K
   |some R=>
    rw[D]at e;by_cases hkb:R.1.natAbs<2147483648;case neg=>exact absurd ((if_neg hkb).symm.trans e).symm K
    replace e:=(if_pos hkb).symm.trans e;obtain⟨k,h1,U⟩:=cg D;obtain⟨d,hd,rfl⟩:=f6 U;rw[bU h1]at M;obtain⟨J,rfl⟩:=M;obtain⟨l,cs,m⟩:=d;obtain⟨A,X,G,f,Y,O,⟨vs,ep,P,hI⟩,t,V⟩:=H.cK L hd;refine af (aZ (H.pO L X (af (aZ (kR ?_)))));obtain⟨W,z⟩:=V.dictAt;refine af (cY (af (aZ (zK (s:={g.s with toks:=g.s.toks+1}) (tH _ _ i4 g.s.toks) z (by rw[bN];show 2<=16777216;decide) λB N u _ h=>rg ?_))));have I:gY [(ik,ai.ref A.b),(i4,ai.int m t)] i4 (ai.int k J)=[(ik,ai.ref A.b),(i4,ai.int k J)]:=by
     have e:¬ik=i4:=by decide
     simp[gY,e]
    rw[I]at u;have Z:I4 S.C B A cs k:=⟨f,Y,hkb,⟨vs,ep,(h.2 _ (dB f)).trans P,hI⟩,J,u.dictOf⟩;exact⟨(),⟨g.v,_,{g.s with heap:=B,toks:=g.s.toks+1+1}⟩,rfl,e.symm,H.bK.xX (s':={g.s with heap:=B,toks:=g.s.toks+1+1}) (c:=.cK cs k) H.A1 G Z (λb ob n _ e=>(h.2 b n).trans e) rfl rfl,rfl⟩)) gA
 intro w;delta id at w;(try dsimp-zetaHave only[ff,fg,fi,fj,fm,ib,ic,ie,ig,ij]at w);delta jJ nU at w;extract_lets+proofs+implicits+lift at w;refine(?F:gC _) _ w;exactλp _=>p
theorem Lx{vs:List ai}{is:List Int}(n:Nat)(h:IntsAre vs is):IntsAre (vs.take n) (is.take n):=by induction h generalizing n with|nil=>rw[List.take_nil,List.take_nil];exact .nil|cons i t _ a=>cases n with|zero=>exact .nil|succ n=>exact .cons i t (a n)
theorem Ly(z:i3 S.nm x i=true):nX S (.Subscript (.Name x np) (.Slice none (some (.Constant (.int 40) kn cp)) none p) pos) (tP i):=by
 refine cH (λF o g H r e G=>?_) λ_ _=>rfl;unfold tP at e;cases u:(ny (F.ρ i)).bind vh with
 |none=>rw[u]at e;exact absurd e.symm G
 |some is=>
  rw[u]at e;obtain⟨q,h1,w⟩:=cg u;have C:=H.rd z;rw[sV h1]at C;clear h1;obtain⟨v,t,J⟩:=C;cases q<;>first|exact(kK w).elim|skip
  cases w;obtain⟨D,L,us,n,rfl,c,k,f,B,A⟩:=J;have I:g.h.IsList D us.toArray:=⟨L,H.bK.st.fz _ _ c,k,n,f⟩;refine Subscript_ (H.pO z t (Q1 ?_));rw[xT,IM];refine ay (yv (ay ?_));have m:=H.iu (s':={g.s with toks:=g.s.toks+1,heap:=g.s.heap.push {cls:=.type "slice",data:=.fields #[.none,.int 40 g.s.toks,.none]}}) (.push _ _) rfl rfl;have b:(g.h.push {cls:=.type "slice",data:=.fields #[.none,.int 40 g.s.toks,.none]}).IsList D us.toArray:=by obtain⟨o,c,r⟩:=I;exact⟨o,Kp.push _ _ _ _ c,r⟩
  have l:us.toArray.size<=jD:=by rw[aN,B.length,bN];exact abV A
  refine sL (s:={g.s with toks:=g.s.toks+1,heap:=g.h.push {cls:=.type "slice",data:=.fields #[.none,.int 40 g.s.toks,.none]}}) (.list b) (rb b (Heap.IsSliceOf.new ..) .none (.int _ _) .none (by simp) ?_ l);have K:slicePick us.toArray none (some 40) none=(us.take 40).toArray:=by rw[Yn];have h:=CU us none (some 40);rw[show R.pD us none (some 40)=us.take 40 by unfold R.pD M8;simp]at h;simp only[Rt]at*;rw[h];simp
  rw[K];exact(m.iu (s':={g.s with toks:=g.s.toks+1,heap:=(g.h.push {cls:=.type "slice",data:=.fields #[.none,.int 40 g.s.toks,.none]}).push (gc (us.take 40) 0)}) (.push _ _) rfl rfl).V7 (Rl:=resR) e.symm (resR.pH (λa e=>m.bK.dD.dO a e) (uy m.bK.st rfl (zW (Lx 40 B)) (by rw[aj,cW,jP];exact abW A)))
theorem Lz(hx:i3 S.nm x i=true)(hy:i3 S.nm y j=true):nX S (.Dict [some (.Constant (.str ik) n1 k1),some (.Constant (.str i4) n2 k2)] [.Subscript (.Name x np) (.Slice none none (some (.UnaryOp .USub (.Constant (.int 1) n3 p1) p2)) p) sp,.Name y mp] pos) (ru i j):=by
 refine(?H:gB (by
  refine cH (λF o g H r e hr=>?_) λ_ _=>rfl;unfold ru at e;cases u:(((ny (F.ρ i)).bind iH).bind lq).bind λis=>((ny (F.ρ j)).bind br).map λm=>(is,m)with
  |none=>rw[u]at e;exact absurd e.symm hr
  |some im=>
   rw[u]at e;by_cases hlm:im.1.length<=1000/\im.2.natAbs<2147483648;case neg=>exact absurd ((if_neg hlm).symm.trans e).symm hr
   replace e:=(if_pos hlm).symm.trans e;obtain⟨is,h1,h2⟩:=cg u;clear u;obtain⟨m,N,rfl⟩:=f6 h2;obtain⟨xs,h1,h4⟩:=cg h1;obtain⟨q,h1,h5⟩:=cg h1;obtain⟨q',N,h6⟩:=cg N;rw[xI h4]at h5;rw[h9 h5]at h1;rw[bU h6]at N;refine Yq (knd:=tG S.C.prog S.C.w) rfl rfl (λh=>by injection h) (show 2<=15 by decide) ?_;have O:=eU g.h;have hD1:(g.h.push {cls:=.type "dict",data:=.dict #[]}).DictOf (tG S.C.prog S.C.w) g.h.objs.size []:=Heap.DictOf.new _;refine xk (kR ?_);have H2:=H.iu (s':={g.s with heap:=g.h.push {cls:=.type "dict",data:=.dict #[]},toks:=g.s.toks+1}) (.push _ _) rfl rfl;have B:(M.bind (M.bind (xw F.ρ i) λv=>M.pure (false,v)) λva=>mw (yV va.2)) g.t=.ok (true,.list (is.map .int).reverse) g.t:=by unfold xw;rw[sV h1];rfl
   refine aY ((Jg (k:=n3) (p1:=p1) (p2:=p2) (p:=p) (pos:=sp) (Je (pos:=np) hx).s).s F _ _ H2.self _ B λh=>by injection h) (λv s3 T=>T.el λa f es I L Y=>?_) λ_ _ T=>T.el λ_ _ _ _ I _ _ _=>by injection I
   obtain⟨b,K⟩:=jb.ok.inj I;clear I;subst b;subst es;obtain⟨ys,D,vs,ep,e1,rfl,X,hvs,_,l,R,Z⟩:=Y;clear hl;cases e1;refine xk (kR ?_);have H3:=H2.step L;have J:=H3.iu (s':={f.s with toks:=f.s.toks+1}) (.refl _) rfl rfl;have G:=J.rd hy;rw[sV N]at G;obtain⟨vm,hrm,P,rfl⟩:=G;refine J.pO hy hrm (Ud ?_);have N2:(g.h.push {cls:=.type "dict",data:=.dict #[]}).get? g.h.objs.size=some {cls:=.type "dict",data:=.dict #[]}:=Heap.get?_push_size _ rfl;have mN:=H.bK.st.fM O;have fN:=H.bK.st.lH O;have U:f.h.DictOf (tG S.C.prog S.C.w) g.h.objs.size []:=hD1.at λob e=>L.dD.keep _ _ e mN fN id;refine⟨[(ik,.ref D),(i4,.int m P)],⟨tH _ _ ik _,rfl,tH _ _ i4 _,rfl,trivial⟩,U,λh' u G=>?_⟩;have V:merged ([]:List (Str×ai)) [(ik,.ref D),(i4,.int m P)]=[(ik,.ref D),(i4,.int m P)]:=by
    have e:¬ik=i4:=by decide
    simp[merged,gY,e]
   rw[V]at u;have l:(g.h.push {cls:=.type "dict",data:=.dict #[]}).get? D=none:=l;have A:g.h.objs.size≠D:=λq=>by rw[<-q,N2]at l;cases l
   have fD:g.h.get? D=none:=(Kp.push _ _).Es l;have zN:=L.dD.za (H.bK.st.gO O) N2 id;have nN:=L.dD.RN mN N2;have oN:=H.bK.dD.dO _ O;have y5:=(J.toHr.touch (W:=λb=>b=g.h.objs.size) (s':={f.s with heap:=h',toks:=f.s.toks+1+2}) (λb e=>e▸⟨.inr oN,zN,nN⟩) (λb ob n e=>(G.2 b n).trans e) (λb e _=>e▸oN) (λb k e=>absurd (e▸k) fN) rfl rfl).bK;have y6:=y5.push (p:=⟨g.h.objs.size,D,0⟩) (c:=.cK is m) ⟨A,hlm.1,hlm.2,⟨vs,ep,(G.2 _ (dB A)).trans X,Fj (by rw[iD];exact hvs)⟩,P,u⟩ ⟨zN,R⟩ ⟨nN,Z⟩ ⟨fN,H.bK.st.lH fD⟩ ⟨oN,H.bK.dD.dO _ fD⟩;have K:g.t=f.t:=K;refine⟨(false,.ref g.t.length),⟨⟨f.v.z,f.v.m++[⟨g.h.objs.size,D,0⟩]⟩,f.t++[.cK is m],{f.s with heap:=h',toks:=f.s.toks+1+2}⟩,rfl,?_,y6,?_⟩;·rw[<-K];exact e.symm
   ·refine⟨⟨g.h.objs.size,D,0⟩,?_,rfl⟩;show(f.v.m++[_])[g.t.length]?=_;rw[K,J.bK.st.iG,ec (bf _),lW];rfl)) gA
 intro w;delta id at w;(try dsimp-zetaHave only[ff,fg,fi,fj,fm,lY,ib,ic,ie,ig,ij]at w);delta jJ nU at w;extract_lets+proofs+implicits+lift at w;refine(?F:gC _) _ w;exactλp _=>p
end
inductive cT(P:Prop):Type|no|fZ(h:P)deriving Inhabited
section
variable{P Q:Prop}
noncomputable def cT.ok(c:cT P):Bool:=cT.casesOn (motive:=λ_=>Bool) c false λ_=>true
theorem cT.get{c:cT P}(h:c.ok=true):P:=cT.casesOn (motive:=λc=>c.ok=true->P) c (λh=>(aK h).elim) (λp _=>p) h
noncomputable def cT.and(c:cT P)(k:P->cT Q):cT Q:=cT.casesOn (motive:=λ_=>cT Q) c .no k
def cT.map(c:cT P)(k:P->Q):cT Q:=c.and λh=>.fZ (k h)
noncomputable def cT.or(a b:cT Q):cT Q:=cT.casesOn (motive:=λ_=>cT Q) a b .fZ
noncomputable def gd(b:Bool)(k:b=true->cT Q):cT Q:=MG (motive:=λx=>(x=true->cT Q)->cT Q) b (λ_=>.no) (λk=>k rfl) k
end
section
variable{α β:Type}
@[elab_as_elim]noncomputable def k8[BEq α][LawfulBEq α]{b:α}{M:α->Type}[∀a,Inhabited (M a)](a:α)(k:M b):M a:=if h:(a==b)=true then(eq_of_beq h).symm▸k else default
section
variable{M:List α->Type}[∀l,Inhabited (M l)](l:List α)
@[elab_as_elim]noncomputable def lP(k:M []):M l:=AM (motive:=M) l k λ_ _=>default
@[elab_as_elim]noncomputable def k9(k:∀a r,M (a::r)):M l:=AM (motive:=M) l default k
@[elab_as_elim]noncomputable def iv(k:∀a,M [a]):M l:=k9 l λa r=>lP r (k a)
@[elab_as_elim]noncomputable def xK(k:∀a b,M [a,b]):M l:=k9 l λa r=>iv r (k a)
end
section
variable{M:Option α->Type}[∀l,Inhabited (M l)](l:Option α)
@[elab_as_elim]noncomputable def rX(k:M none):M l:=wC (motive:=M) l k λ_=>default
@[elab_as_elim]noncomputable def mm(k:∀a,M (some a)):M l:=wC (motive:=M) l default k
end
noncomputable def oV{P:Prop}(o:Option α)(k:∀a,o=some a->cT P):cT P:=wC (motive:=λx=>(∀a,x=some a->cT P)->cT P) o (λ_=>.no) (λa k=>k a rfl) k
inductive G2(R:α->β->Prop):List α->List β->Prop|nil:G2 R [] []|cons{x:α}{e:β}{xs:List α}{es:List β}:R x e->G2 R xs es->G2 R (x::xs) (e::es)
def vL{R:α->β->Prop}(c:∀x e,cT (R x e))(xs:List α):∀a,cT (G2 R xs a):=dE (motive:=λxs=>∀a,cT (G2 R xs a)) (λa=>lP a (.fZ .nil)) (λx _ b a=>k9 a λe a=>(c x e).and λh=>(b a).map (.cons h)) xs
theorem G2.length{R:α->β->Prop}{xs:List α}{a:List β}(h:G2 R xs a):xs.length=a.length:=by induction h with|nil=>rfl|cons _ _ b=>exact congrArg (·+1) b
end
section
variable{M:Expr->Type}[∀e,Inhabited (M e)](e:Expr)
noncomputable def jQ(i:Nat)(k:e.ctorIdx=i->M e):M e:=if h:e.ctorIdx=i then k h else default
@[elab_as_elim]noncomputable def kH(k:∀a b c,M (.Constant a b c)):M e:=jQ e 19 λh=>PySem.Expr.Constant.elim (motive_1:=M) e h k
@[elab_as_elim]noncomputable def iK(k:∀a b,M (.Name a b)):M e:=jQ e 23 λh=>PySem.Expr.Name.elim (motive_1:=M) e h k
@[elab_as_elim]noncomputable def OQ(k:∀a b c d,M (.BinOp a b c d)):M e:=jQ e 2 λh=>PySem.Expr.BinOp.elim (motive_1:=M) e h k
@[elab_as_elim]noncomputable def SE(k:∀a b c,M (.UnaryOp a b c)):M e:=jQ e 3 λh=>PySem.Expr.UnaryOp.elim (motive_1:=M) e h k
@[elab_as_elim]noncomputable def Jt(k:∀a b c d,M (.Compare a b c d)):M e:=jQ e 15 λh=>PySem.Expr.Compare.elim (motive_1:=M) e h k
@[elab_as_elim]noncomputable def OR(k:∀a b c,M (.BoolOp a b c)):M e:=jQ e 0 λh=>PySem.Expr.BoolOp.elim (motive_1:=M) e h k
@[elab_as_elim]noncomputable def Ju(k:∀a b c d,M (.IfExp a b c d)):M e:=jQ e 5 λh=>PySem.Expr.IfExp.elim (motive_1:=M) e h k
@[elab_as_elim]noncomputable def oz(k:∀a b c,M (.Subscript a b c)):M e:=jQ e 21 λh=>PySem.Expr.Subscript.elim (motive_1:=M) e h k
@[elab_as_elim]noncomputable def Dr(k:∀a b c d,M (.Slice a b c d)):M e:=jQ e 26 λh=>PySem.Expr.Slice.elim (motive_1:=M) e h k
@[elab_as_elim]noncomputable def qz(k:∀a b c,M (.Attribute a b c)):M e:=jQ e 20 λh=>PySem.Expr.Attribute.elim (motive_1:=M) e h k
@[elab_as_elim]noncomputable def Ds(k:∀a b,M (.List a b)):M e:=jQ e 24 λh=>PySem.Expr.List.elim (motive_1:=M) e h k
@[elab_as_elim]noncomputable def tX(k:∀a b c,M (.Tuple a b c)):M e:=jQ e 25 λh=>PySem.Expr.Tuple.elim (motive_1:=M) e h k
@[elab_as_elim]noncomputable def Dt(k:∀a b c,M (.Dict a b c)):M e:=jQ e 6 λh=>PySem.Expr.Dict.elim (motive_1:=M) e h k
@[elab_as_elim]noncomputable def HQ(k:∀a b c d,M (.ListComp a b c d)):M e:=jQ e 8 λh=>PySem.Expr.ListComp.elim (motive_1:=M) e h k
@[elab_as_elim]noncomputable def uG(k:∀a b c d,M (.Call a b c d)):M e:=jQ e 16 λh=>PySem.Expr.Call.elim (motive_1:=M) e h k
end
section
variable{M:Stmt->Type}[∀e,Inhabited (M e)](e:Stmt)
noncomputable def rY(i:Nat)(k:e.ctorIdx=i->M e):M e:=if h:e.ctorIdx=i then k h else default
@[elab_as_elim]noncomputable def OS(k:∀a b,M (.Return a b)):M e:=rY e 3 λh=>PySem.Stmt.Return.elim (motive_2:=M) e h k
@[elab_as_elim]noncomputable def Fm(k:∀a b c,M (.Assign a b c)):M e:=rY e 5 λh=>PySem.Stmt.Assign.elim (motive_2:=M) e h k
@[elab_as_elim]noncomputable def Zk(k:∀a b c d e,M (.For a b c d e)):M e:=rY e 9 λh=>PySem.Stmt.For.elim (motive_2:=M) e h k
@[elab_as_elim]noncomputable def SH(k:∀a b c d,M (.While a b c d)):M e:=rY e 11 λh=>PySem.Stmt.While.elim (motive_2:=M) e h k
@[elab_as_elim]noncomputable def UL(k:∀a b c d,M (.If a b c d)):M e:=rY e 12 λh=>PySem.Stmt.If.elim (motive_2:=M) e h k
@[elab_as_elim]noncomputable def onRaise(k:∀a b c,M (.Raise a b c)):M e:=rY e 16 λh=>PySem.Stmt.Raise.elim (motive_2:=M) e h k
@[elab_as_elim]noncomputable def UM(k:∀a b c d e,M (.Try a b c d e)):M e:=rY e 17 λh=>PySem.Stmt.Try.elim (motive_2:=M) e h k
@[elab_as_elim]noncomputable def OT(k:∀a b,M (.Expr a b)):M e:=rY e 24 λh=>PySem.Stmt.Expr.elim (motive_2:=M) e h k
end
noncomputable def gM{M:Type}[Inhabited M](b:Bool)(k:b=true->M):M:=MG (motive:=λx=>(x=true->M)->M) b (λ_=>default) (λk=>k rfl) k
noncomputable def toM{P:Prop}{M:Type}[Inhabited M](c:cT P)(k:P->M):M:=cT.casesOn (motive:=λ_=>M) c default k
@[elab_as_elim]noncomputable def Zl{M:IT->Type}(g:IT)(k:∀a b c d,M ⟨a,b,c,d⟩):M g:=IT.casesOn (motive_3:=M) g k
section
variable{M:QZ->Type}[∀e,Inhabited (M e)](c:QZ)
@[elab_as_elim]noncomputable def OU{s:Str}(k:M (.str s)):M c:=match c with|.str a=>k8 a k|_=>default
@[elab_as_elim]noncomputable def UN{i:Int}(k:M (.int i)):M c:=match c with|.int a=>k8 a k|_=>default
end
section
variable(e:Expr)
def OV:cT (NS e):=cT.or (iK e λ_ _=>.fZ λ_ _=>rfl)<|cT.or (kH e λ_ _ _=>.fZ λ_ _=>rfl)<|cT.or (uG e λ_ _ _ _=>.fZ λ_ _=>rfl)<|cT.or (tX e λ_ _ _=>.fZ λ_ _=>rfl)<|cT.or (oz e λ_ _ _=>.fZ λ_ _=>rfl)<|cT.or (OQ e λ_ _ _ _=>.fZ λ_ _=>rfl)<|cT.or (qz e λ_ _ _=>.fZ λ_ _=>rfl)<|cT.or (Ds e λ_ _=>.fZ λ_ _=>rfl)<|cT.or (HQ e λ_ _ _ _=>.fZ λ_ _=>rfl)<|cT.or (Ju e λ_ _ _ _=>.fZ λ_ _=>rfl)<|cT.or (SE e λ_ _ _=>.fZ λ_ _=>rfl)<|cT.or (Jt e λ_ _ _ _=>.fZ λ_ _=>rfl)<|Dt e λ_ _ _=>.fZ λ_ _=>rfl
def Du:cT (rR e):=cT.or (iK e λ_ _=>.fZ λ_ _ _=>rfl)<|cT.or (kH e λ_ _ _=>.fZ λ_ _ _=>rfl)<|cT.or (uG e λ_ _ _ _=>.fZ λ_ _ _=>rfl)<|cT.or (tX e λ_ _ _=>.fZ λ_ _ _=>rfl)<|cT.or (oz e λ_ _ _=>.fZ λ_ _ _=>rfl)<|cT.or (OQ e λ_ _ _ _=>.fZ λ_ _ _=>rfl)<|cT.or (qz e λ_ _ _=>.fZ λ_ _ _=>rfl)<|cT.or (Ds e λ_ _=>.fZ λ_ _ _=>rfl)<|cT.or (Ju e λ_ _ _ _=>.fZ λ_ _ _=>rfl)<|Dt e λ_ _ _=>.fZ λ_ _ _=>rfl
def OW:cT (zw e):=cT.or (iK e λ_ _=>.fZ λ_ _ _=>rfl)<|cT.or (kH e λ_ _ _=>.fZ λ_ _ _=>rfl)<|cT.or (oz e λ_ _ _=>.fZ λ_ _ _=>rfl)<|cT.or (qz e λ_ _ _=>.fZ λ_ _ _=>rfl)<|cT.or (Ju e λ_ _ _ _=>.fZ λ_ _ _=>rfl)<|uG e λf _ _ _=>qz f λ_ _ _=>.fZ λ_ _ _=>rfl
def Zm:cT (Hu e):=cT.or (uG e λ_ _ _ _=>.fZ λ_ _ _ _ _=>⟨rfl,rfl⟩)<|cT.or (HQ e λ_ _ _ _=>.fZ λ_ _ _ _ _=>⟨rfl,rfl⟩)<|oz e λ_ _ _=>.fZ λ_ _ _ _ _=>⟨rfl,rfl⟩
def UO:cT (∀env x,AW e env x=pure x):=cT.or (iK e λ_ _=>.fZ λ_ _=>rfl)<|cT.or (uG e λ_ _ _ _=>.fZ λ_ _=>rfl)<|cT.or (tX e λ_ _ _=>.fZ λ_ _=>rfl)<|oz e λ_ _ _=>.fZ λ_ _=>rfl
def xM(a:List Expr):cT (yg a):=dE (motive:=λa=>cT (yg a)) (.fZ .nil) (λe _ b=>(OV e).and λh=>b.map λk=>.cons h k) a
end
section
variable{M:Expr->Type}[∀e,Inhabited (M e)](e:Expr)
@[elab_as_elim]noncomputable def oA(k:∀x np a pos,M (.Call (.Name x np) a [] pos)):M e:=uG e λf a b pos=>iK f λx np=>lP b (k x np a pos)
@[elab_as_elim]noncomputable def yG(k:∀b s c a pos,(c.endLine==pos.line)=true->zw b->yg a->a.length<20->M (.Call (.Attribute b s c) a [] pos)):M e:=uG e λf a h pos=>qz f λb s c=>lP h<|gM _ λh1=>toM (OW b) λi=>toM (xM a) λd=>gM (m8 a.length 20) λg=>k b s c a pos h1 i d (aE g)
@[elab_as_elim]noncomputable def tY{nm:Nm}{i:Nat}(k:∀x p,i3 nm x i=true->M (.Name x p)):M e:=iK e λx p=>gM _ (k x p)
@[elab_as_elim]noncomputable def Bk{sc:dM}{nm:Nm}{i:Nat}(k:∀x p,eI sc nm x i=true->M (.Name x p)):M e:=iK e λx p=>gM _ (k x p)
@[elab_as_elim]noncomputable def UP(k:∀n p1 p2 p,M (.Slice none none (some (.UnaryOp .USub (.Constant (.int 1) n p1) p2)) p)):M e:=Dr e λl h s p=>rX l<|rX h<|mm s λu=>SE u λa x p2=>k8 a<|kH x λc n p1=>UN c (k n p1 p2 p)
@[elab_as_elim]noncomputable def SI{nm:Nm}{i:Nat}{d:Str}(k:∀x np g f pos,i3 nm x i=true->M (.Subscript (.Name x np) (.Constant (.str d) g f) pos)):M e:=oz e λa b pos=>tY a λx np h=>kH b λc g f=>OU c (k x np g f pos h)
end
noncomputable abbrev badS:Str:=Str.ofString "BadRow"
structure Ctx(C:Cx)(d:Nat)(call:cb)(fI:Addr):Prop where
 fx:Fx C
 fns:∀f,oQ C d (.ref (xD f)) (call f)
 adF:∀c,oQ C d (.ref (cI c)) (Zb c (call (iI c)))
 UQ:Fd C fI
 Fo:C.mg badS=some (.ref badAddr)
def HS(sc:dM)(n:Str)(v:ai):Bool:=oO sc n&&bnL.lookup n==some v
theorem Ctx.bn{C:Cx}{d:Nat}{a:cb}{b:Addr}{sc:dM}{nm:Nm}(K:Ctx C d a b){n:Str}{v:ai}(h:HS sc n v=true):kF ⟨C,d,sc,nm⟩ n v:=have h:=yS h;NN h.1 (K.fx.bok _ _ (eq_of_beq h.2))
section
variable(C:Cx)(d:Nat)(call:cb)(sc:dM)(nm:Nm)
def EG(x:X)(e:Expr):Prop:=∀n,nX ⟨C,d,sc,nm⟩ e (ev call n x)
def OG(x:Option X)(e:Option Expr):Prop:=∀n,Jf ⟨C,d,sc,nm⟩ e (RF call (n+1) x)
def IG(t:Bool)(a:AZ)(xs:List X)(e:Expr):Prop:=∀n,xG ⟨C,d,sc,nm⟩ t e a (CM call n xs)
def CG(x:Option X)(a:List Expr):Prop:=∀n,BP ⟨C,d,sc,nm⟩ a (YH call (n+1) x)
def DG(kvs:List (X×X))(b:List (Option Expr))(vs:List Expr):Prop:=∃a,lK a b vs/\kvs=a.map λp=>(.aF p.1,.aF p.2)
abbrev Wm:=∀sc nm x e,cT (EG C d call sc nm x e)
end
section
variable{S:Sc}{C:Cx}{d:Nat}{call:cb}{sc:dM}{nm:Nm}{fI:Addr}{x:X}{e:Expr}
theorem lb{f:R.Env->M (Bool×PV)}(h:∀c t,f c t=.aS):nX S e f:=⟨λF o g b r e a=>absurd ((h _ _).symm.trans e).symm a,λF o g b r e a=>absurd (h _ _) (lx e a)⟩
theorem EG.up(h:∀n,nX ⟨C,d,sc,nm⟩ e (ev call (n+1) x)):EG C d call sc nm x e|0=>lb λ_ _=>rfl|n+1=>h n
theorem EG.up2(h:∀n,nX ⟨C,d,sc,nm⟩ e (ev call (n+2) x))(h1:∀a t,ev call 1 x a t=.aS):EG C d call sc nm x e|0=>lb λ_ _=>rfl|1=>lb h1|n+2=>h n
theorem Wn{P:(R.Env->M Bool)->Prop}(h:∀n,nX S e (ev call n x))(h0:P λ_=>aS)(h1:∀f,nX S e f->P λa=>M.bind (f a) jn):∀n,P (IY call n x)|0=>h0|n+1=>h1 _ (h n)
theorem OX{c β:Type}{m:Nat->List X->M (List β)}{h:Nat->X->M c}{f:c->β}(h0:∀xs,m 0 xs=aS)(h1:∀n,m (n+1) []=M.pure [])(i:∀n x xs,m (n+1) (x::xs)=M.bind (h n x) λv=>M.bind (m n xs) λvs=>M.pure (f v::vs)){n:Nat}{xs:List X}{t:aH}{vs:List β}{t':aH}:m n xs t=.ok vs t'->vs.length=xs.length:=by induction n generalizing xs t vs t' with|zero=>refine zl (h0 _) ?_;exactλh=>by injection h|succ n j=>cases xs with|nil=>refine zl (h1 _) ?_;exactλe=>Jm e▸rfl|cons x xs=>refine zl (i _ _ _) ?_;refineλe=>?_;obtain⟨a,k,_,e⟩:=lL e;obtain⟨b,l,g,e⟩:=lL e;exact Jm e▸congrArg (·+1) (j g)
theorem Jv{n:Nat}{xs:List X}{a:R.Env}{t:aH}{vs:List PV}{t':aH}:CM call n xs a t=.ok vs t'->vs.length=xs.length:=OX (m:=λn xs=>CM call n xs a) (h:=λn x=>ev call n x a) (f:=λv=>v.2) (λ_=>rfl) (λ_=>rfl) (λ_ _ _=>rfl)
theorem zX{n:Nat}{xs:List X}{a:R.Env}{t:aH}{vs:List (Bool×PV)}{t':aH}:Ep call n xs a t=.ok vs t'->vs.length=xs.length:=OX (m:=λn xs=>Ep call n xs a) (h:=λn x=>ev call n x a) (f:=λv=>v) (λ_=>rfl) (λ_=>rfl) (λ_ _ _=>rfl)
theorem OY{a:List (PV×PV)}{b:R.Env}{t:aH}:∀{n},GQ call n (a.map λp=>(.aF p.1,.aF p.2)) b t=.aS\/GQ call n (a.map λp=>(.aF p.1,.aF p.2)) b t=.ok a t:=by
 induction a with
 |nil=>intro n;cases n<;>first|exact .inl rfl|exact .inr rfl
 |cons p a c=>intro n;cases n with|zero=>exact .inl rfl|succ n=>cases n with|zero=>exact .inl rfl|succ n=>exact(c (n:=n+1)).imp (λh=>(show M.bind (GQ call (n+1) (a.map λp=>(.aF p.1,.aF p.2)) b) (λvs=>M.pure (p::vs)) t=.aS by unfold M.bind;exact zl h rfl)) λh=>lu (f:=λvs=>M.pure (p::vs)) h
variable{xs:List X}{es:List Expr}
theorem jY(h:G2 (EG C d call sc nm) xs es):∀n,rM ⟨C,d,sc,nm⟩ es (CM call n xs):=by induction h with|nil=>exact oZ (λF o g H r e a=>absurd e.symm a) λ_ _=>NP|cons h _ b=>exact oZ (λF o g H r e a=>absurd e.symm a) λn _=>KQ (h n).s (b n)
theorem uH(h:G2 (EG C d call sc nm) xs es):∀n,xH ⟨C,d,sc,nm⟩ es (Ep call n xs):=by induction h with|nil=>exact oZ (λF o g H r e a=>absurd e.symm a) λ_ _=>K6|cons h _ b=>exact oZ (λF o g H r e a=>absurd e.symm a) λn _=>Hv (h n).s (b n)
theorem rZ{b:yw}:vF S b es λ_=>aS:=⟨λF o g pos H _ r e a=>absurd e.symm a,λF o g H r e a=>absurd e.symm a⟩
theorem Wo{w:Bool}{m:Nat->List X->R.Env->M Bool}(h0:m 0 []=λ_=>aS)(h1:∀n,m (n+1) []=λ_=>M.pure w){a:R.Env}{t:aH}:∀n,m n [] a t≠.aS->m n [] a t=.ok w t|0=>by refine zl h0 ?_;exactλh=>absurd rfl h|n+1=>by refine zl (h1 _) ?_;exactλ_=>rfl
theorem G2.Wq{a β:Type}{R:a->β->Prop}{xs:List a}{es:List β}(h:G2 R xs es)(e:es=[]):xs=[]:=by cases h with|nil=>rfl|cons=>exact by injection e
theorem Jw{a:yw}{k:Bool->M Bool->M Bool}{m:Nat->List X->R.Env->M Bool}(j:(λb h=>if b==xE a then M.pure b else h)=k)(h0:∀xs,m 0 xs=λ_=>aS)(h1:∀n,m (n+1) []=λ_=>M.pure (a==.And))(o:∀n x xs,m (n+1) (x::xs)=λc=>M.bind (IY call n x c) λb=>k b (m n xs c))(r:(a==.And)=!xE a)(h:G2 (EG C d call sc nm) xs es):∀n,vF ⟨C,d,sc,nm⟩ a es (m n xs):=by subst j;induction h with|nil=>exact oZ (h0 _▸rZ) λn _=>h1 n▸KU|cons h i p=>exact oZ (h0 _▸rZ) λn _=>o n _ _▸Wn (P:=λf=>vF _ a _ λc=>M.bind (f c) λb=>if b==xE a then M.pure b else m n _ c) h rZ (λf l=>Hl l (p n) λq c t g=>by rw[i.Wq q]at g⊢;exact Wo (h0 _) (λn=>r▸h1 n) n g) n
theorem O0(h:G2 (EG C d call sc nm) xs es):∀n,vF ⟨C,d,sc,nm⟩ .And es (IX call n xs):=Jw (k:=λb h=>if b then h else M.pure false) (funext λb=>by cases b<;>rfl) (λ_=>rfl) (λ_=>rfl) (λ_ _ _=>rfl) rfl h
theorem SJ(h:G2 (EG C d call sc nm) xs es):∀n,vF ⟨C,d,sc,nm⟩ .Or es (RE call n xs):=Jw (k:=λb h=>if b then M.pure true else h) (funext λb=>by cases b<;>rfl) (λ_=>rfl) (λ_=>rfl) (λ_ _ _=>rfl) rfl h
def ckO(c:∀x e,cT (EG C d call sc nm x e))(x:Option X)(e:Option Expr):cT (OG C d call sc nm x e):=match x with|none=>rX e (.fZ λ_=>.inl ⟨rfl,rfl⟩)|some x=>mm e λe=>(c x e).map λh n=>.inr ⟨_,_,rfl,(h n).s,rfl⟩
def ckC(c:∀x e,cT (EG C d call sc nm x e))(x:Option X)(es:List Expr):cT (CG C d call sc nm x es):=match x with|none=>lP es (.fZ λ_=>.none)|some x=>iv es λe=>(c x e).map λh=>Wn (P:=BP _ _) h (.some (f:=λ_=>aS) λF o g H r e a=>absurd e.symm a) λf b=>.some b.t
theorem zY{t:Bool}{b:Expr}{k:AZ}{f:R.Env->M (List PV)}(h:∀c s,f c s=.aS):xG S t b k f:=λF o g Q E H a _ _ _=>absurd (h _ _) a
theorem Fp{t:Bool}{a:AZ}(h:∀n,xG ⟨C,d,sc,nm⟩ t e a λb=>M.bind (ev call (n+1) x b) λv=>M.pure [v.2]):IG C d call sc nm t a [x] e|0=>zY λ_ _=>rfl|1=>zY λ_ _=>rfl|n+2=>h n
def UR(K:Ctx C d call fI)(c:∀x e,cT (EG C d call sc nm x e)){t:Bool}{a:AZ}(b:a=.range\/a=.ud)(xs:List X)(e:Expr):cT (IG C d call sc nm t a xs e):=oA e λx np es pos=>gd (HS sc x (.type "range")) λg=>(xM es).and λf=>(vL c xs es).map λh n=>Hq b (K.bn g) f (jY h n)
def Zn(K:Ctx C d call fI)(c:∀x e,cT (EG C d call sc nm x e))(t:Bool)(f:AZ)(xs:List X)(e:Expr):cT (IG C d call sc nm t f xs e):=match f with|.val=>iv xs λa=>(c a e).map λh=>Fp λn=>Od (h (n+1)).s|.A5=>k8 t (b:=true)<|oA e λx np es pos=>gd (HS sc x (.type "enumerate")) λi=>iv xs λa=>iv es λe=>(OV e).and λg=>(c a e).map λh=>Fp λn=>K1 (K.bn i) g (h (n+1)).s|.range=>UR K c (.inl rfl) xs e|.ud=>UR K c (.inr rfl) xs e
@[elab_as_elim]noncomputable def onX{M:X->Type}[∀x,Inhabited (M x)](x:X)(k:∀v,M (.aF v))(k2:∀tg c args a b,M (.comp tg c args a b)):M x:=X.casesOn (motive_1:=M) x k (λ_=>default) (λ_=>default) (λ_ _ _=>default) (λ_=>default) (λ_ _ _=>default) (λ_ _ _=>default) (λ_=>default) (λ_=>default) (λ_=>default) (λ_ _ _=>default) (λ_ _=>default) (λ_ _ _=>default) (λ_=>default) (λ_ _=>default) (λ_=>default) (λ_=>default) (λ_=>default) k2 (λ_ _=>default) (λ_ _ _=>default) (λ_ _=>default) (λ_ _=>default) (λ_=>default) (λ_ _=>default) (λ_=>default) (λ_=>default) (λ_=>default) (λ_ _=>default) (λ_=>default)
@[elab_as_elim]noncomputable def O3{M:X->Type}[∀x,Inhabited (M x)](x:X)(k:∀v,M (.aF v)):M x:=onX x k λ_ _ _ _ _=>default
@[elab_as_elim]noncomputable def Ws{M:PV->Type}[∀x,Inhabited (M x)](x:PV)(k:∀v,M (.str v)):M x:=if h:x.ctorIdx=3 then PV.str.elim (motive_1:=M) x h k else default
theorem DG.cons{s:List Nat}{p:PV}{c a:QZ}{n f:Nat}{q q':Pos}{kvs:List (X×X)}{b:List (Option Expr)}{vs:List Expr}(h1:mC (.str s) c=true)(j:mC p a=true)(h:DG kvs b vs):DG ((.aF (.str s),.aF p)::kvs) (some (.Constant c n q)::b) (.Constant a f q'::vs):=by refine dq h λi g k=>?_;clear h;exact⟨(.str s,p)::i,.cons h1 j g,congrArg _ k⟩
def Wt(b:X×X){kvs:List (X×X)}(a:Option Expr){f:List (Option Expr)}(v:Expr){vs:List Expr}:cT (DG kvs f vs->DG (b::kvs) (a::f) (v::vs)):=Prod.casesOn (motive:=λb=>cT (DG kvs f vs->DG (b::kvs) (a::f) (v::vs))) b λk p=>O3 k λs=>Ws s λs=>O3 p λp=>mm a λa=>kH a λc n q=>kH v λg i q'=>gd (mC (.str s) c) λh1=>gd (mC p g) λh=>.fZ (.cons h1 h)
def SK(kvs:List (X×X)):∀a vs,cT (DG kvs a vs):=dE (motive:=λkvs=>∀a vs,cT (DG kvs a vs)) (λa vs=>lP a<|lP vs<|.fZ ⟨[],.nil,rfl⟩) (λb kvs c a vs=>k9 a λk a=>k9 vs λv vs=>(Wt b k v).and λh=>(c a vs).map h) kvs
def adG(a:Expr)(is:List Nat):Nm:=iK (M:=λ_=>Nm) a (λx _=>[(x,is.headD 0)])++tX (M:=λ_=>Nm) a λes _ _=>(es.zip is).flatMap λp=>iK (M:=λ_=>Nm) p.1 λx _=>[(x,p.2)]
def O4(b:dM)(nm:Nm)(a:Expr)(tg:List Nat):Nm:=adG a tg++nm.filter λp=>b.names.lookup p.1==some .free
theorem O5{f:Type}[DecidableEq f]{a b:f}{c:Bool}(h:(a !=b||c)=true)(e:a=b):c=true:=(i7 _ _|>.mp h).resolve_left λq=>bne_iff_ne.mp q e
def SM(a sc:dM)(nm nm':Nm)(tg:List Nat):cT (Dh a sc nm nm' tg):=gd (a.names.all λy=>y.2 !=.cell) λh1=>gd (a.kind==.function) λf=>gd (a.names.all λy=>y.2 !=.local||a.names.lookup y.1==some .local) λc=>gd (a.names.all λy=>y.2 !=.free||(sc.names.lookup y.1==some .cell||sc.names.lookup y.1==some .free)) λj=>gd (nm'.all λp=>tg.contains p.2||(a.names.lookup p.1==some .free&&nm.lookup p.1==some p.2)) λg=>.fZ ⟨λy b=>bne_iff_ne.mp (bj.mp h1 y b),eq_of_beq f,λy b e=>eq_of_beq (O5 (bj.mp c y b) e),λy b e=>((i7 _ _).mp (O5 (bj.mp j y b) e)).imp eq_of_beq eq_of_beq,λx i e=>((i7 _ _).mp (bj.mp g (x,i) (dX e))).imp jg.mp λh=>⟨eq_of_beq (yS h).1,eq_of_beq (yS h).2⟩⟩
noncomputable def Jx(a:Expr):Bool:=a.ctorIdx==25
def SN(sc:dM)(nm:Nm)(es:List Expr):∀is,cT (vG sc nm es is):=dE (motive:=λes=>∀is,cT (vG sc nm es is)) (λis=>lP is (.fZ .nil)) (λe es a is=>k9 is λi is=>Bk e λx p h=>(a is).map (.cons h)) es
def US(sc:dM)(nm:Nm)(a:Expr)(tg:List Nat):cT (zz sc nm (Jx a) a tg):=cT.or (iK a λx p=>iv tg λi=>gd (eI sc nm x i) λh=>.fZ (.jO h))<|tX a λes k p=>k9 tg λi r=>k9 r λj r=>(SN sc nm es (i::j::r)).map .Se
end
def Zo(sc:dM)(e:Expr):Bool:=iK (M:=λ_=>Bool) e λx _=>sc.names.lookup x==some .local
def Zp(sc:dM)(e:Expr):cT (∀x,Wa e x->sc.names.lookup x=some .local):=cT.or (iK e λy p=>gd (sc.names.lookup y==some .local) λh=>.fZ λx q=>q▸eq_of_beq h)<|tX e λa k p=>gd (a.all (Zo sc)) λh=>.fZ λx q=>q.elim λp b=>eq_of_beq (show(sc.names.lookup x==some .local)=true from bj.mp h _ b)
section
variable{C:Cx}{d:Nat}{call:cb}{sc:dM}{nm:Nm}{fI:Addr}
abbrev adH(call:cb)(nm':Nm)(f a e:Expr)(g:List Expr)(b:dM)(tg:List Nat)(h:AZ)(args:List X)(c:Option X)(x:X)(n:Nat):Cp:=⟨f,a,e,g,b,tg,h,Jx a,nm',CM call (n+1) args,YH call (n+1) c,ev call (n+1) x⟩
@[elab_as_elim]noncomputable def Jy{M:Expr->Type}[∀e,Inhabited (M e)](K:Ctx C d call fI)(G:Wm C d call)(tg:List Nat)(l:AZ)(args:List X)(i:Option X)(x:X)(e:Expr)(k:∀nm' f a c h b pos,(∀n,BQ ⟨C,d,sc,nm⟩ (adH call nm' f a c h b tg l args i x n))->M (.ListComp f [⟨a,c,h,0⟩] b pos)):M e:=HQ e λf j b pos=>iv j λg=>Zl g λa c h o=>k8 o<|toM (SM b sc nm (O4 b nm a tg) tg) λh1=>toM (US (Jl b sc) (O4 b nm a tg) a tg) λp=>toM (Zp (Jl b sc) a) λm=>toM (UO c) λr=>toM (Zn K (G sc nm) (Jx a) l args c) λq=>toM (ckC (G (Jl b sc) (O4 b nm a tg)) i h) λt=>toM (G (Jl b sc) (O4 b nm a tg) x f) λu=>k (O4 b nm a tg) f a c h b pos λn=>⟨h1,p,m,q (n+1),r,t n,(u (n+1)).s⟩
def O6(b:Bi):Option ai:=if b=.sorted then some (.builtin "sorted")else if b=.tuple then some (.type "tuple")else if b=.int then some (.type "int")else BH b
theorem HT:oQ C d (.type "int") λxs=>M.bind gr λb=>mw (gX b .int xs):=λA k o g xs ys H j r e l=>by obtain⟨p,f,m⟩:=sR e l;clear e;obtain⟨q,rfl,h⟩:=yE f;clear f;obtain⟨i,h1,rfl⟩:=f6 h;obtain⟨y,rfl,a⟩:=j.jO;rw[bU h1]at a;have c:=a;clear j;obtain⟨t,rfl⟩:=a;exact call_int_int ⟨_,g,rfl,m.symm,H.bK,c⟩
theorem O7{b:Bi}{v:ai}(h:BH b=some v)(a:Addr)(q:v=.ref a):False:=by
 have k:(BH b).all (λv=>v.ctorIdx !=10)=true:=by clear h;cases b<;>rfl
 rw[h,q]at k;exact aK k
theorem zZ{b:Bi}{v:ai}(h:O6 b=some v):oQ C d v (λxs=>M.bind gr λc=>mw (gX c b xs))/\∀a,v≠.ref a:=by
 unfold O6 at h;by_cases q:b=.sorted;·rw[if_pos q]at h;exact q▸bu h▸⟨Bj,λa q=>by injection q⟩
 rw[if_neg q]at h;clear q;by_cases q:b=.tuple;·rw[if_pos q]at h;exact q▸bu h▸⟨C5,λa q=>by injection q⟩
 rw[if_neg q]at h;clear q;by_cases q:b=.int;·rw[if_pos q]at h;exact q▸bu h▸⟨HT,λa q=>by injection q⟩
 rw[if_neg q]at h;exact⟨KR h,O7 h⟩
theorem SO{b:Bi}(g:dV b=true){n:Nat}{a:X}{xs:List X}:ev call (n+1) (.bi b (a::xs))=λe=>M.bind (ev call n a e) λf=>if Rc b f.2 then M.bind (CM call n xs e) λvs=>M.bind gr λc=>mw (gX c b (f.2::vs))else aS:=by show(λe=>if dV b then _ else _)=_;refine zl g ?_;rfl
theorem UT{b:Bi}(e:dV b=false){n:Nat}{xs:List X}:ev call (n+1) (.bi b xs)=λc=>M.bind (CM call n xs c) λvs=>M.bind gr λa=>mw (gX a b vs):=by show(λc=>if dV b then _ else _)=_;refine zl e ?_;rfl
theorem Fq{a:Expr}{x y:Str}{np c pos:Pos}{v:X}(h1:kF ⟨C,d,sc,nm⟩ x (.builtin "isinstance"))(g:kF ⟨C,d,sc,nm⟩ y (.type "bool"))(f:NS a)(h:EG C d call sc nm v a):∀n,nX ⟨C,d,sc,nm⟩ (.Call (.Name x np) [a,.Name y c] [] pos) λe=>M.bind (CM call n [v] e) λvs=>M.bind gr λb=>mw (gX b .oG vs)|0=>lb λ_ _=>rfl|1=>lb λ_ _=>rfl|n+2=>Hj h1 g f (h (n+1)).s
theorem LA{kvs:List (X×X)}{a:List (Option Expr)}{vs:List Expr}{p:Pos}(c:kvs.length<=15)(h:DG kvs a vs){n:Nat}:nX ⟨C,d,sc,nm⟩ (.Dict a vs p) (ev call (n+1) (.dict kvs)):=by obtain⟨b,h,rfl⟩:=h;exact NZ (f:=GQ call n (b.map λp=>(.aF p.1,.aF p.2))) h (by rwa[aj]at c) λe t=>OY
def Wu(K:Ctx C d call fI)(G:∀x e,cT (EG C d call sc nm x e))(b:Bi)(args:List X)(e:Expr):cT (EG C d call sc nm (.bi b args) e):=cT.or (gd (dV b) λj=>yG e λr s w c pos l k i f=>k8 s (b:=zo b)<|k9 args λa args=>(G a r).and λt=>(vL G args c).map λg=>.up λn=>SO j▸NQ (t n).s k i f l (jY g n))<|cT.or (k8 b (b:=.oG)<|oA e λx np c pos=>gd (HS sc x (.builtin "isinstance")) λh1=>iv args λv=>xK c λa y=>iK y λy u=>gd (HS sc y (.type "bool")) λo=>(OV a).and λg=>(G v a).map λh=>.up λn=>UT (b:=.oG) rfl▸Fq (K.bn h1) (K.bn o) g h n)<|gd (!dV b) λj=>oA e λx np c pos=>oV (O6 b) λv m=>gd (HS sc x v) λp=>(xM c).and λi=>(vL G args c).map λg=>.up λn=>UT ((dJ _).mp j)▸zv (K.bn p) i (λq=>q.elim λa q=>absurd q ((zZ (C:=C) (d:=d) m).2 a)) (jY g n) (zZ m).1
def Zq(K:Ctx C d call fI)(G:Wm C d call):Wm C d call:=λsc nm x e=>match x with|.aF v=>kH e λc k p=>gd (mC v c) λh=>.fZ (.up λn=>R4 h)|.d6 g=>iK e λm p=>gd (oO sc m) λh1=>gd (gnL.lookup m==some g) λI=>.fZ (.up λn=>NO K.fx h1 (eq_of_beq I))|.aq i=>tY e λx p h=>.fZ (.up λ_=>Je h)|.dC o a b=>OQ e λl H r p=>k8 H (b:=VV o)<|(G sc nm a l).and λB=>(G sc nm b r).map λE=>.up λn=>R5 (B n).s (E n).s|.neg a=>SE e λH r p=>k8 H (b:=.USub)<|(G sc nm a r).map λh=>.up λn=>R6 (h n).s|.not a=>SE e λH r p=>k8 H (b:=.Not)<|(G sc nm a r).map λh=>.up<|Wn (P:=λf=>nX ⟨C,d,sc,nm⟩ _ λL=>M.bind (f L) λb=>M.pure (false,.bool !b)) h (lb λ_ _=>rfl) λf V=>R8 V|.cS c a b=>Jt e λl D rs p=>k8 D (b:=[tn c])<|iv rs λr=>gd (!IL (tn c) r) λhm=>(G sc nm a l).and λB=>(G sc nm b r).map λE=>.up λn=>R7 (B n).s (E n).s ((dJ _).mp hm)|.oa a b c=>Jt e λl D rs p=>k8 D (b:=[.LtE,.LtE])<|xK rs λr s=>gd (!lastMarks [.LtE,.LtE] [r,s]) λhm=>(G sc nm a l).and λB=>(G sc nm b r).and λE=>(G sc nm c s).map λU=>.up λn=>KP (B n).s (E n).s (U n).s ((dJ _).mp hm)|.and xs=>OR e λH w p=>k8 H (b:=.And)<|gd (!w.isEmpty) λh0=>(vL (G sc nm) xs w).map λA=>.up λn=>zy (λq=>by clear A;subst q;cases h0) (O0 A n)|.or xs=>OR e λH w p=>k8 H (b:=.Or)<|gd (!w.isEmpty) λh0=>(vL (G sc nm) xs w).map λA=>.up λn=>zy (λq=>by clear A;subst q;cases h0) (SJ A n)|.ite c a b=>Ju e λt x y p=>(G sc nm c t).and λU=>(G sc nm a x).and λB=>(G sc nm b y).map λE=>.up λn=>Wn (P:=λf=>nX ⟨C,d,sc,nm⟩ _ λL=>M.bind (f L) λt=>if t then ev call n a L else ev call n b L) U (lb λ_ _=>rfl) (λf V=>R9 V (B n) (E n)) n|.jh a i=>oz e λx y p=>(G sc nm a x).and λB=>(G sc nm i y).map λR=>.up λn=>Sa (B n).s (R n).s|.sl a lo R=>oz e λx y p=>Dr y λl h S q=>rX S<|(G sc nm a x).and λB=>(ckO (G sc nm) lo l).and λT=>(ckO (G sc nm) R h).map λhh=>.up2 (λn=>V9 (B (n+1)).s (T n) (hh n)) λ_ _=>rfl|.Ra a=>oz e λx y p=>UP y λk p1 p2 p3=>(G sc nm a x).map λh=>.up λn=>Jg (h n).s|.cO a m=>qz e λb s p=>k8 s (b:=Str.ofString (atName m))<|(OW b).and λE=>(G sc nm a b).map λh=>.up λn=>NX K.fx E (h n).s|.list xs=>Ds e λw p=>(xM w).and λI=>gd (kN w.length 1000) λF=>(vL (G sc nm) xs w).map λA=>.up λn=>NY I (aE F) (jY A n) λL t vs t' e=>(Jv e).trans A.length|.bR xs=>tX e λw k p=>(xM w).and λI=>gd (kN w.length 1000) λF=>(vL (G sc nm) xs w).map λA=>.up λn=>Sd I (aE F) (jY A n) λL t vs t' e=>(Jv e).trans A.length|.dict kvs=>Dt e λY vs p=>gd (kN kvs.length 15) λT=>(SK kvs Y vs).map λh=>.up λn=>LA (aE T) h|.comp tg it args cond O=>Jy K G tg it args cond O e λnm' O Q K2 gp scope pos W=>.fZ (.up2 (λn=>Oj (W n)) λ_ _=>rfl)|.call f args=>oA e λx np w pos=>gd (oO sc x) λI=>gd (fnL.lookup x==some f) λF=>(xM w).and λN=>(vL (G sc nm) args w).map λA=>.up λn=>zv (rK I (K.fx.fok _ _ (eq_of_beq F)).1) N (λ_=>(K.fx.fok _ _ (eq_of_beq F)).2) (jY A n) (K.fns f)|.ja m a args=>yG e λb s ap w pos l k N f=>k8 s (b:=Str.ofString (uB m))<|(G sc nm a b).and λB=>(vL (G sc nm) args w).map λA=>.up λn=>Lg K.fx (B n).s k N f l (jY A n) λc f _=>K.fns f|.new c args=>oA e λx np w pos=>gd (oO sc x) λI=>gd (cnL.lookup x==some c) λF=>(xM w).and λN=>(vL (G sc nm) args w).map λA=>.up λn=>zv (rK I (K.fx.cok _ _ (eq_of_beq F)).1) N (λ_=>(K.fx.cok _ _ (eq_of_beq F)).2) (jY A n) (K.adF c)|.bi b args=>Wu K (G sc nm) b args e|.CJ i=>oA e λx np w pos=>gd (HS sc x (.builtin "len")) λE=>iv w λa=>tY a λy yp X=>.fZ (.up λn=>N0 (K.bn E) X)|.A6 i a=>oz e λx y p=>tY x λz zp hz=>(G sc nm a y).map λh=>.up λn=>N1 hz (h n).s|.ku i=>Jt e λl D rs p=>k8 D (b:=[.NotEq])<|SI l λx np Z kp pos J=>iv rs λr=>Ds r λw lp=>lP w<|.fZ (.up λn=>HP J rfl)|.qM i=>yG e λb s ap w pos l k N f=>k8 s (b:=Str.ofString "pop")<|lP w<|SI b λx np Z kp p J=>.fZ (.up λn=>Lv J l)|.og i=>SI e λx np Z kp p J=>.fZ (.up λn=>Ls J)|.tP i=>oz e λa b p=>tY a λx xp J=>Dr b λl u S q=>rX l<|rX S<|mm u λc=>kH c λc Z cp=>UN c<|.fZ (.up λn=>Ly J)|.ru i j=>Dt e λY vs p=>xK Y λk1 k2=>mm k1 λk1=>kH k1 λc1 n1 q1=>OU c1<|mm k2 λk2=>kH k2 λc2 n2 q2=>OU c2<|xK vs λa b=>oz a λz r q=>tY z λx xp J=>UP r λn3 p1 p2 p3=>tY b λy yp X=>.fZ (.up λn=>Lz J X)
def ckX(K:Ctx C d call fI):Nat->Wm C d call:=oZ (λ_ _ _ _=>.no) λ_=>Zq K
end
section
variable(C:Cx)(d:Nat)(call:cb)(sc:dM)(nm:Nm)
def SG(a:R.S)(s:Stmt):Prop:=∀n,oR ⟨C,d,sc,nm⟩ (λenv=>exec s env) (ex call n a)
def LG(a:List R.S)(b:List Stmt):Prop:=∀n,oR ⟨C,d,sc,nm⟩ (λenv=>qf b env) (yX call n a)
structure TG(t:Tg)(e:Expr):Prop where
 t:∀n,Oy ⟨C,d,sc,nm⟩ (λenv v=>gZ e env v) (nz call n t)
 ae:AE e
 jO:Y1 e
end
section
variable{S:Sc}{C:Cx}{d:Nat}{call:cb}{sc:dM}{nm:Nm}{fI:Addr}{st:R.S}{s:Stmt}
theorem iF{a:aI->Sem Flow}{m:T Fl}(h:∀x,m x=.aS):oR S a m:=λF o g r x e b=>absurd ((h _).symm.trans e).symm b
theorem SG.up(h:∀n,oR ⟨C,d,sc,nm⟩ (λenv=>exec s env) (ex call (n+1) st)):SG C d call sc nm st s|0=>iF λ_=>rfl|n+1=>h n
theorem SG.up3(h:∀n,oR ⟨C,d,sc,nm⟩ (λenv=>exec s env) (ex call (n+3) st))(h1:∀x,ex call 1 st x=.aS)(a:∀x,ex call 2 st x=.aS):SG C d call sc nm st s|0=>iF λ_=>rfl|1=>iF h1|2=>iF a|n+3=>h n
theorem LG.up{a:List R.S}{b:List Stmt}(h:∀n,oR ⟨C,d,sc,nm⟩ (λenv=>qf b env) (yX call (n+1) a)):LG C d call sc nm a b|0=>iF λ_=>rfl|n+1=>h n
@[elab_as_elim]noncomputable def HU{M:Tg->Type}[∀x,Inhabited (M x)](x:Tg)(k:∀i,M (.v i)):M x:=Tg.casesOn (motive:=M) x k (λ_ _=>default) (λ_ _=>default) (λ_ _=>default) (λ_=>default)
@[elab_as_elim]noncomputable def SP{M:X->Type}[∀x,Inhabited (M x)](x:X)(k:∀tg c args a b,M (.comp tg c args a b)):M x:=onX x (λ_=>default) k
@[elab_as_elim]noncomputable def Wv{M:X->Type}[∀x,Inhabited (M x)](x:X)(k:∀v,M (.aF v)):M x:=O3 x k
@[elab_as_elim]noncomputable def Zr{M:R.S->Type}(x:R.S)(k:∀i,M (.iP i))(a:M x):M x:=R.S.casesOn (motive_1:=λx=>M x->M x) x (λi _=>k i) (λ_ _ k=>k) (λ_ _ k=>k) (λ_ _ k=>k) (λ_ _ k=>k) (λ_ _ k=>k) (λ_ k=>k) (λ_ _ _ k=>k) (λ_ _ _ _ k=>k) (λ_ _ k=>k) (λ_ k=>k) (λ_ k=>k) (λ_ k=>k) (λk=>k) (λ_ _ _ _ k=>k) (λ_ k=>k) a
noncomputable def Dv{b:Type}{P:Prop}(t:Sem b)(k:∀a,t=pure a->cT P):cT P:=if h:t.ctorIdx=0 then Sem.pure.elim (motive:=λt=>(∀a,t=pure a->cT P)->cT P) t h (λa k=>k a rfl) k else .no
noncomputable def vM(sc:dM):aI:={scope:=sc,locals:=0,globals:=0,cells:=[]}
theorem z0{a:List Expr}{v:Expr}{r:Option (List Str)}(h:dQ a v (vM sc)=pure r):∀env:aI,env.scope=sc->dQ a v env=pure r:=λenv e=>by subst e;exact h
theorem LB{e:Expr}{t:Option Expr}{r:Bool}{a:Nat}(h:Bt e t a (vM sc)=pure r):∀env:aI,env.scope=sc->Bt e t a env=pure r:=λenv e=>by subst e;exact h
theorem O8{n:Str}{i:Nat}{p:Pos}(b:eI S.sc S.nm n i=true):Oy S (λenv v=>gZ (.Name n p) env v) λa=>T.env λe=>some (jd e i (iW a)):=λF o g a y r x h c e f=>qX (E7 b F o g a y r x h c e f)
def Ww(K:Ctx C d call fI)(G:∀x e,cT (EG C d call sc nm x e))(t:Tg)(e:Expr):cT (TG C d call sc nm t e):=match t with|.v i=>Bk e λx p h=>.fZ ⟨λn=>O8 h,λ_ _=>rfl,λ_ _=>rfl⟩|.cO o a=>qz e λb s p=>k8 s (b:=Str.ofString (atName a))<|(G o b).map λh=>⟨λn=>Oz K.fx (h n).s,λ_ _=>rfl,λ_ _=>rfl⟩|.sub o i=>oz e λa b p=>(G o a).and λh=>(G i b).map λf=>⟨λn=>So (h n).s (f n).s,λ_ _=>rfl,λ_ _=>rfl⟩|.GK i x=>oz e λa b p=>tY a λy q c=>(G x b).map λh=>⟨λn=>OA c (h n).s,λ_ _=>rfl,λ_ _=>rfl⟩|.pB i=>SI e λx np k j p g=>.fZ ⟨λn=>Lw g,λ_ _=>rfl,λ_ _=>rfl⟩
theorem uI(n:Nat):l9 call n []=mT:=by funext as;cases as<;>rfl
theorem jZ(n:Nat)(t:Tg)(a:List Tg):l9 call n (t::a)=eY (nz call n t) (l9 call n a):=by funext as;cases as<;>rfl
theorem Jz{b:List Tg}{a:List Expr}(h:G2 (TG C d call sc nm) b a)(n:Nat):K7 ⟨C,d,sc,nm⟩ (λenv=>a.map λe=>gZ e env) (l9 call n b):=by induction h with|nil=>exact uI n▸zO|cons h _ c=>exact jZ n _ _▸mW (h.t n) c
theorem O9{c:List Tg}{a:List Expr}(h:G2 (TG C d call sc nm) c a):Ye a:=by induction h with|nil=>exactλ_=>rfl|cons h _ b=>exact .cons h.ae b
def Zs(K:Ctx C d call fI)(G:Wm C d call)(t:Tg)(x:X)(e v:Expr)(pos:Pos):cT (SG C d call sc nm (.de t x) (.Assign [e] v pos)):=cT.or (HU t λi=>SP x λtg r args g k=>Bk e λn np j=>Jy (nm:=nm) K G tg r args g k v λnm' y a f l c u W=>Dv (Bt (.ListComp y [⟨a,f,l,0⟩] c u) (some (.Name n np)) pos.line (vM sc)) λb w=>toM (MG (motive:=λb=>cT (b=true)) b .no (.fZ rfl)) λq=>.fZ (.up3 (λm=>E3 (W m) j (LB (q▸w))) (λ_=>rfl) λ_=>rfl))<|(G sc nm x v).and λp=>(Du v).and λo=>cT.or (HU t λi=>Bk e λn np j=>.fZ (.up λm=>Sh j o (p m).s))<|(Ww K (G sc nm) t e).map λh=>.up λm=>Hx h.ae h.jO o (p m).s (h.t m)
theorem LD{b:List Tg}{x:X}{a:List Expr}{v:Expr}{k:Nat}{p pos:Pos}(e:Hu v)(c:EG C d call sc nm x v)(h:G2 (TG C d call sc nm) b a):SG C d call sc nm (.ug b x) (.Assign [.Tuple a k p] v pos):=.up λn=>(congrArg (λl=>oR ⟨C,d,sc,nm⟩ (λenv=>exec (.Assign [.Tuple a k p] v pos) env) (T.bind (T.ex (ev call n x)) λv=>Ko l (l9 call n b) v.2)) h.length).mpr (OC (O9 h) e (c n).s (Jz h n))
theorem SQ{f:List Tg}{xs:List X}{c vs:List Expr}{a b:Nat}{p1 p2 pos:Pos}(i:dQ [.Tuple c a p1] (.Tuple vs b p2) (vM sc)=pure none)(j:c.length=vs.length)(h1:vs.length<=1000)(k:yg vs)(g:G2 (EG C d call sc nm) xs vs)(h:G2 (TG C d call sc nm) f c):SG C d call sc nm (.eg f xs) (.Assign [.Tuple c a p1] (.Tuple vs b p2) pos):=.up λn=>K9 (O9 h) j k h1 (z0 i) (uH g n) (λl t as t' e=>(zX e).trans g.length) (Jz h n)
theorem Pa{i j:Nat}{xs:List X}{vs:List Expr}{a b:Nat}{x y:Str}{g f p1 p2 pos:Pos}(l:dQ [.Tuple [.Name x g,.Name y f] a p1] (.Tuple vs b p2) (vM sc)=pure (some [x,y]))(m:vs.length=2)(o:yg vs)(h:G2 (EG C d call sc nm) xs vs)(c:i≠j)(h1:eI sc nm x i=true)(k:eI sc nm y j=true):SG C d call sc nm (.eg [.v i,.v j] xs) (.Assign [.Tuple [.Name x g,.Name y f] a p1] (.Tuple vs b p2) pos):=.up λn=>by show oR _ _ (T.bind (T.ex (Ep call n xs)) λvs=>T.bind (l9 call n [.v i,.v j] vs) λ_=>T.pure .next);refine zl (jZ _ _ _) ?_;refine zl (jZ _ _ _) ?_;refine zl (uI _) ?_;exact Hy o m (z0 l) (uH h n) (λp t as t' e=>(zX e).trans h.length) c h1 k
theorem Pb{i j l:Nat}{xs:List X}{vs:List Expr}{a b:Nat}{x y z:Str}{h g k p1 p2 pos:Pos}(q:dQ [.Tuple [.Name x h,.Name y g,.Name z k] a p1] (.Tuple vs b p2) (vM sc)=pure (some [x,y,z]))(r:vs.length=3)(u:yg vs)(m:G2 (EG C d call sc nm) xs vs)(f:[i,j,l].Nodup)(h1:eI sc nm x i=true)(p:eI sc nm y j=true)(o:eI sc nm z l=true):SG C d call sc nm (.eg [.v i,.v j,.v l] xs) (.Assign [.Tuple [.Name x h,.Name y g,.Name z k] a p1] (.Tuple vs b p2) pos):=.up λn=>by
 show oR _ _ (T.bind (T.ex (Ep call n xs)) λvs=>T.bind (l9 call n [.v i,.v j,.v l] vs) λ_=>T.pure .next);refine zl (jZ _ _ _) ?_;refine zl (jZ _ _ _) ?_;refine zl (jZ _ _ _) ?_;refine zl (uI _) ?_;have c:(i≠j/\i≠l)/\j≠l:=by simpa using f
 exact Hz u r (z0 q) (uH m n) (λw t as t' e=>(zX e).trans m.length) c.1.1 c.1.2 c.2 h1 p o
def adI(K:Ctx C d call fI)(G:∀x e,cT (EG C d call sc nm x e))(m:List Tg)(xs:List X)(c:List Expr)(a:Nat)(p1:Pos)(vs:List Expr)(b:Nat)(p2 pos:Pos):cT (SG C d call sc nm (.eg m xs) (.Assign [.Tuple c a p1] (.Tuple vs b p2) pos)):=(vL G xs vs).and λp=>(xM vs).and λD=>cT.or (Dv (dQ [.Tuple c a p1] (.Tuple vs b p2) (vM sc)) λr o=>toM (wC (motive:=λr=>cT (r=none)) r (.fZ rfl) λ_=>.no) λq=>gd (c.length==vs.length) λh1=>gd (kN vs.length 1000) λn=>(vL (Ww K G) m c).map λh=>SQ (q▸o) (eq_of_beq h1) (aE n) D p h)<|cT.or (xK m λt u=>HU t λi=>HU u λj=>xK c λe f=>Bk e λx B h1=>Bk f λy A n=>Dv (dQ [.Tuple [.Name x B,.Name y A] a p1] (.Tuple vs b p2) (vM sc)) λr o=>gd (r==some [x,y]) λq=>gd (vs.length==2) λv=>gd (i !=j) λk=>.fZ (Pa (o.trans (congrArg pure (eq_of_beq q))) (eq_of_beq v) D p (bne_iff_ne.mp k) h1 n))<|k9 m λt m=>xK m λu w=>HU t λi=>HU u λj=>HU w λl=>k9 c λe c=>xK c λf g=>Bk e λx B h1=>Bk f λy A n=>Bk g λz F E=>Dv (dQ [.Tuple [.Name x B,.Name y A,.Name z F] a p1] (.Tuple vs b p2) (vM sc)) λr o=>gd (r==some [x,y,z]) λq=>gd (vs.length==3) λv=>gd (decide [i,j,l].Nodup) λk=>.fZ (Pb (o.trans (congrArg pure (eq_of_beq q))) (eq_of_beq v) D p (of_decide_eq_true k) h1 n E)
theorem Dw{pos:Pos}:oR S (λenv=>exec (.Return none pos) env) (T.bind (T.ex λ_=>M.pure (false,.none)) λv=>T.pure (.ret v)):=λF o g r x e a=>wpAny_Return_none ⟨.ret (false,.none),F.ρ,F.ω,g,rfl,e.symm,x,.none,rfl,(rfl:VR g.v .none .none)⟩
@[elab_as_elim]noncomputable def JA{M:PV->Type}[∀x,Inhabited (M x)](x:PV)(k:M .none):M x:=if h:x.ctorIdx=0 then PV.none.elim (motive_1:=M) x h k else default
theorem LF{pos:Pos}:SG C d call sc nm (.ret (.aF .none)) (.Return none pos):=.up λn=>Nat.casesOn n (iF λ_=>rfl) λ_=>Dw
theorem Fs(n:Nat)(st:R.S)(r:List R.S):yX call (n+1) (st::r)=T.bind (ex call n st) (Dk (yX call n r)):=by show T.bind _ _=T.bind _ _;congr 1
def ckL(c:∀st s,cT (SG C d call sc nm st s))(a:List R.S):∀b,cT (LG C d call sc nm a b):=dE (motive:=λa=>∀b,cT (LG C d call sc nm a b)) (λb=>lP b (.fZ (.up λ_=>Oo))) (λst a e b=>Zr st (λi=>(e b).map λh=>.up λn=>Nat.casesOn n (iF λ_=>rfl) λn=>Fs (n+1) _ _▸Oq (h (n+1)))<|k9 b λs b=>(c st s).and λh=>(e b).map λk=>.up λn=>Fs n _ _▸K4 (h n) (k n)) a
@[elab_as_elim]noncomputable def Pc{M:Expr->Type}[∀e,Inhabited (M e)](G:∀x e,cT (EG C d call sc nm x e))(i:Nat)(x:X){m:Str}(e:Expr)(k:∀y np c a f,i3 nm y i=true->NS a->(c.endLine==f.line)=true->EG C d call sc nm x a->M (.Call (.Attribute (.Name y np) m c) [a] [] f)):M e:=yG e λb s c j pos l _ _ _=>k8 s (b:=m)<|tY b λy np g=>iv j λa=>toM (OV a) λn=>toM (G x a) λh=>k y np c a pos g n l h
theorem HV{c:X}{a:List R.S}{e:Expr}{b:List Stmt}{p:Pos}(h1:EG C d call sc nm c e)(j:LG C d call sc nm a b):SG C d call sc nm (.while c a) (.While e b [] p):=.up λn=>Lb (fb:=λn=>IY call n c) (mb:=λn=>yX call n a) (m:=λn=>ex call n (.while c a)) (λ_=>rfl) (λn=>rfl) (n+1) (λm _=>Wn (P:=λf=>Y6 ⟨C,d,sc,nm⟩ e f) h1 (λF o g H r e h=>absurd e.symm h) (λf i=>i.t) m) λm _=>j m
theorem SR{c b a:X}{y n:Nat}:ex call (n+1) (.Ek c b a y)=T.bind (T.ex λe=>iM (IY call n c e)) λt=>Bg (if t then ev call n b else ev call n a) y:=by show T.bind _ _=T.bind _ _;congr 1;funext t;cases t<;>rfl
@[elab_as_elim]noncomputable def Zt{M:g8->Type}(g:g8)(k:∀a b c d,M (.ExceptHandler a b c d)):M g:=g8.casesOn (motive_4:=M) g k
def Wx(K:Ctx C d call fI)(G:∀x e,cT (EG C d call sc nm x e))(c i h:X)(y:Nat)(s:Stmt):cT (SG C d call sc nm (.Ek c i h y) s):=UM s λa W Q fb pos=>lP Q<|lP fb<|iv a λs1=>UL s1 λt I V ip=>iv I λB=>OT B λj p1=>iv V λs3=>OT s3 λk p2=>iv W λU=>Zt U λr O J Y=>mm r λl=>iK l λN np=>k8 N (b:=badS)<|gd (oO sc badS) λE=>mm O λexn=>gd (nm.lookup exn==none) λh1=>gd (sc.names.lookup exn==some .local) λq=>gd (YV exn) λF=>iv J λD=>Fm D λtg v sp=>iv tg λL=>Bk L λM fp o=>qz v λz g ap=>iK z λm Z=>k8 m (b:=exn)<|k8 g (b:=toldS)<|(G c t).and λp=>(G i j).and λg1=>(G h k).and λw=>(Du j).and λu=>(Du k).map λH=>.up λn=>SR▸Wn (P:=λf=>oR ⟨C,d,sc,nm⟩ _ (T.bind (T.ex λe=>iM (f e)) λt=>Bg (if t then ev call n i else ev call n h) y)) p (iF λ_=>rfl) (λf A=>OL K.UQ (rK E K.Fo) o (eq_of_beq h1) (eq_of_beq q) (C4 F).1 A.t (g1 n).s (w n).s u H) n
def Zu(K:Ctx C d call fI)(G:Wm C d call)(q:∀E I,cT (LG C d call sc nm E I))(st:R.S)(s:Stmt):cT (SG C d call sc nm st s):=match st with|.iP _=>.no|.de t x=>Fm s λA v pos=>iv A λe=>Zs K G t x e v pos|.ug A x=>Fm s λl v pos=>iv l λe=>tX e λl k p=>(Zm v).and λz=>(G sc nm x v).and λL=>(vL (Ww K (G sc nm)) A l).map λh=>LD z L h|.eg A xs=>Fm s λl v pos=>iv l λe=>tX e λl a p1=>tX v λvs b p2=>adI K (G sc nm) A xs l a p1 vs b p2 pos|.qn i x=>OT s λe p=>Pc (G sc nm) i x e λy np U a J k1 k2 k3 D=>.fZ (.up λn=>Sj k1 k2 k3 (D n).s)|.ext i x=>OT s λe p=>Pc (G sc nm) i x e λy np U a J k1 k2 k3 D=>.fZ (.up λn=>Sk k1 k2 k3 (D n).s)|.expr x=>OT s λe p=>(Du e).and λr=>(G sc nm x e).map λh=>.up λn=>Om r (h n).s|.gp c a b=>UL s λt x y p=>(G sc nm c t).and λO=>(q a x).and λV=>(q b y).map λQ=>.up λn=>Wn (P:=λf=>oR ⟨C,d,sc,nm⟩ _ (T.bind (T.ex f) λt=>if t then yX call n a else yX call n b)) O (iF λ_=>rfl) (λf F=>Wd F.t (V n) (Q n)) n|.for tg it args g=>Zk s λj o bs B p=>lP B<|(US sc nm j tg).and λh1=>(UO o).and λz=>(Zn K (G sc nm) (Jx j) it args o).and λN=>(q g bs).map λW=>.up λn=>Sp h1 (N n) z (W n)|.while c g=>SH s λt bs B p=>lP B<|(G sc nm c t).and λh1=>(q g bs).map λz=>HV h1 z|.ret x=>OS s λv p=>cT.or (rX v<|Wv x λu=>JA u<|.fZ LF)<|mm v λe=>(G sc nm x e).map λh=>.up λn=>Sf (h n).s|.tj i=>OS s λv p=>mm v λe=>tY e λy X H=>.fZ (.up λn=>Ot H)|.fQ x=>onRaise s λv w p=>rX w<|mm v λe=>oA e λm np l pos=>k8 m (b:=badS)<|gd (oO sc badS) λM=>iv l λa=>(OV a).and λr=>(G sc nm x a).map λh=>.up λn=>Lj K.UQ (rK M K.Fo) r (h n).s|.no=>.fZ (.up λ_=>iF λ_=>rfl)|.Ek c x1 x2 y=>Wx K (G sc nm) c x1 x2 y s|.GL x=>UM s λg r B fb pos=>lP B<|lP fb<|k9 r λh r=>iv g λb=>OS b λv Y=>mm v λe=>(G sc nm x e).map λh=>.up λn=>OK (h n).s
def ckS(K:Ctx C d call fI)(G:Wm C d call):Nat->∀st s,cT (SG C d call sc nm st s):=oZ (λ_ _=>.no) λ_ r=>Zu K G (ckL r)
end
noncomputable def Zv(a:List String)(n:Nat):Nm:=(a.take n).zipIdx.map λp=>(Str.ofString p.1,p.2)
noncomputable def Wy(x:Data):Option qg:=match x with|.func fd=>some fd|_=>none
noncomputable def Wz{P:Prop}(x:Data)(k:∀a,x=.func a->cT P):cT P:=match x with|.func a=>k a rfl|_=>.no
noncomputable def SS{P:Prop}(x:FuncBody)(k:∀b,x=.stmts b->cT P):cT P:=match x with|.stmts b=>k b rfl|_=>.no
def Ft(K:Frag)(a:Addr):Option qg:=(K.lookup a).bind λo=>Wy o.data
noncomputable def Dx(a:qg):List Str:=a.params.args.map (·.arg)
def vP(K:Frag)(a:qg)(b np:Nat):Prop:=∀S vs,b<=vs.length->vs.length<=np->peek K S (bindArgs a ⟨vs,[]⟩)=some ((Dx a).zip (vs++bL (np-vs.length) .none))
section
variable{C:Cx}{d:Nat}{call:cb}{fI:Addr}{Q:Prop}
def adK(a:List Str)(nm:Nm)(np:Nat):cT (∀i x,nm.lookup x=some i->i<np->a[i]?=some x):=gd ((eM np).all λi=>a[i]?.any λx=>nm.all λp=>p.2 !=i||p.1==x) λh=>.fZ λi x b c=>let⟨_,hy,k⟩:=any_some (bj.mp h i (iC.mpr c));hy.trans (congrArg some (eq_of_beq (O5 (bj.mp k (x,i) (dX b)) rfl)).symm)
def UU(d:Nat)(K:Frag)(l:C.K=K)(a:Addr)(nm:Nm){n np:Nat}(hz:∀b,Ft K a=some b->vP K b n np)(k:∀b c,Ld ⟨C,d,b.scope,nm⟩ b c (Dx b) n np a->cT Q):cT Q:=oV (K.lookup a) λo m=>Wz o.data λb q=>SS b.body λc D=>gd (b.scope.kind==.function) λB=>gd (!b.scope.isCoroutine) λr=>gd (!b.scope.isGenerator) λu=>gd (b.globals==fU) λz=>gd (b.builtins==p9) λv=>gd b.closure.isEmpty λF=>gd (codeIn K b.code b.qualname) λE=>gd ((Dx b).length==np) λw=>(adK (Dx b) nm np).and λA=>gd (decide (Dx b).Nodup) λi=>gd ((Dx b).all λx=>b.scope.names.lookup x==some .local||b.scope.names.lookup x==some .cell) λg=>gd (b.scope.names.all λp=>p.2 !=.free) λj=>k b c {sc:=rfl,bK:=⟨o.cls,o.dict,o.slots,q▸l▸m⟩,body:=D,kind:=eq_of_beq B,co:=(dJ _).mp r,gen:=(dJ _).mp u,glb:=eq_of_beq z,bui:=eq_of_beq v,clo:=XO.mp F,code:=l▸E,np_:=eq_of_beq w,pnm:=A,nodup:=of_decide_eq_true i,pk:=λx t=>((i7 _ _).mp (bj.mp g x t)).imp eq_of_beq eq_of_beq,OD:=λx e=>bne_iff_ne.mp (bj.mp j (x,.free) (dX e)) rfl,bind:=λs vs y h f=>kp_binds (λa o e=>y a o (C.A0 a o (l▸e))) λS=>hz b (by unfold Ft;refine zl m ?_;refine zl (Bu _ _) ?_;refine zl q ?_;rfl) S vs h f}
def adL(K:Ctx C d call fI)(F:Frag)(f:C.K=F)(a:Addr)(c:FC)(hz:∀e,Ft F a=some e->vP F e c.lo c.np):cT (mj C (d+1) (.ref a) (yY call c)):=UU d F f a (Zv c.cP c.nf) hz λe b X=>(ckL (ckS K (ckX K 400) 400) c.body b).map λh=>HC X (h bx)
structure Prg(C:Cx)(fI:Addr):Prop where
 fx:Fx C
 UQ:Fd C fI
 Fo:C.mg badS=some (.ref badAddr)
 ck:∀d call,Ctx C d call fI->∀f:Nat,f<72->mj C (d+1) (.ref (xD f)) (yY call (code f))
theorem JB{a d:Nat}(c k:Nat):a+k*d+c<=a+k*(d+1)+c:=ar (aD (bo k (e9 d)) a) c
theorem Nl.WA{A:b9}{k:List aI}(h:Nl (d+1) A k):Nl d A k:=⟨h.handled,aA (JB _ 4) h.depth,aA (JB _ 16) h.units,h.frames,h.guards⟩
theorem mj.WA{f:ai}{a:List PV->M (Bool×PV)}(h:mj C d f a):mj C (d+1) f a:=λA k o g xs ys r H c e b=>h A k o g xs ys r ⟨H.ok.WA,H.bK,H.sub,H.A1,H.al,H.dj⟩ c e b
theorem Pd(P:Prg C fI)(a:∀f,mj C d (.ref (xD f)) (call f)):Ctx C (d+1) call fI:=⟨P.fx,λf=>(a f).WA.call,λc=>(HD P.fx (a (iI c))).call,P.UQ,P.Fo⟩
theorem pR{f:Fn}(q:¬f<72){xs:List PV}{t:aH}:yY call (code f) xs t=.aS:=by have a:code f=⟨1,0,0,[],[]⟩:=(bQ ..).trans (congrArg (λo:Option FC=>o.getD ⟨1,0,0,[],[]⟩) (uR (iz (show¬f<IZ.length from q))));unfold yY;refine zl a ?_;exact if_neg λh=>Q5 _ (aa h.1 h.2)
theorem Pe(P:Prg C fI):∀(k:Nat)(f:Fn),mj C (2*k) (.ref (xD f)) (au k f):=oZ (λf A k o g xs ys r H c e a=>absurd e.symm a) λk b f=>if q:f<72 then P.ck _ _ (Pd P b) f q elseλA h o g xs ys r H c e a=>absurd ((pR q).symm.trans e).symm a
end
section
variable{P:Prop}
noncomputable def Zw(x:Data)(k:∀xs n,x=.seq xs n->cT P):cT P:=if h:x.ctorIdx=2 then Data.seq.elim (motive:=λx=>(∀xs n,x=.seq xs n->cT P)->cT P) x h (λa b k=>k a b rfl) k else .no
def UW(p:PV)(v:ai):cT (∀u,VR u p v):=match v with|.none=>JA p<|.fZ λ_=>rfl|.bool b=>oV (nq p) λa h=>gd (a==b) λq=>.fZ λu=>by refine zl (k6 h) ?_;refine zl (eq_of_beq q) ?_;rfl|.int i t=>oV (br p) λa h=>gd (a==i) λq=>.fZ λu=>by refine zl (bU h) ?_;refine zl (eq_of_beq q) ?_;exact⟨t,rfl⟩|.str x t=>oV (El p) λs h=>gd (x.cps.toList==s) λd=>gd (kN s.length 1000) λc=>.fZ λu=>by refine zl (sG h) ?_;exact VR.CR _ _ (eq_of_beq d) (oP (aE c))|.bytes x t=>oV (ll p) λs h=>gd (x.toList.map (·.toNat)==s) λd=>gd (kN s.length 1000) λc=>.fZ λu=>by refine zl (lI h) ?_;exact VR.rH _ _ (eq_of_beq d) (oP (aE c))|_=>.no
theorem WB{u:Vw}{xs:List PV}{vs:List ai}(h:G2 (λp v=>∀u,VR u p v) xs vs):dt u xs vs:=by induction h with|nil=>exact dt.nil|cons h _ a=>exact dt.cons (h u) a
noncomputable def WC(v:ai)(k:∀a,v=.ref a->cT P):cT P:=if h:v.ctorIdx=10 then ai.ref.elim (motive:=λv=>(∀a,v=.ref a->cT P)->cT P) v h (λa k=>k a rfl) k else .no
theorem SU{o:Obj}{xs:Array ai}{n:Nat}(h:o.data=.seq xs n)(c:(o.cls==.type "tuple")=true)(a:o.dict.isNone=true)(b:o.slots.isEmpty=true):o=vw xs.toList n:=congr (congr (congr (congrArg Obj.mk (eq_of_beq c)) (Option.isNone_iff_eq_none.mp a)) h) (VA.mp b)
def adN{h0:Heap}(K:Frag)(X:K.In h0)(p:PV)(v:ai):cT (∀m,VR ⟨h0.get?,m⟩ p v):=cT.or ((UW p v).map λh _=>h _)<|oV (ky p) λxs i=>WC v λa k=>oV (K.lookup a) λo c=>Zw o.data λvs n g=>gd (o.cls==.type "tuple") λd=>gd o.dict.isNone λb=>gd o.slots.isEmpty λf=>gd (kN xs.length 1000) λe=>(vL UW xs vs.toList).map λj m=>by refine zl (pK i) ?_;refine zl k ?_;exact CQ.mk a vs.toList n rfl (X _ _ (c.trans (congrArg some (SU g d b f)))) (WB j) (oP (aE e))
def Dy{d:Type}{R:d->Prop}(l:List d)(c:∀a,cT (R a)):cT (∀a∈l,R a):=dE (motive:=λl=>cT (∀a∈l,R a)) (.fZ λa h=>(bJ h).elim) (λa l f=>(c a).and λh=>f.map λk b q=>(av.mp q).elim (λe=>e▸h) (k b)) l
noncomputable def UX:List At:=[.uX,.ti,.fields,.fW,.default,.nc,.ng,.ki,.A4,.nh,.Ef]
noncomputable def JC:List Cl:=[.ph,.xW,.data]
noncomputable def UY:List Mt:=[.M6,.oF,.hY,.ni,.get,.xX,.yP]
theorem WD(a:At):a∈UX:=by cases a<;>decide
theorem HW(a:Cl):a∈JC:=by cases a<;>decide
theorem WE(a:Mt):a∈UY:=by cases a<;>decide
def adO(C:Cx)(K:Frag)(e:C.K=K)(d:∀x:Str,x≠"__name__"->C.mb x=AY x):cT (Fx C):=(Dy gnL λp=>oV (nsIn K fU p.1) λo j=>oV o λv w=>(adN (h0:=C.h0) K (e▸C.A0) (d6 p.2) v).map λh=>(⟨v,mg_of C.A0 C.g (e▸w▸j),h⟩:∃y,C.mg p.1=some y/\∀m,VR ⟨C.h0.get?,m⟩ (d6 p.2) y)).and λh1=>(Dy fnL λp=>gd (nsIn K fU p.1==some (some (.ref (xD p.2)))) λh=>gd (keepIn K (.ref (xD p.2))) λk=>.fZ (⟨mg_of C.A0 C.g (e▸eq_of_beq h),e▸k⟩:C.mg p.1=some (.ref (xD p.2))/\keepIn C.K (.ref (xD p.2))=true)).and λl=>(Dy cnL λp=>gd (nsIn K fU p.1==some (some (.ref (cI p.2)))) λh=>gd (keepIn K (.ref (cI p.2))) λk=>.fZ (⟨mg_of C.A0 C.g (e▸eq_of_beq h),e▸k⟩:C.mg p.1=some (.ref (cI p.2))/\keepIn C.K (.ref (cI p.2))=true)).and λi=>(Dy bnL λp=>gd (nsIn K fU p.1==some none) λh=>gd (AY p.1==some p.2) λk=>gd (p.1 !="__name__") λn=>.fZ (⟨mg_none_of C.A0 C.g (e▸eq_of_beq h),(d _ (bne_iff_ne.mp n)).trans (eq_of_beq k)⟩:C.mg p.1=none/\C.mb p.1=some p.2)).and λs=>(Dy JC λc=>(Dy UX λa=>gd (Jc K c a) λh=>gd (Jd K c a) λk=>.fZ (⟨e▸h,e▸k⟩:Jc C.K c a=true/\Jd C.K c a=true))).and λr=>(Dy JC λc=>(Dy UY λm=>gd ((MJ c m).all λf=>C3 K (xD f) c m) λh=>.fZ (λf q=>by replace h:=q▸h;exact e▸h:∀f,MJ c m=some f->C3 C.K (xD f) c m=true))).and λt=>(Dy JC λc=>gd (makesIn K (cI c)) λa=>gd (findIn K (.ref (cI c)) "__init__"==some (some (.ref (xD (iI c))))) λb=>gd (typeIn K (.ref (xD (iI c)))==some (.type "function")) λk=>.fZ (⟨e▸a,e▸eq_of_beq b,e▸eq_of_beq k⟩:makesIn C.K (cI c)=true/\findIn C.K (.ref (cI c)) "__init__"=some (some (.ref (xD (iI c))))/\typeIn C.K (.ref (xD (iI c)))=some (.type "function"))).map λu=>⟨λx n q=>h1 (x,n) (dX q),λx n q=>l (x,n) (dX q),λx n q=>i (x,n) (dX q),λx n q=>s (x,n) (dX q),λc a=>r c (HW c) a (WD a),λc m=>t c (HW c) m (WE m),λc=>u c (HW c)⟩
def JD(C:Cx)(K:Frag)(h:C.K=K)(a:Addr)(hz:∀c,Ft K a=some c->vP K c 1 2):cT (OJ C a):=UU 0 K h a [] hz λc d X=>(iv d λs=>Fm s λf v pos=>iv f λt=>qz t λo s l=>iK o λx j=>k8 x (b:=selfS)<|k8 s (b:=toldS)<|iK v λy i=>k8 y (b:=toldS)<|gd (Dx c==[selfS,toldS]) λh1=>gd (c.scope.names.lookup selfS==some .local) λg=>gd (c.scope.names.lookup toldS==some .local) λe=>.fZ λX=>⟨_,c,_,_,_,_,eq_of_beq h1▸X,eq_of_beq g,eq_of_beq e⟩:cT (Ld ⟨C,0,c.scope,[]⟩ c d (Dx c) 1 2 a->OJ C a)).map λk=>k X
end
section
variable{S:Sc}
theorem LH{g:ak}{h₁:Heap}{tk:Nat}{l:Addr}{vs:List ai}{is:List Int}{x:Str}{I:Str->Option ai}{env:aI}{t:List Stmt}{m:R.T Fl}{sx:Sx}{Q:Flow->ak->Prop}{E:ai->ak->Prop}(e0:S.C.h0=g.heap)(hb:oR S (λenv=>qf t env) m)(hd:Nl S.d (VK.deeper env) [env])(hE:env.scope=S.sc/\env.globals=fU/\env.builtins=p9/\env.frame=some env.locals/\env.locals=g.heap.objs.size/\env.cells=[])(hk:S.sc.kind=.function)(D:(S.sc.names.all λp=>p.2 !=.cell&&p.2 !=.free)=true)(hx:∀y,S.nm.lookup y=some 0->y=x)(N:S.sc.names.lookup x=some .local)(hl:g.heap.IsList l vs.toArray)(J:IntsAre vs is)(hn:is.length<=1000)(F:Yu g.heap g.heap.objs.size h₁ I)(hm:I x=some (.ref l))(H:m ⟨mx [.CI is],[]⟩=.ok (.ret (false,.bool true)) sx)(q:∀s',s'.gens=g.gens->s'.os=g.os->(∀b o,g.heap.get? b=some o->s'.heap.get? b=some o)->Q (.ret (.bool true)) s'):aJ S.C.M (VK.deeper env) (qf t env) Q E {heap:=h₁,gens:=g.gens,drawn:=g.drawn,toks:=tk,os:=g.os}:=by
 refine GJ hE λV eG eB Z X eC=>?_;clear hE;have B:g.heap.get? env.locals=none:=by refine zl X ?_;exact eU _
 have u:h₁.Ns env.locals I:=by refine zl X ?_;exact F.ns
 have L:∀y,¬(S.sc.names.lookup y=some .cell\/S.sc.names.lookup y=some .free):=λy h=>by
  rcases h with h|h;·exact(aK (bj.mp D _ (ri h))).elim
  ·exact(aK (bj.mp D _ (ri h))).elim
 have k:∀a,¬Ad ([]:List CP) a:=λa h=>by refine dq h λq hq _=>?_;clear h;cases hq
 have s:∀y c,env.cells.lookup y≠some c:=λy c h=>by replace h:=eC▸h;cases h
 have fr:frames [env]=[env.locals]:=rh Z;have W:Wk S ⟨VK.deeper env,[env],env,mx [.CI is],λ_=>0⟩ (.at [] ⟨⟨g.heap.get?,[]⟩,[],g⟩) ⟨⟨g.heap.get?,[]⟩,[],{heap:=h₁,gens:=g.gens,drawn:=g.drawn,toks:=tk,os:=g.os}⟩:={
  ok:=hd
  bK:={
   st:={
    vy:=λa o e=>e0▸e
    fz:=F.keep
    iG:=rfl
    cell:=λi c p e=>(kK e).elim
    apart:=λi j p q e=>(kK e).elim
    I1:=λa h=>absurd h (k a)
    qi:=λe O=>by
     clear hd eG eB X eC s fr;rcases av.mp O with rfl|O;·exact⟨by refine zl V ?_;exact hk,e.locals,Z,e0▸B,B,k _,_,u⟩
     ·cases O}
   dD:={
    le:=Vw.Le.refl _
    zn:=λa h1 h2=>absurd h1 h2
    ad:=λa h=>.inl h
    keep:=λa b e _ _ _=>F.keep a b e
    qi:=λa h=>(bJ h).elim
    dO:=λa e=>by cases q:g.heap.get? a with|none=>rfl|some o=>have:=F.keep a o q;replace this:=(show h₁.get? a=none from e)▸this;cases this
    gens:=rfl
    os:=rfl}}
  sub:=λa h=>by replace h:=fr▸h;exact .inr (.inr (ao.mp h▸B))
  A1:=λa h=>(bJ h).elim
  al:=λa h=>(bJ h).elim
  dj:=λa h=>(bJ h).elim
  en:={
   scope:=V
   kind:=hk
   globals:=eG
   builtins:=eB
   slot:=λy i r=>by cases i with|zero=>refine zl (hx y r) ?_;obtain⟨o,A,hc,n,K⟩:=hl;refine⟨.ref l,.inl ⟨by show fX env x=_;rewrite[fX];refine zl V ?_;exact N,I,u,hm⟩,l,o,vs,n,rfl,A,hc,K,J,hn⟩|succ i=>exact trivial
   sN:=⟨k _,B,_,u⟩
   cl:=λy c r=>absurd r (s y c)
   Yd:=λy r=>absurd r (L y)
   nI:=λy z c r=>absurd r (s y c)
   apart:=λi j ys zs h=>absurd h mX
   rJ:=λi ys h=>absurd h mX}
  frame:=Z
  BS:=⟨[],rfl,rfl⟩
  w:=λa ha=>.inr (by
   rcases ha with(rfl|⟨y,r⟩)|⟨i,ys,J,_⟩;·exact B
   ·exact absurd r (s y a)
   ·exact absurd J mX)}
 refine aY (hb _ _ _ _ W H (λh=>by cases h)) (λf s' h=>?_) (λv s' h=>?_);·clear H;obtain⟨fl,ρ,ω,g',rfl,A,x2,G⟩:=h;cases A;refine dq G λval Y U=>?_;clear G;subst Y;have U:VR g'.v (.bool true) val:=U;cases(show val=.bool true from U);have P:=x2.bK.dD;exact q _ P.gens P.os λb o e=>P.keep b o e (k b) (λh=>(bJ h).elim) (λh=>h)
 ·obtain⟨e,told,g',es,A,_⟩:=h;cases A
end
def Pf:List (Addr×Nat×Nat):=(36,1,2)::(eM 72).map λf=>(xD f,(code f).lo,(code f).np)
def z5(n:Nat):List (Addr×Nat×Nat):=Pf.filter λp=>kN p.2.1 n&&kN n p.2.2
def bindL(K:Frag)(S:Setting)(vs:List ai)(p:Addr×Nat×Nat):Option (List (Str×ai)):=(Ft K p.1).bind λa=>peek K S (bindArgs a ⟨vs,[]⟩)
def UZ(K:Frag)(vs:List ai)(p:Addr×Nat×Nat):Option (List (Str×ai)):=(Ft K p.1).map λa=>(Dx a).zip (vs++bL (p.2.2-vs.length) .none)
def xN(K:Frag)(vs:List ai):Prop:=∀S,(z5 vs.length).map (bindL K S vs)=(z5 vs.length).map (UZ K vs)
theorem WG:(Pf.all λp=>kN p.2.2 6)=true:=by kernel_rfl
structure qA(C:Cx)(K:Frag)(e:C.K=K)(WH:∀x:Str,x≠"__name__"->C.mb x=AY x):Prop where
 fx:(adO C K e WH).ok=true
 b0:xN K []
 b1:∀a,xN K [a]
 b2:∀a b,xN K [a,b]
 b3:∀a b c,xN K [a,b,c]
 b4:∀a b c d,xN K [a,b,c,d]
 b5:∀a b c d e,xN K [a,b,c,d,e]
 b6:∀a b c d e f,xN K [a,b,c,d,e,f]
 Fo:nsIn K fU badS=some (some (.ref badAddr))
 cls:K.lookup badAddr=some (q0 "BadRow" "BadRow" badAddr 63 [.ref 39] [.ref 39,.type "Exception",.type "BaseException",.type "object"] true [] [] false none none (some (.ref 55)) none (some (.str "BadRow" 253)) (some (.str "BadRow" 261)) (some (.bool true)) "Exception.__new__")
 Zf:∀S rest,peek K S (sj "Exception.__new__" ⟨.ref badAddr::rest,[]⟩)=some ()
 UQ:(findIn K (.ref badAddr) "__init__"==some (some (.ref 36))&&typeIn K (.ref 36)==some (.type "function")&&keepIn K (.ref badAddr)&&pQ K badAddr toldS&&rU K badAddr toldS)=true
section
variable{C:Cx}{K:Frag}{e:C.K=K}{WH:∀x:Str,x≠"__name__"->C.mb x=AY x}
theorem qA.bt(X:qA C K e WH)(vs):xN K vs:=by
 cases vs with
 |nil=>exact X.b0
 |cons a r=>
  cases r with
  |nil=>exact X.b1 a
  |cons b r=>
   cases r with
   |nil=>exact X.b2 a b
   |cons c r=>
    cases r with
    |nil=>exact X.b3 a b c
    |cons d r=>
     cases r with
     |nil=>exact X.b4 a b c d
     |cons e r=>
      cases r with
      |nil=>exact X.b5 a b c d e
      |cons f r=>
       cases r with
       |nil=>exact X.b6 a b c d e f
       |cons g r=>
        refineλS=>?_;have:z5 (r.length+7)=[]:=MH.mpr λp i q=>by have h1:=aE (bj.mp WG p i);have h:=aE (yS q).2;exact wt 6 (aa (aa (kL 7 r.length) h) h1)
        show(z5 (r.length+7)).map _=(z5 (r.length+7)).map _;refine zl this ?_;rfl
theorem qA.Pg(X:qA C K e WH){p:Addr×Nat×Nat}(c:p∈Pf)(a:qg)(b:Ft K p.1=some a):vP K a p.2.1 p.2.2:=λS vs h1 d=>by have h:=VL.mp (X.bt vs S) p (cC.mpr ⟨c,by rw[MY h1,MY d];rfl⟩);unfold bindL UZ at h;rw[b]at h;exact h
theorem qA.fn(X:qA C K e WH){f:Nat}(h:f<72):∀a,Ft K (xD f)=some a->vP K a (code f).lo (code f).np:=X.Pg (p:=(xD f,(code f).lo,(code f).np)) (bw _ (dH (iC.mpr h)))
def U0(X:qA C K e WH){d:Nat}{a:cb}(Y:Ctx C d a 36):Bool:=(eM 72).all λf=>if h:f<72 then(adL Y K e (xD f) (code f) (X.fn h)).ok else false
theorem Ph(X:qA C K e WH)(m:(JD C K e 36 (X.Pg (p:=(36,1,2)) bC)).ok=true)(h:∀d a(Y:Ctx C d a 36),U0 X Y=true):Prg C 36 where
 fx:=cT.get X.fx
 Fo:=mg_of C.A0 C.g (e▸X.Fo)
 UQ:=by obtain⟨h1,l,b⟩:=YC X.UQ;obtain⟨i,c,j⟩:=YC h1;exact{cls:=⟨_,_,_,_,_,_,_,_,_,_,_,_,_,_,_,_,e▸X.cls,rfl,rfl,rfl,rfl⟩,Ze:=e▸eq_of_beq i,ty:=e▸eq_of_beq c,keep:=e▸j,Zf:=e▸X.Zf,set:=e▸l,get:=e▸b,fn:=cT.get m}
 ck:=λd a Y f q=>by have k:=bj.mp (h d a Y) f (iC.mpr q);rw[dif_pos q]at k;exact cT.get k
end
end R
namespace Q
open R
def Wp{c b:Type}(o:jb c b)(Q:b->c->Prop)(E:PV->aH->Prop):Prop:=match o with|.ok a s=>Q a s|.kc e s=>E e s|.aS=>False
abbrev dy{b:Type}(o:Option b)(k:b->Prop):Prop:=match o with|some a=>k a|none=>False
abbrev gg(b:Bool)(x y:Prop):Prop:=match b with|true=>x|false=>y
abbrev L:=List Slot
noncomputable def gt:L->Nat->Slot|[],_=>.bB|x::_,0=>x|_::r,i+1=>gt r i
noncomputable def pt:L->Nat->Slot->L|[],0,x=>[x]|[],i+1,x=>.bB::pt [] i x|_::r,0,x=>x::r|y::r,i+1,x=>y::pt r i x
noncomputable def Rf:Slot->Slot|.cj _=>.bB|s=>s
abbrev SV(x:Slot)(k:PV->Prop):Prop:=match x with|.val v=>k v|_=>False
abbrev Yg(x:Slot)(k:List PV->Prop):Prop:=match x with|.val (.list xs)=>k xs|.cj xs=>k xs|_=>False
def jR(vs items:List PV)(s:aH):Bool:=vs.all λp=>(u9 p).isNone||(dictAt s p).any λa=>pC (a.map (·.1)) items
noncomputable def Pj:List Nat->List PV->L->(L->Prop)->Prop|[],[],l,k=>k l|i::r,v::vs,l,k=>Pj r vs (pt l i (.val v)) k|_,_,_,_=>False
abbrev U1(tg:List Nat)(v:PV)(l:L)(k:L->Prop):Prop:=match tg with|[i]=>k (pt l i (.val v))|tg=>dy (ky v) λvs=>Pj tg vs l k
noncomputable def oB(f:PV->aH->(Option PV->aH->Prop)->Prop):List PV->aH->(List PV->aH->Prop)->Prop|[],s,k=>k [] s|x::r,s,k=>f x s λv s=>oB f r s λvs s=>k (match v with|some v=>v::vs|none=>vs) s
theorem SW{f:PV->aH->(Option PV->aH->Prop)->Prop}{x:PV}{r:List PV}{s:aH}{k:List PV->aH->Prop}:oB f (x::r) s k=f x s λv s=>oB f r s λvs s=>k (match v with|some v=>v::vs|none=>vs) s:=rfl
abbrev qQ(x:Slot)(s:aH)(k:Nat->List Int->Int->Prop):Prop:=SV x λv=>dy (u9 v) λl=>dy (s[l]?) λc=>dy (GP c) λp=>k l p.1 p.2
def noE:PV->aH->Prop:=λ_ _=>False
def SX(m:Mt)(v:PV)(s:aH)(k:Option Fn->Prop):Prop:=match instOf s v with|some p=>dy (MJ p.1 m) λf=>k (some f)|none=>gg ((dictAt s v).isSome&&decide (m=.get)) (k none) False
def Yh(a:cb)(E:PV->aH->Prop)(v:PV)(f:Option Fn)(vs:List PV)(s:aH)(k:Bool×PV->aH->Prop):Prop:=match f with|some f=>Wp (a f (v::vs) s) k E|none=>Wp (dictGet v vs s) k E
section
variable(call:cb)
mutual noncomputable def d9(E:PV->aH->Prop):Nat->X->L->aH->(Bool×PV->aH->Prop)->Prop|0,_,_,_,_=>False|n+1,x,e,s,k=>match x with|.aF v=>k (false,v) s|.d6 g=>k (false,d6 g) s|.aq i=>SV (gt e i) λv=>k (false,v) s|.dC o a b=>d9 E n a e s λva s=>d9 E n b e s λvb s=>dy (kz o va.2 vb.2) λv=>k v s|.neg a=>d9 E n a e s λva s=>dy (br va.2) λi=>k (false,.int (-i)) s|.cS c a b=>d9 E n a e s λva s=>d9 E n b e s λvb s=>dy (eD s c va.2 vb.2) λr=>k (false,.bool r) s|.oa a b c=>d9 E n a e s λva s=>d9 E n b e s λvb s=>dy (br va.2) λi=>dy (br vb.2) λj=>gg (decide (i<=j)) (d9 E n c e s λvc s=>dy (br vc.2) λm=>k (false,.bool (decide (j<=m))) s) (k (false,.bool false) s)|.and xs=>uJ E n xs e s λb s=>k (false,.bool b) s|.or xs=>z6 E n xs e s λb s=>k (false,.bool b) s|.not a=>q9 E n a e s λb s=>k (false,.bool !b) s|.ite c a b=>q9 E n c e s λt s=>gg t (d9 E n a e s k) (d9 E n b e s k)|.jh a i=>d9 E n a e s λva s=>d9 E n i e s λvi s=>dy (gq s va.2 vi.2) λv=>k (false,v) s|.sl a lo hi=>d9 E n a e s λva s=>z7 E n lo e s λl s=>z7 E n hi e s λh s=>dy (oi va.2 l h) λv=>k v s|.Ra a=>d9 E n a e s λva s=>dy (yV va.2) λv=>k v s|.cO a m=>d9 E n a e s λva s=>dy (instOf s va.2) λp=>dy (p.2.lookup m) λv=>k (false,v) s|.list xs=>nK E n xs e s λvs s=>k (true,.list vs) s|.bR xs=>nK E n xs e s λvs s=>k (false,.bR vs) s|.dict kvs=>z8 E n kvs e s λps s=>dy (uj [] ps) λes=>k (false,.ref s.length) (s++[.dict es])|.comp tg kd args cond Rb=>nK E n args e s λvs s=>dy (di s kd vs) λitems=>oB (λitem s k=>U1 tg item (e.map Rf) λe'=>LI noE n cond e' s λt s=>gg t (d9 noE n Rb e' s λv s=>gg (jR vs items s) (k (some v.2) s) False) (gg (jR vs items s) (k none s) False)) items s λout s=>k (true,.list out) s|.call f args=>nK E n args e s λvs s=>Wp (call f vs s) k E|.ja m r args=>d9 E n r e s λvr s=>SX m vr.2 s λf=>nK E n args e s λvs s=>Yh call E vr.2 f vs s k|.new c args=>nK E n args e s λvs s=>Wp (call (iI c) (.ref s.length::vs) (s++[.inst c []])) (λr s'=>gg (isNone r.2) (k (false,.ref s.length) s') False) noE|.bi b args=>gg (dV b) (match args with|a::r=>d9 E n a e s λva s=>gg (Rc b va.2) (nK E n r e s λvs s=>dy (gX s b (va.2::vs)) λv=>k v s) False|[]=>False) (nK E n args e s λvs s=>dy (gX s b vs) λv=>k v s)|.CJ i=>Yg (gt e i) λxs=>k (false,.int xs.length) s|.ku i=>qQ (gt e i) s λl cs m=>k (false,.bool (!cs.isEmpty)) s|.qM i=>qQ (gt e i) s λl cs m=>(match cs with|c::cs=>k (false,.int c) (s.set l (.cK cs m))|[]=>False)|.og i=>qQ (gt e i) s λl cs m=>k (false,.int m) s|.ru i j=>Wp (ru 0 1 (λx=>if x=0 then gt e i else gt e j) s) k E|.tP i=>SV (gt e i) λv=>dy (vh v) λis=>k (true,.list ((is.take 40).map .int)) s|.A6 i x=>Yg (gt e i) λxs=>d9 E n x e s λvk s=>dy (oh xs vk.2) λv=>k (false,v) s noncomputable def q9(E:PV->aH->Prop):Nat->X->L->aH->(Bool->aH->Prop)->Prop|0,_,_,_,_=>False|n+1,x,e,s,k=>d9 E n x e s λv s=>dy (nq v.2) λb=>k b s noncomputable def LI(E:PV->aH->Prop):Nat->Option X->L->aH->(Bool->aH->Prop)->Prop|0,_,_,_,_=>False|n+1,x,e,s,k=>match x with|none=>k true s|some x=>q9 E n x e s k noncomputable def z7(E:PV->aH->Prop):Nat->Option X->L->aH->(Option Int->aH->Prop)->Prop|0,_,_,_,_=>False|n+1,x,e,s,k=>match x with|none=>k none s|some x=>d9 E n x e s λv s=>dy (br v.2) λi=>k (some i) s noncomputable def nK(E:PV->aH->Prop):Nat->List X->L->aH->(List PV->aH->Prop)->Prop|0,_,_,_,_=>False|n+1,xs,e,s,k=>match xs with|[]=>k [] s|x::r=>d9 E n x e s λv s=>nK E n r e s λvs s=>k (v.2::vs) s noncomputable def z8(E:PV->aH->Prop):Nat->List (X×X)->L->aH->(List (PV×PV)->aH->Prop)->Prop|0,_,_,_,_=>False|n+1,xs,e,s,k=>match xs with|[]=>k [] s|p::r=>d9 E n p.1 e s λa s=>d9 E n p.2 e s λv s=>z8 E n r e s λvs s=>k ((a.2,v.2)::vs) s noncomputable def uJ(E:PV->aH->Prop):Nat->List X->L->aH->(Bool->aH->Prop)->Prop|0,_,_,_,_=>False|n+1,xs,e,s,k=>match xs with|[]=>k true s|x::r=>q9 E n x e s λb s=>gg b (uJ E n r e s k) (k false s)noncomputable def z6(E:PV->aH->Prop):Nat->List X->L->aH->(Bool->aH->Prop)->Prop|0,_,_,_,_=>False|n+1,xs,e,s,k=>match xs with|[]=>k false s|x::r=>q9 E n x e s λb s=>gg b (k true s) (z6 E n r e s k)end
noncomputable def z9(E:PV->aH->Prop):Nat->List X->L->aH->(List (Bool×PV)->aH->Prop)->Prop|0,_,_,_,_=>False|n+1,xs,e,s,k=>match xs with|[]=>k [] s|x::r=>d9 call E n x e s λv s=>z9 E n r e s λvs s=>k (v::vs) s
end
section
variable{σ τ α β:Type}{Q:β->τ->Prop}{E:PV->aH->Prop}
theorem Wp.eX{o:jb τ β}{c:β->τ->Prop}{b:PV->aH->Prop}(h:Wp o Q E)(f:∀a s,Q a s->c a s)(d:∀e s,E e s->b e s):Wp o c b:=by cases o with|ok a s=>exact f _ _ h|kc e s=>exact d _ _ h|aS=>exact h
theorem Wp.of{o:jb τ β}{a:β}{s:τ}(h:o=.ok a s)(k:Q a s):Wp o Q E:=h▸k
theorem Wp.ex{o:jb τ β}{e:PV}{s:aH}(h:o=.kc e s)(k:E e s):Wp o Q E:=h▸k
theorem Wp.eq{o:jb σ α}{v:α}{s:σ}(h:Wp o (λa s'=>a=v/\s'=s) noE):o=.ok v s:=by cases o with|ok a t=>obtain⟨h1,b⟩:=h;rw[h1,b]|kc e t=>exact h.elim|aS=>exact h.elim
theorem Wp.SY{o:jb σ α}{v:PV}{s:aH}(h:Wp o (λ_ _=>False) (λa s'=>a=v/\s'=s)):o=.kc v s:=by cases o with|ok a t=>exact h.elim|kc e t=>obtain⟨h1,b⟩:=h;rw[h1,b]|aS=>exact h.elim
end
section
variable{σ τ α β:Type}{k:β->aH->Prop}{E:PV->aH->Prop}{s:aH}
theorem Yi{m:M α}{f:α->M β}:Wp (M.bind m f s) k E=Wp (m s) (λa s=>Wp (f a s) k E) E:=by unfold M.bind;cases m s<;>rfl
theorem W_o{o:Option β}:Wp (mw o s) k E=dy o λa=>k a s:=by cases o<;>rfl
theorem W_i{b:Bool}{x y:M β}:Wp ((if b=true then x else y) s) k E=gg b (Wp (x s) k E) (Wp (y s) k E):=by cases b<;>rfl
theorem adP{p:Prop}[Decidable p]{x y:M β}:Wp ((if p then x else y) s) k E=gg (decide p) (Wp (x s) k E) (Wp (y s) k E):=by by_cases h:p<;>simp[h,gg]
theorem W_n{m:M β}:Wp (iM m s) k E=Wp (m s) k noE:=by unfold iM;cases m s<;>rfl
def eo(l:L):Env:=λi=>gt l i
theorem Zx(l:L)(i j:Nat)(x:Slot):gt (pt l i x) j=if j=i then x else gt l j:=by
 induction i generalizing l j with
 |zero=>cases l<;>cases j<;>rfl
 |succ i a=>
  cases j with
  |zero=>cases l<;>rfl
  |succ j=>
   have:=a l.tail j;refine(show gt (pt l (i+1) x) (j+1)=gt (pt l.tail i x) j from by cases l<;>rfl).trans (this.trans ?_);by_cases h:j=i;·rw[if_pos h,if_pos (congrArg (·+1) h)]
   ·rw[if_neg h,if_neg λq=>h (AO q)];cases l<;>first|rfl|(cases j<;>rfl)
theorem oW{l:L}{i:Nat}{x:Slot}:jd (eo l) i x=eo (pt l i x):=funext λj=>(Zx l i j x).symm
theorem WI(l:L)(i:Nat):gt (l.map Rf) i=Rf (gt l i):=by induction l generalizing i with|nil=>cases i<;>rfl|cons x r a=>cases i with|zero=>rfl|succ i=>exact a i
theorem S0{l:L}:xZ (eo l)=eo (l.map Rf):=funext λi=>by show xZ (eo l) i=gt _ i;rw[WI];unfold xZ Rf eo;cases gt l i<;>rfl
theorem Fu(tg:List Nat)(vs:List PV)(l:L)(k:Env->Prop):dy (nx tg vs (eo l)) k=Pj tg vs l λl=>k (eo l):=by induction tg generalizing vs l with|nil=>cases vs<;>rfl|cons i r a=>cases vs with|nil=>rfl|cons v vs=>show dy (nx r vs (jd (eo l) i (.val v))) k=Pj r vs (pt l i (.val v)) _;rw[oW,a]
theorem adQ{tg:List Nat}{v:PV}{l:L}{k:Env->Prop}:dy (eV tg v (eo l)) k=U1 tg v l λl=>k (eo l):=by
 cases tg with
 |nil=>show dy ((ky v).bind λvs=>nx [] vs (eo l)) k=dy (ky v) _;cases ky v with|none=>rfl|some vs=>exact Fu [] vs l k
 |cons i r=>cases r with|nil=>show dy (if 1=1 then some (jd (eo l) i (.val v))else none) k=_;refine zl (if_pos rfl) ?_;exact zl oW rfl|cons j r=>unfold eV U1;refine zl (if_neg (by simp)) ?_;cases ky v with|none=>rfl|some vs=>exact Fu (i::j::r) vs l k
theorem adR{l:L}{i:Nat}{k:PV->aH->Prop}:Wp (xw (eo l) i s) k E=SV (gt l i) λv=>k v s:=by unfold xw SV eo;cases gt l i<;>rfl
theorem adS{l:L}{i:Nat}{k:List PV->aH->Prop}:Wp (items? (eo l) i s) k E=Yg (gt l i) λv=>k v s:=by unfold items? Yg eo;cases gt l i with|val v=>cases v<;>rfl|_=>rfl
theorem S2{vs items:List PV}{k:Unit->aH->Prop}:Wp (xu vs items s) k E=gg (jR vs items s) (k () s) False:=by unfold xu;show Wp (if jR vs items s=true then _ else _) k E=_;cases jR vs items s<;>rfl
theorem WJ{f:PV->M (Option PV)}{a:PV->aH->(Option PV->aH->Prop)->Prop}(h:∀v s k,Wp (f v s) k noE=a v s k)(r:List PV):∀s(k:List PV->aH->Prop),Wp (collect f r s) k noE=oB a r s k:=by refine(?H:gB (by induction r with|nil=>intro s k;exact rfl|cons x r b=>intro s k;rw[Km,SW];rw[Yi,h];congr;funext v s;rw[Yi,b];congr)) gA;intro w;delta id at w;(try dsimp-zetaHave only at w);refine(?F:gC _) _ w;exactλp _=>p
theorem adT{v:PV}{n:At}{k:PV->aH->Prop}:Wp (vg v n s) k E=dy (instOf s v) λp=>dy (p.2.lookup n) λv=>k v s:=by unfold vg;cases instOf s v with|none=>rfl|some p=>show Wp (match p.2.lookup n with|some v=>jb.ok v s|none=>.aS) k E=dy (p.2.lookup n) _;cases p.2.lookup n<;>rfl
theorem adU{v:PV}{m:Mt}{k:Option Fn->aH->Prop}:Wp (qN m v s) k E=SX m v s λf=>k f s:=by unfold qN SX;cases instOf s v with|none=>cases(dictAt s v).isSome&&decide (m=.get)<;>rfl|some p=>show Wp (match MJ p.1 m with|some f=>jb.ok (some f) s|none=>.aS) k E=dy (MJ p.1 m) _;cases MJ p.1 m<;>rfl
theorem adV{a:cb}{v:PV}{f:Option Fn}{vs:List PV}{k:Bool×PV->aH->Prop}:Wp ((match(generalizing:=false)f with|some f=>a f (v::vs)|none=>dictGet v vs:M (Bool×PV)) s) k E=Yh a E v f vs s k:=by cases f<;>rfl
theorem Dz{l:L}{i:Nat}{p:Prop}(h1:∀d,kY (eo l) i s=some d->(∀k:Nat->List Int->Int->Prop,qQ (gt l i) s k=k d.1 d.2.1 d.2.2)->p)(e:kY (eo l) i s=none->(∀k,qQ (gt l i) s k=False)->p):p:=by
 unfold kY qQ eo SV at*;cases h:gt l i with
 |val v=>rw[h]at h1 e;cases b:u9 v with|none=>exact e (by simp[ny,b]) λk=>by simp[b,dy]|some a=>cases f:s[a]? with|none=>exact e (by simp[ny,b,f]) λk=>by simp[b,f,dy]|some c=>cases g:GP c with|none=>exact e (by simp[ny,b,f,g]) λk=>by simp[b,f,g,dy]|some d=>exact h1 (a,d.1,d.2) (by simp[ny,b,f,g]) λk=>by simp[b,f,g,dy]
 |_=>replace e:=h▸e;exact e rfl λk=>rfl
end
def my{a:Type}(E:PV->aH->Prop)(m:M a)(w:aH->(a->aH->Prop)->Prop):Prop:=∀s k,Wp (m s) k E=w s k
section
variable{α β:Type}{E:PV->aH->Prop}{l:L}{i:Nat}
theorem kO{m:M α}{f:α->M β}{w:aH->(α->aH->Prop)->Prop}{v:α->aH->(β->aH->Prop)->Prop}(h:my E m w)(g:∀a,my E (f a) (v a)):my E (M.bind m f) λs k=>w s λa s=>v a s k:=λs k=>Yi.trans ((h ..).trans (congrArg (w s) (funext λa=>funext λs=>g a s k)))
theorem tq{a:α}:my E (M.pure a) λs k=>k a s:=λ_ _=>rfl
theorem q_s:my E (aS:M α) λ_ _=>False:=λ_ _=>rfl
theorem U2{o:Option α}:my E (mw o) λs k=>dy o λa=>k a s:=λ_ _=>W_o
theorem Bl{o:Option α}{f:α->M β}{v:α->aH->(β->aH->Prop)->Prop}(g:∀a,my E (f a) (v a)):my E (M.bind (mw o) f) λs k=>dy o λa=>v a s k:=kO U2 g
theorem Yj{f:aH->M β}{v:aH->aH->(β->aH->Prop)->Prop}(g:∀a,my E (f a) (v a)):my E (M.bind gr f) λs k=>v s s k:=λs k=>Yi.trans (g s s k)
theorem U3{b:Bool}{x y:M β}{v w:aH->(β->aH->Prop)->Prop}(h:my E x v)(g:my E y w):my E (if b=true then x else y) λs k=>gg b (v s k) (w s k):=λs k=>W_i.trans (by rw[h s k,g s k])
theorem adX:my E (xw (eo l) i) λs k=>SV (gt l i) λv=>k v s:=λ_ _=>adR
theorem Zy:my E (items? (eo l) i) λs k=>Yg (gt l i) λv=>k v s:=λ_ _=>adS
theorem adY{v:PV}{n:At}:my E (vg v n) λs k=>dy (instOf s v) λp=>dy (p.2.lookup n) λv=>k v s:=λ_ _=>adT
theorem adZ{v:PV}{n:Mt}:my E (qN n v) λs k=>SX n v s λv=>k v s:=λ_ _=>adU
theorem q_n{m:M α}{w:aH->(α->aH->Prop)->Prop}(h:my noE m w):my E (iM m) w:=λs k=>W_n.trans (h s k)
theorem S3{a b c:M (Bool×PV)}{v w u:aH->(Bool×PV->aH->Prop)->Prop}(n:my E a v)(h:my E b w)(g:my E c u):my E (wL a b c (λb=>M.pure (false,PV.bool b))) λs k=>v s λd s=>w s λf s=>dy (br d.2) λi=>dy (br f.2) λj=>gg (decide (i<=j)) (u s λe s=>dy (br e.2) λm=>k (false,PV.bool (decide (j<=m))) s) (k (false,PV.bool false) s):=kO n λd=>kO h λf=>Bl (o:=br d.2) λi=>Bl (o:=br f.2) λj=>λs k=>adP.trans (congrArg (λx=>gg (decide (i<=j)) x (k (false,PV.bool false) s)) (kO g (λe=>Bl (o:=br e.2) λm=>tq (a:=(false,PV.bool (decide (j<=m))))) s k))
theorem WK{f:PV->M (Option PV)}{w:PV->aH->(Option PV->aH->Prop)->Prop}(h:∀v,my noE (f v) (w v))(r:List PV):my E (iM (collect f r)) (oB w r):=q_n λs k=>WJ h r s k
theorem ad1{tg:List Nat}{v:PV}{f:Env->M β}{u:L->aH->(β->aH->Prop)->Prop}(h:∀l,my E (f (eo l)) (u l)):my E (M.bind (mw (eV tg v (xZ (eo l)))) f) λs k=>U1 tg v (l.map Rf) λl=>u l s k:=λs k=>by rw[Yi,W_o,S0,adQ];congr;funext l;exact h l s k
theorem S4{vs items:List PV}{f:Unit->M β}{u:aH->(β->aH->Prop)->Prop}(h:my E (f ()) u):my E (M.bind (xu vs items) f) λs k=>gg (jR vs items s) (u s k) False:=λs k=>by rw[Yi,S2,h]
theorem Zz:my E (λs=>ku i (eo l) s) λs k=>qQ (gt l i) s λl cs m=>k (false,PV.bool (!cs.isEmpty)) s:=λs k=>Dz (l:=l) (i:=i) (s:=s) (λd h a=>by unfold ku;dsimp only;rw[h,a];rfl) λh a=>by unfold ku;dsimp only;rw[h,a];rfl
theorem ZA:my E (λs=>qM i (eo l) s) λs k=>qQ (gt l i) s λl cs m=>(match cs with|c::cs=>k (false,PV.int c) (s.set l (.cK cs m))|[]=>False):=by refine(?H:gB (by exactλs k=>Dz (l:=l) (i:=i) (s:=s) (λd h b=>by unfold qM;dsimp only;rw[h,b];obtain⟨a,_|⟨c,cs⟩,m⟩:=d<;>rfl) λh b=>by unfold qM;dsimp only;rw[h,b];rfl)) gA;intro w;delta id at w;(try dsimp-zetaHave only at w);refine(?F:gC _) _ w;exactλp _=>p
theorem ZC:my E (λs=>og i (eo l) s) λs k=>qQ (gt l i) s λl cs m=>k (false,PV.int m) s:=λs k=>Dz (l:=l) (i:=i) (s:=s) (λd h a=>by unfold og;dsimp only;rw[h,a];rfl) λh a=>by unfold og;dsimp only;rw[h,a];rfl
end
section
variable{call:cb}
structure lJ(call:cb)(n:Nat):Prop where
 e:∀E x l,my E (ev call n x (eo l)) (d9 call E n x l)
 b:∀E x l,my E (IY call n x (eo l)) (q9 call E n x l)
 c:∀E x l,my E (YH call n x (eo l)) (LI call E n x l)
 d:∀E x l,my E (RF call n x (eo l)) (z7 call E n x l)
 s:∀E x l,my E (CM call n x (eo l)) (nK call E n x l)
 k:∀E x l,my E (GQ call n x (eo l)) (z8 call E n x l)
 a:∀E x l,my E (IX call n x (eo l)) (uJ call E n x l)
 o:∀E x l,my E (RE call n x (eo l)) (z6 call E n x l)
theorem ad2:lJ call 0:=⟨λ_ _ _ _ _=>rfl,λ_ _ _ _ _=>rfl,λ_ _ _ _ _=>rfl,λ_ _ _ _ _=>rfl,λ_ _ _ _ _=>rfl,λ_ _ _ _ _=>rfl,λ_ _ _ _ _=>rfl,λ_ _ _ _ _=>rfl⟩
theorem ZD{n:Nat}(h:lJ call n)(E:PV->aH->Prop)(l:L)(x):my E (ev call (n+1) x (eo l)) (d9 call E (n+1) x l):=by
 cases x with
 |aF v=>exact tq
 |d6 g=>exact tq
 |aq i=>exact(kO adX λv=>tq (a:=(false,v)):)
 |dC o a b=>exact(kO (h.e E a l) λp=>kO (h.e E b l) λC=>U2 (o:=kz o p.2 C.2):)
 |neg a=>exact(kO (h.e E a l) λp=>Bl (o:=br p.2) λi=>tq (a:=(false,PV.int (-i))):)
 |cS c a b=>exact(kO (h.e E a l) λp=>kO (h.e E b l) λC=>Yj λs=>Bl (o:=eD s c p.2 C.2) λr=>tq (a:=(false,PV.bool r)):)
 |oa a b c=>exact(S3 (h.e E a l) (h.e E b l) (h.e E c l):)
 |and xs=>exact(kO (h.a E xs l) λv=>tq (a:=(false,PV.bool v)):)
 |or xs=>exact(kO (h.o E xs l) λv=>tq (a:=(false,PV.bool v)):)
 |not a=>exact(kO (h.b E a l) λv=>tq (a:=(false,PV.bool !v)):)
 |ite c a b=>exact(kO (h.b E c l) λt=>U3 (h.e E a l) (h.e E b l):)
 |jh a i=>exact(kO (h.e E a l) λp=>kO (h.e E i l) λJ=>Yj λs=>Bl (o:=gq s p.2 J.2) λv=>tq (a:=(false,v)):)
 |sl a D B=>exact(kO (h.e E a l) λp=>kO (h.d E D l) λD=>kO (h.d E B l) λB=>U2 (o:=oi p.2 D B):)
 |Ra a=>exact(kO (h.e E a l) λp=>U2 (o:=yV p.2):)
 |cO a m=>exact(kO (h.e E a l) λp=>kO (adY (v:=p.2) (n:=m)) λv=>tq (a:=(false,v)):)
 |list xs=>exact(kO (h.s E xs l) λv=>tq (a:=(true,PV.list v)):)
 |bR xs=>exact(kO (h.s E xs l) λv=>tq (a:=(false,PV.bR v)):)
 |dict kvs=>exact(kO (h.k E kvs l) λI=>Bl (o:=uj [] I) λF=>(λ_ _=>rfl:my E (M.bind (sE (.dict F)) λv=>M.pure (false,v)) λs k=>k (false,.ref s.length) (s++[.dict F])):)
 |comp tg H args q y=>exact(kO (h.s E args l) λvs=>Yj λs=>Bl (o:=di s H vs) λitems=>kO (WK (λv=>ad1 (v:=v) (l:=l) (tg:=tg) (f:=λz=>M.bind (YH call n q z) λt=>M.bind (if t=true then M.bind (ev call n y z) λv=>M.pure (some v.2)else M.pure none) λr=>M.bind (xu vs items) λ_=>M.pure r) (u:=λz s k=>LI call noE n q z s λt s=>gg t (d9 call noE n y z s λv s=>gg (jR vs items s) (k (some v.2) s) False) (gg (jR vs items s) (k none s) False)) λl=>(kO (h.c noE q l) λt=>kO (U3 (b:=t) (kO (h.e noE y l) λv=>tq (a:=some v.2)) (tq (a:=none))) λr=>S4 (vs:=vs) (items:=items) (f:=λ_=>M.pure r) (tq (a:=r)):)) items) λout=>tq (a:=(true,PV.list out)):)
 |call f args=>exact(kO (h.s E args l) λvs=>(λ_ _=>rfl:my E (call f vs) λs k=>Wp (call f vs s) k E):)
 |ja m r args=>exact(kO (h.e E r l) λA=>kO (adZ (v:=A.2) (n:=m)) λf=>kO (h.s E args l) λvs=>(λ_ _=>adV:my E (match f with|some f=>call f (A.2::vs)|none=>dictGet A.2 vs) (Yh call E A.2 f vs)):)
 |new c args=>exact(kO (h.s E args l) λvs=>(λs k=>(kO (q_n (w:=λs' k=>Wp (call (iI c) (.ref s.length::vs) s') k noE) (λ_ _=>rfl)) (λr=>U3 (b:=isNone r.2) (tq (a:=(false,PV.ref s.length))) q_s) (s++[.inst c []]) k:):my E (M.bind (sE (.inst c [])) λo=>M.bind (iM (call (iI c) (o::vs))) λr=>if isNone r.2 then M.pure (false,o)else aS) λs k=>Wp (call (iI c) (.ref s.length::vs) (s++[.inst c []])) (λr s'=>gg (isNone r.2) (k (false,.ref s.length) s') False) noE):)
 |CJ i=>exact(kO Zy λxs=>tq (a:=(false,PV.int xs.length)):)
 |ku i=>exact Zz
 |qM i=>exact ZA
 |og i=>exact ZC
 |ru i j=>exactλ_ _=>rfl
 |tP i=>refineλs k=>?_;show Wp (match(ny (gt l i)).bind vh with|some is=>jb.ok (true,PV.list ((is.take 40).map .int)) s|none=>.aS) k E=SV (gt l i) _;cases gt l i with|val v=>show Wp (match vh v with|some is=>jb.ok (true,PV.list ((is.take 40).map .int)) s|none=>.aS) k E=dy (vh v) _;cases vh v<;>rfl|_=>rfl
 |A6 i x=>exact(kO Zy λxs=>kO (h.e E x l) λG=>Bl (o:=oh xs G.2) λv=>tq (a:=(false,v)):)
 |bi b xs=>cases xs with|nil=>exact(U3 (b:=dV b) q_s (kO (h.s E [] l) λvs=>Yj λs=>U2 (o:=gX s b vs)):)|cons a r=>exact(U3 (b:=dV b) (kO (h.e E a l) λp=>U3 (b:=Rc b p.2) (kO (h.s E r l) λvs=>Yj λs=>U2 (o:=gX s b (p.2::vs))) q_s) (kO (h.s E (a::r) l) λvs=>Yj λs=>U2 (o:=gX s b vs)):)
theorem ZE{n:Nat}(h:lJ call n):lJ call (n+1)where
 e:=λE x l=>ZD h E l x
 b:=λE x l=>(kO (h.e E x l) λv=>U2 (o:=nq v.2):)
 c:=λE x l=>by cases x with|none=>exact tq|some x=>exact h.b E x l
 d:=λE x l=>by cases x with|none=>exact tq|some x=>exact(kO (h.e E x l) λv=>Bl (o:=br v.2) λi=>tq (a:=some i):)
 s:=λE x l=>by cases x with|nil=>exact tq|cons x r=>exact(kO (h.e E x l) λv=>kO (h.s E r l) λvs=>tq (a:=v.2::vs):)
 k:=λE x l=>by cases x with|nil=>exact tq|cons x r=>exact(kO (h.e E x.1 l) λa=>kO (h.e E x.2 l) λv=>kO (h.k E r l) λvs=>tq (a:=(a.2,v.2)::vs):)
 a:=λE x l=>by cases x with|nil=>exact tq|cons x r=>exact(kO (h.b E x l) λv=>U3 (h.a E r l) (tq (a:=false)):)
 o:=λE x l=>by cases x with|nil=>exact tq|cons x r=>exact(kO (h.b E x l) λv=>U3 (tq (a:=true)) (h.o E r l):)
end
def ZF(x:Slot)(l:L)(i:Nat):L:=match x with|.cj xs=>pt l i (.val (.list xs))|_=>l
abbrev Aa(x:Slot)(k:List PV->Prop):Prop:=match x with|.cj xs=>k xs|_=>False
abbrev Pk(a:Fl)(x:Prop)(y:Bool×PV->Prop):Prop:=match a with|.next=>x|.ret v=>y v
noncomputable def fJ(f:PV->L->aH->(Fl->L->aH->Prop)->Prop):List PV->L->aH->(Fl->L->aH->Prop)->Prop|[],l,s,k=>k .next l s|x::r,l,s,k=>f x l s λa l s=>Pk a (fJ f r l s k) λv=>k (.ret v) l s
abbrev WL(x:Slot)(k:Bool×PV->Prop):Prop:=match x with|.cj xs=>k (true,.list xs)|.val v=>k (false,v)|.bB=>False
def xb(o:PV)(n:At)(v:PV)(s:aH)(k:aH->Prop):Prop:=dy (instOf s o) λp=>gg (decide (p.2.length<100)) (k (s.set (RD o) (.inst p.1 (En n v p.2)))) False
def r3(o q v:PV)(s:aH)(k:aH->Prop):Prop:=dy (dictAt s o) λa=>gg (iU q a&&decide (a.length<4096)) (k (s.set (RD o) (.dict (q7 q v a)))) False
section
variable(call:cb)
def oX(E:PV->aH->Prop)(n:Nat)(t:Tg)(v:Bool×PV)(l:L)(s:aH)(k:L->aH->Prop):Prop:=match t with|.v i=>k (pt l i (iW v)) s|.cO o m=>d9 call E n o l s λb s=>xb b.2 m v.2 s λs=>k l s|.sub o q=>d9 call E n o l s λb s=>d9 call E n q l s λc s=>r3 b.2 c.2 v.2 s λs=>k l s|.GK i q=>Aa (gt l i) λ_=>d9 call E n q l s λc s=>Aa (gt l i) λxs=>dy (br c.2) λj=>dy (ju j xs.length) λj=>k (pt l i (.cj (xs.set j v.2))) s|.pB i=>dy (br v.2) λj=>qQ (gt l i) s λa cs m=>gg (decide (j.natAbs<2147483648)) (k l (s.set a (.cK cs j))) False
noncomputable def lz(E:PV->aH->Prop)(n:Nat):List Tg->List (Bool×PV)->L->aH->(L->aH->Prop)->Prop|[],[],l,s,k=>k l s|t::ts,v::vs,l,s,k=>oX call E n t v l s λl s=>lz E n ts vs l s k|_,_,_,_,_=>False
mutual noncomputable def A2(E:PV->aH->Prop):Nat->S->L->aH->(Fl->L->aH->Prop)->Prop|0,_,_,_,_=>False|n+1,st,l,s,k=>match st with|.iP i=>k .next (ZF (gt l i) l i) s|.de t x=>d9 call E n x l s λv s=>oX call E n t v l s λl s=>k .next l s|.ug ts x=>d9 call E n x l s λv s=>dy (oo v.2) λvs=>gg (vs.length==ts.length) (lz call E n ts (vs.map λv=>(false,v)) l s λl s=>k .next l s) False|.eg ts xs=>z9 call E n xs l s λvs s=>lz call E n ts vs l s λl s=>k .next l s|.qn i x=>Aa (gt l i) λ_=>d9 call E n x l s λv s=>Aa (gt l i) λxs=>gg (decide (xs.length<eu)) (k .next (pt l i (.cj (xs++[v.2]))) s) False|.ext i x=>Aa (gt l i) λ_=>d9 call E n x l s λv s=>Aa (gt l i) λxs=>dy (iH v.2) λys=>gg (decide (xs.length+ys.length<eu)) (k .next (pt l i (.cj (xs++ys))) s) False|.expr x=>d9 call E n x l s λ_ s=>k .next l s|.gp c a b=>q9 call E n c l s λt s=>gg t (bS E n a l s k) (bS E n b l s k)|.for tg kd args body=>nK call E n args l s λvs s=>dy (di [] kd vs) λitems=>fJ (λitem l s k=>U1 tg item l λl=>bS E n body l s k) items l s k|.while c body=>q9 call E n c l s λt s=>gg t (bS E n body l s λfl l s=>Pk fl (A2 E n (.while c body) l s k) λv=>k (.ret v) l s) (k .next l s)|.ret x=>d9 call E n x l s λv s=>k (.ret v) l s|.tj i=>WL (gt l i) λv=>k (.ret v) l s|.fQ x=>d9 call E n x l s λv s=>E v.2 s|.no=>False|.Ek c x1 x2 y=>q9 call noE n c l s λt s=>gg t (d9 call (λtold s=>k .next (pt l y (.val told)) s) n x1 l s λ_ s=>k .next l s) (d9 call (λtold s=>k .next (pt l y (.val told)) s) n x2 l s λ_ s=>k .next l s)|.GL x=>d9 call noE n x l s λv s=>k (.ret v) l s noncomputable def bS(E:PV->aH->Prop):Nat->List S->L->aH->(Fl->L->aH->Prop)->Prop|0,_,_,_,_=>False|n+1,sts,l,s,k=>match sts with|[]=>k .next l s|st::r=>A2 E n st l s λfl l s=>Pk fl (bS E n r l s k) λv=>k (.ret v) l s end
end
def sW{b:Type}(E:PV->aH->Prop)(m:T b)(l:L)(w:aH->(b->L->aH->Prop)->Prop):Prop:=∀s k,w s k->Wp (m ⟨eo l,s⟩) (λa q=>∃c,q.env=eo c/\k a c q.mS) E
section
variable{α β:Type}{E:PV->aH->Prop}{l:L}{i:Nat}
theorem ad3{m:T α}{f:α->T β}{x:Sx}{k:β->Sx->Prop}:Wp (T.bind m f x) k E=Wp (m x) (λa s=>Wp (f a s) k E) E:=by unfold T.bind;cases m x<;>rfl
theorem xc{m:T α}{f:α->T β}{w:aH->(α->L->aH->Prop)->Prop}{v:α->L->aH->(β->L->aH->Prop)->Prop}(h:sW E m l w)(g:∀a l,sW E (f a) l (v a l)):sW E (T.bind m f) l λs k=>w s λa l s=>v a l s k:=λs k b=>ad3.mpr ((h s _ b).eX (λa x h=>by refine dq h λc e d=>?_;clear h;cases x;cases e;exact g a c _ k d) λ_ _ h=>h)
theorem LJ{a:α}:sW E (T.pure a) l λs k=>k a l s:=λs k h=>⟨l,rfl,h⟩
theorem ZG{w:aH->(α->L->aH->Prop)->Prop}(h:∀s k,¬w s k){m:T α}:sW E m l w:=λs k a=>(h s k a).elim
theorem GD{m:R.Env->M α}{w:aH->(α->aH->Prop)->Prop}(h:my E (m (eo l)) w):sW E (T.ex m) l λs k=>w s λa s=>k a l s:=λs k b=>by have:=(h s _).mpr b;unfold T.ex;dsimp only;cases q:m (eo l) s with|ok a s'=>rw[q]at this;exact⟨l,rfl,this⟩|kc e s'=>rw[q]at this;exact this|aS=>rw[q]at this;exact this
theorem i_i{b:Bool}{x y:T β}{v w:aH->(β->L->aH->Prop)->Prop}(h:sW E x l v)(g:sW E y l w):sW E (if b=true then x else y) l λs k=>gg b (v s k) (w s k):=λs k a=>by cases b with|true=>exact h s k a|false=>exact g s k a
theorem WM{f:R.Env->Option R.Env}{w:aH->(Unit->L->aH->Prop)->Prop}(h:∀s k,w s k->∃a,f (eo l)=some (eo a)/\k () a s):sW E (T.env f) l w:=λs k b=>by refine dq (h s k b) λa e c=>?_;unfold T.env;dsimp only;refine zl e ?_;exact⟨a,rfl,c⟩
theorem WN{m:T Fl}{w:aH->(Fl->L->aH->Prop)->Prop}(h:sW E m l w){a:Fl}:sW E (match a with|.next=>m|.ret v=>T.pure (.ret v)) l λs k=>Pk a (w s k) λv=>k (.ret v) l s:=match a with|.next=>h|.ret v=>LJ
theorem Pl:sW E (T.env (rA i)) l λs k=>Aa (gt l i) λ_=>k () l s:=WM λs k h=>by unfold rA;show∃a,(match gt l i with|.cj _=>some (eo l)|_=>none)=_/\_;cases q:gt l i with|cj xs=>rw[q]at h;exact⟨l,rfl,h⟩|_=>rw[q]at h;exact h.elim
theorem S5{p:Prop}[Decidable p]{x:Prop}(h:gg (decide p) x False):p/\x:=by
 by_cases q:p;·rw[decide_eq_true q]at h;exact⟨q,h⟩
 ·rw[decide_eq_false q]at h;exact h.elim
theorem ZH{v:PV}:sW E (T.env (Nb i v)) l λs k=>Aa (gt l i) λxs=>gg (decide (xs.length<eu)) (k () (pt l i (.cj (xs++[v]))) s) False:=WM λs k h=>by unfold Nb;show∃a,(match gt l i with|.cj xs=>if xs.length<eu then some (jd (eo l) i (.cj (xs++[v])))else none|_=>none)=_/\_;cases q:gt l i with|cj xs=>rw[q]at h;exact⟨_,(if_pos (S5 h).1).trans (congrArg some oW),(S5 h).2⟩|_=>rw[q]at h;exact h.elim
theorem ZI{v:PV}:sW E (T.env (Nc i v)) l λs k=>Aa (gt l i) λxs=>dy (iH v) λys=>gg (decide (xs.length+ys.length<eu)) (k () (pt l i (.cj (xs++ys))) s) False:=WM λs k h=>by
 unfold Nc;show∃a,(match gt l i,v with|.cj xs,.list ys=>if xs.length+ys.length<eu then some (jd (eo l) i (.cj (xs++ys)))else none|_,_=>none)=_/\_;cases q:gt l i with
 |cj xs=>rw[q]at h;cases v with|list ys=>exact⟨_,(if_pos (S5 h).1).trans (congrArg some oW),(S5 h).2⟩|_=>exact h.elim
 |_=>rw[q]at h;exact h.elim
theorem ZJ{j v:PV}:sW E (T.env (Kn i j v)) l λs k=>Aa (gt l i) λxs=>dy (br j) λj=>dy (ju j xs.length) λj=>k () (pt l i (.cj (xs.set j v))) s:=WM λs k h=>by
 unfold Kn;show∃b,(match gt l i,j with|.cj xs,.int j=>(ju j xs.length).map λj=>jd (eo l) i (.cj (xs.set j v))|_,_=>none)=_/\_;cases q:gt l i with
 |cj xs=>
  rw[q]at h;cases j with
  |int j=>change dy (ju j xs.length) _ at h;dsimp only;cases a:ju j xs.length with|none=>rw[a]at h;exact h.elim|some j=>rw[a]at h;exact⟨_,congrArg some oW,h⟩
  |_=>exact h.elim
 |_=>rw[q]at h;exact h.elim
theorem ZK:sW E (T.env (Na i)) l λs k=>k () (ZF (gt l i) l i) s:=WM λs k h=>by unfold Na;show∃a,(match gt l i with|.cj xs=>some (jd (eo l) i (.val (.list xs)))|_=>some (eo l))=_/\_;cases q:gt l i with|cj xs=>rw[q]at h;exact⟨_,congrArg some oW,h⟩|_=>rw[q]at h;exact⟨_,rfl,h⟩
theorem ZL{x:Slot}:sW E (T.env λe=>some (jd e i x)) l λs k=>k () (pt l i x) s:=WM λs k h=>⟨_,congrArg some oW,h⟩
theorem S6{o v:PV}{n:At}:my E (xt o n v) λs k=>xb o n v s λs=>k () s:=λs k=>by
 unfold xt xb;dsimp only;cases instOf s o with
 |none=>rfl
 |some p=>
  show Wp (if p.2.length<100 then _ else _) k E=gg (decide (p.2.length<100)) _ _;by_cases q:p.2.length<100;·rw[if_pos q,decide_eq_true q];rfl
  ·rw[if_neg q,decide_eq_false q];rfl
theorem LK{o j v:PV}:my E (setItem o j v) λs k=>r3 o j v s λs=>k () s:=λs k=>by unfold setItem r3;dsimp only;cases dictAt s o with|none=>rfl|some a=>show Wp (if(iU j a&&decide (a.length<4096))=true then _ else _) k E=gg (iU j a&&decide (a.length<4096)) _ _;cases iU j a&&decide (a.length<4096)<;>rfl
theorem S7{v:PV}:my E (pB i v (eo l)) λs k=>dy (br v) λj=>qQ (gt l i) s λa cs m=>gg (decide (j.natAbs<2147483648)) (k () (s.set a (.cK cs j))) False:=λs k=>by
 unfold pB;dsimp only;cases br v with
 |none=>rfl
 |some j=>
  dsimp only[dy,q6];refine Dz (l:=l) (i:=i) (s:=s) (λd h b=>?_) λh b=>?_;·
   rw[h,b];show Wp (if j.natAbs<2147483648 then _ else _) k E=gg (decide (j.natAbs<2147483648)) _ _;by_cases q:j.natAbs<2147483648;·rw[if_pos q,decide_eq_true q];rfl
   ·rw[if_neg q,decide_eq_false q];rfl
  ·rw[h,b];rfl
end
section
variable{call:cb}{α β:Type}
theorem snd(n):lJ call n:=by induction n with|zero=>exact ad2|succ n a=>exact ZE a
theorem ad4{E:PV->aH->Prop}{l:L}(n:Nat)(xs:List X):my E (Ep call n xs (eo l)) (z9 call E n xs l):=by induction n generalizing xs with|zero=>exactλ_ _=>rfl|succ n b=>cases xs with|nil=>exact tq|cons x r=>exact(kO ((snd n).e E x l) λv=>kO (b r) λvs=>tq (a:=v::vs):)
theorem JE{E:PV->aH->Prop}{n:Nat}{v:Bool×PV}{l:L}(t):sW E (nz call n t v) l λs k=>oX call E n t v l s λl s=>k () l s:=by cases t with|v i=>exact ZL|cO o m=>exact(GD (m:=λe=>M.bind (ev call n o e) λa=>xt a.2 m v.2) (kO ((snd n).e E o l) λa=>S6):)|sub o q=>exact(GD (m:=λe=>M.bind (ev call n o e) λa=>M.bind (ev call n q e) λb=>setItem a.2 b.2 v.2) (kO ((snd n).e E o l) λa=>kO ((snd n).e E q l) λb=>LK):)|GK i q=>exact(xc Pl λ_ l=>xc (GD ((snd n).e E q l)) λb l=>ZJ:)|pB i=>exact GD S7
theorem Fv{E:PV->aH->Prop}{n:Nat}(a:List Tg)(vs:List (Bool×PV))(l:L):sW E (l9 call n a vs) l λs k=>lz call E n a vs l s λl s=>k () l s:=by
 induction a generalizing vs l with
 |nil=>cases vs with|nil=>exact LJ|cons=>exact ZG λ_ _ h=>h
 |cons t a b=>cases vs with|nil=>exact ZG λ_ _ h=>h|cons v vs=>exact(xc (JE t) λ_ l=>b vs l:)
theorem ZM{E:PV->aH->Prop}{f:PV->T Fl}{w:PV->L->aH->(Fl->L->aH->Prop)->Prop}(h:∀v l,sW E (f v) l (w v l))(items:List PV):∀(l:L),sW E (A7 f items) l (fJ w items l):=by induction items with|nil=>intro l;exact LJ|cons x r a=>intro l;exact(xc (h x l) λb l=>WN (a l):)
theorem U4(tg:List Nat)(vs:List PV)(l:L){K:L->Prop}(h:Pj tg vs l K):∃a,nx tg vs (eo l)=some (eo a)/\K a:=by
 induction tg generalizing vs l with
 |nil=>cases vs with|nil=>exact⟨l,rfl,h⟩|cons=>exact h.elim
 |cons i r b=>cases vs with|nil=>exact h.elim|cons v vs=>refine dq (b vs _ h) λa e h=>?_;exact⟨a,by show nx r vs (jd (eo l) i (.val v))=_;refine zl oW ?_;exact zl e rfl,h⟩
theorem ad5{E:PV->aH->Prop}{v:PV}{l:L}{tg:List Nat}:sW E (T.env (eV tg v)) l λs k=>U1 tg v l λl=>k () l s:=by
 refine WM λs k h=>?_;cases tg with
 |nil=>unfold eV;change dy (ky v) _ at h;cases q:ky v with|none=>rw[q]at h;exact h.elim|some vs=>rw[q]at h;exact U4 [] vs l h
 |cons i r=>cases r with|nil=>exact⟨_,(if_pos rfl).trans (congrArg some oW),h⟩|cons j r=>unfold eV;change dy (ky v) _ at h;rw[if_neg (by simp)];cases q:ky v with|none=>rw[q]at h;exact h.elim|some vs=>rw[q]at h;exact U4 (i::j::r) vs l h
theorem WO{E:PV->aH->Prop}{n:Nat}{b:List Tg}{v:PV}{l:L}:sW E (Ko b.length (l9 call n b) v) l λs k=>dy (oo v) λvs=>gg (vs.length==b.length) (lz call E n b (vs.map λv=>(false,v)) l s λl s=>k .next l s) False:=λs k h=>by unfold Ko;dsimp only at h;cases q:oo v with|none=>rw[q]at h;exact h.elim|some vs=>rw[q]at h;change gg (vs.length==b.length) _ _ at h;dsimp only;cases c:vs.length==b.length with|false=>rw[c]at h;exact h.elim|true=>rw[c]at h;rw[if_pos (eq_of_beq c)];exact(xc (Fv b (vs.map λv=>(false,v)) l) λ_ l=>LJ (a:=Fl.next):) s k h
theorem ZN{E:PV->aH->Prop}{l:L}{i n:Nat}:sW E (ex call (n+1) (.tj i)) l λs k=>WL (gt l i) λv=>k (.ret v) l s:=λs k h=>by show Wp (match gt l i with|.cj xs=>_|.val v=>_|.bB=>_) _ _;cases q:gt l i with|bB=>rw[q]at h;exact h.elim|_=>rw[q]at h;exact⟨l,rfl,h⟩
theorem U5{E:PV->aH->Prop}{l:L}{n y:Nat}(x:X):sW E (λs=>match ev call n x s.env s.mS with|.ok _ mS=>jb.ok Fl.next ⟨s.env,mS⟩|.kc b mS=>jb.ok Fl.next ⟨jd s.env y (.val b),mS⟩|.aS=>.aS) l λs k=>d9 call (λb s=>k .next (pt l y (.val b)) s) n x l s λ_ s=>k .next l s:=λs k h=>by have:=((snd n).e _ x l s _).mpr h;dsimp only;cases q:ev call n x (eo l) s with|ok a s'=>rw[q]at this;exact⟨l,rfl,this⟩|kc e s'=>rw[q]at this;exact⟨_,oW,this⟩|aS=>rw[q]at this;exact this.elim
theorem WQ{E:PV->aH->Prop}{l:L}{n:Nat}(x:X):sW E (ex call (n+1) (.GL x)) l λs k=>d9 call noE n x l s λv s=>k (.ret v) l s:=λs k h=>by have:=((snd n).e _ x l s _).mpr h;show Wp (match ev call n x (eo l) s with|.ok v mS=>_|.kc _ _=>_|.aS=>_) _ _;cases q:ev call n x (eo l) s with|ok a s'=>rw[q]at this;exact⟨l,rfl,this⟩|kc e s'=>rw[q]at this;exact this.elim|aS=>rw[q]at this;exact this.elim
theorem ad6{E:PV->aH->Prop}{tg:List Nat}{c:AZ}{m:T Fl}{w:L->aH->(Fl->L->aH->Prop)->Prop}(h:∀l,sW E m l (w l))(vs:List PV)(l:L):sW E (λs=>match di [] c vs with|some items=>A7 (λa=>T.bind (T.env (eV tg a)) λ_=>m) items s|none=>.aS) l λs k=>dy (di [] c vs) λitems=>fJ (λa l s k=>U1 tg a l λl=>w l s k) items l s k:=λs k b=>by dsimp only at b⊢;cases q:di [] c vs with|none=>rw[q]at b;exact b.elim|some items=>rw[q]at b;exact ZM (λv l=>(xc ad5 λ_ l=>h l:)) items l s k b
theorem S8{E:PV->aH->Prop}{v:PV}{l:L}:sW E (λs=>.kc v s.mS:T Fl) l λs k=>E v s:=λs k h=>h
theorem WT{E:PV->aH->Prop}{l:L}{n y:Nat}{c b:X}:∀t:Bool,sW E (λs=>match ev call n (if t then c else b) s.env s.mS with|.ok _ mS=>jb.ok Fl.next ⟨s.env,mS⟩|.kc a mS=>jb.ok Fl.next ⟨jd s.env y (.val a),mS⟩|.aS=>.aS) l λs k=>gg t (d9 call (λa s=>k .next (pt l y (.val a)) s) n c l s λ_ s=>k .next l s) (d9 call (λa s=>k .next (pt l y (.val a)) s) n b l s λ_ s=>k .next l s)|true=>U5 c|false=>U5 b
theorem ZO{E:PV->aH->Prop}(n:Nat):(∀(j:S)(l:L),sW E (ex call n j) l (A2 call E n j l))/\∀(f:List S)(l:L),sW E (yX call n f) l (bS call E n f l):=by
 induction n with
 |zero=>exact⟨λ_ _=>ZG λ_ _ h=>h,λ_ _=>ZG λ_ _ h=>h⟩
 |succ n g=>
  refine⟨λj l=>?_,λf l=>?_⟩;·cases j with|iP i=>exact(xc ZK λ_ l=>LJ (a:=Fl.next):)|de t x=>exact(xc (GD ((snd n).e E x l)) λv l=>xc (JE t) λ_ l=>LJ (a:=Fl.next):)|ug k x=>exact(xc (GD ((snd n).e E x l)) λv l=>WO (v:=v.2):)|eg k xs=>exact(xc (GD (ad4 n xs)) λvs l=>xc (Fv k vs l) λ_ l=>LJ (a:=Fl.next):)|qn i x=>exact(xc Pl λ_ l=>xc (GD ((snd n).e E x l)) λv l=>xc (ZH (v:=v.2)) λ_ l=>LJ (a:=Fl.next):)|ext i x=>exact(xc Pl λ_ l=>xc (GD ((snd n).e E x l)) λv l=>xc (ZI (v:=v.2)) λ_ l=>LJ (a:=Fl.next):)|expr x=>exact(xc (GD ((snd n).e E x l)) λv l=>LJ (a:=Fl.next):)|gp c a b=>exact(xc (GD ((snd n).b E c l)) λt l=>i_i (g.2 a l) (g.2 b l):)|«for» tg u args d=>exact(xc (GD ((snd n).s E args l)) λvs l=>ad6 (g.2 d) vs l:)|«while» c d=>exact(xc (GD ((snd n).b E c l)) λt l=>i_i (xc (g.2 d l) λo l=>WN (g.1 (.while c d) l)) (LJ (a:=Fl.next)):)|ret x=>exact(xc (GD ((snd n).e E x l)) λv l=>LJ (a:=Fl.ret v):)|tj i=>exact ZN|fQ x=>exact(xc (GD ((snd n).e E x l)) λv l=>S8 (v:=v.2):)|no=>exact ZG λ_ _ h=>h|Ek c q p y=>exact(xc (GD (m:=λe=>iM (IY call n c e)) (q_n ((snd n).b noE c l))) λt l=>WT t:)|GL x=>exact WQ x
  ·cases f with|nil=>exact LJ|cons j r=>exact(xc (g.1 j l) λo l=>WN (g.2 r l):)
theorem ZP{E:PV->aH->Prop}(n:Nat)(a:List S)(l:L):sW E (yX call n a) l (bS call E n a l):=(ZO n).2 a l
@[irreducible]noncomputable def au:Nat->cb:=R.au
theorem S9{d:Nat}{f:Fn}{args:List PV}{s:aH}:au (d+1) f args s=yY (au d) (code f) args s:=by unfold au;rfl
noncomputable def DB:Fl->Bool×PV|.ret v=>v|.next=>(false,.none)
theorem WU(k i:Nat):gt (bL k .bB) i=.bB:=by induction k generalizing i with|zero=>cases i<;>rfl|succ k a=>cases i with|zero=>rfl|succ i=>exact a i
theorem WX(k:Nat)(l:L)(i:Nat):gt (l++bL k .bB) i=gt l i:=by induction l generalizing i with|nil=>exact(WU k i).trans (by cases i<;>rfl)|cons x r a=>cases i with|zero=>rfl|succ i=>exact a i
theorem Ta(vs:List PV)(i:Nat):gt (vs.map .val) i=mx vs i:=by induction vs generalizing i with|nil=>cases i<;>rfl|cons v vs a=>cases i with|zero=>rfl|succ i=>exact a i
theorem bq{d:Nat}{f:Fn}{args:List PV}{s:aH}{k:Bool×PV->aH->Prop}{E:PV->aH->Prop}(c:FC)(g:code f=c)(h:decide (c.lo<=args.length/\args.length<=c.np)=true)(q:bS (au d) E bx c.body ((gu c.np args).map .val++bL (c.cP.length-c.np) .bB) s λb _ s=>k (DB b) s):Wp (au (d+1) f args s) k E:=by subst g;have e:mx (gu (code f).np args)=eo ((gu (code f).np args).map .val++bL ((code f).cP.length-(code f).np) .bB):=funext λi=>((WX _ _ i).trans (Ta _ i)).symm;have:=ZP _ _ _ _ _ q;rw[S9];unfold yY;rw[if_pos (of_decide_eq_true h),e];cases a:yX (au d) bx (code f).body ⟨eo ((gu (code f).np args).map .val++bL ((code f).cP.length-(code f).np) .bB),s⟩with|ok b q=>rw[a]at this;clear a;obtain⟨_,_,h⟩:=this;cases b<;>exact h|kc e s'=>rw[a]at this;exact this|aS=>rw[a]at this;exact this.elim
end
def i5{a:Type}(o:Option a)(k:a->Prop):Prop:=(λ_=>dy o k) @bS
def jy(b:Bool)(x y:Prop):Prop:=(λ_=>gg b x y) @bS
def rdK(x:Slot)(k:PV->Prop):Prop:=(λ_=>SV x k) @bS
def itK(x:Slot)(k:List PV->Prop):Prop:=(λ_=>Yg x k) @bS
def HX(x:Slot)(k:List PV->Prop):Prop:=(λ_=>Aa x k) @bS
def Bm(a:Fl)(x:Prop)(y:Bool×PV->Prop):Prop:=(λ_=>Pk a x y) @bS
def pT(tg:List Nat)(v:PV)(l:L)(k:L->Prop):Prop:=(λ_=>U1 tg v l k) @bS
def JF(x:Slot)(s:aH)(k:Nat->List Int->Int->Prop):Prop:=(λ_=>qQ x s k) @bS
def ZQ(x:Slot)(k:Bool×PV->Prop):Prop:=(λ_=>WL x k) @bS
section
variable{α:Type}{k:α->Prop}{kv:Bool×PV->Prop}{kl:List PV->Prop}{kp:PV->Prop}{p q:Prop}{a:α}{v:PV}{xs:List PV}{w:Bool×PV}
@[simp]theorem oK:i5 (some a) k=k a:=rfl
@[simp]theorem sT:jy true p q=p:=rfl
@[simp]theorem sF:jy false p q=q:=rfl
@[simp]theorem rV:rdK (.val v) kp=kp v:=rfl
@[simp]theorem wO:HX (.cj xs) kl=kl xs:=rfl
@[simp]theorem iV:itK (.val (.list xs)) kl=kl xs:=rfl
@[simp]theorem iO:itK (.cj xs) kl=kl xs:=rfl
@[simp]theorem tN:Bm .next p kv=p:=rfl
@[simp]theorem tR:Bm (.ret w) p kv=kv w:=rfl
@[simp]theorem eO:ZQ (.cj xs) kv=kv (true,.list xs):=rfl
@[simp]theorem mV:Rf (.val v)=.val v:=rfl
@[simp]theorem mO:Rf (.cj xs)=.bB:=rfl
@[simp]theorem mU:Rf .bB=.bB:=rfl
end
section
variable{x y:Slot}{r:L}{i j:Nat}{v:PV}{xs:List PV}
@[simp]theorem g0:gt (x::r) 0=x:=rfl
@[simp]theorem gS:gt (x::r) (i+1)=gt r i:=rfl
@[simp]theorem p0:pt (x::r) 0 y=y::r:=rfl
@[simp]theorem pS:pt (x::r) (i+1) y=x::pt r i y:=rfl
@[simp]theorem lO:iW (true,.list xs)=.cj xs:=rfl
@[simp]theorem lV:iW (false,v)=.val v:=rfl
@[simp]theorem fO:ZF (.cj xs) r i=pt r i (.val (.list xs)):=rfl
@[simp]theorem fV:ZF (.val v) r i=r:=rfl
end
section
variable{c:cb}{E:PV->aH->Prop}{n:Nat}{l:L}{s:aH}
@[simp]theorem afy{v:PV}{k:Bool×PV->aH->Prop}:d9 c E (n+1) (.aF v) l s k=(k (false,v) s):=rfl
@[simp]theorem ad8{g:Nat}{k:Bool×PV->aH->Prop}:d9 c E (n+1) (.d6 g) l s k=(k (false,d6 g) s):=rfl
@[simp]theorem afz{i:Nat}{k:Bool×PV->aH->Prop}:d9 c E (n+1) (.aq i) l s k=(rdK (gt l i) λv=>k (false,v) s):=rfl
@[simp]theorem afA{o:Op}{a b:X}{k:Bool×PV->aH->Prop}:d9 c E (n+1) (.dC o a b) l s k=(d9 c E n a l s λd s=>d9 c E n b l s λe s=>i5 (kz o d.2 e.2) λv=>k v s):=rfl
@[simp]theorem afB{a:X}{k:Bool×PV->aH->Prop}:d9 c E (n+1) (.neg a) l s k=(d9 c E n a l s λb s=>i5 (br b.2) λi=>k (false,.int (-i)) s):=rfl
@[simp]theorem afC{o:Cm}{a b:X}{k:Bool×PV->aH->Prop}:d9 c E (n+1) (.cS o a b) l s k=(d9 c E n a l s λd s=>d9 c E n b l s λe s=>i5 (eD s o d.2 e.2) λr=>k (false,.bool r) s):=rfl
@[simp]theorem aaL{a b d:X}{k:Bool×PV->aH->Prop}:d9 c E (n+1) (.oa a b d) l s k=(d9 c E n a l s λf s=>d9 c E n b l s λg s=>i5 (br f.2) λi=>i5 (br g.2) λj=>jy (decide (i<=j)) (d9 c E n d l s λe s=>i5 (br e.2) λm=>k (false,.bool (decide (j<=m))) s) (k (false,.bool false) s)):=rfl
@[simp]theorem afD{xs:List X}{k:Bool×PV->aH->Prop}:d9 c E (n+1) (.and xs) l s k=(uJ c E n xs l s λb s=>k (false,.bool b) s):=rfl
@[simp]theorem ahS{xs:List X}{k:Bool×PV->aH->Prop}:d9 c E (n+1) (.or xs) l s k=(z6 c E n xs l s λb s=>k (false,.bool b) s):=rfl
@[simp]theorem afE{a:X}{k:Bool×PV->aH->Prop}:d9 c E (n+1) (.not a) l s k=(q9 c E n a l s λb s=>k (false,.bool !b) s):=rfl
@[simp]theorem afF{a b d:X}{k:Bool×PV->aH->Prop}:d9 c E (n+1) (.ite d a b) l s k=(q9 c E n d l s λt s=>jy t (d9 c E n a l s k) (d9 c E n b l s k)):=rfl
@[simp]theorem afG{a i:X}{k:Bool×PV->aH->Prop}:d9 c E (n+1) (.jh a i) l s k=(d9 c E n a l s λb s=>d9 c E n i l s λd s=>i5 (gq s b.2 d.2) λv=>k (false,v) s):=rfl
@[simp]theorem ahT{a:X}{b d:Option X}{k:Bool×PV->aH->Prop}:d9 c E (n+1) (.sl a b d) l s k=(d9 c E n a l s λe s=>z7 c E n b l s λx s=>z7 c E n d l s λh s=>i5 (oi e.2 x h) λv=>k v s):=rfl
@[simp]theorem afH{a:X}{k:Bool×PV->aH->Prop}:d9 c E (n+1) (.Ra a) l s k=(d9 c E n a l s λb s=>i5 (yV b.2) λv=>k v s):=rfl
@[simp]theorem ad9{a:X}{m:At}{k:Bool×PV->aH->Prop}:d9 c E (n+1) (.cO a m) l s k=(d9 c E n a l s λb s=>i5 (instOf s b.2) λp=>i5 (p.2.lookup m) λv=>k (false,v) s):=rfl
@[simp]theorem aea{xs:List X}{k:Bool×PV->aH->Prop}:d9 c E (n+1) (.list xs) l s k=(nK c E n xs l s λvs s=>k (true,.list vs) s):=rfl
@[simp]theorem afI{xs:List X}{k:Bool×PV->aH->Prop}:d9 c E (n+1) (.bR xs) l s k=(nK c E n xs l s λvs s=>k (false,.bR vs) s):=rfl
@[simp]theorem aeb{xs:List (X×X)}{k:Bool×PV->aH->Prop}:d9 c E (n+1) (.dict xs) l s k=(z8 c E n xs l s λa s=>i5 (uj [] a) λb=>k (false,.ref s.length) (s++[.dict b])):=rfl
@[simp]theorem aec{tg:List Nat}{e:AZ}{args:List X}{a:Option X}{x:X}{k:Bool×PV->aH->Prop}:d9 c E (n+1) (.comp tg e args a x) l s k=(nK c E n args l s λvs s=>i5 (di s e vs) λitems=>oB (λb s k=>pT tg b (l.map Rf) λd=>LI c noE n a d s λt s=>jy t (d9 c noE n x d s λv s=>jy (jR vs items s) (k (some v.2) s) False) (jy (jR vs items s) (k none s) False)) items s λout s=>k (true,.list out) s):=rfl
@[simp]theorem aed{f:Fn}{xs:List X}{k:Bool×PV->aH->Prop}:d9 c E (n+1) (.call f xs) l s k=(nK c E n xs l s λvs s=>Wp (c f vs s) k E):=rfl
@[simp]theorem aee{m:Mt}{r:X}{xs:List X}{k:Bool×PV->aH->Prop}:d9 c E (n+1) (.ja m r xs) l s k=(d9 c E n r l s λa s=>SX m a.2 s λf=>nK c E n xs l s λvs s=>Yh c E a.2 f vs s k):=rfl
@[simp]theorem afJ{o:Cl}{xs:List X}{k:Bool×PV->aH->Prop}:d9 c E (n+1) (.new o xs) l s k=(nK c E n xs l s λvs s=>Wp (c (iI o) (.ref s.length::vs) (s++[.inst o []])) (λr s'=>jy (isNone r.2) (k (false,.ref s.length) s') False) noE):=rfl
@[simp]theorem ahU{b:Bi}{a:X}{r:List X}{k:Bool×PV->aH->Prop}:d9 c E (n+1) (.bi b (a::r)) l s k=(jy (dV b) (d9 c E n a l s λd s=>jy (Rc b d.2) (nK c E n r l s λvs s=>i5 (gX s b (d.2::vs)) λv=>k v s) False) (nK c E n (a::r) l s λvs s=>i5 (gX s b vs) λv=>k v s)):=rfl
@[simp]theorem aef{i:Nat}{k:Bool×PV->aH->Prop}:d9 c E (n+1) (.CJ i) l s k=(itK (gt l i) λxs=>k (false,.int xs.length) s):=rfl
@[simp]theorem ZR{i:Nat}{k:Bool×PV->aH->Prop}:d9 c E (n+1) (.ku i) l s k=(JF (gt l i) s λl cs m=>k (false,.bool (!cs.isEmpty)) s):=rfl
@[simp]theorem aaM{i:Nat}{k:Bool×PV->aH->Prop}:d9 c E (n+1) (.og i) l s k=(JF (gt l i) s λl cs m=>k (false,.int m) s):=rfl
@[simp]theorem aaN{i:Nat}{k:Bool×PV->aH->Prop}:d9 c E (n+1) (.tP i) l s k=(rdK (gt l i) λv=>i5 (vh v) λis=>k (true,.list ((is.take 40).map .int)) s):=rfl
@[simp]theorem aeg{i:Nat}{x:X}{k:Bool×PV->aH->Prop}:d9 c E (n+1) (.A6 i x) l s k=(itK (gt l i) λxs=>d9 c E n x l s λa s=>i5 (oh xs a.2) λv=>k (false,v) s):=rfl
@[simp]theorem k_B{x:X}{k:Bool->aH->Prop}:q9 c E (n+1) x l s k=(d9 c E n x l s λv s=>i5 (nq v.2) λb=>k b s):=rfl
@[simp]theorem ahV{k:Bool->aH->Prop}:LI c E (n+1) none l s k=(k true s):=rfl
@[simp]theorem ahW{x:X}{k:Bool->aH->Prop}:LI c E (n+1) (some x) l s k=(q9 c E n x l s k):=rfl
@[simp]theorem ahX{k:Option Int->aH->Prop}:z7 c E (n+1) none l s k=(k none s):=rfl
@[simp]theorem ahY{x:X}{k:Option Int->aH->Prop}:z7 c E (n+1) (some x) l s k=(d9 c E n x l s λv s=>i5 (br v.2) λi=>k (some i) s):=rfl
@[simp]theorem ahZ{k:List PV->aH->Prop}:nK c E (n+1) [] l s k=(k [] s):=rfl
@[simp]theorem ah0{x:X}{r:List X}{k:List PV->aH->Prop}:nK c E (n+1) (x::r) l s k=(d9 c E n x l s λv s=>nK c E n r l s λvs s=>k (v.2::vs) s):=rfl
@[simp]theorem ah1{k:List (PV×PV)->aH->Prop}:z8 c E (n+1) [] l s k=(k [] s):=rfl
@[simp]theorem ah2{x y:X}{r:List (X×X)}{k:List (PV×PV)->aH->Prop}:z8 c E (n+1) ((x,y)::r) l s k=(d9 c E n x l s λa s=>d9 c E n y l s λv s=>z8 c E n r l s λvs s=>k ((a.2,v.2)::vs) s):=rfl
@[simp]theorem ah3{k:Bool->aH->Prop}:uJ c E (n+1) [] l s k=(k true s):=rfl
@[simp]theorem ah4{x:X}{r:List X}{k:Bool->aH->Prop}:uJ c E (n+1) (x::r) l s k=(q9 c E n x l s λb s=>jy b (uJ c E n r l s k) (k false s)):=rfl
@[simp]theorem ah5{k:Bool->aH->Prop}:z6 c E (n+1) [] l s k=(k false s):=rfl
@[simp]theorem ah6{x:X}{r:List X}{k:Bool->aH->Prop}:z6 c E (n+1) (x::r) l s k=(q9 c E n x l s λb s=>jy b (k true s) (z6 c E n r l s k)):=rfl
@[simp]theorem ah7{k:List (Bool×PV)->aH->Prop}:z9 c E (n+1) [] l s k=(k [] s):=rfl
@[simp]theorem ah8{x:X}{r:List X}{k:List (Bool×PV)->aH->Prop}:z9 c E (n+1) (x::r) l s k=(d9 c E n x l s λv s=>z9 c E n r l s λvs s=>k (v::vs) s):=rfl
@[simp]theorem afK{i:Nat}{k:Fl->L->aH->Prop}:A2 c E (n+1) (.iP i) l s k=(k .next (ZF (gt l i) l i) s):=rfl
@[simp]theorem afL{t:Tg}{x:X}{k:Fl->L->aH->Prop}:A2 c E (n+1) (.de t x) l s k=(d9 c E n x l s λv s=>oX c E n t v l s λl s=>k .next l s):=rfl
@[simp]theorem aeh{a:List Tg}{x:X}{k:Fl->L->aH->Prop}:A2 c E (n+1) (.ug a x) l s k=(d9 c E n x l s λv s=>i5 (oo v.2) λvs=>jy (vs.length==a.length) (lz c E n a (vs.map λv=>(false,v)) l s λl s=>k .next l s) False):=rfl
@[simp]theorem aaO{a:List Tg}{xs:List X}{k:Fl->L->aH->Prop}:A2 c E (n+1) (.eg a xs) l s k=(z9 c E n xs l s λvs s=>lz c E n a vs l s λl s=>k .next l s):=rfl
@[simp]theorem afM{i:Nat}{x:X}{k:Fl->L->aH->Prop}:A2 c E (n+1) (.qn i x) l s k=(HX (gt l i) λ_=>d9 c E n x l s λv s=>HX (gt l i) λxs=>jy (decide (xs.length<eu)) (k .next (pt l i (.cj (xs++[v.2]))) s) False):=rfl
@[simp]theorem afN{i:Nat}{x:X}{k:Fl->L->aH->Prop}:A2 c E (n+1) (.ext i x) l s k=(HX (gt l i) λ_=>d9 c E n x l s λv s=>HX (gt l i) λxs=>i5 (iH v.2) λys=>jy (decide (xs.length+ys.length<eu)) (k .next (pt l i (.cj (xs++ys))) s) False):=rfl
@[simp]theorem aei{x:X}{k:Fl->L->aH->Prop}:A2 c E (n+1) (.expr x) l s k=(d9 c E n x l s λ_ s=>k .next l s):=rfl
@[simp]theorem afO{x:X}{a b:List S}{k:Fl->L->aH->Prop}:A2 c E (n+1) (.gp x a b) l s k=(q9 c E n x l s λt s=>jy t (bS c E n a l s k) (bS c E n b l s k)):=rfl
@[simp]theorem afP{tg:List Nat}{d:AZ}{xs:List X}{a:List S}{k:Fl->L->aH->Prop}:A2 c E (n+1) (.for tg d xs a) l s k=(nK c E n xs l s λvs s=>i5 (di [] d vs) λitems=>fJ (λb l s k=>pT tg b l λl=>bS c E n a l s k) items l s k):=rfl
@[simp]theorem afQ{x:X}{k:Fl->L->aH->Prop}:A2 c E (n+1) (.ret x) l s k=(d9 c E n x l s λv s=>k (.ret v) l s):=rfl
@[simp]theorem aej{i:Nat}{k:Fl->L->aH->Prop}:A2 c E (n+1) (.tj i) l s k=(ZQ (gt l i) λv=>k (.ret v) l s):=rfl
@[simp]theorem aaP{x:X}{k:Fl->L->aH->Prop}:A2 c E (n+1) (.fQ x) l s k=(d9 c E n x l s λv s=>E v.2 s):=rfl
@[simp]theorem aek{x d b:X}{y:Nat}{k:Fl->L->aH->Prop}:A2 c E (n+1) (.Ek x d b y) l s k=(q9 c noE n x l s λt s=>jy t (d9 c (λa s=>k .next (pt l y (.val a)) s) n d l s λ_ s=>k .next l s) (d9 c (λa s=>k .next (pt l y (.val a)) s) n b l s λ_ s=>k .next l s)):=rfl
@[simp]theorem s_v{i:Nat}{v:Bool×PV}{k:L->aH->Prop}:oX c E n (.v i) v l s k=(k (pt l i (iW v)) s):=rfl
@[simp]theorem ael{o:X}{m:At}{v:Bool×PV}{k:L->aH->Prop}:oX c E n (.cO o m) v l s k=(d9 c E n o l s λa s=>xb a.2 m v.2 s λs=>k l s):=rfl
@[simp]theorem afR{o q:X}{v:Bool×PV}{k:L->aH->Prop}:oX c E n (.sub o q) v l s k=(d9 c E n o l s λa s=>d9 c E n q l s λb s=>r3 a.2 b.2 v.2 s λs=>k l s):=rfl
@[simp]theorem aem{i:Nat}{q:X}{v:Bool×PV}{k:L->aH->Prop}:oX c E n (.GK i q) v l s k=(HX (gt l i) λ_=>d9 c E n q l s λa s=>HX (gt l i) λxs=>i5 (br a.2) λj=>i5 (ju j xs.length) λj=>k (pt l i (.cj (xs.set j v.2))) s):=rfl
@[simp]theorem ah9{i:Nat}{v:Bool×PV}{k:L->aH->Prop}:oX c E n (.pB i) v l s k=(i5 (br v.2) λj=>JF (gt l i) s λa cs m=>jy (decide (j.natAbs<2147483648)) (k l (s.set a (.cK cs j))) False):=rfl
@[simp]theorem s_0{k:L->aH->Prop}:lz c E n [] [] l s k=(k l s):=rfl
@[simp]theorem s_1{t:Tg}{a:List Tg}{v:Bool×PV}{vs:List (Bool×PV)}{k:L->aH->Prop}:lz c E n (t::a) (v::vs) l s k=(oX c E n t v l s λl s=>lz c E n a vs l s k):=rfl
theorem aQ{a:S}{r:List S}{k:Fl->L->aH->Prop}(h:A2 c E n a l s λb l s=>Bm b (bS c E n r l s k) λv=>k (.ret v) l s):bS c E (n+1) (a::r) l s k:=h
@[simp]theorem go0{k:Fl->L->aH->Prop}:bS c E (n+1) [] l s k=k .next l s:=rfl
theorem JG{x:X}{a:List S}{k:Fl->L->aH->Prop}(h:q9 c E n x l s λt s=>jy t (bS c E n a l s λb l s=>Bm b (A2 c E n (.while x a) l s k) λv=>k (.ret v) l s) (k .next l s)):A2 c E (n+1) (.while x a) l s k:=h
end
@[simp]theorem aia{a b:Int}:kz .add (.int a) (.int b)=some (false,.int (a+b)):=rfl
@[simp]theorem aib{a b:Int}:kz .sub (.int a) (.int b)=some (false,.int (a-b)):=rfl
@[simp]theorem aic{s:aH}{a b:Int}:eD s .lt (.int a) (.int b)=some (decide (a<b)):=rfl
@[simp]theorem aid{s:aH}{a b:Int}:eD s .le (.int a) (.int b)=some (decide (a<=b)):=rfl
@[simp]theorem aie{s:aH}{a b:Int}:eD s .gt (.int a) (.int b)=some (decide (b<a)):=rfl
@[simp]theorem aif{s:aH}{a b:Int}:eD s .ge (.int a) (.int b)=some (decide (b<=a)):=rfl
@[simp]theorem aih{s:aH}{a:PV}:eD s .yA a .none=some (isNone a):=rfl
@[simp]theorem afS{s:aH}{a:PV}:eD s .kV a .none=some (!isNone a):=rfl
@[simp]theorem aii{s:aH}{a b:Int}:eD s .eq (.int a) (.int b)=some (a==b):=rfl
@[simp]theorem afT{s:aH}{a b:Int}:eD s .ne (.int a) (.int b)=some (!(a==b)):=rfl
@[simp]theorem aij{s:aH}{a b:List Nat}:eD s .eq (.bytes a) (.bytes b)=some (a==b):=rfl
@[simp]theorem afU{s:aH}{a b:List Nat}:eD s .ne (.bytes a) (.bytes b)=some (!(a==b)):=rfl
@[simp]theorem aik{s:aH}{a b:List Nat}:eD s .eq (.str a) (.str b)=some (a==b):=rfl
@[simp]theorem afV{s:aH}{a b:List Nat}:eD s .ne (.str a) (.str b)=some (!(a==b)):=rfl
@[simp]theorem a_i{a:Int}:br (.int a)=some a:=rfl
@[simp]theorem a_b{a:Bool}:nq (.bool a)=some a:=rfl
@[simp]theorem a_l{a:List PV}:iH (.list a)=some a:=rfl
@[simp]theorem a_o{a:List Int}:vh (.CI a)=some a:=rfl
@[simp]theorem ail{a:List PV}:oo (.bR a)=some a:=rfl
@[simp]theorem aim{a:List PV}:oo (.list a)=some a:=rfl
@[simp]theorem l_y{s:aH}{a:List Nat}:gX s .iG [.bytes a]=some (false,.int a.length):=rfl
@[simp]theorem l_l{s:aH}{a:List PV}:gX s .iG [.list a]=some (false,.int a.length):=rfl
@[simp]theorem l_t{s:aH}{a:List PV}:gX s .iG [.bR a]=some (false,.int a.length):=rfl
@[simp]theorem ain{s:aH}{a b:List Nat}:gX s .startswith [.bytes a,.bytes b]=some (false,.bool (b.isPrefixOf a)):=rfl
@[simp]theorem aio{s:aH}{a b:List Nat}:gX s .endswith [.bytes a,.bytes b]=some (false,.bool (b.isSuffixOf a)):=rfl
@[simp]theorem aip{s:aH}{a b:List Nat}:gX s .find [.bytes a,.bytes b]=some (false,.int (nv b a 0)):=rfl
@[simp]theorem aiq{s:aH}{a b:List Nat}:gX s .strip [.bytes a,.bytes b]=some (false,.bytes (cm b a)):=rfl
@[simp]theorem z_y{a:List Nat}{b c:Option Int}:oi (.bytes a) b c=some (false,.bytes (pD a b c)):=rfl
@[simp]theorem z_l{a:List PV}{b c:Option Int}:oi (.list a) b c=some (true,.list (pD a b c)):=rfl
@[simp]theorem z_r{a:List PV}:yV (.list a)=some (true,.list a.reverse):=rfl
@[simp]theorem t_l{s:aH}{a:List PV}:di s .val [.list a]=some a:=rfl
@[simp]theorem t_t{s:aH}{a:List PV}:di s .val [.bR a]=some a:=rfl
@[simp]theorem t_s{s:aH}{a:List Nat}:di s .val [.str a]=some (a.map λc=>.str [c]):=rfl
@[simp]theorem t_e{s:aH}{a:List PV}:di s .A5 [.list a]=some (a.zipIdx.map λp=>.bR [.int p.2,p.1]):=rfl
@[simp]theorem u_l{s:aH}{a items:List PV}:jR [.list a] items s=true:=rfl
@[simp]theorem u_t{s:aH}{a items:List PV}:jR [.bR a] items s=true:=rfl
@[simp]theorem u_s{s:aH}{a:List Nat}{items:List PV}:jR [.str a] items s=true:=rfl
@[simp]theorem u_i{s:aH}{a:Int}{items:List PV}:jR [.int a] items s=true:=rfl
@[simp]theorem m_y{b:Bi}{a:List Nat}:Rc b (.bytes a)=dV b:=rfl
@[simp]theorem n_0:isNone .none=true:=rfl
@[simp]theorem n_1{a:Int}:isNone (.int a)=false:=rfl
@[simp]theorem n_4{a:List PV}:isNone (.bR a)=false:=rfl
@[simp]theorem n_6{a:Nat}:isNone (.ref a)=false:=rfl
@[simp]theorem h_1{i:Nat}{v:PV}{l:L}{k:L->Prop}:pT [i] v l k=k (pt l i (.val v)):=rfl
@[simp]theorem h_2{i j:Nat}{v w:PV}{l:L}{k:L->Prop}:pT [i,j] (.bR [v,w]) l k=k (pt (pt l i (.val v)) j (.val w)):=rfl
@[simp]theorem h_3{i j m:Nat}{v w u:PV}{l:L}{k:L->Prop}:pT [i,j,m] (.bR [v,w,u]) l k=k (pt (pt (pt l i (.val v)) j (.val w)) m (.val u)):=rfl
@[simp]theorem h_4{i j m o:Nat}{v w u x:PV}{l:L}{k:L->Prop}:pT [i,j,m,o] (.bR [v,w,u,x]) l k=k (pt (pt (pt (pt l i (.val v)) j (.val w)) m (.val u)) o (.val x)):=rfl
@[simp]theorem j_0{f:PV->L->aH->(Fl->L->aH->Prop)->Prop}{l:L}{s:aH}{k:Fl->L->aH->Prop}:fJ f [] l s k=k .next l s:=rfl
@[simp]theorem afW:dV .iG=false:=rfl
@[simp]theorem afX:dV .RA=false:=rfl
@[simp]theorem aaQ:dV .bytes=false:=rfl
@[simp]theorem aaR:dV .tuple=false:=rfl
@[simp]theorem ZS:dV .oG=false:=rfl
@[simp]theorem ZT:dV .sorted=false:=rfl
@[simp]theorem afY:dV .max=false:=rfl
@[simp]theorem aen:dV .Eg=false:=rfl
@[simp]theorem afZ:dV .str=false:=rfl
@[simp]theorem af0:dV .int=false:=rfl
@[simp]theorem aaS:dV .split=true:=rfl
@[simp]theorem aaT:dV .strip=true:=rfl
@[simp]theorem Tc:dV .startswith=true:=rfl
@[simp]theorem WY:dV .endswith=true:=rfl
@[simp]theorem aeo:dV .find=true:=rfl
@[simp]theorem aep:dV .join=true:=rfl
section
variable{α β:Type}{f:α->β}{a b:α}{l m:List α}{n:Nat}
@[simp]theorem lm0:[].map f=[]:=rfl
@[simp]theorem lm1:(a::l).map f=f a::l.map f:=rfl
@[simp]theorem lr1:bL (n+1) a=a::bL n a:=rfl
@[simp]theorem ld0:l.drop 0=l:=rfl
@[simp]theorem ld1:(a::l).drop (n+1)=l.drop n:=rfl
end
@[simp]theorem nt1:(!true)=false:=rfl
@[simp]theorem nt0:(!false)=true:=rfl
@[simp]theorem pd{n:Nat}{a:List PV}:gu n a=a++bL (n-a.length) .none:=rfl
@[simp]theorem dk0{cs:List Int}{m:Int}{r:aH}{k:Nat->List Int->Int->Prop}:JF (.val (.ref 0)) (.cK cs m::r) k=k 0 cs m:=rfl
@[simp]theorem vO{v:Bool×PV}:DB (.ret v)=v:=rfl
@[simp]theorem vN:DB .next=(false,.none):=rfl
theorem oS{b:Type}{o:Option b}{a:b}{k:b->Prop}(h:o=some a)(q:k a):i5 o k:=h▸q
theorem sl{b:Bool}{p q:Prop}(h:b=true)(x:p):jy b p q:=h▸x
theorem sr{b:Bool}{p q:Prop}(h:b=false)(x:q):jy b p q:=h▸x
theorem so{p q r:Prop}[Decidable p](h:p)(x:q):jy (decide p) q r:=sl (decide_eq_true h) x
theorem sn{p q r:Prop}[Decidable p](h:¬p)(x:r):jy (decide p) q r:=sr (decide_eq_false h) x
theorem HY{a b:Int}(h:a.natAbs<4611686018427387904):kz .Ki (.int a) (.int b)=some (false,.int (a*b)):=if_pos h
theorem yH{a b:Int}(h:b≠0):kz .fmod (.int a) (.int b)=some (false,.int (Int.fmod a b)):=congrArg (dI _) (if_neg h)
theorem JH{a b:Int}(h:b≠0)(k:b.natAbs<1073741824):kz .fdiv (.int a) (.int b)=some (false,.int (QW a b)):=congrArg (dI _) (if_neg λq=>q.elim h λq=>q k)
section
variable{s:aH}{l l':Nat}{c c':jt}{o:Cl}{fs:List (At×PV)}{es:List (PV×PV)}{k v:PV}{n:At}{K:aH->Prop}
theorem iA(h:s[l]?=some (.inst o fs)):instOf s (.ref l)=some (o,fs):=congrArg (q6 · GN) h
theorem dA(h:s[l]?=some (.dict es)):dictAt s (.ref l)=some es:=congrArg (q6 · wK) h
theorem sA(h:s[l]?=some (.inst o fs))(a:kN (fs.length+1) 100=true)(q:K (s.set l (.inst o (En n v fs)))):xb (.ref l) n v s K:=oS (iA h) (so (aE a) q)
theorem sI(h:s[l]?=some (.dict es))(b:iU k es=true)(a:es.length<4096)(q:K (s.set l (.dict (q7 k v es)))):r3 (.ref l) k v s K:=oS (dA h) (sl (by rw[b,decide_eq_true a];rfl) q)
theorem gs(h:s[l]?=some c):(s.set l c')[l]?=some c':=(My (aU.mp h).1)
theorem Pm(h:l'≠l):(s.set l c)[l']?=s[l']?:=QY h.symm
theorem ss:(s.set l c).set l c'=s.set l c':=List.set_set ..
theorem uK{t u:aH}:(t++c::u)[t.length]?=some c:=by rw[ec (bf _),lW];rfl
theorem Pn{t u:aH}:(t++c::u).set t.length c'=t++c'::u:=by rw[MZ _ _ (bf _),lW];rfl
theorem sP{s t u:aH}(h:s=t++.inst o fs::u)(a:kN (fs.length+1) 100=true)(q:K (t++.inst o (En n v fs)::u)):xb (.ref t.length) n v s K:=by subst h;exact sA uK a (by rw[Pn];exact q)
theorem mI{f:Fn}{m:Mt}{s:aH}{K:Option Fn->Prop}(h:s[l]?=some (.inst o fs))(a:MJ o m=some f)(q:K (some f)):SX m (.ref l) s K:=by unfold SX;refine zl (iA h) ?_;exact oS (k:=λf=>K (some f)) a q
theorem mD{K:Option Fn->Prop}(h:s[l]?=some (.dict es))(q:K none):SX .get (.ref l) s K:=by unfold SX;rw[show instOf s (.ref l)=none from congrArg (q6 · GN) h,dA h];exact q
theorem qR{xs ys:List PV}(h:xs.length+ys.length<=eu):kz .add (.list xs) (.list ys)=some (true,.list (xs++ys)):=if_pos h
theorem kI{xs ys:List Nat}(h:xs.length+ys.length<=eu):kz .add (.bytes xs) (.bytes ys)=some (false,.bytes (xs++ys)):=if_pos h
end
section
variable{α:Type}{xs:List α}{k:Int}{i:Nat}
theorem Ab(a:k=(i:Int)):pD xs none (some k)=xs.take i:=by subst a;show(xs.take (if 0<=(i:Int)then min i xs.length else _)).drop 0=_;refine zl (if_pos (bb i)) ?_;exact(List.take_eq_take_min ..).symm
theorem Ac(a:k=(i:Int)):pD xs (some k) none=xs.drop i:=by subst a;show(xs.take xs.length).drop (if 0<=(i:Int)then min i xs.length else _)=_;rw[if_pos (bb i),XP];exact(List.drop_eq_drop_min ..).symm
theorem nL(xs:List α)(a b:Option Int):(pD xs a b).length<=xs.length:=by unfold pD;refine zl cX ?_;exact aa (jC ..) (Q6 ..)
end
@[simp]theorem mc1{a:cb}{E:PV->aH->Prop}{v:PV}{f:Fn}{vs:List PV}{s:aH}{k:Bool×PV->aH->Prop}:Yh a E v (some f) vs s k=Wp (a f (v::vs) s) k E:=rfl
@[simp]theorem mc0{a:cb}{E:PV->aH->Prop}{v:PV}{vs:List PV}{s:aH}{k:Bool×PV->aH->Prop}:Yh a E v none vs s k=Wp (dictGet v vs s) k E:=rfl
@[simp]theorem gb0:d6 0=.int 1114111:=rfl
@[simp]theorem gb6:d6 6=.bytes [32,9,13]:=rfl
@[simp]theorem gb7:d6 7=.bytes [239,187,191]:=rfl
@[simp]theorem gb8:d6 8=.bytes [64,109,105,115,115,105,110,103,58]:=rfl
@[simp]theorem gb9:d6 9=.int 15:=rfl
@[simp]theorem air:d6 10=.bytes [44,32,70,105,114,115,116,62]:=rfl
@[simp]theorem ais:d6 11=.bytes [44,32,76,97,115,116,62]:=rfl
@[simp]theorem ait:d6 12=.int 254:=rfl
theorem j1{f:PV->L->aH->(Fl->L->aH->Prop)->Prop}{x:PV}{r:List PV}{l:L}{s:aH}{k:Fl->L->aH->Prop}(h:f x l s λa l s=>Bm a (fJ f r l s k) λv=>k (.ret v) l s):fJ f (x::r) l s k:=h
theorem c1{f:PV->aH->(Option PV->aH->Prop)->Prop}{x:PV}{r:List PV}{s:aH}{k:List PV->aH->Prop}(h:f x s λv s=>oB f r s λvs s=>k (match v with|some v=>v::vs|none=>vs) s):oB f (x::r) s k:=h
@[simp]theorem c0{f:PV->aH->(Option PV->aH->Prop)->Prop}{s:aH}{k:List PV->aH->Prop}:oB f [] s k=k [] s:=rfl
end Q
theorem JI(b f c g a d e):@Q.bS b f c g a d e=R.jJ (@R.nU _ (@Q.bS) b f c g (R.jJ a) d (R.jJ e)):=rfl
theorem Po(b f c g a d e):@Q.A2 b f c g a d e=R.jJ (@R.nU _ (@Q.A2) b f c g (R.jJ a) d (R.jJ e)):=rfl
theorem Pp(a b c):@Q.Bm a b c=R.jJ (@R.nU _ (@Q.Bm) a b c):=rfl
theorem Pq(a b c):@Q.i5 a b c=R.jJ (@R.nU _ (@Q.i5) a b (R.jJ c)):=rfl
theorem Pr(b d c e a):@Q.Wp b d c e a=R.jJ (@R.nU _ (@Q.Wp) b d c (R.jJ e) a):=rfl
theorem JJ(b d c e a):@Q.fJ b d c e a=R.jJ (@R.nU _ (@Q.fJ) b d (R.jJ c) e (R.jJ a)):=rfl
theorem Pu(a b d c):@Q.pT a b d c=R.jJ (@R.nU _ (@Q.pT) a b d (R.jJ c)):=rfl
theorem Pw(a b c):@Q.jy a b c=R.jJ (@R.nU _ (@Q.jy) a b c):=rfl
namespace Q
open R
def jo(cs:List Int)(m:Int):Prop:=cs.length<=1000/\m.natAbs<2147483648
theorem draw{d:Nat}{cs:List Int}{m n:Int}{r:aH}{Q:Bool×PV->aH->Prop}{E:PV->aH->Prop}(f:jo cs m)(h0:0<n)(q:∀v b e,0<=v->v<n->jo b e->Q (false,.int v) (.cK b e::r)):Wp (au (d+1) Fn.d8 [.ref 0,.int n] (.cK cs m::r)) Q E:=by refine(?H:gB (by refine bq uv rfl rfl ?_;dsimp[uv,bx];have i:n≠0:=dB (Int.ne_of_lt h0);have j:∀b e(a:Int),jo b e->Q (false,.int (a.fmod n)) (.cK b e::r):=λb e a h=>q _ b e (tM a h0) (yy a h0) h;cases cs with|nil=>have g:(Int.fmod (m*16807+29) 2147483647).natAbs<2147483648:=pe (RH (n:=2147483647) (tM _ (by decide)) (yy _ (by decide))) (by decide);apply aQ;dsimp;apply aQ;dsimp;refine oS (HY (aw f.2 (by decide))) ?_;dsimp;refine oS (yH (by decide)) (so g ?_);apply aQ;dsimp;refine oS (JH (by decide) (by decide)) (oS (yH i) (j _ _ _ ⟨cy _,g⟩))|cons c cs=>apply aQ;dsimp;apply aQ;dsimp;exact oS (yH i) (j _ _ _ ⟨ji f.1,f.2⟩))) gA;intro w;delta id at w;(try dsimp-zetaHave only at w);refine(?F:gC _) _ w;exactλp _=>p
abbrev RM:=List (Int×PV)
noncomputable def yI(c:Int)(p:Int×PV):Bool:=decide (p.1<=c)
def eH(l:RM)(c:Int):Option PV:=(l.filter (yI c)).getLast?.map (·.2)
def ml(l:RM)(c:Int):Nat:=(l.filter (yI c)).length
def vJ(l:RM):Prop:=l.Pairwise λp q=>p.1<q.1
theorem Ae{a:Type}{p:a->Bool}{l:List a}(h:∀x∈l,p x=true):l.filter p=l:=List.filter_eq_self.mpr h
theorem r4{a:Type}{p:a->Bool}{l:List a}(h:∀x∈l,p x=false):l.filter p=[]:=MH.mpr λx b=>by simp[h x b]
theorem nM{c:Int}{l:RM}:vJ l->l.take (ml l c)=l.filter (yI c)/\l.drop (ml l c)=l.filter λp=>!yI c p:=by
 induction l with
 |nil=>intro _;simp
 |cons p r g=>
  intro h;obtain⟨h1,f⟩:=bG.mp h;cases q:yI c p with
  |true=>obtain⟨a,b⟩:=g f;unfold ml at a b⊢;rw[kU q,sk (by simp[q]),aO,Rw,List.drop_succ_cons,a,b];exact⟨rfl,rfl⟩
  |false=>
   have e:∀x∈r,yI c x=false:=λx d=>by have:=h1 x d;unfold yI at q⊢;simp at q⊢;exact abY this q
   unfold ml;rw[sk (by simp[q]),r4 e,kU (by simp[q]),Ae (λx d=>by simp[e x d])];exact⟨rfl,rfl⟩
theorem DC(l:RM)(c:Int):ml l c<=l.length:=gm _ _
theorem Td{l:RM}(h:vJ l){c:Int}{i:Nat}{p:Int×PV}(e:l[i]?=some p):p.1<=c↔i<ml l c:=by
 obtain⟨a,b⟩:=nM (c:=c) h;constructor;·
  intro d;by_cases q:i<ml l c;·exact q
  ·have:(l.drop (ml l c))[i-ml l c]?=some p:=by rw[List.getElem?_drop];rw[<-e];congr 1;exact ab0 q
   rw[b]at this;have:=(cC.mp (dp this)).2;simp[yI]at this;exact ab1 d this
 ·intro f;have:(l.take (ml l c))[i]?=some p:=by rw[Uk,if_pos f];exact e
  rw[a]at this;have:=(cC.mp (dp this)).2;simpa[yI]using this
theorem Tf{l:RM}(h:vJ l){c:Int}(a:0<ml l c):eH l c=(l[ml l c-1]?).map (·.2):=by unfold eH;rw[List.getLast?_eq_getElem?,<-(nM (c:=c) h).1,Uk,cW,Nat.min_eq_left (DC l c),if_pos (by exact abX a)]
theorem vQ{a b:RM}{c:Int}:eH (a++b) c=(eH b c).or (eH a c):=by unfold eH;rw[gj,List.getLast?_append];cases(b.filter (yI c)).getLast?<;>rfl
theorem BX{a:RM}{c:Int}(h:∀p∈a,c<p.1):eH a c=none:=by unfold eH;rw[r4 λp b=>by have:=h p b;simp[yI];exact abZ this];rfl
noncomputable def Bo(l:RM)(a b:Int)(v:PV)(d e:Bool)(c:PV):RM:=(if d then[]else[(a,v)])++(if e then[(b+1,c)]else[])
def Af(l:RM)(a b:Int)(M:RM):RM:=l.take (ml l (a-1))++M++l.drop (ml l (b+1))
theorem LL{l:RM}{a b:Int}{v d:PV}{e f:Bool}(h:vJ l)(i:a<=b)(w:eH l (b+1)=some d)(h1:e=true->eH l (a-1)=some v)(r:f=false->b=1114111\/d=v){c:Int}(j:c<=1114111):eH (Af l a b (Bo l a b v e f d)) c=if a<=c/\c<=b then some v else eH l c:=by
 obtain⟨n,_⟩:=nM (c:=a-1) h;obtain⟨_,B⟩:=nM (c:=b+1) h;have y:∀p∈l.take (ml l (a-1)),p.1<=a-1:=λp g=>by rw[n]at g;simpa[yI]using(cC.mp g).2
 have t:∀p∈l.drop (ml l (b+1)),b+1<p.1:=λp g=>by rw[B]at g;have:=(cC.mp g).2;simp[yI]at this;exact o15 this
 have s:∀c,a-1<=c->eH (l.take (ml l (a-1))) c=eH l (a-1):=λc j=>by unfold eH;rw[Ae λp g=>by have:=y p g;simp[yI];exact ab4 j this,n]
 have o:c<a->eH (l.take (ml l (a-1))) c=eH l c:=λj=>by rw[n];unfold eH;rw[Ul];congr 2;refine VM λp _=>?_;simp[yI];exact ab7 j
 have x:∀c,eH (Bo l a b v e f d) c=if f=true/\b+1<=c then some d else if e=false/\a<=c then some v else none:=λc=>by
  unfold Bo;rw[vQ];have s1:eH (if f then[(b+1,d)]else[]) c=if f=true/\b+1<=c then some d else none:=by
   clear r;cases f;·rfl
   ·by_cases q:b+1<=c<;>simp[eH,yI,q]
  have u:eH (if e then[]else[(a,v)]) c=if e=false/\a<=c then some v else none:=by
   clear h1;cases e;·by_cases q:a<=c<;>simp[eH,yI,q]
   ·rfl
  rw[s1,u];split<;>rfl
 unfold Af;rw[vQ,vQ,x];by_cases q1:c<a;·rw[BX (a:=l.drop _) λp g=>by have:=t p g;exact acd i q1 this,if_neg λq=>cu.mpr (cR q1 (wq i)) q.2,if_neg λq=>cu.mpr q1 q.2,if_neg (by exact ace q1),o q1];rfl
 ·by_cases q2:c<=b;·rw[BX (a:=l.drop _) λp g=>by have:=t p g;exact acf q2 this,if_neg (show¬(f=true/\b+1<=c)fromλq=>cu.mpr (cQ q2) q.2),if_pos (show a<=c/\c<=b from⟨by exact o5 q1,q2⟩)];cases m:e with|true=>rw[if_neg (λq=>mR q.1),s c (by exact o17 q1),h1 m];rfl|false=>rw[if_pos ⟨rfl,by exact o5 q1⟩];rfl
  ·rw[if_neg (by exact ach q2:¬(a<=c/\c<=b))];have A:eH l c=(eH (l.drop (ml l (b+1))) c).or (some d):=by
    conv=>lhs;rw[<-MR (ml l (b+1)) l]
    rw[vQ];congr 1;rw[<-w,(nM (c:=b+1) h).1];unfold eH;rw[Ul];congr 2;refine VM λp _=>?_;simp[yI];exact aci q2
   rw[A];congr 1;cases z:f with|true=>rw[if_pos ⟨rfl,by exact acj q2⟩];rfl|false=>rw[if_neg (by simp)];have k:d=v:=(r z).resolve_left (by exact ack j q2);cases m:e with|true=>rw[if_neg (by simp),s c (by exact o17 q1),h1 m,k];rfl|false=>rw[if_pos ⟨rfl,by exact o5 q1⟩,k];rfl
theorem Px{l:RM}{a b:Int}{v f:PV}{e g:Bool}(h:vJ l)(i:a<=b):vJ (Af l a b (Bo l a b v e g f)):=by
 obtain⟨n,_⟩:=nM (c:=a-1) h;obtain⟨_,r⟩:=nM (c:=b+1) h;have m:∀p∈l.take (ml l (a-1)),p.1<=a-1:=λp d=>by rw[n]at d;simpa[yI]using(cC.mp d).2
 have o:∀p∈l.drop (ml l (b+1)),b+1<p.1:=λp d=>by rw[r]at d;have:=(cC.mp d).2;simp[yI]at this;exact o15 this
 have k:∀p∈Bo l a b v e g f,a<=p.1/\p.1<=b+1:=λp d=>by
  unfold Bo at d;rcases bk.mp d with d|d;·cases e<;>simp at d;rw[d];simp;exact o16 i
  ·cases g<;>simp at d;rw[d];simp;exact o16 i
 unfold Af vJ;rw[jG,jG];refine⟨⟨mz (List.take_sublist _ _) h,?_,λp d q j=>?_⟩,mz (List.drop_sublist _ _) h,λp d q j=>?_⟩;·unfold Bo;clear k;cases e<;>cases g<;>simp<;>exact ab8 i
 ·exact cR (Q7 (m p d)) (k q j).1
 ·have:=o q j;rcases bk.mp d with d|d;·exact ea (cR (Q7 (m p d)) (wq i)) this
  ·exact dT (k p d).2 this
theorem Py{l:RM}{a b:Int}{v d:PV}{c e:Bool}(f:a<=b)(h:vJ l):(Af l a b (Bo l a b v c e d)).length<=l.length+2:=by
 have i:(Bo l a b v c e d).length<=2:=by unfold Bo;cases c<;>cases e<;>simp
 have h1:ml l (a-1)<=ml l (b+1):=by unfold ml;rw[<-D9,<-D9];refine List.countP_mono_left λp _ g=>?_;simp[yI]at g⊢;exact ab2 f g
 have:=DC l (b+1);unfold Af;simp;exact ab5 i h1 this
def HZ(l:RM):Prop:=∃v r,l=(0,v)::r
theorem HZ.qx{l:RM}(h:HZ l){c:Int}(a:0<=c):0<ml l c:=by obtain⟨v,r,rfl⟩:=h;unfold ml;rw[kU (by simpa[yI]using a)];simp
theorem HZ.lk{l:RM}(h:HZ l)(b:vJ l){c:Int}(a:0<=c):∃v,eH l c=some v/\∃i,l[ml l c-1]?=some (i,v):=by rw[Tf b (h.qx a)];rw[aX (aw (tC (h.qx a) Nat.one_pos) (DC l c))];exact⟨_,rfl,_,rfl⟩
theorem Th{l:RM}{a b:Int}{v d:PV}{c e:Bool}(h:HZ l)(i:0<=a)(h1:c=true->0<ml l (a-1)):HZ (Af l a b (Bo l a b v c e d)):=by
 by_cases q:a=0;·
  clear i;subst q;obtain⟨v0,r,rfl⟩:=h;have hz:ml ((0,v0)::r) (0-1)=0\/0<ml ((0,v0)::r) (0-1):=by exact ab3
  rcases hz with hz|hz;·
   have j:c=false:=by cases g:c with|false=>rfl|true=>exact absurd (h1 g) (hz.symm▸fT 0)
   clear h1;subst j;unfold Af Bo;rw[hz];exact⟨_,_,rfl⟩
  ·unfold Af;obtain⟨n,f⟩:=CF (pf hz);rw[f];exact⟨_,_,rfl⟩
 ·have hz:=h.qx (show 0<=a-1 by exact ab6 i q);clear h1;obtain⟨v0,r,rfl⟩:=h;obtain⟨n,f⟩:=CF (pf hz);unfold Af;rw[f];exact⟨_,_,rfl⟩
section
variable{d n:Nat}{s:aH}{a b:PV}{E:PV->aH->Prop}
theorem U6{a b:PV}(h:lE Kk a b=true):eD s .eq a b=some (a.lD b):=if_pos h
theorem U7{a b:PV}(h:lE Kk a b=true):eD s .ne a b=some (!a.lD b):=if_pos h
noncomputable def isb:PV->Bool|.none|.bool _|.int _|.str _=>true|_=>false
def lk(a b:PV):Prop:=lE Kk a b=true/\(a.lD b=true->isb a=true)
theorem Ti{x:PV}(h:isb x=true):∃t,gX s .oG [x]=some (false,.bool t):=by cases x<;>first|exact⟨_,rfl⟩|cases h
theorem ZU(h:lk a b):au (d+1) Fn.kq [a,b] s=.ok (false,.bool (a.lD b)) s:=by refine Wp.eq (bq kZ rfl rfl ?_);dsimp[kZ,bx];apply aQ;dsimp;refine oS (U6 h.1) ?_;cases q:a.lD b with|false=>exact⟨rfl,rfl⟩|true=>obtain⟨t,c⟩:=Ti (s:=s) (h.2 q);cases CO q;exact oS c (oS c (oS (a:=true) (by clear c;cases t<;>rfl) ⟨rfl,rfl⟩))
theorem Ah{xs:List PV}{k:Int}{i:Nat}{v:PV}(c:k=(i:Int))(h:xs[i]?=some v):gq s (.list xs) (.int k)=some v:=by subst c;show(ju _ _).bind _=_;unfold ju;rw[if_pos (bb i),if_pos (bX.mpr (aU.mp h).1)];exact h
theorem Pz{m:RM}(A:vJ m){x:Int}{l:cb}{Q:Fl->L->aH->Prop}(y:∀v C,Q .next [.val (.list (m.map λp=>.int p.1)),.val (.int x),.val (.int (ml m x)),v,C] s)(k:Nat):∀(f e:Nat)(v:Slot),e<=f+k->f<=ml m x->ml m x<=e->e<=m.length->A2 l E (k+97) (.while (.cS .lt (.aq 2) (.aq 3)) [.de (.v 4) (.dC .fdiv (.dC .add (.aq 2) (.aq 3)) (.aF (.int 2))),.gp (.cS .le (.jh (.aq 0) (.aq 4)) (.aq 1)) [.de (.v 2) (.dC .add (.aq 4) (.aF (.int 1)))] [.de (.v 3) (.aq 4)]]) [.val (.list (m.map λp=>.int p.1)),.val (.int x),.val (.int f),.val (.int e),v] s Q:=by
 refine(?H:gB (by
  induction k with
  |zero=>intro f e v g j i h;clear h;cases gH j (aa i g);cases gH i g;refine JG ?_;dsimp;exact sn (m9 _) (y _ _)
  |succ k u=>
   intro f e v g j i h;refine JG ?_;dsimp;by_cases q:f<e;·
    obtain⟨z,hz,B,r⟩:∃z,z=(f+e)/2/\f<=z/\z<e:=⟨_,rfl,by clear g j i h;exact ab9 q,by clear g j i h;exact acb q⟩;have t:=aX (aw r h);have o:=Td A (c:=x) t;refine so (bX.mpr q) ?_;apply aQ;dsimp;refine oS (JH (by decide) (by decide)) ?_;rw[show QW ((f:Int)+(e:Int)) 2=(z:Int)from hz▸(Int.ofNat_fdiv (f+e) 2).symm];apply aQ;dsimp;refine oS (Ah rfl ((bV ..).trans (congrArg (dI _) t))) ?_;dsimp;by_cases q2:m[z].1<=x;·refine so q2 ?_;apply aQ;dsimp;exact u (z+1) e _ (aa g (bg z 1 k▸ar B (k+1))) (o.mp q2) i h
    ·refine sn q2 ?_;apply aQ;dsimp;exact u f z _ (gR (aw r g)) j (iz λq=>q2 (o.mpr q)) (aa (bT r) h)
   ·have q:=iz q;clear h g;cases gH j (aa i q);cases gH i q;exact sn (m9 _) (y _ _))) gA
 intro w;delta id at w;(try dsimp-zetaHave only at w);refine(?F:gC _) _ w;exactλp _=>p
theorem pbh{m:RM}(e:vJ m)(c:m.length<=300){x:Int}:au (d+1) Fn.js [.list (m.map λp=>.int p.1),.int x] s=.ok (false,.int ((ml m x:Int)-1)) s:=by refine Wp.eq (bq mc rfl rfl ?_);dsimp[mc,bx];apply aQ;dsimp;apply aQ;dsimp;refine zl (aj _) ?_;refine aQ (Pz e (λv f=>?_) 300 0 m.length _ (aa c (kL ..)) (cy _) (DC _ _) (bf _));dsimp;apply aQ;dsimp;exact⟨rfl,rfl⟩
end
noncomputable def Fw(dv:PV)(m:RM):jt:=.inst .xW [(.default,dv),(.nc,.list (m.map λp=>.int p.1)),(.ng,.list (m.map (·.2)))]
section
variable{d l:Nat}{s:aH}{m:RM}{dv v:PV}{E:PV->aH->Prop}
theorem ZV(h:s[l]?=some (.inst .xW [])):au (d+1) Fn.sC [.ref l,v] s=.ok (false,.none) (s.set l (Fw v [(0,v)])):=by refine Wp.eq (bq rD rfl rfl ?_);dsimp[rD,bx];apply aQ;dsimp;refine sA h rfl ?_;apply aQ;dsimp;refine sA (gs h) rfl ?_;refine zl ss ?_;apply aQ;dsimp;refine sA (gs h) rfl ?_;exact⟨rfl,ss⟩
theorem aer(h:s[l]?=some (Fw dv m))(b:vJ m)(h0:HZ m)(e:m.length<=300){c:Int}(a:0<=c):∃v,eH m c=some v/\au (d+2) Fn.Ej [.ref l,.int c] s=.ok (false,v) s:=by obtain⟨v,h1,i,f⟩:=h0.lk b a;refine⟨v,h1,Wp.eq (bq uq rfl rfl ?_)⟩;dsimp[uq,bx];apply aQ;dsimp;refine oS (iA h) (oS rfl (oS (iA h) (oS rfl (Wp.of (pbh b e) (oS (Ah (i:=ml m c-1) ?_ ((bV ..).trans (congrArg (dI _) f))) ⟨rfl,rfl⟩)))));exact(rj (h0.qx a)).symm
theorem HZ.neg(h:HZ m)(e:vJ m){c:Int}(b:c<0):ml m c=0:=by
 obtain⟨v,r,rfl⟩:=h;unfold ml;rw[r4 λp a=>?_];rfl;unfold yI;rcases av.mp a with rfl|a;·simp;exact aca b
 ·have:=(bG.mp e).1 p a;simp;exact ea b this
theorem U8(h:s[l]?=some (Fw dv m))(n:m.length<=250){Q:Bool×PV->aH->Prop}{x y bh:PV}{k j:Nat}{e c:Int}(h1:e=k)(r:c=j){M:RM}(t:M.length<=2)(q:Q (false,.none) (s.set l (Fw dv (m.take k++M++m.drop j)))):bS (au d) E 393 (iY.body.drop 7) [.val (.ref l),.val x,.val y,.val v,.val (.int e),.val (.int c),.val bh,.cj (M.map λp=>.int p.1),.cj (M.map (·.2))] s λo _ s=>Q (DB o) s:=by
 refine(?H:gB (by
  have g:∀(f:Int×PV->PV),(pD (m.map f) none (some e)).length+(M.map f).length+(pD (m.map f) (some c) none).length<=eu:=λf=>by have a:=nL (m.map f) none (some e);have b:=nL (m.map f) (some c) none;rw[aj]at a b⊢;exact aa (aW (aW (aa a n) t) (aa b n)) (by decide)
  have i:∀(f:Int×PV->PV),pD (m.map f) none (some e)++M.map f++pD (m.map f) (some c) none=(m.take k++M++m.drop j).map f:=λf=>by rw[Ab h1,Ac r,ba,ba,List.map_take,List.map_drop]
  unfold Fw at h q;dsimp[iY];apply aQ;dsimp;apply aQ;dsimp;refine oS (iA h) (oS rfl (oS rfl (oS (qR (aa (aR ..) (g _))) (oS (iA h) (oS rfl (oS rfl (oS (qR (by rw[ah];exact g _)) (sA h rfl ?_))))))));dsimp;apply aQ;dsimp;apply aQ;dsimp;refine oS (iA (gs h)) (oS rfl (oS rfl (oS (qR (aa (aR ..) (g _))) (oS (iA (gs h)) (oS rfl (oS rfl (oS (qR (by rw[ah];exact g _)) (sA (gs h) rfl ?_))))))));dsimp;rw[ss,i,i];exact q)) gA
 intro w;delta id at w;(try dsimp-zetaHave only at w);refine(?F:gC _) _ w;exactλp _=>p
theorem JK{x y:Int}{D B:Bool}{bh:PV}:(Bo m x y v D B bh).length<=2:=by cases D<;>cases B<;>exact aE rfl
theorem JL{x y:Int}{B:Bool}{bh:PV}(f:Int×PV->PV):pD ((Bo m x y v false B bh).map f) (some 1) none=(Bo m x y v true B bh).map f:=Ac (i:=1) rfl
theorem PA{f:Int×PV->PV}{k:Int}{n:Nat}(h:0<n)(a:k=(n:Int)-1){p:Int×PV}(e:m[n-1]?=some p):gq s (.list (m.map f)) (.int k)=some (f p):=Ah (i:=n-1) (a.trans (rj h).symm) ((bV ..).trans (congrArg (dI _) e))
theorem ZW(h:s[l]?=some (Fw dv m))(f:vJ m)(h0:HZ m)(n:m.length<=250){x y:Int}(k2:0<x->∀u,eH m (x-1)=some u->lk u v){Q:Bool×PV->aH->Prop}{bh:PV}{k:Nat}{b a:Int}(h1:b=ml m (x-1))(i:a=k){B:Bool}(q:∀D,(D=true->eH m (x-1)=some v/\0<ml m (x-1))->Q (false,.none) (s.set l (Fw dv (m.take (ml m (x-1))++Bo m x y v D B bh++m.drop k)))):bS (au (d+1)) E 394 (iY.body.drop 6) [.val (.ref l),.val (.int x),.val (.int y),.val v,.val (.int b),.val (.int a),.val bh,.cj ((Bo m x y v false B bh).map λp=>.int p.1),.cj ((Bo m x y v false B bh).map (·.2))] s λr _ s=>Q (DB r) s:=by
 have g:=U8 (d:=d+1) (E:=E) h n (x:=.int x) (y:=.int y) (bh:=bh) (v:=v) h1 i JK (q false λh=>by injection h);dsimp[iY];apply aQ;dsimp;by_cases hz:0<ml m (x-1);·
  obtain⟨u,j,t,o⟩:=h0.lk f (c:=x-1) (bY.mp λc=>fT 0 (h0.neg f c▸hz));refine so (h1▸t8.mpr hz) (oS (iA h) (oS rfl (oS (PA hz (congrArg (·-1) h1) o) (Wp.of (ZU (k2 ?_ u j)) ?_))));·exact cu.mp λc=>fT 0 (h0.neg f (c:=x-1) (Int.sub_lt_of_sub_lt (dT (Int.sub_le_sub_right c 0) (by decide)))▸hz)
  ·dsimp;cases e:u.lD v with|false=>exact g|true=>dsimp;apply aQ;dsimp;apply aQ;dsimp;apply aQ;dsimp;refine zl (JL _) ?_;refine zl (JL _) ?_;exact U8 (d:=d+1) (E:=E) h n (x:=.int x) (y:=.int y) (bh:=bh) (v:=v) h1 i JK (q true λ_=>⟨CO e▸j,hz⟩)
 ·exact sn (λc=>hz (t8.mp (h1▸c))) g
theorem aes{Q:Bool×PV->aH->Prop}(h:s[l]?=some (Fw dv m))(f:vJ m)(h0:HZ m)(A:m.length<=250){x y:Int}(z:0<=x)(a:x<=y)(r:y<=1114111)(k1:∀u,eH m (y+1)=some u->lk u v)(k2:0<x->∀u,eH m (x-1)=some u->lk u v)(q:∀g,vJ g->HZ g->g.length<=m.length+2->(∀c,c<=1114111->eH g c=if x<=c/\c<=y then some v else eH m c)->Q (false,.none) (s.set l (Fw dv g))):Wp (au (d+2) Fn.uZ [.ref l,.int x,.int y,v] s) Q E:=by
 refine(?H:gB (by
  have i:0<=y+1:=bM (bM z a) (wq (gU y));obtain⟨bh,G,M,L⟩:=h0.lk f i;have J:=h0.qx i;have C:=aa A (by decide:250<=300);have n:∀c:Nat,(c:Int)-1+1=c:=λc=>T8 ..;have o:∀D B,(B=false->y=1114111\/bh=v)->(D=true->eH m (x-1)=some v/\0<ml m (x-1))->Q (false,.none) (s.set l (Fw dv (Af m x y (Bo m x y v D B bh)))):=λD B t j=>q _ (Px f a) (Th h0 z λq=>(j q).2) (Py a f) λc K=>LL f a G (λq=>(j q).1) t K;have b:∀B,(B=false->y=1114111\/bh=v)->bS (au (d+1)) E 394 (iY.body.drop 6) [.val (.ref l),.val (.int x),.val (.int y),.val v,.val (.int ((ml m (x-1):Int)-1+1)),.val (.int ((ml m (y+1):Int)-1+1)),.val bh,.cj ((Bo m x y v false B bh).map λp=>.int p.1),.cj ((Bo m x y v false B bh).map (·.2))] s λI _ s=>Q (DB I) s:=λB t=>ZW h f h0 A k2 (n _) (n _) λD j=>o D B t j;refine bq iY rfl rfl ?_;dsimp[iY,bx];apply aQ;dsimp;refine sn (bY.mpr a) ?_;apply aQ;dsimp;refine oS (iA h) (oS rfl (Wp.of (pbh f C) ?_));dsimp;apply aQ;dsimp;refine oS (iA h) (oS rfl (Wp.of (pbh f C) ?_));dsimp;apply aQ;dsimp;refine oS (iA h) (oS rfl (oS (PA J (by rw[n]) L) ?_));dsimp;apply aQ;dsimp;apply aQ;dsimp;refine(if k:y<1114111 then so k (Wp.of (ZU (k1 _ G)) ?_)else ?_);·dsimp;cases e:bh.lD v with|false=>dsimp;apply aQ;dsimp;apply aQ;dsimp;exact b true λh=>by injection h|true=>exact b false λ_=>.inr (CO e)
  ·exact sn k (b false λ_=>.inl (D8 r (bY.mp k))))) gA
 intro w;delta id at w;(try dsimp-zetaHave only at w);refine(?F:gC _) _ w;exactλp _=>p
end
def vR(v:PV)(b:List (List Nat))(a:List (PV×PV)):List (PV×PV):=b.foldl (λa k=>q7 (.str k) v a) a
def DEF0:List (PV×PV):=match ir.body with
|.de _ (.dict kvs)::_=>kvs.filterMap λp=>match p.1,p.2 with|.aF k,.aF v=>some (k,v)|_,_=>none
|_=>[]
def r5(i:Nat):List (List Nat):=match ir.body[i]? with
|some (.for _ _ [.bR xs] _)=>xs.filterMap λx=>match x with|.aF (.str k)=>some k|_=>none
|_=>[]
noncomputable def U9:List Nat:=[105,100,110,97]
noncomputable def ZX:PV:=.bR [.str [100,105,115,97,108,108,111,119,101,100],.bR []]
def Rh:List (PV×PV):=q7 (.str U9) ZX (vR (.bR []) (r5 4) (vR .none (r5 3) (vR (.bool false) (r5 2) (vR (.str [79,116,104,101,114]) (r5 1) DEF0))))
def qj(x:List Nat):PV:=(dw (.str x) Rh).getD .none
noncomputable def WZ:PV->Bool|.str _=>true|_=>false
theorem GF{a:List (PV×PV)}(h:a.all (λe=>WZ e.1)=true)(x:List Nat):iU (.str x) a=true:=by unfold iU;rw[ax];refine⟨rfl,bj.mpr λe b=>?_⟩;have:=bj.mp h e b;obtain⟨k,v⟩:=e;clear b;cases k<;>first|rfl|cases this
theorem W0{a:List (PV×PV)}(h:a.all (λe=>WZ e.1)=true)(x:List Nat)(v:PV):(q7 (.str x) v a).all (λe=>WZ e.1)=true:=by
 induction a with
 |nil=>rfl
 |cons e r b=>
  obtain⟨k,u⟩:=e;rw[bP,ax]at h;rw[yT];split;·rw[bP,ax];exact⟨h.1,h.2⟩
  ·rw[bP,ax];exact⟨h.1,b h.2⟩
theorem LM{a:List (PV×PV)}(x v:PV):(q7 x v a).length<=a.length+1:=by induction a with|nil=>exact bf 1|cons e r b=>obtain⟨k,u⟩:=e;rw[yT];split<;>simp<;>exact acg b
section
variable{d n:Nat}{s t u:aH}{E:PV->aH->Prop}
theorem vS{a:cb}{x:X}{v:PV}(j:∀l s(k:Bool×PV->aH->Prop),k (false,v) s->d9 a E (n+7) x l s k)(c:List (List Nat)):∀(b:List (PV×PV))(w:Slot){Q:Fl->L->aH->Prop},b.all (λe=>WZ e.1)=true->b.length+c.length<4096->(∀w,Q .next [.val (.ref t.length),w] (t++[.dict (vR v c b)]))->fJ (λf l s k=>bS a E (n+9) [.de (.sub (.aq 0) (.aq 1)) x] (pt l 1 (.val f)) s k) (c.map .str) [.val (.ref t.length),w] (t++[.dict b]) Q:=by induction c with|nil=>intro b w Q _ _ q;exact q w|cons k c i=>intro b w Q h1 g q;refine j1 ?_;dsimp;apply aQ;dsimp;refine j _ _ _ (sI uK (GF h1 k) (aA (aR ..) g) ?_);refine zl Pn ?_;have h:(q7 (.str k) v b).length+c.length<4096:=aA (ar (LM (.str k) v) _) (bg ..▸g);exact i (q7 (.str k) v b) _ (W0 h1 k v) h q
theorem ki:au (d+1) Fn.oI [] s=.ok (false,.ref s.length) (s++[.dict Rh]):=by refine(?H:gB (by refine Wp.eq (bq ir rfl rfl ?_);dsimp[ir,bx];apply aQ;dsimp;refine oS (a:=DEF0) rfl ?_;apply aQ;dsimp;refine vS (by exactλ_ _ _ h=>h) (r5 1) _ _ rfl (by decide) λ_=>?_;dsimp;apply aQ;dsimp;refine vS (by exactλ_ _ _ h=>h) (r5 2) _ _ rfl (by decide) λ_=>?_;dsimp;apply aQ;dsimp;refine vS (by exactλ_ _ _ h=>h) (r5 3) _ _ rfl (by decide) λ_=>?_;dsimp;apply aQ;dsimp;refine vS (by exactλ_ _ _ h=>h) (r5 4) _ _ rfl (by decide) λ_=>?_;dsimp;apply aQ;dsimp;refine sI uK (GF rfl U9) (by decide) ?_;refine zl Pn ?_;apply aQ;dsimp;exact⟨rfl,rfl⟩)) gA;intro w;delta id at w;(try dsimp-zetaHave only at w);refine(?F:gC _) _ w;exactλp _=>p
end
noncomputable def ML(l:Nat):jt:=.inst .data [(.ki,.ref (l+1)),(.A4,.ref (l+2)),(.nh,.ref (l+3)),(.Ef,.ref (l+4))]
section
variable{d n l N k:Nat}{s t u:aH}{a b:PV}{m:RM}{dv v:PV}
theorem BY:au (d+2) Fn.wH [.ref t.length] (t++[.inst .data []])=.ok (false,.none) (t++[ML t.length,.dict Rh,.dict [],.dict [],.dict []]):=by refine Wp.eq (bq rE rfl rfl ?_);dsimp[rE,bx];apply aQ;dsimp;refine Wp.of ki ?_;dsimp;refine sP (aG ..) rfl ?_;apply aQ;dsimp;refine oS rfl (sP (aG ..) rfl ?_);apply aQ;dsimp;refine oS rfl (sP (aG ..) rfl ?_);apply aQ;dsimp;refine oS rfl (sP (aG ..) rfl ?_);refine⟨rfl,?_⟩;refine zl ah ?_;refine zl ah ?_;refine zl ah ?_;refine zl ah ?_;rfl
abbrev uL:=List (List Nat×Nat×RM)
structure DA(s:aH)(l N k:Nat)(es:uL):Prop where
 i0:s[l]?=some (ML l)
 i1:s[l+1]?=some (.dict Rh)
 i2:s[l+2]?=some (.dict (es.map λp=>(.str p.1,.ref p.2.1)))
 lt:l+4<N
 iG:N<=s.length
 rm:∀p∈es,N<=p.2.1/\s[p.2.1]?=some (Fw (qj p.1) p.2.2)/\vJ p.2.2/\HZ p.2.2/\p.2.2.length<=k
 nd:(es.map (·.1)).Nodup
 nr:(es.map (·.2.1)).Nodup
 nV:es.length<=k
def G(e:uL)(x:List Nat)(c:Int):PV:=match e.lookup x with|some p=>(eH p.2 c).getD .none|none=>qj x
theorem Va{β:Type}{f:β->PV}{x:List Nat}{c:List (List Nat×β)}:dw (.str x) (c.map λp=>(.str p.1,f p.2))=(c.lookup x).map f:=by
 induction c with
 |nil=>exact rfl
 |cons p r e=>
  obtain⟨y,j⟩:=p;rw[aM,wJ,bc];show(if(y==x)=true then _ else _)=_;by_cases q:x=y;·subst q;rw[if_pos (beq_self_eq_true _),beq_self_eq_true];rfl
  ·rw[if_neg λh=>q (eq_of_beq h).symm,beq_eq_false_iff_ne.mpr q];exact e
theorem Fy{x:List Nat}{c:uL}:dw (.str x) (c.map λp=>(.str p.1,.ref p.2.1))=(c.lookup x).map λp=>.ref p.1:=Va (f:=λp:Nat×RM=>.ref p.1)
theorem H0{c:uL}:(c.map λp=>((.str p.1:PV),(.ref p.2.1:PV))).all (λe=>WZ e.1)=true:=by induction c with|nil=>rfl|cons p r f=>rw[aM,bP,f];rfl
theorem ZY:Rh.all (λe=>WZ e.1)=true:=rfl
theorem PB{x:List Nat}{p:Nat×RM}{c:uL}(h:c.lookup x=some p):(x,p)∈c:=by
 induction c with
 |nil=>cases h
 |cons q r f=>
  obtain⟨y,q⟩:=q;rw[bc]at h;by_cases e:x=y;·clear f;subst e;simp at h;subst h;exact .head _
  ·rw[show(x==y)=false by simp[e]]at h;exact .tail _ (f h)
theorem Tj{x:List Nat}{c:uL}:c.lookup x=none->x∉c.map (·.1):=by
 induction c with
 |nil=>intro _;simp
 |cons f r g=>
  obtain⟨y,q⟩:=f;intro h;rw[bc]at h;by_cases e:x=y;·subst e;simp at h
  ·rw[show(x==y)=false by simp[e]]at h;simp[e];have:=g h;simpa using this
theorem PC{l:Nat}{c:List (PV×PV)}{x:List Nat}(h:s[l]?=some (.dict c))(e:iU (.str x) c=true):eD s .xY (.str x) (.ref l)=some (dw (.str x) c).isSome:=(congrArg (q6 · _) (dA h)).trans (if_pos e)
theorem H5{l:Nat}{c:List (PV×PV)}{x:List Nat}(h:s[l]?=some (.dict c))(e:iU (.str x) c=true):eD s .n8 (.str x) (.ref l)=some (!(dw (.str x) c).isSome):=congrArg (dI _) (PC h e)
theorem LN{l:Nat}{c:List (PV×PV)}{x v:PV}(h:s[l]?=some (.dict c))(e:iU x c=true)(f:dw x c=some v):gq s (.ref l) x=some v:=(congrArg (q6 · _) (dA h)).trans ((if_pos e).trans f)
theorem Z0{l:Nat}{c:List (PV×PV)}{x:PV}(h:s[l]?=some (.dict c))(e:iU x c=true):dictGet (.ref l) [x] s=.ok (false,(dw x c).getD .none) s:=by unfold dictGet;dsimp only;refine zl (dA h) ?_;exact if_pos e
theorem DA.get{e:uL}(D:DA s l N k e)(g:k<=250){x:List Nat}{c:Int}(i:0<=c):au (d+3) Fn.yQ [.ref l,.str x,.int c] s=.ok (false,G e x c) s:=by
 refine(?H:gB (by
  refine Wp.eq (bq uu rfl rfl ?_);dsimp[uu,bx];unfold G;apply aQ;dsimp;refine oS (iA D.i0) (oS rfl (oS (PC D.i2 (GF H0 x)) ?_));refine zl Fy ?_;cases q:e.lookup x with
  |none=>show bS _ _ _ _ _ _ _;apply aQ;dsimp;refine oS (iA D.i0) (oS rfl (mD D.i1 ?_));dsimp;exact Wp.of (Z0 D.i1 (GF ZY x)) ⟨rfl,rfl⟩
  |some p=>
   refine qK (D.rm _ (PB q)) λh1 f h o j=>?_;refine dq (aer (d:=d) f h o (aa j (aa g (by decide))) i) λv g1 r=>?_;have y:dw (.str x) (e.map λp=>(.str p.1,.ref p.2.1))=some (.ref p.1):=by refine zl Fy ?_;refine zl q ?_;rfl
   show bS _ _ _ _ _ _ _;apply aQ;dsimp;refine oS (iA D.i0) (oS rfl (oS (LN D.i2 (GF H0 x) y) (mI f rfl ?_)));dsimp;exact Wp.of r ⟨by show _=(false,(eH p.2 c).getD .none);refine zl g1 ?_;rfl,rfl⟩)) gA
 intro w;delta id at w;(try dsimp-zetaHave only at w);refine(?F:gC _) _ w;exactλp _=>p
end
section
variable{d n l N k:Nat}{s t u:aH}{a b:PV}{m:RM}{dv v:PV}{es:uL}
def GG(l N:Nat)(s s':aH):Prop:=s.length<=s'.length/\∀j,j<N->j≠l+2->s'[j]?=s[j]?
theorem GG.refl:GG l N s s:=⟨bf _,λ_ _ _=>rfl⟩
theorem GG.trans(h:GG l N s t)(c:GG l N t u):GG l N s u:=⟨aa h.1 c.1,λj a b=>(c.2 j a b).trans (h.2 j a b)⟩
theorem PD{x v:PV}{es:List (PV×PV)}:dw x es=none->q7 x v es=es++[(x,v)]:=by
 induction es with
 |nil=>intro _;exact rfl
 |cons c r e=>
  obtain⟨y,w⟩:=c;intro h;rw[wJ]at h;rw[yT];split at h;·cases h
  ·rename_i q;rw[if_neg q,e h];rfl
theorem H6{x y:List Nat}{p:Nat×RM}{es:uL}(h:es.lookup x=none):(es++[(x,p)]).lookup y=if y=x then some p else es.lookup y:=by
 induction es with
 |nil=>
  rw[dS,bc];by_cases q:y=x;·clear h;subst q;simp
  ·rw[show(y==x)=false by simp[q],if_neg q]
 |cons q r c=>
  obtain⟨z,w⟩:=q;rw[bc]at h;by_cases e1:x=z;·subst e1;simp at h
  ·rw[show(x==z)=false by simp[e1]]at h;rw[b8,bc,bc,c h];by_cases e2:y=z;·subst e2;simp;intro q;exact absurd q.symm e1
   ·rw[show(y==z)=false by simp[e2]]
theorem DA.map(D:DA s l N k es)(R:k<=200)(x:List Nat):∃s' f p,au (d+3) Fn.xr [.ref l,.str x] s=.ok (false,.ref p.1) s'/\DA s' l N (k+1) f/\f.lookup x=some p/\(∀y c,0<=c->G f y c=G es y c)/\GG l N s s':=by
 refine(?H:gB (by
  cases q:es.lookup x with
  |some p=>
   have A:dw (.str x) (es.map λp=>(.str p.1,.ref p.2.1))=some (.ref p.1):=by refine zl Fy ?_;refine zl q ?_;rfl
   refine⟨s,es,p,Wp.eq (bq jv rfl rfl ?_),{D with
    rm:=λp r=>by refine qK (D.rm p r) λa b c d e=>?_;exact⟨a,b,c,d,b7 e⟩
    nV:=b7 D.nV},q,λ_ _ _=>rfl,GG.refl⟩
   dsimp[jv,bx];apply aQ;dsimp;refine oS (iA D.i0) (oS rfl (oS (H5 D.i2 (GF H0 x)) ?_));refine zl A ?_;show bS _ _ _ _ _ _ _;apply aQ;dsimp;exact oS (iA D.i0) (oS rfl (oS (LN D.i2 (GF H0 x) A) ⟨rfl,rfl⟩))
  |none=>
   have A:dw (.str x) (es.map λp=>(.str p.1,.ref p.2.1))=none:=by refine zl Fy ?_;refine zl q ?_;rfl
   have g:=D.iG;have z:=D.lt;have i:∀{j:Nat}{c:jt}{t:aH},s[j]?=some c->(s++t)[j]?=some c:=λ{j c t}h=>by refine zl (dG (aU.mp h).1) ?_;exact h
   let s1:aH:=s++[Fw (qj x) [(0,qj x)]];let f:uL:=es++[(x,s.length,[(0,qj x)])];let s':aH:=s1.set (l+2) (.dict (f.map λp=>(.str p.1,.ref p.2.1)));have o:∀{j:Nat},j≠l+2->s'[j]?=s1[j]?:=λh=>Pm h;have M:au (d+2) Fn.sC [.ref s.length,qj x] (s++[.inst .xW []])=.ok (false,.none) s1:=by refine zl (ZV uK) ?_;exact zl Pn rfl
   have C:q7 (.str x) (.ref s.length) (es.map λp=>(.str p.1,.ref p.2.1))=f.map λp=>(.str p.1,.ref p.2.1):=by refine zl (PD A) ?_;simp[f]
   have Q:∀y c,0<=c->G f y c=G es y c:=λy c S=>by
    unfold G;refine zl (H6 q) ?_;by_cases e:y=x;·clear A;subst e;refine zl (if_pos rfl) ?_;refine zl q ?_;show(eH [(0,qj y)] c).getD .none=qj y;simp[eH,yI,S]
    ·exact zl (if_neg e) rfl
   have O:s'[l+2]?=some (.dict (f.map λp=>(.str p.1,.ref p.2.1))):=gs (i D.i2);have I:dw (.str x) (f.map λp=>(.str p.1,.ref p.2.1))=some (.ref s.length):=by refine zl Fy ?_;refine zl (H6 q) ?_;refine zl (if_pos rfl) ?_;rfl
   have B:s'[l]?=some (ML l):=(o (by exact acu)).trans (i D.i0);refine⟨s',f,(s.length,[(0,qj x)]),?_,?_,by show(es++_).lookup x=_;refine zl (H6 q) ?_;exact zl (if_pos rfl) rfl,Q,?_,λj P E=>?_⟩;·refine Wp.eq (bq jv rfl rfl ?_);dsimp[jv,bx];apply aQ;dsimp;refine oS (iA D.i0) (oS rfl (oS (H5 D.i2 (GF H0 x)) ?_));refine zl A ?_;show bS _ _ _ _ _ _ _;apply aQ;dsimp;refine oS (iA D.i0) (oS rfl (mD D.i1 ?_));dsimp;refine Wp.of (Z0 D.i1 (GF ZY x)) (Wp.of M ?_);dsimp;refine oS (iA (i D.i0)) (oS rfl (sI (i D.i2) (GF H0 x) (by refine zl (aj _) ?_;exact aA (aa D.nV R) (by decide)) ?_));refine zl C ?_;apply aQ;dsimp;exact oS (iA B) (oS rfl (oS (LN O (GF H0 x) I) ⟨rfl,rfl⟩))
   ·exact{
     i0:=B
     i1:=(o (by exact acv)).trans (i D.i1)
     i2:=O
     lt:=z
     iG:=by simp[s',s1];exact o0 g
     rm:=λp r=>by
      rcases bk.mp r with r|r;·refine qK (D.rm p r) λa b c dd e=>?_;exact⟨a,(o (by exact acw z a)).trans (i b),c,dd,by exact o0 e⟩
      ·refine zl (ao.mp r) ?_;refine⟨g,(o (show s.length≠l+2 by exact acx g z)).trans (by simp[s1]),by unfold vJ;simp,⟨_,_,rfl⟩,by simp⟩
     nd:=by have:=Tj q;have h:=D.nd;simp only[f,ba,aM,fP];rw[qW];refine⟨h,by simp,λa L b J=>?_⟩;refine zl (ao.mp J) ?_;exactλe=>this (e▸L)
     nr:=by have h:=D.nr;simp only[f,ba,aM,fP];rw[qW];refine⟨h,by simp,λa L b J=>?_⟩;refine zl (ao.mp J) ?_;refine dq (aL.mp L) λp r K=>?_;subst K;have:=(aU.mp (D.rm p r).2.1).1;exact acy this
     nV:=by have:=D.nV;simp[f];exact acz this}
   ·simp[s',s1]
   ·refine zl (o E) ?_;simp only[s1];exact zl (dG (by exact acA g P)) rfl)) gA
 intro w;delta id at w;(try dsimp-zetaHave only at w);refine(?F:gC _) _ w;exactλp _=>p
noncomputable def Ai(x:List Nat)(m:RM)(es:uL):uL:=es.map λp=>if p.1=x then(p.1,p.2.1,m)else p
theorem W2{x y:List Nat}{m:RM}{es:uL}:(Ai x m es).lookup y=(es.lookup y).map λp=>if y=x then(p.1,m)else p:=by
 induction es with
 |nil=>rfl
 |cons p r c=>
  obtain⟨z,w⟩:=p;unfold Ai at c⊢;rw[aM];by_cases e1:z=x;·
   rw[if_pos e1,bc,bc,c];by_cases e2:y=z;·clear c;subst e2;subst e1;simp
   ·rw[show(y==z)=false by simp[e2]]
  ·rw[if_neg e1,bc,bc,c];by_cases e2:y=z;·subst e2;simp[e1]
   ·rw[show(y==z)=false by simp[e2]]
theorem Z1{es:uL}(h:(es.map (·.2.1)).Nodup){p q:List Nat×Nat×RM}(g:p∈es)(i:q∈es)(e:p.2.1=q.2.1):p=q:=by
 induction es with
 |nil=>cases g
 |cons r es j=>
  rw[aM,gJ]at h;rcases av.mp g with c|c<;>rcases av.mp i with f|f;·rw[c,f]
  ·exact(h.1 (aL.mpr ⟨q,f,by rw[<-e,c]⟩)).elim
  ·exact(h.1 (aL.mpr ⟨p,c,by rw[e,f]⟩)).elim
  ·exact j h.2 c f
theorem Z2{es:uL}(h:(es.map (·.1)).Nodup){p q:List Nat×Nat×RM}(g:p∈es)(i:q∈es)(e:p.1=q.1):p=q:=by
 induction es with
 |nil=>cases g
 |cons r es j=>
  rw[aM,gJ]at h;rcases av.mp g with c|c<;>rcases av.mp i with f|f;·rw[c,f]
  ·exact(h.1 (aL.mpr ⟨q,f,by rw[<-e,c]⟩)).elim
  ·exact(h.1 (aL.mpr ⟨p,c,by rw[e,f]⟩)).elim
  ·exact j h.2 c f
theorem DA.xX(D:DA s l N k es)(hk:k<=190){x:List Nat}{i j:Int}(hi:0<=i)(S:i<=j)(W:j<=1114111)(k1:lk (G es x (j+1)) v)(k2:0<i->lk (G es x (i-1)) v):∃s' O,au (d+4) Fn.pv [.ref l,.str x,.int i,.int j,v] s=.ok (false,.none) s'/\DA s' l N (k+3) O/\(∀y c,0<=c->c<=1114111->G O y c=if y=x/\i<=c/\c<=j then v else G es y c)/\GG l N s s':=by
 refine(?H:gB (by
  refine M5 (D.map (d:=d) (by exact acm hk) x) λs1 g p a1 z Z a3 a4=>?_;have o:=PB Z;refine qK (z.rm _ o) λb1 b2 b3 b4 b5=>?_;have X:∀c,0<=c->∀u,eH p.2 c=some u->u=G es x c:=λc hc u T=>by refine zr (a3 x c hc) ?_;unfold G;refine zl Z ?_;show u=(eH p.2 c).getD .none;refine zl T ?_;rfl
  have B:s1[p.1]?=some (Fw (qj x) p.2):=b2;have R:p.2.length<=k+1:=b5;have Y:N<=p.1:=b1;clear b1 b2 b5;obtain⟨f,c1,c2,c3,c4,c5⟩:∃f,au (d+3) Fn.uZ [.ref p.1,.int i,.int j,v] s1=.ok (false,.none) (s1.set p.1 (Fw (qj x) f))/\vJ f/\HZ f/\f.length<=p.2.length+2/\∀c,c<=1114111->eH f c=if i<=c/\c<=j then some v else eH p.2 c:=by have:=aes (d:=d+1) (E:=noE) (Q:=λr t=>∃f,r=(false,.none)/\t=s1.set p.1 (Fw (qj x) f)/\vJ f/\HZ f/\f.length<=p.2.length+2/\∀c,c<=1114111->eH f c=if i<=c/\c<=j then some v else eH p.2 c) B b3 b4 (by exact acn hk R) hi S W (λu T=>by refine zl (X _ (by exact o18 hi S) u T) ?_;exact k1) (λh u T=>by refine zl (X _ (by exact o19 h) u T) ?_;exact k2 h) λf a b c e=>⟨f,rfl,rfl,a,b,c,e⟩;revert this;cases au (d+3) Fn.uZ [.ref p.1,.int i,.int j,v] s1 with|ok r t=>exactλh=>by revert h;intro P;refine pg P λf L e2 h=>?_;clear P;exact⟨f,by refine zl L ?_;exact zl e2 rfl,h⟩|_=>exactλh=>h.elim
  have I:=z.lt;have A:∀{j:Nat},j<N->(s1.set p.1 (Fw (qj x) f))[j]?=s1[j]?:=λh=>Pm (by exact aco Y h);refine⟨s1.set p.1 (Fw (qj x) f),Ai x f g,?_,?_,λy c h0 h1=>?_,?_⟩;·refine Wp.eq (bq ur rfl rfl ?_);dsimp[ur,bx];apply aQ;dsimp;refine mI D.i0 rfl ?_;dsimp;refine Wp.of a1 (mI B rfl ?_);dsimp;exact Wp.of c1 ⟨rfl,rfl⟩
  ·have M:(Ai x f g).map (·.1)=g.map (·.1):=by unfold Ai;refine zl bE ?_;refine da λp _=>?_;show(if _ then _ else _:List Nat×Nat×RM).1=_;split<;>rfl
   have J:(Ai x f g).map (·.2.1)=g.map (·.2.1):=by unfold Ai;refine zl bE ?_;refine da λp _=>?_;show(if _ then _ else _:List Nat×Nat×RM).2.1=_;split<;>rfl
   have K:(Ai x f g).map (λp=>((.str p.1:PV),(.ref p.2.1:PV)))=g.map λp=>(.str p.1,.ref p.2.1):=by unfold Ai;refine zl bE ?_;refine da λp _=>?_;show(PV.str (if _ then _ else _:List Nat×Nat×RM).1,PV.ref (if _ then _ else _:List Nat×Nat×RM).2.1)=_;split<;>rfl
   exact{
    i0:=(A (by exact acp I)).trans z.i0
    i1:=(A (by exact acq I)).trans z.i1
    i2:=by refine zl K ?_;exact(A (by exact acr I)).trans z.i2
    lt:=I
    iG:=by refine zl t6 ?_;exact z.iG
    rm:=λr V=>by
     unfold Ai at V;refine dq (aL.mp V) λU C e=>?_;clear V;refine qK (z.rm U C) λq1 q2 q3 q4 q5=>?_;by_cases L:U.1=x;·replace e:=if_pos L▸e;have:U=(x,p):=Z2 z.nd C o L;clear C q2 q3 q4 q5 L;subst this;subst e;exact⟨q1,gs B,c2,c3,by show f.length<=_;exact acs R c4⟩
     ·replace e:=if_neg L▸e;subst e;have hn:U.2.1≠p.1:=λh=>L (by have:=Z1 z.nr C o h;exact zl this rfl);exact⟨q1,(Pm hn).trans q2,q3,q4,by exact o20 q5⟩
    nd:=by refine zl M ?_;exact z.nd
    nr:=by refine zl J ?_;exact z.nr
    nV:=by have:=z.nV;unfold Ai;refine zl (aj _) ?_;exact o20 this}
  ·refine zr (a3 y c h0) ?_;unfold G;refine zl W2 ?_;by_cases e:y=x;·
    clear k1 k2 a1 o b3 b4 X B c1 A;subst e;refine zl Z ?_;show(eH (if y=y then(p.1,f)else p).2 c).getD .none=_;refine zl (if_pos rfl) ?_;refine zl (c5 c h1) ?_;by_cases q:i<=c/\c<=j;·refine zl (if_pos q) ?_;refine zl (if_pos ⟨rfl,q⟩) ?_;rfl
    ·refine zl (if_neg q) ?_;rewrite[if_neg λh=>q h.2];rfl
   ·rw[if_neg (λh=>e h.1)];cases g.lookup y with|none=>rfl|some q=>show(eH (if y=x then(q.1,f)else q).2 c).getD .none=_;exact zl (if_neg e) rfl
  ·exact a4.trans ⟨by simp,λj W _=>A W⟩)) gA
 intro w;delta id at w;(try dsimp-zetaHave only at w);refine(?F:gC _) _ w;exactλp _=>p
end
theorem Aj{b:Type}{p:b->PV}{q:b->Option PV}{f:PV->aH->(Option PV->aH->Prop)->Prop}{s:aH}{k:List PV->aH->Prop}(xs:List b)(a:∀x∈xs,∀K:Option PV->aH->Prop,K (q x) s->f (p x) s K)(h:k (xs.filterMap q) s):oB f (xs.map p) s k:=by induction xs generalizing k with|nil=>exact h|cons x r c=>refine c1 (a x (.head _) _ (c (λy d=>a y (.tail _ d)) ?_));clear c a;rw[kg]at h;cases e:q x with|none=>rw[e]at h;exact h|some v=>rw[e]at h;exact h
theorem oC{a:Type}{p q:a->PV}{f:PV->aH->(Option PV->aH->Prop)->Prop}{s:aH}{k:List PV->aH->Prop}(xs:List a)(b:∀x∈xs,∀K:Option PV->aH->Prop,K (some (q x)) s->f (p x) s K)(h:k (xs.map q) s):oB f (xs.map p) s k:=Aj xs b (by refine zl tO ?_;exact h)
noncomputable def BL:List Nat:=[32,9,13]
def Ak(c:Nat)(l:List Nat):Int:=nv [c] l 0
def dY(l:List Nat):List Nat:=if Ak 35 l<0 then l else pD l none (some (Ak 35 l))
def pU(l:List Nat):List Nat:=if Ak 35 l<0 then[]else pD l (some (Ak 35 l+1)) none
def Al(l:List Nat):List PV:=(du l [59]).map λf=>.bytes (cm BL f)
def qS(i:Nat)(l:List Nat):Option PV:=if cm BL (dY l)=[]then none else some (.bR [.int ((i:Int)+1),.list (Al (dY l)),.bytes (cm BL (pU l))])
def e7(k:Nat)(ls:List (List Nat)):List PV:=(ls.zipIdx k).filterMap λp=>qS p.2 p.1
def mn(o:List Nat):Prop:=cU [239,187,191] o=false
theorem r6{s:aH}{a:List Nat}{c:Nat}{r:List Nat}(h:a.length+1<eu):gX s .split [.bytes a,.bytes (c::r)]=some (true,.list ((du a (c::r)).map .bytes)):=congrArg (dI _) (if_neg (λq=>X8 h (of_decide_eq_true q)))
theorem Am{l:List Nat}(h:l.length+1<eu):(dY l).length+1<eu:=by
 unfold dY;split;·exact h
 ·exact aA (ar (nL ..) 1) h
section
variable{d n:Nat}{s:aH}{E:PV->aH->Prop}{o:List Nat}
theorem Vb(h:mn o)(a:o.length+1<eu):au (d+1) Fn.sy [.bytes o] s=.ok (true,.list ((du o [10]).map .bytes)) s:=by refine Wp.eq (bq rB rfl rfl ?_);dsimp[rB,bx];apply aQ;dsimp;rw[show cU [239,187,191] o=false from h];show bS _ _ _ _ _ _ _;apply aQ;dsimp;exact oS (r6 a) ⟨rfl,rfl⟩
theorem BZ{a:cb}{K:Fl->L->aH->Prop}{acc:List PV}{k:Nat}{o l:PV}{c x:Slot}{b r:List Nat}(i:b.length+1<eu)(g:acc.length<eu)(q:∀x,K .next [.val o,.cj (acc++(if cm BL b=[]then none else some (.bR [.int ((k:Int)+1),.list (Al b),.bytes (cm BL r)])).toList),.val (.int k),.val l,c,.val (.bytes b),.val (.bytes r),x,.bB] s):bS a E (n+24) [.gp (.cS .ne (.bi .strip [(.aq 5),(.d6 6)]) (.aF (.bytes []))) [.de (.v 7) (.comp [8] .val [(.bi .split [(.aq 5),(.aF (.bytes [59]))])] none (.bi .strip [(.aq 8),(.d6 6)])),.iP 7,.qn 1 (.bR [(.dC .add (.aq 2) (.aF (.int 1))),(.aq 7),(.bi .strip [(.aq 6),(.d6 6)])])] []] [.val o,.cj acc,.val (.int k),.val l,c,.val (.bytes b),.val (.bytes r),x,.bB] s K:=by
 apply aQ;dsimp;by_cases e:cm BL b=[];·rw[if_pos e]at q;refine sr (by rw[show cm [32,9,13] b=[]from e];rfl) ?_;have:=q x;rwa[yx,aT]at this
 ·rw[if_neg e]at q;refine sl (by rw[dJ,beq_eq_false_iff_ne];exact e) ?_;apply aQ;dsimp;refine oS (r6 i) ?_;dsimp;refine oC (q:=λf=>.bytes (cm BL f)) _ (λf _ K h=>h) ?_;apply aQ;dsimp;apply aQ;dsimp;exact so g (q _)
noncomputable def ft(x:List S):List S:=match x with|_::.for _ _ _ b::_=>b|_=>[]
def PE:List S:=ft pE.body
theorem LP{i:cb}{o:PV}{Q:Fl->L->aH->Prop}(ls:List (List Nat)):∀(k:Nat)(acc:List PV){a b c d e f:Slot},acc.length+ls.length<=eu->(∀l∈ls,l.length+1<eu)->(∀a b c d e f,Q .next [.val o,.cj (acc++e7 k ls),a,b,c,d,e,f,.bB] s)->fJ (λh l s k=>pT [2,3] h l λl=>bS i E (n+27) PE l s k) (((ls.map .bytes).zipIdx k).map λp=>.bR [.int p.2,p.1]) [.val o,.cj acc,a,b,c,d,e,f,.bB] s Q:=by
 refine(?H:gB (by
  induction ls with
  |nil=>intro k acc a b c d e f _ _ q;have:=q a b c d e f;rwa[show acc++e7 k []=acc from aT _]at this
  |cons l r A=>
   intro k acc a b c d e f h1 t q;have v:=t l (.head _);have g:∀c x,fJ (λh l s k=>pT [2,3] h l λl=>bS i E (n+27) PE l s k) (((r.map .bytes).zipIdx (k+1)).map λp=>.bR [.int p.2,p.1]) [.val o,.cj (acc++(qS k l).toList),.val (.int k),.val (.bytes l),c,.val (.bytes (dY l)),.val (.bytes (pU l)),x,.bB] s Q:=λc x=>by
    refine A (k+1) _ ?_ (λy z=>t y (.tail _ z)) λa b c d e f=>?_;·rw[ah,cM,cE (cZ _) r.length];exact aa (aD (aD (show(qS k l).toList.length<=1 by cases qS k l<;>exact aE rfl) _) _) h1
    ·rw[aG,show(qS k l).toList++e7 (k+1) r=e7 k (l::r)by unfold e7;rw[mM,kg];cases qS k l<;>rfl];exact q a b c d e f
   refine j1 ?_;dsimp[PE,ft,pE];apply aQ;dsimp;by_cases hc:Ak 35 l<0;·have j:dY l=l:=if_pos hc;have m:pU l=[]:=if_pos hc;unfold qS at g;rw[j,m]at g;apply aQ;dsimp;refine so hc ?_;apply aQ;dsimp;refine so hc ?_;exact BZ v (aw (bI (jV _)) h1) λx=>g _ x
   ·have j:dY l=pD l none (some (Ak 35 l)):=if_neg hc;have m:pU l=pD l (some (Ak 35 l+1)) none:=if_neg hc;have u:=Am v;unfold qS at g;rw[j]at u;rw[j,m]at g;apply aQ;dsimp;refine sn hc ?_;apply aQ;dsimp;refine sn hc ?_;exact BZ u (aw (bI (jV _)) h1) λx=>g _ x)) gA
 intro w;delta id at w;(try dsimp-zetaHave only[ff,fg,fi,fj,fm,ib,ic,ie,ig,ij,JI,Po,Pp,Pq,Pr,JJ,Pu,Pw]at w);delta jJ nU at w;extract_lets+proofs+implicits+lift at w;refine(?F:gC _) _ w;exactλp _=>p
theorem DD{o:List Nat}(h:mn o)(i:o.length+1<eu)(j:∀l∈du o [10],l.length+1<eu)(g:(du o [10]).length<=eu):au (d+2) Fn.dR [.bytes o] s=.ok (true,.list (e7 0 (du o [10]))) s:=by refine Wp.eq (bq pE rfl rfl ?_);dsimp[pE,bx];apply aQ;dsimp;apply aQ;dsimp;refine Wp.of (Vb h i) ?_;dsimp;refine LP _ 0 [] ((bO _).symm▸g) j λa b c d e f=>?_;dsimp;apply aQ;dsimp;exact⟨rfl,rfl⟩
end
noncomputable def W3:List Nat:=[64,109,105,115,115,105,110,103,58]
def DE(l:List Nat):List Nat:=cm BL (pU l)
def toldOf(l:List Nat):List Nat:=dY (pD (DE l) (some 9) none)
def lg(l:List Nat):Bool:=decide (0<=Ak 35 l)&&(cm BL (dY l)==[])&&W3.isPrefixOf (DE l)
def qB(i:Nat)(l:List Nat):Option PV:=if lg l then some (.bR [.int ((i:Int)+1),.list (Al (toldOf l))])else none
def gh(k:Nat)(ls:List (List Nat)):List PV:=(ls.zipIdx k).filterMap λp=>qB p.2 p.1
theorem vT(cs l:List Nat):(gE cs l).length<=l.length:=(List.dropWhile_sublist _).length_le
theorem DF(cs l:List Nat):(cm cs l).length<=l.length:=by unfold cm;rw[ef];exact aa (vT _ _) (by rw[ef];exact vT _ _)
section
variable{d n:Nat}{s:aH}{E:PV->aH->Prop}{o:List Nat}
def JM:List S:=ft iX.body
theorem told_body{a:cb}{K:Fl->L->aH->Prop}{acc:List PV}{k:Nat}{o l r:PV}{c:Slot}{t:List Nat}(m:t.length+1<eu)(j:acc.length<eu)(q:K .next [.val o,.cj (acc++[.bR [.int ((k:Int)+1),.list (Al (dY t))]]),.val (.int k),.val l,c,.val r,.val (.bytes (dY t)),.val (.int (Ak 35 t)),.bB] s):bS a E (n+23) [.de (.v 6) (.ite (.cS .lt (.aq 7) (.aF (.int 0))) (.aq 6) (.sl (.aq 6) none (some (.aq 7)))),.qn 1 (.bR [(.dC .add (.aq 2) (.aF (.int 1))),(.comp [8] .val [(.bi .split [(.aq 6),(.aF (.bytes [59]))])] none (.bi .strip [(.aq 8),(.d6 6)]))])] [.val o,.cj acc,.val (.int k),.val l,c,.val r,.val (.bytes t),.val (.int (Ak 35 t)),.bB] s K:=by
 have i:=Am m;have g:∀b,dY t=b->bS a E (n+22) [.qn 1 (.bR [(.dC .add (.aq 2) (.aF (.int 1))),(.comp [8] .val [(.bi .split [(.aq 6),(.aF (.bytes [59]))])] none (.bi .strip [(.aq 8),(.d6 6)]))])] [.val o,.cj acc,.val (.int k),.val l,c,.val r,.val (.bytes b),.val (.int (Ak 35 t)),.bB] s K:=λb e=>by subst e;apply aQ;dsimp;refine oS (r6 i) ?_;exact oC (q:=λf=>.bytes (cm BL f)) _ (λf _ K h=>h) (so j q)
 apply aQ;dsimp;by_cases hc:Ak 35 t<0;·exact so hc (g t (if_pos hc))
 ·exact sn hc (g _ (if_neg hc))
theorem LQ{j:cb}{o:PV}{Q:Fl->L->aH->Prop}(ls:List (List Nat)):∀(k:Nat)(acc:List PV){a b c d e f:Slot},acc.length+ls.length<=eu->(∀l∈ls,l.length+1<eu)->(∀a b c d e f,Q .next [.val o,.cj (acc++gh k ls),a,b,c,d,e,f,.bB] s)->fJ (λg l s k=>pT [2,3] g l λl=>bS j E (n+29) JM l s k) (((ls.map .bytes).zipIdx k).map λp=>.bR [.int p.2,p.1]) [.val o,.cj acc,a,b,c,d,e,f,.bB] s Q:=by
 refine(?H:gB (by
  induction ls with
  |nil=>intro k acc a b c d e f _ _ q;have:=q a b c d e f;rwa[show acc++gh k []=acc from aT _]at this
  |cons l r G=>
   intro k acc a b c d e f h1 A q;have I:=A l (.head _);have M:acc.length<eu:=aw (bI (jV _)) h1;have i:∀u,qB k l=u->∀c d e f,fJ (λg l s k=>pT [2,3] g l λl=>bS j E (n+29) JM l s k) (((r.map .bytes).zipIdx (k+1)).map λp=>.bR [.int p.2,p.1]) [.val o,.cj (acc++u.toList),.val (.int k),.val (.bytes l),c,d,e,f,.bB] s Q:=λu D c d e f=>by
    subst D;refine G (k+1) _ ?_ (λy B=>A y (.tail _ B)) λa b c d e f=>?_;·rw[ah,cM,cE (cZ _) r.length];exact aa (aD (aD (show(qB k l).toList.length<=1 by cases qB k l<;>exact aE rfl) _) _) h1
    ·rw[aG,show(qB k l).toList++gh (k+1) r=gh k (l::r)by unfold gh;rw[mM,kg];cases qB k l<;>rfl];exact q a b c d e f
   have v:lg l=false->∀c d e f,fJ (λg l s k=>pT [2,3] g l λl=>bS j E (n+29) JM l s k) (((r.map .bytes).zipIdx (k+1)).map λp=>.bR [.int p.2,p.1]) [.val o,.cj acc,.val (.int k),.val (.bytes l),c,d,e,f,.bB] s Q:=λh c d e f=>by have:=i none (if_neg (by rw[h];exact aK)) c d e f;rwa[yx,aT]at this
   refine j1 ?_;dsimp[JM,ft,iX];apply aQ;dsimp;by_cases hc:Ak 35 l<0;·
    have K:lg l=false:=by unfold lg;rw[decide_eq_false (cu.mpr hc)];rfl
    apply aQ;dsimp;refine so hc ?_;apply aQ;dsimp;exact sn (cu.mpr hc) (v K ..)
   ·have C:dY l=pD l none (some (Ak 35 l)):=if_neg hc;have z:pU l=pD l (some (Ak 35 l+1)) none:=if_neg hc;have x:lg l=((cm BL (pD l none (some (Ak 35 l)))==[])&&W3.isPrefixOf (cm BL (pD l (some (Ak 35 l+1)) none))):=by unfold lg DE;rw[decide_eq_true (bY.mp hc),C,z];rfl
    apply aQ;dsimp;refine sn hc ?_;apply aQ;dsimp;refine so (bY.mp hc) ?_;cases m:cm BL (pD l none (some (Ak 35 l)))==[]with|false=>exact sr m (v (by rw[x,m];rfl) ..)|true=>refine sl m ?_;cases t:W3.isPrefixOf (cm BL (pD l (some (Ak 35 l+1)) none))with|false=>exact sr t (v (by rw[x,m,t];rfl) ..)|true=>refine sl t ?_;have J:(pD (cm BL (pD l (some (Ak 35 l+1)) none)) (some 9) none).length+1<eu:=aA (ar (aa (nL ..) (aa (DF ..) (nL ..))) 1) I;have i:=i (some _) (if_pos (by rw[x,m,t];rfl));unfold toldOf DE at i;rw[z]at i;apply aQ;dsimp;apply aQ;dsimp;exact told_body J M (i ..))) gA
 intro w;delta id at w;(try dsimp-zetaHave only at w);refine(?F:gC _) _ w;exactλp _=>p
theorem W4{o:List Nat}(h:mn o)(i:o.length+1<eu)(j:∀l∈du o [10],l.length+1<eu)(g:(du o [10]).length<=eu):au (d+2) Fn.dU [.bytes o] s=.ok (true,.list (gh 0 (du o [10]))) s:=by refine Wp.eq (bq iX rfl rfl ?_);dsimp[iX,bx];apply aQ;dsimp;apply aQ;dsimp;refine Wp.of (Vb h i) ?_;dsimp;refine LQ _ 0 [] ((bO _).symm▸g) j λa b c d e f=>?_;dsimp;apply aQ;dsimp;exact⟨rfl,rfl⟩
end
theorem vU{a β:Type}{f g:a->β}{l:List a}(h:l.map f=l.map g)(x)(b:x∈l):f x=g x:=VL.mp h x b
noncomputable def dig(n:Nat):Nat:=if n<10 then 48+n else 55+n
noncomputable def Vc:Nat->Nat->List Nat->List Nat|0,_,acc=>acc|f+1,n,acc=>if n=0/\4<=acc.length then acc else Vc f (n/16) (dig (n%16)::acc)
def gQ(n:Nat):List Nat:=Vc 8 n []
noncomputable def bases:List Nat:=[64,65534,128512,1114080]
def gk:List Nat:=bases.flatMap λb=>(eM 27).map λo=>b+o-1
noncomputable def H7:List Nat:=[3840,3841,3842,3843,3844,4096,4112,4128,128512,128528,128544,917760,917776,917792,65,7680,97,98,99,75,769]
section
variable{d:Nat}{s:aH}
theorem PG:(gk++H7).map (λ(c:Nat)=>au (d+1) Fn.kj [.int c] s)=(gk++H7).map λ(c:Nat)=>.ok (false,.bytes (gQ c)) s:=by kernel_rfl
theorem PH:(gk++H7).map (λ(c:Nat)=>au (d+1) Fn.kr [.int c] s)=(gk++H7).map λ(c:Nat)=>.ok (false,.bytes (gQ c)) s:=by kernel_rfl
end
noncomputable def WS:List (List Nat):=[[76,97,116,110],[71,114,101,107],[67,121,114,108],[76,97,116,105,110],[71,114,101,101,107],[67,121,114,105,108,108,105,99],[73,68,95,83,116,97,114,116],[67,97,115,101,100],[83,111,102,116,95,68,111,116,116,101,100],[83,111,109,101,95,84,104,105,110,103],[76,117],[76,108],[77,110],[78,100],[83,111],[76],[82],[78,83,77],[69,78],[76,111],[99,111,109,112,97,116],[102,111,110,116],[88,120],[90,90],[111,100,100]]
section
variable{d n:Nat}{s:aH}{k:Int}
theorem PJ:(gk++H7++[0,1114111]).map (λ(c:Nat)=>au (d+3) Fn.ek [.bytes (gQ c),.int k] s)=(gk++H7++[0,1114111]).map λ(c:Nat)=>.ok (false,.int c) s:=by kernel_rfl
theorem Z3:WS.map (λw=>au (d+2) Fn.gn [.bytes w,.int k] s)=WS.map λw=>.ok (false,.str w) s:=by kernel_rfl
theorem Z4:WS.map (λw=>au (d+2) Fn.cN [.str w] s)=WS.map λw=>.ok (false,.bytes w) s:=by kernel_rfl
end
def q8(a b:Nat):List Nat:=if a=b then gQ a else gQ a++[46,46]++gQ b
theorem LR:∀a∈gk,∀o∈eM 4,du (q8 a (a+o)) [46,46]=(if o=0 then[gQ a]else[gQ a,gQ (a+o)]):=by decide+kernel
section
variable{d n:Nat}{s:aH}{k:Int}
theorem vV:∀a∈gk++H7,(gQ a).length<=6:=by decide+kernel
theorem cof{c:Nat}(h:c∈gk):au (d+3) Fn.ek [.bytes (gQ c),.int k] s=.ok (false,.int c) s:=vU PJ c (by simp[h])
theorem W5{c:Nat}(h:c∈gk):au (d+1) Fn.kj [.int c] s=.ok (false,.bytes (gQ c)) s:=vU PG c (by simp[h])
theorem Tn{c:Nat}(h:c∈gk):au (d+1) Fn.kr [.int c] s=.ok (false,.bytes (gQ c)) s:=vU PH c (by simp[h])
theorem W6{w:List Nat}(h:w∈WS):au (d+2) Fn.gn [.bytes w,.int k] s=.ok (false,.str w) s:=vU Z3 w h
theorem wY{w:List Nat}(h:w∈WS):au (d+2) Fn.cN [.str w] s=.ok (false,.bytes w) s:=vU Z4 w h
theorem sX{a b:Nat}(e:a∈gk)(f:b∈gk):(q8 a b).length<=14:=by
 have h1:=vV a (by simp[e]);have c:=vV b (by simp[f]);unfold q8;split<;>simp;·exact aa h1 (by decide)
 ·exact aa (aW h1 (aB (aB c))) (by decide)
theorem H8{x:PV}{r:List PV}:gq s (.list (x::r)) (.int 0)=some x:=Ah (i:=0) rfl rfl
theorem LS{a o:Nat}(b:a∈gk)(e:a+o∈gk)(f:o<4):au (d+4) Fn.gN [.bytes (q8 a (a+o)),.int k] s=.ok (false,.bR [.int a,.int (a+o:Nat)]) s:=by
 refine(?H:gB (by
  refine Wp.eq (bq uk rfl rfl ?_);have h1:=LR a b o (iC.mpr f);have g:(q8 a (a+o)).length+1<eu:=aA (ar (sX b e) 1) (by decide);have c:¬((a+o:Nat):Int)<a:=bY.mpr (bW.mpr (aR a o));dsimp[uk,bx];apply aQ;dsimp;refine oS (r6 g) ?_;refine zl h1 ?_;by_cases q:o=0;·clear e f h1 g;subst q;refine zl (if_pos rfl) ?_;dsimp;apply aQ;dsimp;apply aQ;dsimp;apply aQ;dsimp;apply aQ;dsimp;refine oS rfl (Wp.of (cof b) (oS rfl (Wp.of (cof b) ?_)));dsimp;apply aQ;dsimp;refine sn c ?_;apply aQ;dsimp;exact⟨rfl,rfl⟩
  ·refine zl (if_neg q) ?_;dsimp;apply aQ;dsimp;apply aQ;dsimp;apply aQ;dsimp;apply aQ;dsimp;refine oS rfl (Wp.of (cof b) (oS rfl (Wp.of (cof e) ?_)));dsimp;apply aQ;dsimp;refine sn c ?_;apply aQ;dsimp;exact⟨rfl,rfl⟩)) gA
 intro w;delta id at w;(try dsimp-zetaHave only at w);refine(?F:gC _) _ w;exactλp _=>p
theorem gN{a b:Nat}(e:a∈gk)(f:b∈gk)(h:a<=b)(c:b<a+4):au (d+4) Fn.gN [.bytes (q8 a b),.int k] s=.ok (false,.bR [.int a,.int b]) s:=by obtain⟨o,rfl⟩:=Nat.exists_eq_add_of_le h;exact LS e f (Nat.lt_of_add_lt_add_left c)
end
abbrev Tr:=Int×Int×Int
noncomputable def H9(t:Tr):PV:=.bR [.int t.1,.int t.2.1,.int t.2.2]
def jq(o:Option Tr)(l:List Tr):Option Int:=dE (motive:=λ_=>Option Tr->Option Int) (λ_=>none) (λt _ f o=>o.rec (f (some t)) λh=>if t.1<=h.2.1 then some (if h.2.2>t.2.2 then h.2.2 else t.2.2)else f (if h.2.1<t.2.1 then some t else some h)) l o
theorem Fz{t:Tr}{r:List Tr}:jq none (t::r)=jq (some t) r:=rfl
theorem vW{h t:Tr}{r:List Tr}:jq (some h) (t::r)=if t.1<=h.2.1 then some (if h.2.2>t.2.2 then h.2.2 else t.2.2)else jq (if h.2.1<t.2.1 then some t else some h) r:=rfl
def ahP:Option Tr->PV|none=>.none|some t=>H9 t
section
variable{d n:Nat}{s:aH}{E:PV->aH->Prop}{k:Int}
theorem To(a:List Tr):uh (a.map H9)=some a:=by induction a with|nil=>rfl|cons t r b=>exact congrArg (dI (t::·)) b
theorem LU{a:List Tr}(h:a.length<=5):gX s .sorted [.list (a.map H9)]=some (true,.list ((fR d7 a).map H9)):=by show((uh (a.map H9)).bind _).map _=_;refine zl (To _) ?_;exact congrArg (dI _) (if_pos h)
theorem Vd{a b:PV}{r:List PV}:gq s (.bR (a::b::r)) (.int 1)=some b:=Ah (s:=s) (xs:=a::b::r) (i:=1) rfl rfl
theorem Z5{a b c:PV}{r:List PV}:gq s (.bR (a::b::c::r)) (.int 2)=some c:=Ah (s:=s) (xs:=a::b::c::r) (i:=2) rfl rfl
theorem Ia{f:cb}{e:PV}{Q:Fl->L->aH->Prop}(xs:List Tr):∀(h:Option Tr){a b c:Slot}(h0:∀a b c w,jq h xs=none->Q .next [.val e,w,a,b,c] s)(h1:∀n,jq h xs=some n->E (.int n) s),fJ (λg l s k=>pT [2,3,4] g l λl=>bS f E 397 (ft eR.body) l s k) (xs.map H9) [.val e,.val (ahP h),a,b,c] s Q:=by
 refine(?H:gB (by
  induction xs with
  |nil=>exactλh a b c h0 _=>h0 _ _ _ _ (by clear h0;cases h<;>rfl)
  |cons t r i=>
   intro h a b c h0 h1;cases h with
   |none=>refine j1 ?_;dsimp[ft,eR,H9,ahP];apply aQ;dsimp;apply aQ;dsimp;apply aQ;dsimp;exact i (some t) h0 h1
   |some h=>
    rw[vW]at h0 h1;refine j1 ?_;dsimp[ft,eR,H9,ahP];apply aQ;dsimp;refine oS Vd ?_;by_cases q:t.1<=h.2.1;·rw[if_pos q]at h1;refine so q ?_;apply aQ;dsimp;exact oS Z5 (oS rfl (h1 _ rfl))
    ·rw[if_neg q]at h0 h1;refine sn q ?_;apply aQ;dsimp;refine oS Vd ?_;by_cases q3:h.2.1<t.2.1;·rw[if_pos q3]at h0 h1;refine so q3 ?_;apply aQ;dsimp;exact i (some t) h0 h1
     ·rw[if_neg q3]at h0 h1;refine sn q3 ?_;exact i (some h) h0 h1)) gA
 intro w;delta id at w;(try dsimp-zetaHave only at w);refine(?F:gC _) _ w;exactλp _=>p
theorem FA{a:List Tr}{Q:Bool×PV->aH->Prop}(h:a.length<=5)(h0:jq none (fR d7 a)=none->Q (false,.none) s)(h1:∀n,jq none (fR d7 a)=some n->E (.int n) s):Wp (au (d+1) Fn.l6 [.list (a.map H9)] s) Q E:=by refine bq eR rfl rfl ?_;dsimp[eR,bx];apply aQ;dsimp;apply aQ;dsimp;refine oS (LU h) ?_;exact Ia (fR d7 a) none (λ_ _ _ _ e=>h0 e) h1
end
structure Ln where
 n:Int
 a:Nat
 b:Nat
 w:List Nat
 r:List Nat
def Ln.ok(x:Ln):Prop:=x.a∈gk/\x.b∈gk/\(x.a<=x.b/\x.b<x.a+4)/\x.w∈WS
def Ln.fs(x:Ln):PV:=.list [.bytes (q8 x.a x.b),.bytes x.w]
def Ln.ph(x:Ln):PV:=.bR [.int x.n,x.fs,.bytes x.r]
def Ln.Vf(x:Ln):PV:=.bR [.int x.a,.int x.b,x.fs,.int x.n]
noncomputable def Ln.tr(x:Ln):Tr:=(x.a,x.b,x.n)
section
variable{d n:Nat}{s:aH}{E:PV->aH->Prop}{k:Int}
theorem W7{x y:PV}{r:List PV}:gq s (.list (x::y::r)) (.int 1)=some y:=Ah (i:=1) rfl rfl
theorem Tp{e:cb}{o:PV}{rest:List PV}{Q:Fl->L->aH->Prop}(r:∀(x:Ln),x.ok->e Fn.gN [.bytes (q8 x.a x.b),.int x.n] s=.ok (false,.bR [.int x.a,.int x.b]) s)(xs:List Ln):∀(acc:List PV){a b c f g:Slot},(∀x∈xs,x.ok)->acc.length+xs.length<=eu->(∀a b c f g,fJ (λh l s k=>pT [3,4,5] h l λl=>bS e E 397 (ft f9.body) l s k) rest [.val o,.val (.int 2),.cj (acc++xs.map Ln.Vf),a,b,c,f,g] s Q)->fJ (λh l s k=>pT [3,4,5] h l λl=>bS e E 397 (ft f9.body) l s k) (xs.map Ln.ph++rest) [.val o,.val (.int 2),.cj acc,a,b,c,f,g] s Q:=by refine(?H:gB (by induction xs with|nil=>intro acc a b c f g _ _ q;have:=q a b c f g;rwa[fP,aT]at this|cons x xs t=>intro acc a b c f g i j q;refine j1 ?_;dsimp[ft,f9,Ln.ph,Ln.fs];apply aQ;dsimp;apply aQ;dsimp;refine oS H8 (Wp.of (r x (i x (.head _))) ?_);dsimp;apply aQ;dsimp;refine so (aw (bI (jV _)) j) ?_;refine t (acc++[x.Vf]) (λy m=>i y (.tail _ m)) (by rw[ah,cM,cE _ xs.length];exact j) λa b c f g=>?_;rw[aG];exact q a b c f g)) gA;intro w;delta id at w;(try dsimp-zetaHave only at w);refine(?F:gC _) _ w;exactλp _=>p
theorem B0{o:List Nat}{xs:List Ln}{rest:List PV}{Q:Bool×PV->aH->Prop}(j:au (d+4) Fn.dR [.bytes o] s=.ok (true,.list (xs.map Ln.ph++rest)) s)(m:∀x∈xs,x.ok)(p:xs.length<=eu)(q:∀a b c f g,fJ (λe l s k=>pT [3,4,5] e l λl=>bS (au (d+4)) E 397 (ft f9.body) l s k) rest [.val (.bytes o),.val (.int 2),.cj (xs.map Ln.Vf),a,b,c,f,g] s λi l s=>Bm i (bS (au (d+4)) E 398 [.tj 2] l s λi _ s=>Q (DB i) s) λv=>Q v s):Wp (au (d+5) Fn.kW [.bytes o,.int 2] s) Q E:=by refine bq f9 rfl rfl ?_;dsimp[f9,bx];apply aQ;dsimp;apply aQ;dsimp;refine Wp.of j ?_;exact Tp (λx h=>gN h.1 h.2.1 h.2.2.1.1 h.2.2.1.2) xs [] m (by rw[i6,bO];exact p) q
theorem PK{o:List Nat}{xs:List Ln}(h:au (d+4) Fn.dR [.bytes o] s=.ok (true,.list (xs.map Ln.ph)) s)(e:∀x∈xs,x.ok)(i:xs.length<=eu):au (d+5) Fn.kW [.bytes o,.int 2] s=.ok (true,.list (xs.map Ln.Vf)) s:=by refine Wp.eq (B0 (rest:=[]) (by refine zl (aT _) ?_;exact h) e i λa b c f g=>?_);dsimp;apply aQ;dsimp;exact⟨rfl,rfl⟩
theorem An{o:List Nat}{xs:List Ln}{m:Int}{fs:List PV}{r:PV}(h:au (d+4) Fn.dR [.bytes o] s=.ok (true,.list (xs.map Ln.ph++[.bR [.int m,.list fs,r]])) s)(i:∀x∈xs,x.ok)(j:xs.length<=eu)(e:fs.length=3\/∃f g,fs=[f,g]/\au (d+4) Fn.gN [f,.int m] s=.kc (.int m) s):au (d+5) Fn.kW [.bytes o,.int 2] s=.kc (.int m) s:=by
 refine Wp.SY (B0 h i j λa b c f g=>j1 ?_);dsimp[ft,f9];apply aQ;dsimp;clear h;rcases e with e|⟨f,g,rfl,e⟩;·refine zl e ?_;refine sl rfl ?_;apply aQ;dsimp;exact⟨rfl,rfl⟩
 ·apply aQ;dsimp;exact oS H8 (Wp.ex e ⟨rfl,rfl⟩)
end
structure Pt where
 x:List Nat
 i:Int
 j:Int
 v:PV
abbrev Gf:=List Nat->Int->PV
noncomputable def nO(g:Gf)(p:Pt):Gf:=λx c=>if x=p.x/\p.i<=c/\c<=p.j then p.v else g x c
noncomputable def mq(g:Gf):List Pt->Prop|[]=>True|p::r=>(0<=p.i/\p.i<=p.j/\p.j<1114111/\lk (g p.x (p.j+1)) p.v/\(0<p.i->lk (g p.x (p.i-1)) p.v))/\mq (nO g p) r
def Ag(g:Gf)(a:uL):Prop:=∀x c,0<=c->c<=1114111->G a x c=g x c
section
variable{d n l N:Nat}{s:aH}{E:PV->aH->Prop}
theorem sY{F:PV->L->aH->(Fl->L->aH->Prop)->Prop}{Q:Fl->L->aH->Prop}(r:Pt->PV)(I:L->Prop)(C:Pt->Prop)(u:∀p e s s' K,C p->I e->s[l]?=some (ML l)->au (d+4) Fn.pv [.ref l,.str p.x,.int p.i,.int p.j,p.v] s=.ok (false,.none) s'->(∀t,I t->K .next t s')->F (r p) e s K)(m:List Pt):∀(s:aH)(e:L)(k:Nat)(y:uL)(g:Gf),DA s l N k y->Ag g y->k+3*m.length<=193->mq g m->(∀p∈m,C p)->I e->(∀t s' o,I t->DA s' l N (k+3*m.length) o->Ag (m.foldl nO g) o->GG l N s s'->Q .next t s')->fJ F (m.map r) e s Q:=by
 induction m with
 |nil=>exactλs e k y g D w z _ _ B q=>q e s y B D w GG.refl
 |cons p m U=>
  intro s e k y g D w z P H B q;obtain⟨⟨p1,p2,A,Z,R⟩,W⟩:=P;have M:k+3*(p::m).length=k+3+3*m.length:=by refine zl aO ?_;exact acB
  rw[M]at z q;have J:(0:Int)<=p.j+1:=by exact o18 p1 p2
  refine wF (D.xX (d:=d) (v:=p.v) (by exact acC z M) p1 p2 (eZ A) (by rw[w _ _ J A];exact Z) (λh=>by rw[w _ _ (by exact o19 h) (by exact acD p2 A J)];exact R h)) λs1 G X Y S V=>?_;refine j1 (u p e s s1 _ (H p (.head _)) B D.i0 X λO b2=>?_);exact U s1 O (k+3) G (nO g p) Y (λx c h0 h1=>by refine zl (S x c h0 h1) ?_;unfold nO;rw[w x c h0 h1]) z W (λq T=>H q (.tail _ T)) b2 λt s' o a b c f=>q t s' o a b c (V.trans f)
theorem Ao{w:List Nat}(h:w∈WS){m:Int}:au (d+3) Fn.fY [.bytes w,.none,.int m] s=.ok (false,.str w) s:=by refine Wp.eq (bq lG rfl rfl ?_);dsimp[lG,bx];apply aQ;dsimp;refine Wp.of (W6 h) ?_;dsimp;apply aQ;dsimp;apply aQ;dsimp;exact⟨rfl,rfl⟩
theorem PL{w v:List Nat}(h:w∈WS){m:Int}{b:Nat}{a:List (PV×PV)}(c:s[b]?=some (.dict a))(f:a.all (λe=>WZ e.1)=true)(g:dw (.str w) a=some (.str v)):au (d+3) Fn.fY [.bytes w,.ref b,.int m] s=.ok (false,.str v) s:=by refine Wp.eq (bq lG rfl rfl ?_);dsimp[lG,bx];apply aQ;dsimp;refine Wp.of (W6 h) ?_;dsimp;apply aQ;dsimp;apply aQ;dsimp;refine oS (H5 c (GF f w)) ?_;refine zl g ?_;refine sr rfl ?_;apply aQ;dsimp;exact oS (LN c (GF f w) g) ⟨rfl,rfl⟩
noncomputable def MF:List Nat:=[48,48,48,48,46,46,49,48,70,70,70,70]
noncomputable def CYR:List Nat:=[67,121,114,108]
theorem LV{m:Int}:au (d+4) Fn.gN [.bytes MF,.int m] s=.ok (false,.bR [.int 0,.int 1114111]) s:=by kernel_rfl
theorem B3{o:List Nat}{a:PV}(b:au (d+4) Fn.dU [.bytes o] s=.ok (true,.list []) s):au (d+5) Fn.dh [.bytes o,.none,a] s=.ok (true,.list []) s:=by refine Wp.eq (bq fF rfl rfl ?_);dsimp[fF,bx];apply aQ;dsimp;apply aQ;dsimp;refine Wp.of b ?_;dsimp;apply aQ;dsimp;exact⟨rfl,rfl⟩
theorem PM{o:List Nat}{m:Int}(a:au (d+4) Fn.dU [.bytes o] s=.ok (true,.list [.bR [.int m,.list [.bytes MF,.bytes CYR]]]) s):au (d+5) Fn.dh [.bytes o,.none,.none] s=.ok (true,.list [.bR [.int 0,.int 1114111,.str CYR]]) s:=by refine(?H:gB (by have b:au (d+4) Fn.fY [.bytes CYR,.none,.int m] s=.ok (false,.str CYR) s:=Ao (by decide);refine Wp.eq (bq fF rfl rfl ?_);dsimp[fF,bx];apply aQ;dsimp;apply aQ;dsimp;refine Wp.of a ?_;dsimp;refine j1 ?_;dsimp;apply aQ;dsimp;apply aQ;dsimp;refine oS rfl (Wp.of LV ?_);dsimp;apply aQ;dsimp;refine oS rfl (Wp.of b ?_);dsimp;apply aQ;dsimp;exact⟨rfl,rfl⟩)) gA;intro w;delta id at w;(try dsimp-zetaHave only at w);refine(?F:gC _) _ w;exactλp _=>p
end
noncomputable def PN(p:Pt):PV:=.bR [.int p.i,.int p.j,p.v]
def j4(c:FC)(i:Nat):List S:=ft (c.body.drop i)
section
variable{d l N:Nat}{s:aH}{E:PV->aH->Prop}
theorem DA.le{k g:Nat}{f:uL}(D:DA s l N k f)(h:k<=g):DA s l N g f:={D with
 rm:=λp i=>by refine qK (D.rm p i) λa b c d e=>?_;exact⟨a,b,c,d,aa e h⟩
 nV:=aa D.nV h}
theorem FD{e:cb}{g o x y l:PV}{Q:Fl->L->aH->Prop}(val:Ln->PV)(xs:List Ln):∀(acc:List PV){a b c d:Slot},(∀x∈xs,e Fn.fY [.bytes x.w,g,.int x.n] s=.ok (false,val x) s)->acc.length+xs.length<=eu->(∀a b c d,Q .next [.val o,.val l,.val x,.val g,.cj (acc++xs.map λx=>.bR [.int x.a,.int x.b,val x]),.val y,a,b,c,d,.bB,.bB,.bB,.bB,.bB] s)->fJ (λf l s k=>pT [6,7,8,9] f l λl=>bS e E 394 (j4 cG 4) l s k) (xs.map Ln.Vf) [.val o,.val l,.val x,.val g,.cj acc,.val y,a,b,c,d,.bB,.bB,.bB,.bB,.bB] s Q:=by induction xs with|nil=>intro acc a b c d _ _ q;have:=q a b c d;rwa[fP,aT]at this|cons z xs m=>intro acc a b c d i h q;refine j1 ?_;dsimp[j4,ft,cG,Ln.Vf,Ln.fs];apply aQ;dsimp;refine oS W7 (Wp.of (i z (.head _)) ?_);dsimp;refine so (aw (bI (jV _)) h) ?_;refine m (acc++[.bR [.int z.a,.int z.b,val z]]) (λy j=>i y (.tail _ j)) (by rw[ah,cM,cE _ xs.length];exact h) λa b c d=>?_;rw[aG];exact q a b c d
set_option genInjectivity false in set_option genCtorIdx false in inductive PI(l:Nat)(x:List Nat):L->Prop|mk(o y z w a b c d f:Slot):PI l x [o,.val (.ref l),.val (.str x),y,z,w,a,b,c,d,f,.bB,.bB,.bB,.bB]
theorem Ap{x:List Nat}(p:Pt)(e:L)(s s':aH)(K:Fl->L->aH->Prop)(k:p.x=x)(m:PI l x e)(h0:s[l]?=some (ML l))(h:au (d+4) Fn.pv [.ref l,.str p.x,.int p.i,.int p.j,p.v] s=.ok (false,.none) s')(q:∀g,PI l x g->K .next g s'):pT [6,7,10] (PN p) e λe=>bS (au (d+4)) E 391 (j4 cG 6) e s K:=by obtain⟨o,y,z,w,a,b,c,d,f⟩:=m;subst k;dsimp[j4,ft,cG,PN];apply aQ;dsimp;refine mI h0 rfl ?_;dsimp;exact Wp.of h (q _ ⟨o,y,z,w,_,_,c,d,_⟩)
theorem LW{o x:List Nat}{A:PV}{xs:List Ln}{mis:Bool}{args:List PV}{val:Ln->PV}{Q:Bool×PV->aH->Prop}(k:gu 4 args=[.bytes o,.ref l,.str x,A])(C:decide (3<=args.length/\args.length<=4)=true)(R:au (d+4) Fn.dR [.bytes o] s=.ok (true,.list (xs.map Ln.ph)) s)(T:∀y∈xs,y.ok)(r:xs.length<=5)(O:au (d+5) Fn.dh [.bytes o,.none,A] s=.ok (true,.list (if mis then[.bR [.int 0,.int 1114111,.str CYR]]else[])) s)(X:jq none (fR d7 (xs.map Ln.tr))=none)(L:∀y∈xs,au (d+5) Fn.fY [.bytes y.w,A,.int y.n] s=.ok (false,val y) s)(D:DA s l N 0 [])(Z:mis=true->lk (qj x) (.str CYR))(t:mq (λy c=>if mis=true/\y=x then .str CYR else qj y) (xs.map λy=>⟨x,y.a,y.b,val y⟩))(q:∀s' g,DA s' l N 30 g->Ag ((xs.map λy=>(⟨x,y.a,y.b,val y⟩:Pt)).foldl nO λy c=>if mis=true/\y=x then .str CYR else qj y) g->GG l N s s'->Q (false,.none) s'):Wp (au (d+6) Fn.dg args s) Q E:=by
 refine(?H:gB (by
  have P:xs.length<=eu:=aa r (by decide);refine bq cG rfl C ?_;rw[show gu cG.np args=_ from k];dsimp[cG,bx];apply aQ;dsimp;refine Wp.of O ?_;dsimp;apply aQ;dsimp;refine Wp.of (PK R T P) ?_;dsimp;apply aQ;dsimp;apply aQ;dsimp;refine oC (q:=λy:Ln=>H9 y.tr) _ (λy _ K h=>h) ?_;refine zl (show(xs.map λy:Ln=>H9 y.tr)=(xs.map Ln.tr).map H9 by rw[bE];rfl) ?_;refine FA (by refine zl (aj _) ?_;exact r) (λ_=>?_) λn e=>by replace e:=X▸e;cases e
  apply aQ;dsimp;apply aQ;dsimp;have m:(xs.map λy=>PV.bR [.int y.a,.int y.b,val y])=(xs.map λy=>(⟨x,y.a,y.b,val y⟩:Pt)).map PN:=by refine zl bE ?_;rfl
  have J:∀p∈xs.map λy=>(⟨x,y.a,y.b,val y⟩:Pt),p.x=x:=λp t=>by refine dq (aL.mp t) λy _ G=>?_;subst G;rfl
  have f:(xs.map λy=>(⟨x,y.a,y.b,val y⟩:Pt)).length<=5:=by refine zl (aj _) ?_;exact r
  clear O;cases mis with
  |false=>
   refine FD val xs [] L ((bO _).symm▸P) λa b c e=>?_;dsimp;apply aQ;dsimp;apply aQ;dsimp;refine zl m ?_;refine sY (d:=d+1) PN (PI l x) (λp=>p.x=x) Ap _ s _ 0 [] _ D (λy c _ _=>?_) (by exact acE f) t J ⟨_,_,_,_,_,_,_,_,_⟩ λM s' g _ B z u=>?_;·exact(if_neg λh=>mR h.1).symm
   ·exact q s' g (B.le (by exact acF f)) z u
  |true=>
   refine FD val xs [_] L (aa (aD r 1) (by decide)) λa b c e=>?_;dsimp;apply aQ;dsimp;apply aQ;dsimp;refine zl m ?_;refine wF (D.xX (d:=d+1) (v:=.str CYR) (x:=x) (i:=0) (j:=1114111) (by decide) (by decide) (by decide) (by decide) (Z rfl) (λh=>absurd h (by decide))) λs1 I V W S U=>?_;refine j1 (Ap (d:=d+1) ⟨x,0,1114111,.str CYR⟩ _ s s1 _ rfl ⟨_,_,_,_,_,_,_,_,_⟩ D.i0 V λM Y=>?_);refine sY (d:=d+1) PN (PI l x) (λp=>p.x=x) Ap _ s1 _ 3 I _ W (λy c h0 h1=>?_) (by exact acG f) t J Y λM s' g _ B z u=>?_;·
    refine zl (S y c h0 h1) ?_;by_cases e:y=x;·refine zl (if_pos ⟨e,h0,h1⟩) ?_;exact zl (if_pos ⟨rfl,e⟩) rfl
    ·rw[if_neg λh=>e h.1,if_neg λh=>e h.2];rfl
   ·exact q s' g (B.le (by exact acH f)) z (U.trans u))) gA
 intro w;delta id at w;(try dsimp-zetaHave only at w);refine(?F:gC _) _ w;exactλp _=>p
end
abbrev Rg:=Nat×Nat×PV
noncomputable def sZ(x:Rg):PV:=.bR [.int x.1,.int x.2.1,x.2.2]
inductive Ib(vy:Nat)(vs:List PV):List Rg->Nat->Prop|nil:Ib vy vs [] vy|Z6{xs:List Rg}{low a b:Nat}{v:PV}:Ib vy vs xs low->low<=a->a<=low+2->a<=b->b<=a+3->v∈vs->Ib vy vs (xs++[(a,b,v)]) (b+1)
section
variable{d:Nat}{r:aH}{cs:List Int}{m:Int}{Q:Bool×PV->aH->Prop}{E:PV->aH->Prop}
theorem nP{n:Nat}(e:jo cs m)(h0:0<n)(q:∀(v:Nat)a b,v<n->jo a b->Q (false,.int v) (.cK a b::r)):Wp (au (d+1) Fn.d8 [.ref 0,.int n] (.cK cs m::r)) Q E:=draw e (t8.mpr h0) λv a b h1 f c=>by obtain⟨k,rfl⟩:=Int.eq_ofNat_of_zero_le h1;exact q k a b (bX.mp f) c
theorem Sz{vs:List PV}(f:jo cs m)(h0:0<vs.length)(q:∀v a b,v∈vs->jo a b->Q (false,v) (.cK a b::r)):Wp (au (d+2) Fn.iT [.ref 0,.list vs] (.cK cs m::r)) Q E:=by refine bq uw rfl rfl ?_;dsimp[uw,bx];apply aQ;dsimp;refine nP f h0 λv a b c e=>?_;exact oS (Ah rfl (aX c)) (q _ _ _ (Bv c) e)
theorem vX{g:Type}{f:g->PV}{l:List g}{vs:List PV}(c:vs=l.map f)(b:jo cs m)(h0:0<l.length)(q:∀x a e,x∈l->jo a e->Q (false,f x) (.cK a e::r)):Wp (au (d+2) Fn.iT [.ref 0,.list vs] (.cK cs m::r)) Q E:=c▸Sz b (by rwa[aj]) λv cs m c b=>by obtain⟨x,h,rfl⟩:=aL.mp c;exact q x cs m h b
theorem Tq{vs:List PV}{b:Nat}{Q:Fl->L->aH->Prop}(h0:0<vs.length)(g:List PV):∀(xs:List Rg)(f:Nat)(cs:List Int)(m:Int){x y z:Slot},xs.length+g.length<=4->Ib b vs xs f->jo cs m->(∀h f j A x y z w,Ib b vs h f->h.length=xs.length+g.length->jo j A->Q .next [.val (.ref 0),.val (.list vs),.cj (h.map sZ),w,x,y,z] (.cK j A::r))->fJ (λt l s k=>bS (au (d+2)) E 397 (ft kC.body) (pt l 4 (.val t)) s k) g [.val (.ref 0),.val (.list vs),.cj (xs.map sZ),.val (.int f),x,y,z] (.cK cs m::r) Q:=by refine(?H:gB (by induction g with|nil=>intro xs f cs m x y z _ B o q;exact q xs f cs m _ _ _ _ B rfl o|cons i g G=>intro xs f cs m x y z C B o q;have e:xs.length+(i::g).length=xs.length+1+g.length:=bg xs.length g.length 1;rw[e]at C q;have K:xs.length<eu:=aw (aw (cB _) (aR _ g.length)) (aa C (by decide));refine j1 ?_;dsimp[ft,kC];apply aQ;dsimp;refine nP (n:=3) o (by decide) λu cs m M o=>?_;dsimp;apply aQ;dsimp;refine nP (n:=4) o (by decide) λw cs m I o=>?_;dsimp;apply aQ;dsimp;refine Sz o h0 λv cs m J o=>?_;dsimp;refine so (by rw[aj];exact K) ?_;apply aQ;dsimp;have D:=B.Z6 (aR f u) (aD (gR M) f) (aR (f+u) w) (aD (gR I) (f+u)) J;have:=G (x:=.val i) (y:=.val (.int (f+u:Nat))) (z:=.val (.int (f+u+w:Nat))) (xs++[(f+u,f+u+w,v)]) (f+u+w+1) cs m (by rw[ah];exact C) D o λh f j A x y z w a b c=>q h f j A x y z w a (b.trans (by rw[ah];rfl)) c;rw[ba]at this;exact this)) gA;intro w;delta id at w;(try dsimp-zetaHave only at w);refine(?F:gC _) _ w;exactλp _=>p
theorem Ic{vs:List PV}(g:jo cs m)(h0:0<vs.length)(q:∀a xs c h u,a∈bases->Ib a vs xs c->0<xs.length->xs.length<=4->jo h u->Q (true,.list (xs.map sZ)) (.cK h u::r)):Wp (au (d+3) Fn.nk [.ref 0,.list vs] (.cK cs m::r)) Q E:=by
 refine(?H:gB (by
  refine bq kC rfl rfl ?_;dsimp[kC,bx];apply aQ;dsimp;refine nP (n:=4) g (by decide) λv cs m s g=>?_;have o:bases.length=4:=rfl;refine oS (Ah (v:=.int (bases[v]'(o▸s):Nat)) rfl ((bV (l:=bases) (f:=λb:Nat=>PV.int b) (i:=v)).trans (congrArg (dI _) (aX (o▸s))))) ?_;apply aQ;dsimp;refine nP (n:=4) g (by decide) λt cs m k g=>?_;dsimp;refine oS (if_pos ⟨bM (Int.add_le_add_left (bW.mpr (bT k)) 1) (by decide),bM (by decide) (Int.add_nonneg (by decide) (bb t))⟩) ?_;have j:(1+(t:Int)).toNat=1+t:=rfl;refine Tq (b:=bases[v]'(o▸s)) h0 _ [] _ cs m ?_ .nil g λxs c cs m x y z w A e g=>?_;·rw[aj,lX,j,cE 1 t];exact(bO _).symm▸k
  ·rw[aj,lX,j]at e;dsimp;apply aQ;dsimp;exact q _ xs c cs m (Bv _) A (e▸by rw[i6];exact acI k j e) (e▸by rw[i6];exact acJ k j e) g)) gA
 intro w;delta id at w;(try dsimp-zetaHave only at w);refine(?F:gC _) _ w;exactλp _=>p
end
noncomputable def Ts(c:Int)(x:Rg):Option PV:=if(x.1:Int)<=c/\c<=x.2.1 then some x.2.2 else none
def jz(xs:List Rg)(c:Int)(dv:PV):PV:=(xs.filterMap (Ts c)).headD dv
noncomputable def W8(x:Rg):List PV:=[.int ((x.1:Int)-1),.int x.1,.int x.2.1,.int ((x.2.1:Int)+1)]
def uM(xs:List Rg):List PV:=[.int 0,.int 1114111]++xs.flatMap W8
theorem uN{xs:List Rg}{p:PV}(h:p∈uM xs):∃c:Int,p=.int c/\(c=0\/c=1114111\/∃x∈xs,c=(x.1:Int)-1\/c=x.1\/c=x.2.1\/c=(x.2.1:Int)+1):=by
 rcases av.mp h with rfl|h;·exact⟨_,rfl,.inl rfl⟩
 ·rcases av.mp h with rfl|h;·exact⟨_,rfl,.inr (.inl rfl)⟩
  ·refine dq (mQ.mp h) λx a h=>?_;rcases av.mp h with rfl|h;·exact⟨_,rfl,.inr (.inr ⟨x,a,.inl rfl⟩)⟩
   ·rcases av.mp h with rfl|h;·exact⟨_,rfl,.inr (.inr ⟨x,a,.inr (.inl rfl)⟩)⟩
    ·rcases av.mp h with rfl|h;·exact⟨_,rfl,.inr (.inr ⟨x,a,.inr (.inr (.inl rfl))⟩)⟩
     ·cases ao.mp h;exact⟨_,rfl,.inr (.inr ⟨x,a,.inr (.inr (.inr rfl))⟩)⟩
section
variable{d l N k:Nat}{s:aH}{es:uL}{x:List Nat}{dv:PV}{xs:List Rg}
theorem FE{ys:List PV}:eD s .ne (.list ys) (.list [])=some (!ys.isEmpty):=by cases ys<;>rfl
theorem value{c:Int}:au (d+1) Fn.wI [.list (xs.map sZ),.int c,dv] s=.ok (false,jz xs c dv) s:=by
 refine Wp.eq (bq rG rfl rfl ?_);dsimp[rG,bx];apply aQ;dsimp;refine Aj (q:=Ts c) _ (λy _ K h=>?_) ?_;·
  dsimp[sZ];unfold Ts at h;by_cases q1:(y.1:Int)<=c;·
   refine so q1 ?_;by_cases q2:c<=y.2.1;·rw[if_pos ⟨q1,q2⟩]at h;exact so q2 h
   ·rw[if_neg λq=>q2 q.2]at h;exact sn q2 h
  ·rw[if_neg λq=>q1 q.1]at h;exact sn q1 h
 ·apply aQ;dsimp;apply aQ;dsimp;refine oS FE ?_;unfold jz;cases xs.filterMap (Ts c)with|nil=>exact⟨rfl,rfl⟩|cons y r=>exact oS H8 ⟨rfl,rfl⟩
theorem Tt{e:cb}{E:PV->aH->Prop}{o:PV}{Q:Fl->L->aH->Prop}(xs:List Rg):∀(acc:List PV){a b c:Slot},acc.length+4*xs.length<eu->(∀a b c,Q .next [.val o,.cj (acc++xs.flatMap W8),a,b,c] s)->fJ (λf l s k=>pT [2,3,4] f l λl=>bS e E 397 (ft kD.body) l s k) (xs.map sZ) [.val o,.cj acc,a,b,c] s Q:=by
 induction xs with
 |nil=>intro acc a b c _ q;have:=q a b c;rwa[List.flatMap_nil,aT]at this
 |cons x xs i=>
  intro acc a b c h q;refine j1 ?_;dsimp[ft,kD,sZ];apply aQ;dsimp;have g:acc.length+4+4*xs.length<eu:=by rw[aO]at h;exact acK h
  refine so (aA (aR ..) g) (i (acc++W8 x) (by rw[ah];exact g) λa b c=>?_);have:=q a b c;rwa[gW,<-aG]at this
theorem JN(e:xs.length<=100):au (d+1) Fn.ql [.list (xs.map sZ)] s=.ok (true,.list (uM xs)) s:=by refine Wp.eq (bq kD rfl rfl ?_);dsimp[kD,bx];apply aQ;dsimp;apply aQ;dsimp;refine Tt xs [.int 0,.int 1114111] (aA (aD (bo 4 e) 2) (by decide)) λa b c=>?_;dsimp;apply aQ;dsimp;exact⟨rfl,rfl⟩
theorem told(D:DA s l N k es)(i:k<=250)(n:xs.length<=100)(h:∀c,.int c∈uM xs->0<=c/\G es x c=jz xs c dv/\(ui (jz xs c dv)).isSome=true):au (d+4) Fn.f5 [.ref l,.str x,.list (xs.map sZ),dv] s=.ok (false,.bool true) s:=by
 have e:∀v t,ui v=some t->gX s .Eg [v]=some (false,.str t):=λv t h=>by show((ui v).map _).map _=_;refine zl h ?_;rfl
 refine Wp.eq (bq oJ rfl rfl ?_);dsimp[oJ,bx];apply aQ;dsimp;refine Wp.of (JN n) ?_;dsimp;refine zr (Q8 (uM xs)) ?_;refine Aj (q:=λ_=>none) _ (λy f K j=>?_) ?_;·refine dq (uN f) λc b _=>?_;subst b;refine uU (h c f) λp1 p2 m=>?_;refine zE (cV.mp m) λt g=>?_;have a:=D.get (d:=d) i (x:=x) p1;replace a:=p2▸a;dsimp;refine mI D.i0 rfl ?_;dsimp;refine Wp.of a (oS (e _ _ g) (Wp.of value (oS (e _ _ g) ?_)));dsimp;refine sr ?_ j;refine zl (beq_self_eq_true _) ?_;rfl
 ·refine zl (eA.mpr λ_ _=>rfl) ?_;exact⟨rfl,rfl⟩
end
def MM(x:Rg)(c:Int):Prop:=(x.1:Int)<=c/\c<=x.2.1
def Dj(xs:List Rg):Prop:=xs.Pairwise λp q=>∀c,¬(MM p c/\MM q c)
def PO(xs:List Rg):Prop:=xs.Pairwise λp q=>p.2.1<q.1
theorem PO.dj{xs:List Rg}(h:PO xs):Dj xs:=VN (λ{p q}h c k=>X8 h (bW.mp (bM k.2.1 k.1.2))) h
theorem Dj.Ra{xs:List Rg}(h:Dj xs):Dj xs.reverse:=by unfold Dj;rw[List.pairwise_reverse];exact VN (λ{p q}h c k=>h c ⟨k.2,k.1⟩) h
theorem Ib.PQ{d:Nat}{vs:List PV}{xs:List Rg}{e:Nat}(h:Ib d vs xs e):PO xs/\(∀x∈xs,d<=x.1/\x.1<=x.2.1/\x.2.1<e/\x.2.1<x.1+4/\x.2.2∈vs)/\d<=e/\e<=d+6*xs.length:=by
 induction h with
 |nil=>exact⟨.nil,λ_ h=>absurd h bJ,bf _,bf _⟩
 |@Z6 ys t s r v0 h h1 l g k n j=>
  refine t9 j λa b c dd=>?_;clear j;have i:=aa h1 g;refine⟨?_,?_,aa c (b7 i),by refine zl ah ?_;exact aa (aB (aa k (ar l 3))) (ar dd 6)⟩;·refine jG.mpr ⟨a,iE _ _,λp o q m=>?_⟩;cases ao.mp m;exact aw (b p o).2.2.1 h1
  ·intro x f;rcases bk.mp f with f|f;·have:=b x f;exact⟨this.1,this.2.1,aw this.2.2.1 (b7 i),this.2.2.2⟩
   ·cases ao.mp f;exact⟨aa c h1,g,cB _,qT k,n⟩
theorem DH{b c:Nat}(d:b∈bases)(h:b<=c+1)(a:c<b+26):c∈gk:=mQ.mpr ⟨b,d,aL.mpr ⟨c+1-b,iC.mpr (j7 h (X9 a)),congrArg (·-1) (fK h)⟩⟩
theorem Tu{b:Nat}(a:b∈bases):64<=b/\b<=1114080:=(by decide:∀b∈bases,64<=b/\b<=1114080) b a
theorem Ib.rc{d:Nat}{vs:List PV}{xs:List Rg}{n:Nat}(h:Ib d vs xs n)(m:d∈bases)(p:xs.length<=4){x:Rg}(o:x∈xs):x.1∈gk/\x.2.1∈gk/\x.1-1∈gk/\x.1<=x.2.1/\x.2.1<x.1+4/\64<=x.1/\x.2.1+1<1114111/\x.2.2∈vs:=by obtain⟨_,f,_,g⟩:=h.PQ;refine qK (f x o) λa b c e v=>?_;have l:=Tu m;have j:x.2.1<d+24:=aw c (aa g (aD (bo 6 p) d));have i:x.2.1<d+26:=aw j (aD (by decide) d);have k:=aa l.1 a;exact⟨DH m (b7 a) (aA b i),DH m (aa a (b7 b)) i,DH m ((eN (aa (by decide:1<=64) k)).symm▸a) (aA (aa (jC ..) b) i),b,e,k,aA (aa j (ar l.2 24)) (by decide),v⟩
theorem Z7{y:Rg}{c:Int}(h:MM y c):Ts c y=some y.2.2:=if_pos h
theorem Vg{y:Rg}{c:Int}(h:¬MM y c):Ts c y=none:=if_neg h
theorem s7{xs:List Rg}(h:Dj xs){y:Rg}(a:y∈xs){c:Int}(b:MM y c){dv:PV}:jz xs c dv=y.2.2:=by
 unfold jz;induction xs with
 |nil=>cases a
 |cons z r e=>
  obtain⟨h1,d⟩:=bG.mp h;rw[kg];rcases av.mp a with rfl|a;·rw[Z7 b];rfl
  ·rw[Vg λq=>h1 y a c ⟨q,b⟩];exact e d a
theorem s8{xs:List Rg}{c:Int}(h:∀y∈xs,¬MM y c){dv:PV}:jz xs c dv=dv:=by unfold jz;rw[eA.mpr λz hz=>Vg (h z hz)];rfl
noncomputable def uO(x:List Nat)(y:Rg):Pt:=⟨x,y.1,y.2.1,y.2.2⟩
theorem s9{x y:List Nat}{c:Int}{xs:List Rg}:∀{g:Gf},(y=x->∀z∈xs,¬MM z c)->(xs.map (uO x)).foldl nO g y c=g y c:=by induction xs with|nil=>intro _ _;exact rfl|cons z r b=>intro g h;exact(b (g:=nO g (uO x z)) λe w a=>h e w (.tail _ a)).trans (if_neg λk=>h k.1 z (.head _) k.2)
theorem PR{x:List Nat}{c:Int}{xs:List Rg}{g:Gf}(h:Dj xs){y:Rg}(b:y∈xs)(d:MM y c):(xs.map (uO x)).foldl nO g x c=y.2.2:=by
 induction xs generalizing g with
 |nil=>cases b
 |cons z r f=>
  obtain⟨h1,e⟩:=bG.mp h;clear h;rcases av.mp b with rfl|a;·exact(s9 (xs:=r) (g:=nO g (uO x y)) λ_ w i k=>h1 w i c ⟨d,k⟩).trans (if_pos ⟨rfl,d⟩)
  ·exact f e a
theorem Aq{x:List Nat}{xs ys:List Rg}(h:Dj xs)(d:∀y,y∈ys↔y∈xs)(a:Dj ys){g:Gf}{c:Int}:(ys.map (uO x)).foldl nO g x c=jz xs c (g x c):=by
 by_cases q:∃y∈xs,MM y c;·obtain⟨y,h1,b⟩:=q;rw[PR a ((d y).mpr h1) b,s7 h h1 b]
 ·have q':∀y∈xs,¬MM y c:=λy a k=>q ⟨y,a,k⟩;rw[s9 λ_ y a=>q' y ((d y).mp a),s8 q']
theorem JO{a b:List Nat}:lk (.str a) (.str b):=⟨rfl,λ_=>rfl⟩
theorem PS{a b:Bool}:lk (.bool a) (.bool b):=⟨rfl,λ_=>rfl⟩
theorem LX{x:List Nat}{K:PV->Prop}(e:∀a b,K a->K b->lk a b){xs:List Rg}:∀{g:Gf},(∀c,K (g x c))->(∀y∈xs,K y.2.2/\y.1<=y.2.1/\y.2.1<1114111)->mq g (xs.map (uO x)):=by
 induction xs with
 |nil=>intro _ _ _;exact trivial
 |cons z r i=>
  intro g h1 f;refine uU (f z (.head _)) λd k j=>?_;refine⟨⟨bb z.1,bW.mpr k,bX.mpr j,e _ _ (h1 _) d,λ_=>e _ _ (h1 _) d⟩,i (λc=>?_) λy h=>f y (.tail _ h)⟩;unfold nO;split;·exact d
  ·exact h1 c
def Ar(a:List Tr):Prop:=a.Pairwise λp q=>p.2.1<q.1
theorem LY{c:List Tr}:∀{h:Tr},Ar c->(∀t∈c,t.1<=t.2.1/\h.2.1<t.1)->jq (some h) c=none:=by induction c with|nil=>intro _ _ _;exact rfl|cons t r i=>intro h h1 f;obtain⟨a,b⟩:=bG.mp h1;obtain⟨g,d⟩:=f t (.head _);rw[vW,if_neg (cu.mpr d),if_pos (cR d g)];exact i b λu e=>⟨(f u (.tail _ e)).1,a u e⟩
theorem As{c:List Tr}(h:Ar c)(e:∀t∈c,t.1<=t.2.1):jq none c=none:=by cases c with|nil=>rfl|cons t r=>obtain⟨a,b⟩:=bG.mp h;exact LY b λu d=>⟨e u (.tail _ d),a u d⟩
theorem DJ{p q:Tr}(h:p.1<q.1):d7 q p=false:=by unfold d7;rw[decide_eq_false (bY.mpr (eZ h)),show(q.1==p.1)=false from beq_eq_false_iff_ne.mpr (dB (Int.ne_of_lt h))];rfl
theorem Ar.srt{a:List Tr}(h:Ar a)(c:∀t∈a,t.1<=t.2.1):R.vJ d7 a:=IS (λ{p q}b d h=>DJ (dT (c p b) h)) h
theorem JP{b:List Tr}(h:Ar b)(d:∀t∈b,t.1<=t.2.1){a:List Tr}(c:b.Perm a):fR d7 a=b:=R.rW vK c (h.srt d)
theorem Ie{t:Tr}{r:List Tr}{n:Int}(h:Ar (t::r))(f:∀u∈t::r,u.1<=u.2.1/\u.2.2<n){d:List Tr}(i:((t::r)++[(t.2.1,t.2.1,n)]).Perm d):jq none (fR d7 d)=some n:=by
 obtain⟨a,b⟩:=bG.mp h;obtain⟨j,e⟩:=f t (.head _);have:fR d7 d=t::(t.2.1,t.2.1,n)::r:=by
  refine R.rW vK (Yv (List.Perm.cons _ (M0 (l₁:=[(t.2.1,t.2.1,n)]) (l₂:=r))) i) ?_;have g:=bG.mp (h.srt λu c=>(f u c).1);refine bG.mpr ⟨λu c=>?_,bG.mpr ⟨λu c=>DJ (a u c),g.2⟩⟩;rcases av.mp c with rfl|c;·unfold d7;show(decide (t.2.1<t.1)||(t.2.1==t.1&&(decide (t.2.1<t.2.1)||(t.2.1==t.2.1&&decide (n<t.2.2)))))=false;rw[decide_eq_false (bY.mpr j),decide_eq_false (m9 _),decide_eq_false (bY.mpr (eZ e)),lU,Bool.or_self,lU];rfl
  ·exact g.1 u c
 rw[this,Fz,vW,if_pos (gU _),if_neg (bY.mpr (eZ e))]
theorem Ig{t:Tr}{r:List Tr}{n:Int}(h:Ar (t::r))(f:∀u∈t::r,u.1<=u.2.1/\u.2.2<n){d:List Tr}(i:((t::r)++[(t.1-1,t.1,n)]).Perm d):jq none (fR d7 d)=some n:=by
 obtain⟨a,b⟩:=bG.mp h;obtain⟨j,g⟩:=f t (.head _);have:fR d7 d=(t.1-1,t.1,n)::t::r:=by
  refine R.rW vK (Yv (M0 (l₁:=[(t.1-1,t.1,n)]) (l₂:=t::r)) i) ?_;refine bG.mpr ⟨λu c=>DJ ?_,h.srt λu c=>(f u c).1⟩;have e:t.1-1<t.1:=D4 _ (by decide);clear h f i g;rcases av.mp c with rfl|c;·exact e
  ·exact cR e (bM j (eZ (a u c)))
 rw[this,Fz,vW,if_pos (gU _),if_pos g]
theorem W9{c:Nat}(l:List Nat)(n:Nat)(acc:List Nat)(h:c∉l):f7 [c] n acc l=[acc.reverse++l]:=by
 induction l generalizing n acc with
 |nil=>cases n with|zero=>rfl|succ n=>rw[sD,aT]
 |cons x r b=>
  cases n with
  |zero=>rfl
  |succ n=>
   have a:¬c=x:=λq=>h (by rw[q];exact .head _);have:cU [c] (x::r)=false:=by simp[cU,a]
   rw[jc,if_neg (by rw[this];simp),b n _ λq=>h (.tail _ q)];simp
theorem Xa{c:Nat}(l:List Nat)(n:Nat)(acc r:List Nat)(h:c∉l)(a:l.length<n):f7 [c] n acc (l++c::r)=(acc.reverse++l)::f7 [c] (n-l.length-1) [] r:=by
 induction l generalizing n acc with
 |nil=>
  cases n with
  |zero=>exact absurd a (Yw _)
  |succ n=>
   have:cU [c] (c::r)=true:=by simp[cU]
   rw[dS,jc,if_pos this];simp
 |cons x l d=>
  cases n with
  |zero=>exact absurd a (Yw _)
  |succ n=>
   have b:¬c=x:=λq=>h (by rw[q];exact .head _);have:cU [c] (x::(l++c::r))=false:=by simp[cU,b]
   rw[b8,jc,if_neg (by rw[this];simp),d n _ (λq=>h (.tail _ q)) (tB a)];simp
theorem je{c:Nat}{x y:List Nat}{r:List (List Nat)}:bD [c] (x::y::r)=x++c::bD [c] (y::r):=by show x++[c]++bD [c] (y::r)=_;simp
theorem Tv{c:Nat}(fs:List (List Nat))(n:Nat)(h0:fs≠[])(h:∀f∈fs,c∉f)(a:(bD [c] fs).length<n):f7 [c] n [] (bD [c] fs)=fs:=by induction fs generalizing n with|nil=>exact absurd rfl h0|cons x r d=>cases r with|nil=>show f7 [c] n [] x=_;rw[W9 x n [] (h x (.head _))];rfl|cons y r=>rw[je]at a⊢;simp at a;rw[Xa x n [] _ (h x (.head _)) (by exact acL a),d _ (by simp) (λf b=>h f (.tail _ b)) (by exact acM a)];rfl
theorem nQ{c:Nat}{fs:List (List Nat)}(h0:fs≠[])(h:∀f∈fs,c∉f):du (bD [c] fs) [c]=fs:=Tv fs _ h0 h (by exact o7)
theorem B4{c:Nat}{fs:List (List Nat)}{y:List Nat}(h:fs≠[]):bD [c] (fs++[y])=bD [c] fs++c::y:=by induction fs with|nil=>exact absurd rfl h|cons x r a=>cases r with|nil=>simp[oj,om]|cons z r=>rw[b8,b8,je,<-b8,a (by simp),je];simp
theorem r7{c:Nat}{fs:List (List Nat)}(h:∀f∈fs,c∉f):du (fs.flatMap λf=>f++[c]) [c]=fs++[[]]:=by
 have b:∀fs:List (List Nat),(fs.flatMap λf=>f++[c])=bD [c] (fs++[[]]):=by intro fs;induction fs with|nil=>rfl|cons x r d=>rw[gW,d];cases r with|nil=>simp[oj,om]|cons y r=>simp[je]
 rw[b,nQ (by simp) λf a=>?_];rcases bk.mp a with a|a;·exact h f a
 ·rw[ao.mp a];simp
noncomputable def qC:List Nat:=[32,59,32]
noncomputable def Ri:List Nat:=[32,35,32,114]
def B5(a b:Nat)(w:List Nat):List Nat:=q8 a b++qC++w++Ri
def fv(a b:Nat)(w:List Nat):List Nat:=q8 a b++qC++w
noncomputable def WR:List (List Nat):=[[76,97,116,110],[71,114,101,107],[67,121,114,108]]
def WW:List (List Nat):=WR++[[76,97,116,105,110],[71,114,101,101,107],[67,121,114,105,108,108,105,99],[73,68,95,83,116,97,114,116],[67,97,115,101,100]]
def jr(l:List Nat):Bool×List (List Nat)×List Nat×Bool×Bool:=(cm BL (dY l)==[],(du (dY l) [59]).map (cm BL),cm BL (pU l),lg l,l.contains 10)
def FG:List Nat->Bool|[]=>false|c::_=>!BL.contains c
def jS(f:List Nat):Bool:=(f.all λc=>c !=35&&c !=59&&c !=10)&&FG f&&FG f.reverse
theorem PT(a:List Nat):∀(r:List Nat),a.all (λc=>BL.contains c)=true->FG r=true->gE BL (a++r)=r:=by
 induction a with
 |nil=>intro r _ b;cases r with|nil=>cases b|cons c r=>unfold FG at b;unfold gE;rw[dS,ke,if_neg (by simpa using b)]
 |cons c a e=>intro r b d;rw[bP,ax]at b;have:=e r b.2 d;unfold gE at this⊢;rw[b8,ke,if_pos b.1,this]
theorem qD{g:List Nat}(h:FG g=true)(b:List Nat):FG (g++b)=true:=by cases g with|nil=>cases h|cons c g=>exact h
theorem DK{f:List Nat}(h1:FG f=true)(e:FG f.reverse=true)(a b:List Nat)(d:a.all (λc=>BL.contains c)=true)(g:b.all (λc=>BL.contains c)=true):cm BL (a++f++b)=f:=by unfold cm;rw[aG,PT a (f++b) d (qD h1 b),kh,PT b.reverse f.reverse (by rw[List.all_reverse];exact g) e,jE]
theorem xO{f:List Nat}(h:jS f=true)(a b:List Nat)(d:a.all (λc=>BL.contains c)=true)(e:b.all (λc=>BL.contains c)=true):cm BL (a++f++b)=f:=by unfold jS at h;rw[ax,ax]at h;exact DK h.1.2 h.2 a b d e
theorem pV{f:List Nat}(h:jS f=true):35∉f/\59∉f/\10∉f:=by unfold jS at h;rw[ax,ax,bj]at h;refine⟨λq=>?_,λq=>?_,λq=>?_⟩<;>(have:=h.1.1 _ q;simp at this)
theorem JQ{c:Nat}(l:List Nat):∀(i:Nat),c∉l->nv [c] l i=-1:=by induction l with|nil=>intro i _;exact rfl|cons x r b=>intro i h;have a:¬c=x:=λq=>h (by rw[q];exact .head _);rw[mA,if_neg (by simp[cU,a]),b _ λq=>h (.tail _ q)]
theorem Tw{c:Nat}(l:List Nat):∀(i:Nat)(r:List Nat),c∉l->nv [c] (l++c::r) i=(i+l.length:Nat):=by induction l with|nil=>intro i r _;rw[dS,mA,if_pos (by simp[cU])];rfl|cons x l b=>intro i r h;have a:¬c=x:=λq=>h (by rw[q];exact .head _);rw[b8,mA,if_neg (by simp[cU,a]),b _ r λq=>h (.tail _ q)];simp;exact acN
theorem B6{f w z:List Nat}(i:jS f=true)(h:jS w=true)(hz:z.all (λc=>BL.contains c)=true)(g:59∉z):(du (f++qC++w++z) [59]).map (cm BL)=[f,w]:=by
 have e:f++qC++w++z=bD [59] [f++[32],[32]++w++z]:=by unfold qC;simp[oj,om]
 rw[e,nQ (by simp) λx d=>?_];·
  rw[aM,aM,fP];congr 1;·have:=xO i [] [32] rfl rfl;rw[dS]at this;exact this
  ·rw[xO h [32] z rfl hz]
 ·have a:=(pV i).2.1;have b:=(pV h).2.1;rcases av.mp d with rfl|d;·simp[a]
  ·rw[ao.mp d];simp[b,g]
theorem LZ{f w:List Nat}(b:jS f=true)(e:jS w=true):jr (f++qC++w)=(false,[f,w],[],false,false):=by
 refine uU (pV b) λa1 m j=>?_;clear m;refine uU (pV e) λl q p=>?_;have d:35∉f++qC++w:=by simp[qC,a1,l]
 have a:Ak 35 (f++qC++w)=-1:=JQ _ 0 d;have i:dY (f++qC++w)=f++qC++w:=by unfold dY;refine zl a ?_;rfl
 have h:pU (f++qC++w)=[]:=by unfold pU;refine zl a ?_;rfl
 have g:=B6 (z:=[]) b e rfl (by simp);rw[aT]at g;unfold jr;refine zl i ?_;refine zl h ?_;refine zl g ?_;have k:(cm BL (f++qC++w)==[])=false:=by unfold jS at b e;rw[ax,ax]at b e;have:=DK (f:=f++qC++w) (by refine zl (aG _ _ _) ?_;exact qD b.1.2 _) (by refine zl kh ?_;exact qD e.2 _) [] [] rfl rfl;rw[dS,aT]at this;refine zl this ?_;clear a1 j d a i h g this;cases f with|nil=>exact absurd b.1.2 (by simp[FG])|cons c f=>rfl
 have o:lg (f++qC++w)=false:=by unfold lg;refine zl a ?_;rfl
 have n:(f++qC++w).contains 10=false:=by simp[qC,j,p]
 refine zl k ?_;refine zl o ?_;refine zl n ?_;rfl
theorem L4{f w:List Nat}(d:jS f=true)(h:jS w=true):jr (f++qC++w++Ri)=(false,[f,w],[114],false,false):=by
 refine uU (pV d) λa1 o m=>?_;clear o;refine uU (pV h) λn s r=>?_;have g:35∉f++qC++w++[32]:=by simp[qC,a1,n]
 have e:f++qC++w++Ri=(f++qC++w++[32])++35::[32,114]:=by simp[Ri]
 have b:Ak 35 (f++qC++w++Ri)=((f++qC++w++[32]).length:Nat):=by refine zl e ?_;have:=Tw (f++qC++w++[32]) 0 [32,114] g;rw[bO]at this;exact this
 have a:¬(((f++qC++w++[32]).length:Nat):Int)<0:=by exact acO
 have i:dY (f++qC++w++Ri)=f++qC++w++[32]:=by unfold dY;refine zl b ?_;refine zl (if_neg a) ?_;refine zl (Ab rfl) ?_;refine zl e ?_;exact zl List.take_left rfl
 have j:pU (f++qC++w++Ri)=[32,114]:=by
  unfold pU;refine zl b ?_;refine zl (if_neg a) ?_;have:(((f++qC++w++[32]).length:Nat):Int)+1=(((f++qC++w++[32]).length+1:Nat):Int):=by exact acP
  refine zl (Ac this) ?_;refine zl e ?_;refine zl List.drop_append ?_;simp
 have l:=B6 (z:=[32]) d h rfl (by decide);have k:(cm BL (f++qC++w++[32])==[])=false:=by unfold jS at d h;rw[ax,ax]at d h;have:=DK (f:=f++qC++w) (by refine zl (aG _ _ _) ?_;exact qD d.1.2 _) (by refine zl kh ?_;exact qD h.2 _) [] [32] rfl rfl;rw[dS]at this;refine zl this ?_;clear a1 m g e b a i j l this;cases f with|nil=>exact absurd d.1.2 (by simp[FG])|cons c f=>rfl
 have q:lg (f++qC++w++Ri)=false:=by unfold lg;refine zl i ?_;refine zl k ?_;simp
 have p:(f++qC++w++Ri).contains 10=false:=by simp[qC,Ri,m,r]
 unfold jr;refine zl q ?_;refine zl p ?_;refine zl i ?_;refine zl j ?_;refine zl l ?_;refine zl k ?_;rfl
theorem B7:∀a∈gk,((gQ a).all λc=>c !=35&&c !=59&&c !=10)=true/\FG (gQ a)=true/\FG (gQ a).reverse=true:=by decide+kernel
theorem B8{a b:Nat}(e:a∈gk)(g:b∈gk):jS (q8 a b)=true:=by
 refine uU (B7 a e) λa1 c d=>?_;refine uU (B7 b g) λf i h=>?_;unfold q8 jS;split;·refine zl a1 ?_;refine zl c ?_;refine zl d ?_;rfl
 ·refine zl Yx ?_;refine zl Yx ?_;refine zl a1 ?_;refine zl f ?_;refine zl (aG _ _ _) ?_;refine zl (qD c _) ?_;refine zl kh ?_;refine zl kh ?_;refine zl (aG _ _ _) ?_;refine zl (qD h _) ?_;rfl
theorem FH:∀w∈WW,jS w=true:=by decide
theorem Z8{w:List Nat}(c:w∈WR){a b:Nat}(d:a∈gk)(e:b∈gk):jr (B5 a b w)=(false,[q8 a b,w],[114],false,false):=L4 (B8 d e) (FH w (ct _ c))
theorem PU{w:List Nat}(c:w∈WW){a b:Nat}(d:a∈gk)(e:b∈gk):jr (fv a b w)=(false,[q8 a b,w],[],false,false):=LZ (B8 d e) (FH w c)
theorem lQ{f:Nat->List Nat->Option PV}{ls:List (List Nat)}{l:List Nat}:((ls++[l]).zipIdx 0).filterMap (λp=>f p.2 p.1)=(ls.zipIdx 0).filterMap (λp=>f p.2 p.1)++(f ls.length l).toList:=by rw[List.zipIdx_append,M1];cases q:f ls.length l<;>simp[q]
theorem Au{l:List Nat}{fs:List (List Nat)}{r:List Nat}{m b:Bool}(h:jr l=(false,fs,r,m,b))(i:Nat):qS i l=some (.bR [.int ((i:Int)+1),.list (fs.map .bytes),.bytes r]):=by unfold jr at h;simp only[xV]at h;refine t9 h λh1 c a _=>?_;clear h;unfold qS;refine zl (if_neg (λq=>by rw[q]at h1;cases h1)) ?_;refine zl a ?_;unfold Al;refine zr c ?_;refine zl bE ?_;rfl
theorem B9{l:List Nat}(h:cm BL (dY l)=[])(i:Nat):qS i l=none:=by unfold qS;rw[if_pos h]
structure PF(ls:List (List Nat))(xs:List Ln)(ms:List PV):Prop where
 DD:e7 0 ls=xs.map Ln.ph
 L5:gh 0 ls=ms
 nl:∀l∈ls,10∉l/\l.length<=100
 Z9:∀x∈xs,x.n<=ls.length
theorem PF.ph{ls:List (List Nat)}{xs:List Ln}{e:List PV}(h:PF ls xs e){l:List Nat}{a b:Nat}{w r:List Nat}(d:jr l=(false,[q8 a b,w],r,false,false))(f:l.length<=100):PF (ls++[l]) (xs++[⟨(ls.length:Int)+1,a,b,w,r⟩]) e where
 DD:=by unfold e7;rw[lQ,Au d];show e7 0 ls++_=_;rw[h.DD,ba];rfl
 L5:=by unfold gh;rw[lQ];show gh 0 ls++_=_;rw[h.L5];unfold jr at d;simp only[xV]at d;unfold qB;rw[d.2.2.2.1];simp
 nl:=λx c=>by
  rcases bk.mp c with c|c;·exact h.nl x c
  ·rw[ao.mp c];unfold jr at d;simp only[xV]at d;exact⟨λq=>by have:=d.2.2.2.2;simp[q]at this,f⟩
 Z9:=λx c=>by
  rcases bk.mp c with c|c;·have:=h.Z9 x c;simp;exact o21 this
  ·rw[ao.mp c];simp
theorem PF.JR{ls:List (List Nat)}{xs:List Ln}{b:List PV}(h:PF ls xs b):PF (ls++[[]]) xs b where
 DD:=by unfold e7;rw[lQ,B9 rfl];show e7 0 ls++_=_;rw[h.DD];simp
 L5:=by unfold gh;rw[lQ];show gh 0 ls++_=_;rw[h.L5];rw[show qB ls.length []=none from rfl];simp
 nl:=λx a=>by
  rcases bk.mp a with a|a;·exact h.nl x a
  ·rw[ao.mp a];simp
 Z9:=λx a=>by have:=h.Z9 x a;simp;exact o21 this
noncomputable def HD0:List Nat:=[35,32,115,99,114,105,112,116,115]
noncomputable def Rj:List Nat:=[35,32,64,109,105,115,115,105,110,103,58,32,48,48,48,48,46,46,49,48,70,70,70,70,59,32,67,121,114,108]
theorem PF.aaa:PF [HD0] [] []:=⟨rfl,rfl,by decide,by simp⟩
theorem PF.Vh:PF [Rj] [] [.bR [.int 1,.list [.bytes MF,.bytes CYR]]]:=⟨rfl,rfl,by decide,by simp⟩
theorem PF.empty:PF [] [] []:=⟨rfl,rfl,by simp,by simp⟩
section
variable{d:Nat}{s:aH}
theorem ta{c:Nat}{ls:List (List Nat)}(h:∀l∈ls,l.length<=100):(bD [c] ls).length<=101*ls.length:=by induction ls with|nil=>exact cy _|cons x r b=>have a:=h x (.head _);have:=b λl e=>h l (.tail _ e);clear b h;cases r with|nil=>simp[oj];exact acQ a|cons y r=>rw[je];simp at this⊢;exact acR a this
theorem Ca{o:List Nat}{X:List (List Nat)}{R M:List PV}(g:du o [10]=X)(e:mn o)(f:∀l∈X,l.length<=100)(a:X.length<=100)(b:o.length<=20000)(h:e7 0 X=R)(i:gh 0 X=M):au (d+2) Fn.dR [.bytes o] s=.ok (true,.list R) s/\au (d+2) Fn.dU [.bytes o] s=.ok (true,.list M) s:=by subst g;have h0:o.length+1<eu:=aA (ar b 1) (by decide);have h1:∀l∈du o [10],l.length+1<eu:=λl a=>aA (ar (f l a) 1) (by decide);have c:(du o [10]).length<=eu:=aa a (by decide);exact⟨by rw[Q.DD e h0 h1 c,h],by rw[W4 e h0 h1 c,i]⟩
theorem PF.Xb{ls:List (List Nat)}{xs:List Ln}{c:List PV}(h:PF ls xs c){o:List Nat}(e:du o [10]=ls)(f:mn o)(a:ls.length<=100)(b:o.length<=20000):au (d+2) Fn.dR [.bytes o] s=.ok (true,.list (xs.map Ln.ph)) s/\au (d+2) Fn.dU [.bytes o] s=.ok (true,.list c) s:=Ca e f (λl a=>(h.nl l a).2) a b h.DD h.L5
end
section
variable{d:Nat}{s r:aH}{cs:List Int}{m:Int}{E:PV->aH->Prop}
theorem JS{a b:Nat}(c:a∈gk)(e:b∈gk):(gQ a).length+2+(gQ b).length<=eu:=aa (aW (ar (vV a (ct _ c)) 2) (vV b (ct _ e))) (by decide)
theorem fields{a b:Nat}(e:a∈gk)(f:b∈gk):au (d+2) Fn.pA [.int a,.int b] s=.ok (false,.bytes (q8 a b)) s:=by
 refine Wp.eq (bq rF rfl rfl ?_);dsimp[rF,bx];have c:=JS e f;unfold q8;apply aQ;dsimp;by_cases q:a=b;·clear f c;subst q;refine zl (if_pos rfl) ?_;exact sl (beq_self_eq_true _) (Wp.of (Tn e) ⟨rfl,rfl⟩)
 ·refine zl (if_neg q) ?_;refine sr (beq_eq_false_iff_ne.mpr λh=>q (m7 h)) (Wp.of (Tn e) ?_);exact oS (kI (aa (aR ..) c)) (Wp.of (Tn f) (oS (kI (by refine zl ah ?_;exact c)) ⟨rfl,rfl⟩))
theorem Tx{a b:Nat}(e:a∈gk)(f:b∈gk):au (d+2) Fn.i9 [.int a,.int b] s=.ok (false,.bytes (q8 a b)) s:=by
 refine Wp.eq (bq nC rfl rfl ?_);dsimp[nC,bx];have c:=JS e f;unfold q8;apply aQ;dsimp;by_cases q:a=b;·clear f c;subst q;refine zl (if_pos rfl) ?_;exact sl (beq_self_eq_true _) (Wp.of (W5 e) ⟨rfl,rfl⟩)
 ·refine zl (if_neg q) ?_;refine sr (beq_eq_false_iff_ne.mpr λh=>q (m7 h)) (Wp.of (W5 e) ?_);exact oS (kI (aa (aR ..) c)) (Wp.of (W5 f) (oS (kI (by refine zl ah ?_;exact c)) ⟨rfl,rfl⟩))
theorem aev{w:List Nat}:(w.all λc=>decide (c<256))=true->jW (w.map λ(c:Nat)=>.int c)=some w:=by induction w with|nil=>intro _;exact rfl|cons c w a=>intro h;rw[bP,ax,decide_eq_true_eq]at h;rw[aM,Eo,if_pos ⟨bb c,bX.mpr h.1⟩,a h.2];rfl
theorem FI{w:List Nat}(h:(w.all λc=>decide (c<256))=true):gX s .bytes [.list (w.map λ(c:Nat)=>.int c)]=some (false,.bytes w):=by show((jW _).map _).map _=_;rw[aev h];rfl
theorem L6{u:Nat}(h:u<2):kz .Ki (.list [.bytes []]) (.int u)=some (true,.list ((bL u []).map .bytes)):=Yb h rfl rfl
def WV:List PV:=WR.map .str
theorem oY{v:PV}(h:v∈WV):∃w,v=.str w/\w∈WR/\w∈WS/\(w.all λc=>decide (c<256))=true/\w.length<=10:=by obtain⟨w,a,rfl⟩:=aL.mp h;exact⟨w,rfl,a,(show∀w∈WR,w∈WS/\(w.all λc=>decide (c<256))=true/\w.length<=10 by decide) w a⟩
noncomputable def lnT(x:Ln):Rg:=(x.a,x.b,.str x.w)
theorem L7{a b:Nat}(e:a∈gk)(f:b∈gk){w:List Nat}(c:w.length<=10):(B5 a b w).length<=31:=by unfold B5;rw[ah,ah,ah];exact ar (aW (ar (sX e f) 3) c) 4
theorem Ih{N G M O e5:Slot}{P:Fl->L->aH->Prop}{Q:List PV}{h1:List Nat}(ys:List Rg):∀(ls:List (List Nat))(xs:List Ln)(cs:List Int)(m:Int)(a b c:Slot),(∀y∈ys,y.1∈gk/\y.2.1∈gk/\y.2.2∈WV)->PF (h1::ls) xs Q->ls.length+2*ys.length<=50->jo cs m->(∀e i g D a b c,PF (h1::e) i Q->jo g D->e.length<=ls.length+2*ys.length->i.map lnT=xs.map lnT++ys->P .next [.val (.ref 0),N,G,M,O,e5,.cj ((h1::e).map .bytes),a,b,c,.bB,.bB,.bB,.bB,.bB,.bB,.bB,.bB,.bB,.bB] (.cK g D::r))->fJ (λf l s k=>pT [7,8,9] f l λl=>bS (au (d+3)) E 394 (j4 aP 4) l s k) (ys.map sZ) [.val (.ref 0),N,G,M,O,e5,.cj ((h1::ls).map .bytes),a,b,c,.bB,.bB,.bB,.bB,.bB,.bB,.bB,.bB,.bB,.bB] (.cK cs m::r) P:=by
 refine(?H:gB (by
  induction ys with
  |nil=>intro ls xs cs m a b c _ I _ o q;exact q ls xs cs m a b c I o (bf _) (aT _).symm
  |cons J ys ih=>
   obtain⟨a,b,v⟩:=J;intro ls xs cs m x y z W I T o q;obtain⟨B,C,y4⟩:=W _ (.head _);obtain⟨w,rfl,w1,w2,w3,X⟩:=oY y4;have j:=L7 B C X;have V:(B5 a b w).length<=eu:=aa j (by decide);have t:=I.ph (Z8 w1 B C) (aa j (by decide));refine j1 ?_;dsimp[j4,ft,aP,sZ];apply aQ;dsimp;apply aQ;dsimp;have l1:(q8 a b).length+3<=17:=ar (sX B C) 3;have Y:(q8 a b++[32,59,32]).length+w.length<=27:=by rw[ah];exact aW l1 X
   have l3:(q8 a b++[32,59,32]++w).length+4<=31:=by rw[ah];exact ar Y 4
   have l4:ls.length+2+2*ys.length<=50:=by rw[aO]at T;exact acS T
   have S:ls.length<=50:=aa (aa (aR ..) (aR ..)) l4;have A:∀Z cs m,PF (h1::Z) (xs++[⟨((h1::ls).length:Int)+1,a,b,w,[114]⟩]) Q->Z.length<=ls.length+2->jo cs m->∀x y z,fJ (λf l s k=>pT [7,8,9] f l λl=>bS (au (d+3)) E 394 (j4 aP 4) l s k) (ys.map sZ) [.val (.ref 0),N,G,M,O,e5,.cj ((h1::Z).map .bytes),x,y,z,.bB,.bB,.bB,.bB,.bB,.bB,.bB,.bB,.bB,.bB] (.cK cs m::r) P:=λZ cs m hZ U o x y z=>ih Z _ cs m x y z (λy h=>W y (.tail _ h)) hZ (aa (ar U _) l4) o λe i g D a b c q1 q2 q3 q4=>q e i g D a b c q1 q2 (aa q3 (by rw[aO];exact acT U)) (by rw[q4,ba,aG];rfl);refine Wp.of (fields B C) (oS (kI (aa l1 (by decide))) ?_);dsimp;refine oC (q:=λc:Nat=>.int c) _ (λc _ K h=>h) ?_;refine oS (FI w3) (oS (kI (aa Y (by decide))) (oS (kI (aa l3 (by decide))) (oS (qR (aa (ar (show(PV.bytes h1::ls.map PV.bytes).length<=51 by rw[aO,aj];exact aB S) 1) (by decide))) ?_)));dsimp;apply aQ;dsimp;apply aQ;dsimp;refine nP (n:=2) o (by decide) λu cs m R o=>?_;refine oS (L6 R) (oS (qR ?_) ?_);·rw[aO,ah,aj,aj,MU];exact aa (aW (aB (ar S 1)) (bT R)) (by decide)
   ·dsimp;refine Yb R ?_ ?_;·have:=A (ls++[B5 a b w]) cs m t (by rw[ah];exact aD (e9 1) _) o (.val (.int a)) (.val (.int b)) (.val (.str w));rw[aM,ba]at this;dsimp;rw[aT];exact this
    ·have:=A (ls++[B5 a b w]++[[]]) cs m (by rw[aG,<-b8,<-aG];exact t.JR) (by rw[ah,ah];exact bf _) o (.val (.int a)) (.val (.int b)) (.val (.str w));rw[aM,ba,ba]at this;exact this)) gA
 intro w;delta id at w;(try dsimp-zetaHave only at w);refine(?F:gC _) _ w;exactλp _=>p
end
section
variable{d l:Nat}{s r:aH}{E:PV->aH->Prop}
theorem aew(ls:List (List Nat)):rz (ls.map .bytes)=some ls:=by induction ls with|nil=>rfl|cons x r a=>exact congrArg (dI (x::·)) a
theorem oD{c:List Nat}{ls:List (List Nat)}(h:(bD c ls).length<=eu):gX s .join [.bytes c,.list (ls.map .bytes)]=some (false,.bytes (bD c ls)):=by show((rz (ls.map .bytes)).bind _).map _=_;refine zl (aew _) ?_;exact congrArg (dI _) (if_pos h)
def vY(ls:List (List Nat)):List Nat:=bD [10] ls++[10]
theorem Cb{ls:List (List Nat)}(h:∀l∈ls,10∉l/\l.length<=100)(h0:ls≠[]):du (vY ls) [10]=ls++[[]]:=by
 unfold vY;refine zl (show bD [10] ls++[10]=bD [10] (ls++[[]])from(B4 h0).symm) ?_;refine nQ (λq=>h0 (cF.mp q).1) λf a=>?_;rcases bk.mp a with a|a;·exact(h f a).1
 ·cases ao.mp a;exact bJ
theorem xd{c x:Nat}{t:List Nat}:∀{r:List (List Nat)},∃u,bD [c] ((x::t)::r)=x::u|[]=>⟨t,rfl⟩|y::r=>⟨_,by refine zl je ?_;rfl⟩
theorem FJ{t:List Nat}{r:List (List Nat)}:mn (vY ((35::t)::r)):=by obtain⟨u,a⟩:=xd (c:=10) (x:=35) (t:=t) (r:=r);unfold mn vY;rw[a];rfl
theorem DL{ls:List (List Nat)}(h:∀l∈ls,10∉l/\l.length<=100)(a:ls.length<=60):(bD [10] ls).length<=6060:=aa (ta λl a=>(h l a).2) (bo 101 a)
theorem PW{ls:List (List Nat)}{xs:List Ln}{a:List PV}{t:List Nat}(h:PF ((35::t)::ls) xs a)(b:ls.length<=59):au (d+2) Fn.dR [.bytes (vY ((35::t)::ls))] s=.ok (true,.list (xs.map Ln.ph)) s/\au (d+2) Fn.dU [.bytes (vY ((35::t)::ls))] s=.ok (true,.list a) s:=by
 have h1:=DL h.nl (aB b);refine h.JR.Xb (Cb h.nl λq=>by injection q) FJ ?_ ?_;·rw[ah];exact aa (aB (aB b)) (by decide)
 ·unfold vY;rw[ah];exact aa (aB h1) (by decide)
theorem Cc{o x:List Nat}{m:Int}{M:List PV}(a:au (d+5) Fn.dh [.bytes o,.none,.none] s=.ok (true,.list M) s)(h:au (d+5) Fn.kW [.bytes o,.int 2] s=.kc (.int m) s):au (d+6) Fn.dg [.bytes o,.ref l,.str x] s=.kc (.int m) s:=by refine Wp.SY (bq cG rfl rfl ?_);dsimp[cG,bx];apply aQ;dsimp;refine Wp.of a ?_;dsimp;apply aQ;dsimp;exact Wp.ex h ⟨rfl,rfl⟩
theorem L8{o x:List Nat}{m:Int}{M:List PV}{xs:List Ln}(g:au (d+5) Fn.dh [.bytes o,.none,.none] s=.ok (true,.list M) s)(f:au (d+4) Fn.dR [.bytes o] s=.ok (true,.list (xs.map Ln.ph)) s)(c:∀y∈xs,y.ok)(b:xs.length<=5)(a:jq none (fR d7 (xs.map Ln.tr))=some m):au (d+6) Fn.dg [.bytes o,.ref l,.str x] s=.kc (.int m) s:=by refine Wp.SY (bq cG rfl rfl ?_);dsimp[cG,bx];apply aQ;dsimp;refine Wp.of g ?_;dsimp;apply aQ;dsimp;refine Wp.of (PK f c (aa b (by decide))) ?_;dsimp;apply aQ;dsimp;apply aQ;dsimp;refine oC (q:=λy:Ln=>H9 y.tr) _ (λy _ K h=>h) ?_;refine zl (show(xs.map λy:Ln=>H9 y.tr)=(xs.map Ln.tr).map H9 by rw[bE];rfl) ?_;refine FA (by refine zl (aj _) ?_;exact b) (λe=>by replace e:=a▸e;cases e) λn e=>?_;cases a.symm.trans e;exact⟨rfl,rfl⟩
theorem Tz{o:List Nat}{m:Int}(h:au (d+1) Fn.dg [.bytes o,.ref l,.str [115,99]] s=.kc (.int m) s):au (d+2) Fn.lC [.int 0,.bytes o,.ref l] s=.ok (false,.int m) s:=by refine Wp.eq (bq jw rfl rfl ?_);dsimp[jw,bx];apply aQ;dsimp;apply aQ;dsimp;refine Wp.ex h ?_;apply aQ;dsimp;exact⟨rfl,rfl⟩
end
noncomputable def ra:List Nat:=[76,97,116,110]
noncomputable def PX:List Nat:=[71,114,101,107]
noncomputable def FK:List Nat:=[76,97,116,105,110]
noncomputable def FL:List Nat:=[71,114,101,101,107]
noncomputable def PY:List Nat:=[67,121,114,105,108,108,105,99]
def SPD:List (PV×PV):=[(.str ra,.str FK),(.str PX,.str FL),(.str CYR,.str PY)]
def SPB:List (PV×PV):=[(.str FK,.str ra),(.str FL,.str PX),(.str PY,.str CYR)]
def xP(w:List Nat):List Nat:=if w=ra then FK else if w=PX then FL else PY
def tl(sp:Option Nat)(w:List Nat):List Nat:=match sp with|none=>w|some _=>xP w
noncomputable def Xc:Option Nat->PV|none=>.none|some l=>.ref l
def PZ:Bool->PV|true=>.str CYR|false=>.none
theorem JT:∀w∈WR,dw (.str w) SPD=some (.str (xP w))/\dw (.str (xP w)) SPB=some (.str w):=λw a=>by simp[WR]at a;rcases a with rfl|rfl|rfl<;>exact⟨rfl,rfl⟩
theorem DN:∀w∈WR,xP w∈WW/\xP w∈WS/\w∈WW/\w∈WS/\(xP w).length<=10/\w.length<=10:=by decide
theorem TA{sp:Option Nat}{w:List Nat}(h:w∈WR):tl sp w∈WW/\tl sp w∈WS/\(tl sp w).length<=10:=by
 refine GJ (DN w h) λa b c d e f=>?_;cases sp;·exact⟨c,d,f⟩
 ·exact⟨a,b,e⟩
noncomputable def wd:PV->List Nat|.str w=>w|_=>[]
def r8(mis:Bool)(sp:Option Nat)(xs:List Rg):List (List Nat):=(xs.filter λy=>!(mis&&(wd y.2.2==CYR))).map λy=>fv y.1 y.2.1 (tl sp (wd y.2.2))
section
variable{d:Nat}{s:aH}{E:PV->aH->Prop}
theorem DO{a b:Nat}{w:List Nat}(f:a∈gk)(e:b∈gk)(h:w∈WS)(i:w.length<=12){K:Bool×PV->aH->Prop}(q:K (false,.bytes (fv a b w++[10])) s):Wp (au (d+3) Fn.i9 [.int a,.int b] s) (λr s=>i5 (kz .add r.2 (.bytes [32,59,32])) λv=>Wp (au (d+3) Fn.cN [.str w] s) (λu s=>i5 (kz .add v.2 u.2) λv=>i5 (kz .add v.2 (.bytes [10])) λv=>K v s) E) E:=by
 have c:(q8 a b).length+3<=17:=ar (sX f e) 3;have g:(q8 a b++[32,59,32]).length+w.length<=29:=by rw[ah];exact aW c i
 have j:(q8 a b++[32,59,32]++w).length+1<=30:=by rw[ah];exact ar g 1
 exact Wp.of (Tx f e) (oS (kI (aa c (by decide))) (Wp.of (wY h) (oS (kI (aa g (by decide))) (oS (kI (aa j (by decide))) q))))
theorem FN{mis:Bool}{sp:Option Nat}{o:PV}{Q:Fl->L->aH->Prop}(C:∀r,sp=some r->s[r]?=some (.dict SPD))(xs:List Rg):∀(acc:List (List Nat))(a b c f:Slot),(∀y∈xs,y.1∈gk/\y.2.1∈gk/\y.2.2∈WV)->acc.length+xs.length<=eu->(∀a b c f,Q .next [.val o,.val (PZ mis),.val (Xc sp),.cj ((acc++(r8 mis sp xs).map λl=>l++[10]).map .bytes),a,b,c,f] s)->fJ (λg l s k=>pT [5,6,7] g l λl=>bS (au (d+3)) E 396 (j4 eT 1) l s k) (xs.map sZ) [.val o,.val (PZ mis),.val (Xc sp),.cj (acc.map .bytes),a,b,c,f] s Q:=by
 refine(?H:gB (by
  induction xs with
  |nil=>intro acc a b c f _ _ q;have:=q a b c f;replace this:=(show acc++(r8 mis sp []).map (λl=>l++[10])=acc from aT _)▸this;assumption
  |cons B xs n=>
   obtain⟨a,b,v⟩:=B;intro acc x y z f D u q;refine uU (D _ (.head _)) λI K N=>?_;refine M4 (oY N) λw A G R S P=>?_;subst A;refine uU (TA (sp:=sp) G) λO J M=>?_;have i:=λy h=>D y (bw _ h);have m:acc.length<eu:=aw (bI (jV _)) u;have t:eD s .ne (.str w) (PZ mis)=some (!(mis&&(w==CYR))):=by clear n q;cases mis<;>rfl
   refine j1 ?_;dsimp[j4,ft,eT,sZ];apply aQ;dsimp;refine oS t ?_;clear O;cases e:mis&&(w==CYR)with
   |true=>refine n acc _ _ _ _ i (aa (aD (e9 _) _) u) λa b c f=>?_;have:=q a b c f;rwa[show r8 mis sp ((_,_,.str w)::xs)=r8 mis sp xs by unfold r8;exact zl (sk (by show¬(!(mis&&(w==CYR)))=true;rw[e];exact aK)) rfl]at this
   |false=>
    have j:∀x,fJ (λg l s k=>pT [5,6,7] g l λl=>bS (au (d+3)) E 396 (j4 eT 1) l s k) (xs.map sZ) [.val o,.val (PZ mis),.val (Xc sp),.cj (acc.map .bytes++[.bytes (fv a b (tl sp w)++[10])]),x,.val (.int a),.val (.int b),.val (.str w)] s Q:=λx=>by
     have:=n (acc++[fv a b (tl sp w)++[10]]) x (.val (.int a)) (.val (.int b)) (.val (.str w)) i (by refine zl ah ?_;refine zl (cM _ _ _) ?_;refine zl (cE _ xs.length) ?_;exact u) λx y z f=>by have:=q x y z f;rewrite[show r8 mis sp ((a,b,.str w)::xs)=fv a b (tl sp w)::r8 mis sp xs by unfold r8;rw[kU (by show(!(mis&&(w==CYR)))=true;rw[e];rfl)];rfl]at this;replace this:=aM▸this;rewrite[sq]at this;assumption
     replace this:=ba▸this;assumption
    show bS _ _ _ _ _ _ _;clear n q;cases sp with|none=>apply aQ;dsimp;apply aQ;dsimp;exact DO I K J (aa M (by decide)) (so (by refine zl (aj _) ?_;exact m) (j _))|some r=>apply aQ;dsimp;refine oS (LN (C r rfl) (GF rfl w) (JT w G).1) ?_;apply aQ;dsimp;exact DO I K J (aa M (by decide)) (so (by refine zl (aj _) ?_;exact m) (j _)))) gA
 intro w;delta id at w;(try dsimp-zetaHave only at w);refine(?F:gC _) _ w;exactλp _=>p
theorem td(ls:List (List Nat)):bD [] ls=ls.flatten:=by induction ls with|nil=>rfl|cons x r a=>cases r with|nil=>exact(aT x).symm|cons y r=>show x++[]++bD [] (y::r)=_;rw[a,aT];rfl
theorem r9{k:Nat}{zs:List (List Nat)}:(∀l∈zs,l.length<=k)->zs.flatten.length<=k*zs.length:=by induction zs with|nil=>intro _;exact bf _|cons z r b=>intro h;rw[Vy,ah,aO,tD,cE];exact aW (b λl a=>h l (.tail _ a)) (h z (.head _))
def FO(mis:Bool)(sp:Option Nat)(xs:List Rg):List Nat:=((if mis then[Rj]else[])++r8 mis sp xs).flatMap λl=>l++[10]
theorem j5{a b:Nat}(e:a∈gk)(f:b∈gk){w:List Nat}(c:w.length<=12):(fv a b w).length<=29:=by unfold fv;rw[ah,ah];exact aW (ar (sX e f) 3) c
theorem P0{mis:Bool}{sp:Option Nat}{xs:List Rg}(h:∀y∈xs,y.1∈gk/\y.2.1∈gk/\y.2.2∈WV):∀l∈r8 mis sp xs,l.length<=29:=λl i=>by refine dq (aL.mp i) λy f g=>?_;subst g;refine uU (h y (cC.mp f).1) λa b c=>?_;refine pg (oY c) λw e j _=>?_;refine zl e ?_;exact j5 a b (aa (TA (sp:=sp) j).2.2 (by decide))
theorem Av{zs:List (List Nat)}(h:∀l∈zs,l.length<=30)(a:zs.length<=200):gX s .join [.bytes [],.list ((zs.map λl=>l++[10]).map .bytes)]=some (false,.bytes (zs.flatMap λl=>l++[10])):=by rw[oD,td];rfl;rw[td];refine aa (r9 (k:=31) λl a=>?_) (aa (bo 31 (by rw[aj];exact a)) (by decide));obtain⟨z,hz,rfl⟩:=aL.mp a;rw[ah];exact aB (h z hz)
theorem FP{mis:Bool}{sp:Option Nat}{xs:List Rg}(i:∀n,sp=some n->s[n]?=some (.dict SPD))(g:mis=true->sp=none)(k:∀y∈xs,y.1∈gk/\y.2.1∈gk/\y.2.2∈WV)(m:xs.length<=100):au (d+4) Fn.l7 [.list (xs.map sZ),PZ mis,Xc sp] s=.ok (false,.bytes (FO mis sp xs)) s:=by
 refine(?H:gB (by
  have e:(r8 mis sp xs).length<=100:=by unfold r8;rw[aj];exact aa (gm _ _) m
  have j:∀l∈(if mis then[Rj]else[])++r8 mis sp xs,l.length<=30:=λl h=>by
   clear g e;rcases bk.mp h with h|h;·cases mis with|false=>cases h|true=>cases ao.mp h;decide
   ·exact b7 (P0 k l h)
  refine Wp.eq (bq eT rfl rfl ?_);dsimp[eT,bx];apply aQ;dsimp;cases mis with|false=>apply aQ;dsimp;apply aQ;dsimp;refine FN (mis:=false) (sp:=sp) i xs [] _ _ _ _ k (by rw[i6,bO];exact aa m (by decide)) λa b c f=>?_;dsimp;apply aQ;dsimp;apply aQ;dsimp;exact oS (Av j (aa e (by decide))) ⟨rfl,rfl⟩|true=>cases g rfl;apply aQ;dsimp;apply aQ;dsimp;apply aQ;dsimp;refine Wp.of (wY (w:=CYR) (by decide)) (oS (a:=(false,.bytes Rj)) rfl ?_);dsimp;apply aQ;dsimp;refine FN (mis:=true) (sp:=none) i xs [Rj++[10]] _ _ _ _ k (aa (aD m 1) (by decide)) λa b c f=>?_;dsimp;apply aQ;dsimp;apply aQ;dsimp;exact oS (Av (zs:=Rj::r8 true none xs) j (aa (aB e) (by decide))) ⟨rfl,rfl⟩)) gA
 intro w;delta id at w;(try dsimp-zetaHave only at w);refine(?F:gC _) _ w;exactλp _=>p
end
noncomputable def SCP:List Nat:=[115,99]
noncomputable def ZZ:List Nat:=[90,122,122,122]
def FQ(mis:Bool):List PV:=if mis then[.bR [.int 1,.list [.bytes MF,.bytes CYR]]]else[]
def Xd(mis:Bool):List Nat:=35::(if mis then Rj else HD0).tail
theorem TB(mis:Bool):PF [Xd mis] [] (FQ mis):=match mis with|false=>PF.aaa|true=>PF.Vh
section
variable{d l:Nat}{s:aH}
theorem vZ{mis:Bool}{o:List Nat}(a:au (d+4) Fn.dU [.bytes o] s=.ok (true,.list (FQ mis)) s):au (d+5) Fn.dh [.bytes o,.none,.none] s=.ok (true,.list (if mis then[.bR [.int 0,.int 1114111,.str CYR]]else[])) s:=by cases mis with|false=>exact B3 a|true=>exact PM a
theorem Aw{t:List Nat}{ls:List (List Nat)}{xs:List Ln}{f:List PV}{o r:List Nat}{fs:List (List Nat)}(h:PF ((35::t)::ls) xs f)(i:jr o=(false,fs,r,false,false))(j:o.length<=100)(g:ls.length<=50):au (d+2) Fn.dR [.bytes (vY ((35::t)::(ls++[o])))] s=.ok (true,.list (xs.map Ln.ph++[.bR [.int ((((35::t)::ls).length:Int)+1),.list (fs.map .bytes),.bytes r]])) s/\au (d+2) Fn.dU [.bytes (vY ((35::t)::(ls++[o])))] s=.ok (true,.list f) s:=by
 have b:=i;unfold jr at b;simp only[xV]at b;have e:∀l∈(35::t)::(ls++[o]),10∉l/\l.length<=100:=λx a=>by
  rw[<-b8]at a;rcases bk.mp a with a|a;·exact h.nl x a
  ·cases ao.mp a;exact⟨λq=>mR ((jg.mpr q).symm.trans b.2.2.2.2),j⟩
 have c:((35::t)::(ls++[o])).length<=60:=by rw[aO,ah];exact aa (aB (ar g 1)) (by decide)
 refine Ca (Cb e λq=>by injection q) FJ (λx a=>?_) ?_ ?_ ?_ ?_;·
  rcases bk.mp a with a|a;·exact(e x a).2
  ·cases ao.mp a;exact cy _
 ·rw[ah];exact aa (ar c 1) (by decide)
 ·unfold vY;rw[ah];exact aa (aB (DL e c)) (by decide)
 ·unfold e7;rw[lQ,B9 rfl,<-b8,lQ,Au i];show e7 0 _++_++_=_;rw[h.DD];exact aT _
 ·unfold gh;rw[lQ,<-b8,lQ];show gh 0 _++_++_=_;rw[h.L5];unfold qB;rw[b.2.2.2.1];show(f++[])++[]=f;rw[aT,aT]
end
theorem Vi{lns:List Ln}{xs:List Rg}(g:∀y∈xs,y.1∈gk/\y.2.1∈gk/\(y.1<=y.2.1/\y.2.1<y.1+4)/\y.2.2∈WV)(h:∀x∈lns,lnT x∈xs):∀x∈lns,x.ok:=λx f=>by refine t9 (g _ (h x f)) λa b c e=>?_;refine Un (oY e) λw h1 d i _=>?_;clear d;cases h1;exact⟨a,b,c,i⟩
theorem Ii{lns:List Ln}(a:PO (lns.map lnT)):Ar (lns.map Ln.tr):=by unfold PO at a;unfold Ar;rw[ee]at a⊢;exact a.imp λh=>bX.mpr h
theorem P1{lns:List Ln}{xs ys:List Rg}(a:lns.map lnT=ys)(b:ys=xs\/ys=xs.reverse):∃zs:List Ln,zs.Perm lns/\zs.map lnT=xs:=by
 rcases b with rfl|rfl;·exact⟨lns,.refl _,a⟩
 ·exact⟨lns.reverse,List.reverse_perm _,by rw[iD,a,jE]⟩
theorem P2{xs:List Rg}{c:Int}{dv:PV}:jz xs c dv=dv\/∃y∈xs,jz xs c dv=y.2.2:=by
 unfold jz;cases e:xs.filterMap (Ts c)with
 |nil=>exact .inl rfl
 |cons v r=>
  refine dq (eP.mp (e▸bC:v∈xs.filterMap (Ts c))) λy b a=>?_;unfold Ts at a;split at a;·clear e;cases a;exact .inr ⟨y,b,rfl⟩
  ·cases a
noncomputable def O1:List Nat:=[48,48,53,48,46,46,48,48,52,70,32,59,32,76,97,116,110]
noncomputable def O2:List Nat:=[50,48,48,48,32,59,32,76,97,116,110,32,59,32,120]
def DP(y:Rg):Nat->List Nat|0=>fv y.2.1 y.2.1 ra|1=>O1|2=>O2|_=>fv (y.1-1) y.1 ra
section
variable{d l:Nat}{s:aH}
theorem P4{k:Int}:au (d+4) Fn.gN [.bytes [48,48,53,48,46,46,48,48,52,70],.int k] s=.kc (.int k) s:=by kernel_rfl
theorem Cd{t x:List Nat}{ls:List (List Nat)}{lns zs:List Ln}{mis:Bool}{a b:Nat}(h:PF ((35::t)::ls) lns (FQ mis))(i:ls.length<=50)(m:a∈gk)(j:b∈gk)(g:a<=b/\b<a+4)(k:∀x∈lns,x.ok)(n:lns.length<=4)(r:∀p:List Tr,(zs.map Ln.tr++[((a:Int),(b:Int),(((35::t)::ls).length:Int)+1)]).Perm p->jq none (fR d7 p)=some ((((35::t)::ls).length:Int)+1))(v:zs.Perm lns):au (d+6) Fn.dg [.bytes (vY ((35::t)::(ls++[fv a b ra]))),.ref l,.str x] s=.kc (.int ((((35::t)::ls).length:Int)+1)) s:=by
 have u:ra∈WW:=by decide
 have w:=PU u m j;have f:(fv a b ra).length<=100:=aa (j5 m j (by decide)) (by decide);obtain⟨o,q⟩:=Aw (d:=d+2) (s:=s) h w f i;have e:lns.map Ln.ph++[.bR [.int ((((35::t)::ls).length:Int)+1),.list ([q8 a b,ra].map .bytes),.bytes []]]=(lns++[(⟨(((35::t)::ls).length:Int)+1,a,b,ra,[]⟩:Ln)]).map Ln.ph:=by rw[ba];rfl
 rw[e]at o;refine L8 (vZ q) o (λy c=>?_) (by rw[ah];exact aB n) (r _ ?_);·
  rcases bk.mp c with c|c;·exact k y c
  ·cases ao.mp c;exact⟨m,j,g,(by decide:ra∈WS)⟩
 ·rw[ba];exact(v.map _).append_right _
theorem TF{t x:List Nat}{ls:List (List Nat)}{lns zs:List Ln}{mis:Bool}{y:Rg}{r:List Rg}(h:PF ((35::t)::ls) lns (FQ mis))(c:ls.length<=50)(n:∀z∈y::r,z.1∈gk/\z.2.1∈gk/\(z.1<=z.2.1/\z.2.1<z.1+4)/\z.2.2∈WV)(h1:y.1-1∈gk)(B:64<=y.1)(m:PO (y::r))(p:zs.Perm lns)(hz:zs.map lnT=y::r)(g:lns.length<=4):∀k,k<4->au (d+6) Fn.dg [.bytes (vY ((35::t)::(ls++[DP y k]))),.ref l,.str x] s=.kc (.int ((((35::t)::ls).length:Int)+1)) s:=by
 obtain⟨z,zs,rfl⟩:∃z A,zs=z::A:=by cases zs with|nil=>cases hz|cons z zs=>exact⟨z,zs,rfl⟩
 refine zA (XM.inj hz) λD C=>?_;subst D;subst C;have b:∀x∈lns,x.ok:=Vi n λx n=>dH (f:=lnT) (p.mem_iff.mpr n);have i:Ar (z.tr::zs.map Ln.tr):=Ii (lns:=z::zs) m;have H:∀u∈z.tr::zs.map Ln.tr,u.1<=u.2.1/\u.2.2<(((35::t)::ls).length:Int)+1:=λu N=>by refine dq (aL.mp (show u∈(z::zs).map Ln.tr from N)) λw K F=>?_;subst F;have j:=p.mem_iff.mp K;exact⟨bW.mpr (b w j).2.2.1.1,cQ (h.Z9 w j)⟩
 refine t9 (n _ (.head _)) λL I P O=>?_;intro k M;refine RG M ?_ ?_ ?_ ?_;·exact Cd h c I I ⟨bf _,bI (by decide)⟩ b g (zs:=z::zs) (λJ q=>Ie i H q) p
 ·refine zA (Aw (d:=d+2) (s:=s) h (o:=O1) (fs:=[[48,48,53,48,46,46,48,48,52,70],ra]) (r:=[]) rfl (by decide) c) λv E=>?_;exact Cc (vZ E) (An v b (aa g (by decide)) (.inr ⟨_,_,rfl,P4⟩))
 ·refine zA (Aw (d:=d+2) (s:=s) h (o:=O2) (fs:=[[50,48,48,48],ra,[120]]) (r:=[]) rfl (by decide) c) λv E=>?_;exact Cc (vZ E) (An v b (aa g (by decide)) (.inl rfl))
 ·have G:1<=z.a:=aa (by decide:1<=64) B;have e:((z.a-1:Nat):Int)=(z.a:Int)-1:=rj G;refine Cd h c h1 L ⟨jC ..,?_⟩ b g (zs:=z::zs) (λJ q=>Ig i H ?_) p;·show z.a<z.a-1+4;exact aw (cB _) (aa (bA (congrArg (·+1) (eN G).symm)) (aD (by decide:2<=4) (z.a-1)))
  ·show(z.tr::zs.map Ln.tr++[((z.a:Int)-1,(z.a:Int),(((35::t)::ls).length:Int)+1)]).Perm J;refine zr e ?_;exact q
end
noncomputable def Vj(x:List S):List S:=match x with|.gp _ a _::_=>a|_=>[]
theorem xe{xs:List Rg}(d:∀y∈xs,64<=y.1/\y.1<=y.2.1/\y.2.1+1<1114111){c:Int}(h:.int c∈uM xs):0<=c/\c<=1114111:=by
 refine dq (uN h) λg e h=>?_;cases e;rcases h with rfl|rfl|⟨x,h1,f⟩;·exact⟨by decide,by decide⟩
 ·exact⟨by decide,by decide⟩
 ·refine uU (d x h1) λa b e=>?_;generalize x.1=p at*;generalize x.2.1=q at*;clear d h1 h;exact acU a e f b
section
variable{d:Nat}{s:aH}
theorem JU{f:List Nat}(h:f.length<=20):kz .add (.bytes f) (.bytes [32,59,32,76,97,116,110])=some (false,.bytes (f++qC++ra)):=(kI (aa (ar h 7) (by decide))).trans (by rw[aG];rfl)
theorem TH{y:Rg}(h1:y.1∈gk)(a:y.2.1∈gk)(b:y.1-1∈gk)(k)(h:k<4):(DP y k).length<=100:=RG h (aa (j5 a a (by decide)) (by decide)) (by decide:O1.length<=100) (by decide:O2.length<=100) (aa (j5 b h1 (by decide)) (by decide))
theorem Xe{y:Rg}(k)(h:k<4):([.bytes (DP y 0),.bytes O1,.bytes O2,.bytes (DP y 3)]:List PV)[k]?=some (.bytes (DP y k)):=RG h rfl rfl rfl rfl
theorem FT{xs:List Rg}{ls:List (List Nat)}{lns zs:List Ln}{mis:Bool}{t:List Nat}{e3 e4 e5 a b c:Slot}{n v:Nat}{K:Fl->L->aH->Prop}(h:PF ((35::t)::ls) lns (FQ mis))(j:ls.length<=50)(M:∀z∈xs,z.1∈gk/\z.2.1∈gk/\(z.1<=z.2.1/\z.2.1<z.1+4)/\z.2.2∈WV)(h1:∀y∈xs,y.1-1∈gk/\64<=y.1/\y.1<=y.2.1/\y.2.1+1<1114111)(h0:0<xs.length)(f:PO xs)(hp:zs.Perm lns)(hz:zs.map lnT=xs)(V:lns.length<=4)(C:xs.length<=4)(R:1<v)(B:v<6){N k:Nat}{Y:uL}(D:DA s 1 N k Y)(hk:k<=250)(hG:∀c,0<=c->G Y SCP c=.str ZZ)(q:∀e s,K (.ret (false,.bool true)) e s):bS (au (d+7)) noE (n+50) (Vj (aP.body.drop 7)) [.val (.ref 0),.val (.list (xs.map sZ)),.val (.ref 1),e3,e4,e5,.cj (((35::t)::ls).map .bytes),a,b,c,.val (.int v),.bB,.bB,.bB,.bB,.bB,.bB,.bB,.bB,.bB] s K:=by
 refine(?H:gB (by
  obtain⟨y,r,rfl⟩:∃y r,xs=y::r:=by clear M h1 f hz C;cases xs with|nil=>cases h0|cons y r=>exact⟨y,r,rfl⟩
  refine t9 (h1 y (.head _)) λg1 X g3 g4=>?_;refine t9 (M y (.head _)) λO P y3 y4=>?_;have u:=TF (d:=d) (s:=s) (l:=1) (x:=SCP) h j M g1 X f hp hz V (v-2) (j7 R B);have he:((y.1:Int)-1)=((y.1-1:Nat):Int):=(rj (aa (by decide:1<=64) X)).symm;have A:v-2<4:=j7 R B;have Z:=TH O P g1 (v-2) A;have Q:=sX g1 O;have hX:∀l∈(35::t)::(ls++[DP y (v-2)]),l.length<=100:=λl g=>by
   replace g:=(AQ b8)▸g;rcases bk.mp g with g|g;·exact(h.nl l g).2
   ·cases ao.mp g;exact Z
  have U:((35::t)::(ls++[DP y (v-2)])).length<=52:=by refine zl aO ?_;refine zl ah ?_;exact aB (ar j 1)
  have o:(bD [10] ((35::t)::(ls++[DP y (v-2)]))).length<=5252:=aa (ta hX) (bo 101 U);have E:=oD (s:=s) (c:=[10]) (aa o (by decide));replace E:=aM▸E;replace E:=ba▸E;have hf:au (d+7) Fn.pA [.int ((y.1:Int)-1),.int y.1] s=.ok (false,.bytes (q8 (y.1-1) y.1)) s:=he▸fields (d:=d+5) g1 O;have I:(gQ y.2.1).length<=20:=aa (vV _ (ct _ P)) (by decide);have m:∀z∈y::r,64<=z.1/\z.1<=z.2.1/\z.2.1+1<1114111:=λz hz=>(h1 z hz).2;dsimp[Vj,aP];apply aQ;dsimp;apply aQ;dsimp;refine oS H8 (oS rfl (oS H8 (oS rfl ?_)));dsimp[sZ];apply aQ;dsimp;refine Wp.of (Tn (d:=d+6) P) (oS (JU I) (Wp.of hf (oS (JU (aa Q (by decide))) ?_)));dsimp;refine oS (Ah (i:=v-2) (rj R).symm (by refine zl (show gQ y.2.1++qC++ra=DP y 0 by show _=q8 _ _++qC++ra;unfold q8;rw[if_pos rfl]) ?_;exact Xe (v-2) A)) ?_;apply aQ;dsimp;apply aQ;dsimp;refine oS (qR ?_) (oS E (oS (kI (aa (aB o) (by decide))) ?_));·refine zl aO ?_;refine zl (aj _) ?_;exact aa (ar (aB j) 1) (by decide)
  dsimp;apply aQ;dsimp;apply aQ;dsimp;refine Wp.of (Tz (d:=d+5) u) ?_;dsimp;refine sr (by refine zl (aj _) ?_;refine zl (beq_self_eq_true _) ?_;rfl) ?_;apply aQ;dsimp;apply aQ;dsimp;have S:=JN (d:=d+6) (s:=s) (xs:=y::r) (aa C (by decide));refine Wp.of S ?_;dsimp;refine zr (Q8 (uM (y::r))) ?_;refine Aj (q:=λ_=>none) _ (λz hz K hK=>?_) ?_;·refine dq (uN hz) λc T _=>?_;subst T;have W:=xe m hz;have J:=D.get (d:=d+4) hk (x:=SCP) W.1;replace J:=hG c W.1▸J;dsimp;refine mI D.i0 rfl ?_;dsimp;refine Wp.of J ?_;exact hK
  ·refine zl (eA.mpr λ_ _=>rfl) ?_;exact q _ _)) gA
 intro w;delta id at w;(try dsimp-zetaHave only at w);refine(?F:gC _) _ w;exactλp _=>p
end
theorem Xf{sp:Option Nat}{f:List PV}(xs:List Rg):∀(X:List (List Nat))(lns:List Ln),(∀y∈xs,y.1∈gk/\y.2.1∈gk/\y.2.2∈WV)->PF X lns f->∃a,PF (X++xs.map λy=>fv y.1 y.2.1 (tl sp (wd y.2.2))) (lns++a) f/\a.map lnT=xs.map λy=>(y.1,y.2.1,PV.str (tl sp (wd y.2.2))):=by
 induction xs with
 |nil=>intro X lns _ h;exact⟨[],by refine zl fP ?_;refine zl (aT _) ?_;refine zl (aT _) ?_;exact h,rfl⟩
 |cons y xs n=>
  intro X lns c h;refine uU (c _ (.head _)) λd i j=>?_;refine pg (oY j) λw e l _=>?_;refine uU (TA (sp:=sp) l) λg o b=>?_;have k:wd y.2.2=w:=by refine zl e ?_;rfl
  rw[<-k]at g b;refine dq (n _ _ (λz hz=>c z (.tail _ hz)) (h.ph (PU g d i) (aa (j5 d i (aa b (by decide))) (by decide)))) λa h1 m=>?_;refine⟨⟨(X.length:Int)+1,y.1,y.2.1,tl sp (wd y.2.2),[]⟩::a,?_,?_⟩;·rw[aG,aG]at h1;exact h1
  ·refine zl aM ?_;refine zl aM ?_;refine zl m ?_;rfl
theorem P6:∀a∈gk,(gQ a).headD 239≠239:=by decide+kernel
theorem yJ{c:Nat}{u:List Nat}(h:c≠239):mn (c::u):=by show((239==c)&&_)=false;rw[show(239==c)=false from beq_eq_false_iff_ne.mpr (dB h)];rfl
theorem Ce{a b:Nat}{w u:List Nat}(d:a∈gk):mn (fv a b w++u):=by
 have h:=P6 a d;unfold fv q8;cases e:gQ a with
 |nil=>rw[e]at h;exact absurd rfl h
 |cons c r=>
  rw[e]at h;split;·exact yJ h
  ·exact yJ h
def Yk(sp:Option Nat)(w:List Nat):List Nat:=match sp with|none=>w|some _=>if w=FK then ra else if w=FL then PX else CYR
theorem P7{sp:Option Nat}{w:List Nat}(h:w∈WR):Yk sp (tl sp w)=w:=by cases sp with|none=>rfl|some l=>exact(by decide:∀w∈WR,(if xP w=FK then ra else if xP w=FL then PX else CYR)=w) w h
def L9(mis:Bool)(v:PV):Bool:=!(mis&&(wd v==CYR))
theorem Ij{xs:List Rg}{p:PV->Bool}{c:Int}{dv:PV}(h:Dj xs)(g:∀y∈xs,p y.2.2=false->y.2.2=dv):jz (xs.filter λy=>p y.2.2) c dv=jz xs c dv:=by
 by_cases q:∃y∈xs,MM y c;·obtain⟨y,h1,a⟩:=q;cases e:p y.2.2 with|true=>rw[s7 (mz Rz h) (cC.mpr ⟨h1,e⟩) a,s7 h h1 a]|false=>rw[s7 h h1 a,g y h1 e];refine s8 λz hz k=>?_;obtain⟨f,d⟩:=cC.mp hz;have:=(s7 h f k (dv:=dv)).symm.trans (s7 h h1 a);rw[this,e]at d;cases d
 ·have q':∀y∈xs,¬MM y c:=λy b k=>q ⟨y,b,k⟩;rw[s8 q',s8 λy b=>q' y (cC.mp b).1]
theorem DA.qn{s t:aH}{l N k:Nat}{e:uL}(D:DA s l N k e):DA (s++t) l N k e:=have d:∀{j:Nat}{c:jt},s[j]?=some c->(s++t)[j]?=some c:=λ{j c}h=>by refine zl (dG (aU.mp h).1) ?_;exact h
 {D with
 i0:=d D.i0
 i1:=d D.i1
 i2:=d D.i2
 iG:=by refine zl ah ?_;exact aa D.iG (aR ..)
 rm:=λp f=>by refine uU (D.rm p f) λa b c=>?_;exact⟨a,d b,c⟩}
theorem DA.new{s:aH}{l:Nat}(h0:s[l]?=some (ML l))(h1:s[l+1]?=some (.dict Rh))(b:s[l+2]?=some (.dict []))(a:l+4<s.length):DA s l s.length 0 []:=⟨h0,h1,b,a,bf _,λ_ h=>absurd h bJ,qa,qa,bf _⟩
def isStr(v:PV):Prop:=∃w,v=.str w
def Ax(mis:Bool):PV:=if mis then .str CYR else .str ZZ
theorem P8(mis:Bool):isStr (Ax mis):=by cases mis<;>exact⟨_,rfl⟩
def gst(mis:Bool):Gf:=λy c=>if mis=true/\y=SCP then .str CYR else qj y
theorem P9{mis:Bool}{c:Int}:gst mis SCP c=Ax mis:=by unfold gst Ax;cases mis with|false=>rw[if_neg λh=>mR h.1];rfl|true=>rw[if_pos ⟨rfl,rfl⟩];rfl
theorem Xg{mis:Bool}{xs:List Rg}{c:Int}(a:∀y∈xs,y.2.2∈WV):(ui (jz xs c (Ax mis))).isSome=true:=by
 rcases P2 (xs:=xs) (c:=c) (dv:=Ax mis)with h|⟨y,d,h⟩;·refine zl h ?_;clear h;cases mis<;>rfl
 ·refine pg (oY (a y d)) λw e b _=>?_;refine zl h ?_;refine zl e ?_;exact(by decide:∀w∈WR,(ui (.str w)).isSome=true) w b
section
variable{d l N:Nat}{s:aH}{E:PV->aH->Prop}
theorem Cg{o:List Nat}{m:PV}{lns:List Ln}{mis:Bool}{args:List PV}{val:Ln->PV}{ys fs:List Rg}{Q:Bool×PV->aH->Prop}(g:gu 4 args=[.bytes o,.ref l,.str SCP,m])(p:decide (3<=args.length/\args.length<=4)=true)(v:au (d+4) Fn.dR [.bytes o] s=.ok (true,.list (lns.map Ln.ph)) s)(r:∀y∈lns,y.ok)(F:lns.length<=5)(J:au (d+5) Fn.dh [.bytes o,.none,m] s=.ok (true,.list (if mis then[.bR [.int 0,.int 1114111,.str CYR]]else[])) s)(t:jq none (fR d7 (lns.map Ln.tr))=none)(H:∀y∈lns,au (d+5) Fn.fY [.bytes y.w,m,.int y.n] s=.ok (false,val y) s)(D:DA s l N 0 [])(u:lns.map (λy=>(⟨SCP,y.a,y.b,val y⟩:Pt))=ys.map (uO SCP))(k:Dj fs)(i:∀y,y∈ys↔y∈fs)(j:Dj ys)(C:∀y∈ys,y.2.2∈WV/\y.1<=y.2.1/\y.2.1<1114111)(q:∀s' f,DA s' l N 30 f->(∀c,0<=c->c<=1114111->G f SCP c=jz fs c (Ax mis))->GG l N s s'->Q (false,.none) s'):Wp (au (d+6) Fn.dg args s) Q E:=by
 refine LW (val:=val) g p v r F J t H D (λh=>⟨rfl,λ_=>rfl⟩) ?_ λs' f I B z=>q s' f I (λc h0 h1=>?_) z;·
  rw[u];refine LX (K:=isStr) (λa b t L=>?_) (λc=>?_) λy x=>?_;·obtain⟨_,rfl⟩:=t;obtain⟨_,rfl⟩:=L;exact JO
  ·show isStr (gst mis SCP c);rw[P9];exact P8 mis
  ·obtain⟨h1,A⟩:=C y x;obtain⟨w,e,_⟩:=oY h1;exact⟨⟨w,e⟩,A⟩
 ·rw[B SCP c h0 h1,u,Aq k i j];congr 1;exact P9 (c:=c)
theorem Qa{mis:Bool}{sp:Option Nat}{xs:List Rg}(m:∀y∈xs,y.1∈gk/\y.2.1∈gk/\y.2.2∈WV)(h:xs.length<=4):∃lns:List Ln,(∀{d:Nat}{s:aH},au (d+2) Fn.dR [.bytes (FO mis sp xs)] s=.ok (true,.list (lns.map Ln.ph)) s/\au (d+2) Fn.dU [.bytes (FO mis sp xs)] s=.ok (true,.list (FQ mis)) s)/\lns.map lnT=(xs.filter λy=>L9 mis y.2.2).map λy=>(y.1,y.2.1,PV.str (tl sp (wd y.2.2))):=by
 have c:∀y∈xs.filter λy=>L9 mis y.2.2,y.1∈gk/\y.2.1∈gk/\y.2.2∈WV:=λy i=>m y (cC.mp i).1;have h0:PF (if mis then[Rj]else[]) [] (FQ mis):=match mis with|false=>PF.empty|true=>PF.Vh;refine dq (Xf (sp:=sp) _ _ _ c h0) λlns h1 b=>?_;refine⟨lns,λ{d s}=>?_,b⟩;have a:((if mis then[Rj]else[])++r8 mis sp xs).length<=5:=by refine zl ah ?_;refine aa (aD ?_ _) (ar (show(if mis then[Rj]else[]).length<=1 by clear c h0 h1 b;cases mis<;>decide) 4);unfold r8;refine zl (aj _) ?_;exact aa (gm ..) h
 refine h1.JR.Xb (r7 λf j=>(h1.nl f j).1) ?_ ?_ ?_;·clear h0 h1 b a;cases mis with|true=>exact yJ (by decide)|false=>unfold FO r8;cases e:xs.filter λy=>!(false&&(wd y.2.2==CYR))with|nil=>rfl|cons y r=>have:=c y (by show y∈xs.filter λy=>!(false&&(wd y.2.2==CYR));refine zl e ?_;exact .head _);show mn (fv _ _ _++[10]++_);refine zl (aG _ _ _) ?_;exact Ce this.1
 ·refine zl ah ?_;exact aa (ar a 1) (by decide)
 ·unfold FO;refine zl su ?_;refine aa (r9 (k:=101) λl h=>?_) (aa (bo 101 (by refine zl (aj _) ?_;exact a)) (by decide));refine dq (aL.mp h) λz hz g=>?_;subst g;refine zl ah ?_;exact aB (h1.nl z hz).2
end
structure GH(xs:List Rg):Prop where
 x:∀z∈xs,z.1∈gk/\z.2.1∈gk/\(z.1<=z.2.1/\z.2.1<z.1+4)/\z.2.2∈WV
 y:∀z∈xs,z.1-1∈gk/\64<=z.1/\z.1<=z.2.1/\z.2.1+1<1114111
 wY:PO xs
 nV:xs.length<=4
section
variable{d:Nat}{s:aH}{E:PV->aH->Prop}{xs:List Rg}
theorem GH.w(h:GH xs):∀z∈xs,z.1∈gk/\z.2.1∈gk/\z.2.2∈WV:=λz hz=>by refine t9 (h.x z hz) λa b _ c=>?_;exact⟨a,b,c⟩
theorem GH.p(h:GH xs){y:Rg}(a:y∈xs):y.2.2∈WV/\y.1<=y.2.1/\y.2.1<1114111:=⟨(h.x y a).2.2.2,(h.y y a).2.2.1,cL (h.y y a).2.2.2⟩
theorem GH.ge(h:GH xs){c:Int}(a:.int c∈uM xs):0<=c/\c<=1114111:=xe (λz hz=>(h.y z hz).2) a
theorem GH.told(h:GH xs){l N k:Nat}{b:uL}{mis:Bool}(D:DA s l N k b)(f:k<=250)(e:∀c,0<=c->c<=1114111->G b SCP c=jz xs c (Ax mis)):au (d+4) Fn.f5 [.ref l,.str SCP,.list (xs.map sZ),Ax mis] s=.ok (false,.bool true) s:=Q.told D f (aa h.nV (by decide)) λc a=>⟨(h.ge a).1,e c (h.ge a).1 (h.ge a).2,Xg λy g=>(h.x y g).2.2.2⟩
theorem Ci(h:GH xs){l N:Nat}{mis:Bool}{sp:Option Nat}{H:PV}{Q:Bool×PV->aH->Prop}(J:H=.none\/mis=false)(D:DA s l N 0 [])(o:∀w∈WR,∀m,au (d+6) Fn.fY [.bytes (tl sp w),H,.int m] s=.ok (false,.str w) s)(q:∀s',au (d+7) Fn.f5 [.ref l,.str SCP,.list (xs.map sZ),Ax mis] s'=.ok (false,.bool true) s'->Q (false,.none) s'):Wp (au (d+7) Fn.dg [.bytes (FO mis sp xs),.ref l,.str SCP,H] s) Q E:=by
 refine dq (Qa (mis:=mis) (sp:=sp) h.w h.nV) λlns i u=>?_;have C:∀{z},z∈(xs.filter λy=>L9 mis y.2.2)->z∈xs:=λhz=>(cC.mp hz).1;have B:∀y∈lns,∃z∈xs,∃w∈WR,y.a=z.1/\y.b=z.2.1/\z.2.2=.str w/\y.w=tl sp w:=λy j=>by refine dq (aL.mp (u▸dH (f:=lnT) j)) λz hz e=>?_;refine pg (oY (h.x z (C hz)).2.2.2) λw k n _=>?_;have v:=RI (congrArg (λz:Rg=>z.2.2) e);replace v:=k▸v;exact⟨z,C hz,w,n,(congrArg (λz:Rg=>z.1) e).symm,(congrArg (λz:Rg=>z.2.1) e).symm,k,v.symm⟩
 have G:∀y∈lns,y.ok:=λy j=>by obtain⟨z,hz,w,n,K,k,_,v⟩:=B y j;refine t9 (h.x z hz) λa b c _=>?_;exact⟨K▸a,k▸b,K▸k▸c,v▸(TA n).2.1⟩
 have M:lns.length<=4:=by have:=congrArg cZ u;rw[aj,aj]at this;exact this▸aa (gm ..) h.nV
 have g:PO (xs.filter λy=>L9 mis y.2.2):=mz Rz h.wY;have r:Ar (lns.map Ln.tr):=Ii (by refine zl u ?_;unfold PO at g⊢;rw[ee];exact g);have F:∀t∈lns.map Ln.tr,t.1<=t.2.1:=λt u=>by refine dq (aL.mp u) λy j I=>?_;subst I;exact bW.mpr (G y j).2.2.1.1
 have A:lns.map (λy=>(⟨SCP,y.a,y.b,.str (Yk sp y.w)⟩:Pt))=(xs.filter λy=>L9 mis y.2.2).map (uO SCP):=by have:=congrArg (qd λz:Rg=>(⟨SCP,z.1,z.2.1,.str (Yk sp (wd z.2.2))⟩:Pt)) u;replace this:=bE▸this;replace this:=bE▸this;refine this.trans (da λz hz=>?_);refine pg (oY (h.x z (C hz)).2.2.2) λw k n _=>?_;show(⟨SCP,z.1,z.2.1,.str (Yk sp (tl sp (wd z.2.2)))⟩:Pt)=⟨SCP,z.1,z.2.1,z.2.2⟩;refine zl k ?_;exact zl (show Yk sp (tl sp (wd (.str w)))=w from P7 n) rfl
 refine Cg (d:=d+1) (mis:=mis) (val:=λy=>.str (Yk sp y.w)) rfl rfl (i (d:=d+3)).1 G (b7 M) ?_ (by refine zl (JP r F (.refl _)) ?_;exact As r F) (λy j=>?_) D A g.dj (λ_=>Iff.rfl) g.dj (λy j=>h.p (C j)) λs' L O P R=>q s' (h.told O (by decide) λc h0 h1=>?_);·
  clear o q u C g A;rcases J with rfl|rfl;·exact vZ (i (d:=d+3)).2
  ·exact B3 (i (d:=d+3)).2
 ·obtain⟨z,hz,w,n,_,_,_,v⟩:=B y j;refine zl v ?_;refine zl (P7 n) ?_;exact o w n _
 ·refine zl (P c h0 h1) ?_;refine Ij h.wY.dj λy j e=>?_;refine dq (oY (h.x y j).2.2.2) λw k _=>?_;unfold L9 at e;rw[Um,ax]at e;refine zl e.1 ?_;refine zl k ?_;replace e:=k▸e;exact congrArg PV.str (eq_of_beq e.2)
end
@[simp]theorem af3:Xc none=.none:=rfl
@[simp]theorem af4{l:Nat}:Xc (some l)=.ref l:=rfl
section
variable{d n:Nat}{s:aH}{E:PV->aH->Prop}{xs:List Rg}
theorem Cj(h:GH xs){N:Nat}{mis:Bool}{sp:Option Nat}{t e5 e6 a b c e10 o:Slot}{K:Fl->L->aH->Prop}(D:DA s 6 N 0 [])(f:∀g,sp=some g->s[g]?=some (.dict SPD))(q:∀e s,K (.ret (false,.bool true)) e s):bS (au (d+7)) E (n+50) (aP.body.drop 14) [.val (.ref 0),.val (.list (xs.map sZ)),t,.val (.ref 6),.val (.bool mis),e5,e6,a,b,c,e10,.bB,.bB,.bB,.bB,o,.val (Xc sp),.bB,.bB,.bB] s K:=by
 refine(?H:gB (by
  have k:=λ{m sp}(f:∀g,sp=some g->s[g]?=some (.dict SPD))(u:m=true->sp=none)=>FP (d:=d+3) (s:=s) (mis:=m) (sp:=sp) (xs:=xs) f u h.w (aa h.nV (by decide));cases sp with
  |none=>
   have i:∀w∈WR,∀m,au (d+6) Fn.fY [.bytes (tl none w),.none,.int m] s=.ok (false,.str w) s:=λw r m=>Ao (DN w r).2.2.2.1;have j:∀m,bS (au (d+7)) E (n+47) (aP.body.drop 17) [.val (.ref 0),.val (.list (xs.map sZ)),t,.val (.ref 6),.val (.bool m),e5,e6,a,b,c,e10,.bB,.bB,.bB,.val (.bytes (FO m none xs)),o,.val .none,.val .none,.bB,.bB] s K:=λm=>by dsimp[aP];apply aQ;dsimp;refine Ci (mis:=m) (sp:=none) h (.inl rfl) D i λs' l=>?_;apply aQ;dsimp;cases m<;>(apply aQ;dsimp;exact Wp.of l (q _ _))
   dsimp[aP];apply aQ;dsimp;cases mis with|false=>apply aQ;dsimp;refine Wp.of (k (m:=false) (sp:=none) f λ_=>rfl) ?_;dsimp;apply aQ;dsimp;exact j false|true=>apply aQ;dsimp;refine Wp.of (k (m:=true) (sp:=none) f λ_=>rfl) ?_;dsimp;apply aQ;dsimp;exact j true
  |some g=>
   have i:∀w∈WR,∀m,au (d+6) Fn.fY [.bytes (tl (some g) w),.ref s.length,.int m] (s++[.dict SPB])=.ok (false,.str w) (s++[.dict SPB]):=λw r m=>PL (DN w r).2.1 uK rfl (JT w r).2;have j:∀m,bS (au (d+7)) E (n+47) (aP.body.drop 17) [.val (.ref 0),.val (.list (xs.map sZ)),t,.val (.ref 6),.val (.bool m),e5,e6,a,b,c,e10,.bB,.bB,.bB,.val (.bytes (FO false (some g) xs)),o,.val (.ref g),.val (.ref s.length),.bB,.bB] (s++[.dict SPB]) K:=λm=>by dsimp[aP];apply aQ;dsimp;refine Ci (mis:=false) (sp:=some g) h (.inr rfl) D.qn i λs' l=>?_;apply aQ;dsimp;cases m<;>(apply aQ;dsimp;exact Wp.of l (q _ _))
   dsimp[aP];apply aQ;dsimp;cases mis with|false=>apply aQ;dsimp;refine Wp.of (k (m:=false) (sp:=some g) f λh=>by injection h) ?_;dsimp;apply aQ;dsimp;refine oS (a:=SPB) rfl ?_;exact j false|true=>apply aQ;dsimp;refine Wp.of (k (m:=false) (sp:=some g) f λh=>by injection h) ?_;dsimp;apply aQ;dsimp;refine oS (a:=SPB) rfl ?_;exact j true)) gA
 intro w;delta id at w;(try dsimp-zetaHave only at w);refine(?F:gC _) _ w;exactλp _=>p
end
def g9(l:Nat):aH:=[ML l,.dict Rh,.dict [],.dict [],.dict []]
section
variable{d n:Nat}{s r:aH}{E:PV->aH->Prop}{xs:List Rg}{cs:List Int}{m:Int}
theorem Ik(h:GH xs){N k:Nat}{mis:Bool}{g:uL}{e5 e6 a b c e10:Slot}{K:Fl->L->aH->Prop}(f:jo cs m)(D:DA (.cK cs m::r) 1 N k g)(l:k<=250)(j:∀c,0<=c->c<=1114111->G g SCP c=jz xs c (Ax mis))(t:r[5]?=some (ML 6))(w:r[6]?=some (.dict Rh))(p:r[7]?=some (.dict []))(v:9<r.length)(q:∀e s,K (.ret (false,.bool true)) e s):bS (au (d+7)) E (n+53) (aP.body.drop 11) [.val (.ref 0),.val (.list (xs.map sZ)),.val (.ref 1),.val (.ref 6),.val (.bool mis),e5,e6,a,b,c,e10,.bB,.bB,.bB,.bB,.val (Ax mis),.val .none,.bB,.bB,.bB] (.cK cs m::r) K:=by
 dsimp[aP];apply aQ;dsimp;apply aQ;dsimp;refine Wp.of (h.told (d:=d+3) D l j) ?_;dsimp;apply aQ;dsimp;refine nP (n:=2) f (by decide) λu cs m x f=>?_;dsimp;have i:DA (.cK cs m::r) 6 (jt.cK cs m::r).length 0 []:=DA.new t w p (X9 v);refine Yb x ?_ ?_;·refine sl rfl ?_;apply aQ;dsimp;refine oS (a:=SPD) rfl ?_;refine Cj (sp:=some (jt.cK cs m::r).length) h i.qn (λo e=>?_) q;cases e;exact uK
 ·refine sr rfl ?_;exact Cj (sp:=none) h i (λo e=>by injection e) q
theorem Ma(h:GH xs){ls:List (List Nat)}{lns zs:List Ln}{mis:Bool}{t:List Nat}{e5 a b c e10:Slot}{K:Fl->L->aH->Prop}(A:PF ((35::t)::ls) lns (FQ mis))(z:ls.length<=50)(u:zs.Perm lns)(hz:zs.map lnT=xs)(i:lns.map lnT=xs\/lns.map lnT=xs.reverse)(P:jo cs m)(q:∀e s,K (.ret (false,.bool true)) e s):bS (au (d+7)) E (n+56) (aP.body.drop 8) [.val (.ref 0),.val (.list (xs.map sZ)),.val (.ref 1),.val (.ref 6),.val (.bool mis),e5,.cj (((35::t)::ls).map .bytes),a,b,c,e10,.bB,.bB,.bB,.bB,.bB,.bB,.bB,.bB,.bB] (.cK cs m::(g9 1++g9 6)) K:=by
 subst hz;obtain⟨H,G⟩:=PW (d:=d+3) (s:=.cK cs m::(g9 1++g9 6)) A (aa z (by decide));have o:=DL A.nl (aB (aa z (by decide)));have j:∀x∈lns,x.ok:=Vi h.x λx J=>dH (f:=lnT) (u.mem_iff.mpr J);have g:=Ii h.wY;have v:∀t∈zs.map Ln.tr,t.1<=t.2.1:=λt M=>by obtain⟨y,i,rfl⟩:=aL.mp M;exact bW.mpr (j y (u.mem_iff.mp i)).2.2.1.1
 have D:lns.length<=4:=u.length_eq▸aj (as:=zs) lnT▸h.nV;have l:∀y,y∈lns.map lnT↔y∈zs.map lnT:=λy=>((u.map lnT).mem_iff).symm;have B:Dj (lns.map lnT):=i.elim (λe=>e▸h.wY.dj) λe=>e▸h.wY.dj.Ra;have O:DA (.cK cs m::(g9 1++g9 6)) 1 11 0 []:=DA.new (s:=.cK cs m::(g9 1++g9 6)) rfl rfl rfl (aE rfl);have C:bS (au (d+7)) E (n+55) (aP.body.drop 9) [.val (.ref 0),.val (.list ((zs.map lnT).map sZ)),.val (.ref 1),.val (.ref 6),.val (.bool mis),e5,.val (.list (((35::t)::ls).map .bytes)),a,b,c,e10,.bB,.bB,.bB,.bB,.bB,.bB,.bB,.bB,.bB] (.cK cs m::(g9 1++g9 6)) K:=by
  dsimp[aP];apply aQ;dsimp;refine oS (oD (ls:=(35::t)::ls) (aa o (by decide))) (oS (kI (aa (aB o) (by decide))) ?_);refine Cg (d:=d+1) (mis:=mis) (val:=λy=>.str y.w) (fs:=zs.map lnT) (ys:=lns.map lnT) rfl rfl H j (b7 D) (vZ G) (by rw[JP g v (u.map _)];exact As g v) (λy i=>Ao (j y i).2.2.2) O (by rw[bE];rfl) h.wY.dj l B (λy i=>h.p ((l y).mp i)) λs' I F N k=>?_;clear A G;obtain⟨c0,r,rfl⟩:∃c0 r,s'=c0::r:=by clear F;cases s' with|nil=>exact absurd k.1 (Q5 _)|cons c r=>exact⟨c,r,rfl⟩
  obtain rfl:c0=.cK cs m:=bu (k.2 0 (by decide) (by decide));apply aQ;dsimp;have:=Ik (d:=d) (n:=n) (E:=E) (mis:=mis) (e5:=e5) (e6:=.val (.list (((35::t)::ls).map .bytes))) (a:=a) (b:=b) (c:=c) (e10:=e10) h P F (by decide) N (k.2 6 (by decide) (by decide)) (k.2 7 (by decide) (by decide)) (k.2 8 (by decide) (by decide)) (lR k.1) q;cases mis<;>exact this
 dsimp[aP];apply aQ;dsimp;exact C
end
@[simp]theorem aiv:iI .data=Fn.wH:=rfl
@[simp]theorem aiw:iI .xW=Fn.sC:=rfl
@[simp]theorem aix:iI .ph=Fn.pn:=rfl
theorem Ib.Vf{d i:Nat}{xs:List Rg}(h:Ib d WV xs i)(k:d∈bases)(j:xs.length<=4):GH xs where
 x:=λz hz=>by refine uW (h.rc k j hz) λa b _ c e _ _ v=>?_;exact⟨a,b,⟨c,e⟩,v⟩
 y:=λz hz=>by refine uW (h.rc k j hz) λ_ _ a c _ f g _=>?_;exact⟨a,f,c,g⟩
 wY:=h.PQ.1
 nV:=j
section
variable{d:Nat}{s r:aH}{xs:List Rg}{cs:List Int}{m:Int}
theorem Qb(h:GH xs)(h0:0<xs.length){ys:List Rg}{mis:Bool}{K:Fl->L->aH->Prop}(p:ys=xs\/ys=xs.reverse)(o:jo cs m)(q:∀e s,K (.ret (false,.bool true)) e s):bS (au (d+7)) noE 395 (aP.body.drop 5) [.val (.ref 0),.val (.list (xs.map sZ)),.val (.ref 1),.val (.ref 6),.val (.bool mis),.val (.list (ys.map sZ)),.cj ([Xd mis].map .bytes),.bB,.bB,.bB,.bB,.bB,.bB,.bB,.bB,.bB,.bB,.bB,.bB,.bB] (.cK cs m::(g9 1++g9 6)) K:=by
 have t:∀y∈ys,y∈xs:=λy g=>p.elim (λe=>e▸g) λe=>Ya.mp (e▸g);have j:ys.length<=4:=p.elim (λe=>e▸h.nV) λe=>by refine zl e ?_;refine zl ef ?_;exact h.nV
 dsimp[aP];apply aQ;dsimp;refine Ih (d:=d+4) (e5:=.val (.list (ys.map sZ))) (h1:=Xd mis) ys [] [] cs m _ _ _ (λy g=>h.w y (t y g)) (TB mis) (aa (aD (bo 2 j) 0) (by decide)) o λls lns cs m a b c z o i l=>?_;have i:ls.length<=50:=aa i (aa (aD (bo 2 j) 0) (by decide));have l:lns.map lnT=ys:=l;refine dq (P1 l p) λzs A hz=>?_;have u:lns.length<=4:=by refine zr (aj (f:=lnT)) ?_;refine zl l ?_;exact j
 dsimp;apply aQ;dsimp;refine nP (n:=6) o (by decide) λv cs m B o=>?_;dsimp;apply aQ;dsimp;by_cases hv1:1<v;·refine so (bX.mpr hv1) ?_;have C:DA (.cK cs m::(g9 1++g9 6)) 1 11 0 []:=DA.new (s:=.cK cs m::(g9 1++g9 6)) rfl rfl rfl (aE rfl);exact FT (n:=342) (zs:=zs) z i h.x h.y h0 h.wY A hz u h.nV hv1 B C (by decide) (λc _=>rfl) q
 ·refine sn (λk=>hv1 (bX.mp k)) ?_;exact Ma (n:=336) (mis:=mis) h z i A hz (l▸p) o q
theorem Il(h:GH xs)(h0:0<xs.length){K:Fl->L->aH->Prop}(a:jo cs m)(q:∀e s,K (.ret (false,.bool true)) e s):bS (au (d+7)) noE 399 (aP.body.drop 1) [.val (.ref 0),.cj (xs.map sZ),.val (.ref 1),.val (.ref 6),.bB,.bB,.bB,.bB,.bB,.bB,.bB,.bB,.bB,.bB,.bB,.bB,.bB,.bB,.bB,.bB] (.cK cs m::(g9 1++g9 6)) K:=by
 have b:∀{mis ys cs m c},(ys=xs\/ys=xs.reverse)->(c=.cj (ys.map sZ)\/c=.val (.list (ys.map sZ)))->jo cs m->bS (au (d+7)) noE 397 (aP.body.drop 3) [.val (.ref 0),.val (.list (xs.map sZ)),.val (.ref 1),.val (.ref 6),.val (.bool mis),c,.bB,.bB,.bB,.bB,.bB,.bB,.bB,.bB,.bB,.bB,.bB,.bB,.bB,.bB] (.cK cs m::(g9 1++g9 6)) K:=λ{mis ys cs m c}f g a=>by have:=Qb (d:=d) (mis:=mis) h h0 f a q;dsimp[aP];apply aQ;dsimp;cases mis<;>(rcases g with rfl|rfl<;>(apply aQ;exact this))
 dsimp[aP];apply aQ;dsimp;apply aQ;dsimp;refine nP (n:=3) a (by decide) λt cs m i a=>?_;dsimp;refine nP (n:=2) a (by decide) λu cs m j a=>?_;dsimp;cases(u:Int)==0 with|true=>refine zr iD ?_;exact b (.inr rfl) (.inl rfl) a|false=>exact b (.inl rfl) (.inr rfl) a
theorem Im{Q:Bool×PV->aH->Prop}(a:jo cs m)(q:∀s,Q (false,.bool true) s):Wp (au (d+8) Fn.jM [.ref 0] [.cK cs m]) Q noE:=by refine bq aP rfl rfl ?_;dsimp[aP,bx];apply aQ;dsimp;refine Ic (d:=d+4) a (by decide) λb xs e cs m g c h0 f a=>?_;have h:GH xs:=Ib.Vf c g f;dsimp;refine Wp.of (BY (d:=d+5) (t:=[.cK cs m])) ?_;dsimp;refine Wp.of (BY (d:=d+5) (t:=.cK cs m::g9 1)) ?_;exact Il h h0 a λ_ s=>q s
end
def aez(x:List (X×X)):List (List Nat×List Nat):=x.filterMap λp=>match p.1,p.2 with|.aF k,.aF v=>some (wd k,wd v)|_,_=>none
def BNL:List (List Nat×List Nat):=match gF.body with|.ret (.dict kvs)::_=>aez kvs|_=>[]
def BN:List (PV×PV):=BNL.map λp=>(.str p.1,.str p.2)
theorem Io{K:PV->Prop}(e:∀a b,K a->K b->lk a b){d:List Pt}:∀{g:Gf},(∀p∈d,K p.v/\(0<=p.i/\p.i<=p.j/\p.j<1114111)/\∀c,K (g p.x c))->mq g d:=by
 induction d with
 |nil=>intro _ _;exact trivial
 |cons p r n=>
  intro g h;obtain⟨h1,⟨m,l,q⟩,f⟩:=h p (.head _);refine⟨⟨m,l,q,e _ _ (f _) h1,λ_=>e _ _ (f _) h1⟩,n λz hz=>?_⟩;refine uU (h z (.tail _ hz)) λo s k=>?_;refine⟨o,s,λc=>?_⟩;unfold nO;split;·exact h1
  ·exact k c
def Rk(y:Ln):Option Pt:=(BNL.lookup y.w).map λx=>⟨x,y.a,y.b,.bool true⟩
noncomputable def trI(p:Pt):PV:=.bR [.str p.x,.int p.i,.int p.j]
section
variable{d l N:Nat}{s:aH}{E:PV->aH->Prop}
theorem names:au (d+1) Fn.km [] s=.ok (false,.ref s.length) (s++[.dict BN]):=by refine Wp.eq (bq gF rfl rfl ?_);dsimp[gF,bx];apply aQ;dsimp;exact oS (a:=BN) rfl ⟨rfl,rfl⟩
theorem Mb{o C:PV}{v:Nat}{Q:Fl->L->aH->Prop}(B:s[v]?=some (.dict BN))(xs:List Ln):∀(acc:List Pt){a b c e f g h:Slot},(∀x∈xs,x.ok)->acc.length+xs.length<=eu->(∀a b c e f g h,Q .next [.val o,.val C,.val (.ref v),.cj ((acc++xs.filterMap Rk).map trI),a,b,c,e,f,g,h] s)->fJ (λt l s k=>pT [4,5,6] t l λl=>bS (au (d+5)) E 396 (j4 eW 1) l s k) (xs.map Ln.ph) [.val o,.val C,.val (.ref v),.cj (acc.map trI),a,b,c,e,f,g,h] s Q:=by
 refine(?H:gB (by
  induction xs with
  |nil=>intro acc a b c e f g h _ _ q;have:=q a b c e f g h;rwa[show acc++[].filterMap Rk=acc from aT _]at this
  |cons x xs z=>
   intro acc a b c e f g h A G q;obtain⟨K,J,⟨I,O⟩,M⟩:=A x (.head _);have m:=λy D=>A y (bw x D);have j:acc.length+1+xs.length<=eu:=bg acc.length xs.length 1▸G;have i:dw (.str x.w) BN=(BNL.lookup x.w).map .str:=Va;refine j1 ?_;dsimp[j4,ft,eW,Ln.ph,Ln.fs];apply aQ;dsimp;apply aQ;dsimp;refine oS H8 (Wp.of (gN (d:=d+1) K J I O) ?_);dsimp;apply aQ;dsimp;refine oS W7 (Wp.of (W6 (d:=d+3) M) ?_);dsimp;apply aQ;dsimp;refine oS (PC B (GF rfl x.w)) ?_;rw[i];cases u:BNL.lookup x.w with
   |none=>refine z acc m (aa (ar (e9 _) _) j) λa b c e f g h=>?_;have:=q a b c e f g h;rwa[List.filterMap_cons_none (by unfold Rk;rw[u];rfl)]at this
   |some nm=>
    rw[u]at i;show bS _ _ _ _ _ _ _;apply aQ;dsimp;refine oS (LN B (GF rfl x.w) i) (so (by rw[aj];exact aw (cB _) (aa (aR ..) j)) ?_);have:=z (a:=.val (.int x.n)) (b:=.val (.list [.bytes (q8 x.a x.b),.bytes x.w])) (c:=.val (.bytes x.r)) (e:=.val (.int x.a)) (f:=.val (.int x.b)) (g:=.val (.str x.w)) (h:=h) (acc++[⟨nm,x.a,x.b,.bool true⟩]) m (by rw[ah];exact j) λa b c e f g h=>by have:=q a b c e f g h;rwa[rh (b:=⟨nm,x.a,x.b,.bool true⟩) (by unfold Rk;rw[u];rfl),sq]at this
    rwa[ba]at this)) gA
 intro w;delta id at w;(try dsimp-zetaHave only at w);refine(?F:gC _) _ w;exactλp _=>p
end
noncomputable def IDSW:List Nat:=[73,68,95,83,116,97,114,116]
noncomputable def CASW:List Nat:=[67,97,115,101,100]
noncomputable def Xh:List Nat:=[105,100,115]
noncomputable def Xi:List Nat:=[99,97,115,101,100]
def isBl(v:PV):Prop:=∃b,v=.bool b
section
variable{d l N n:Nat}{s:aH}{E:PV->aH->Prop}
set_option genInjectivity false in set_option genCtorIdx false in inductive BI(l:Nat):L->Prop|mk(o y z a b c f g h j:Slot):BI l [o,.val (.ref l),y,z,a,b,c,f,g,h,j]
theorem Mc(p:Pt)(e:L)(s s':aH)(K:Fl->L->aH->Prop)(t:p.v=.bool true)(r:BI l e)(h0:s[l]?=some (ML l))(m:au (d+4) Fn.pv [.ref l,.str p.x,.int p.i,.int p.j,p.v] s=.ok (false,.none) s')(q:∀k,BI l k->K .next k s'):pT [10,7,8] (trI p) e λe=>bS (au (d+4)) E 394 (j4 eW 3) e s K:=by obtain⟨o,y,z,a,b,c,f,g,h,j⟩:=r;rw[t]at m;dsimp[j4,ft,eW,trI];apply aQ;dsimp;refine mI h0 rfl ?_;dsimp;exact Wp.of m (q _ ⟨o,y,z,a,b,c,_,_,h,_⟩)
theorem Ck{o:List Nat}{lns:List Ln}{Q:Bool×PV->aH->Prop}(t:∀s,au (d+5) Fn.dR [.bytes o] s=.ok (true,.list (lns.map Ln.ph)) s)(B:∀y∈lns,y.ok)(r:lns.length<=60)(D:DA s l N 0 [])(k:mq (λy _=>qj y) (lns.filterMap Rk))(q:∀s' i,DA s' l N 190 i->Ag ((lns.filterMap Rk).foldl nO λy _=>qj y) i->GG l N (s++[.dict BN]) s'->Q (false,.none) s'):Wp (au (d+6) Fn.lj [.bytes o,.ref l] s) Q E:=by
 refine(?H:gB (by
  have j:(lns.filterMap Rk).length<=60:=aa (List.length_filterMap_le ..) r;refine bq eW rfl rfl ?_;dsimp[eW,bx];apply aQ;dsimp;refine Wp.of names ?_;dsimp;apply aQ;dsimp;apply aQ;dsimp;refine Wp.of (t _) ?_;dsimp;refine Mb (d:=d) uK lns [] B (aa (aD r 0) (by decide)) λa b c e f g h=>?_;dsimp;apply aQ;dsimp;apply aQ;dsimp;refine sY (d:=d+1) trI (BI l) (λp=>p.v=.bool true) Mc _ _ _ 0 [] _ D.qn (λy c _ _=>rfl) (by exact o22 j) k (λp k=>?_) ⟨_,_,_,_,_,_,_,_,_,_⟩ λC s' i _ u A z=>?_;·refine dq (eP.mp k) λy _ m=>?_;unfold Rk at m;obtain⟨x,_,rfl⟩:=f6 m;rfl
  ·exact q s' i (u.le (by exact o23 j)) A z)) gA
 intro w;delta id at w;(try dsimp-zetaHave only at w);refine(?F:gC _) _ w;exactλp _=>p
noncomputable def pairP(x:Rg):PV:=.bR [.int x.1,.int x.2.1]
theorem FU{o rs:PV}{w:List Nat}{Q:Fl->L->aH->Prop}(i:w∈WS)(f:w.length<=12)(xs:List Rg):∀(acc:List (List Nat)){a b:Slot},(∀y∈xs,y.1∈gk/\y.2.1∈gk)->acc.length+xs.length<=eu->(∀a b,Q .next [.val o,.cj ((acc++xs.map λy:Rg=>fv y.1 y.2.1 w++[10]).map .bytes),.val (.str w),.val rs,a,b] s)->fJ (λc l s k=>pT [4,5] c l λl=>bS (au (d+3)) E (n+20) [.qn 1 (.dC .add (.dC .add (.dC .add (.call .i9 [(.aq 4),(.aq 5)]) (.aF (.bytes [32,59,32]))) (.call .cN [(.aq 2)])) (.aF (.bytes [10])))] l s k) (xs.map pairP) [.val o,.cj (acc.map .bytes),.val (.str w),.val rs,a,b] s Q:=by
 induction xs with
 |nil=>intro acc a b _ _ q;have:=q a b;rwa[show acc++[].map (λy:Rg=>fv y.1 y.2.1 w++[10])=acc from aT _]at this
 |cons y xs h=>
  intro acc a b g m q;obtain⟨j,p⟩:=g y (.head _);have e:acc.length+1+xs.length<=eu:=bg acc.length xs.length 1▸m;refine j1 ?_;dsimp[pairP];apply aQ;dsimp;refine DO j p i f (so (by rw[aj];exact aw (cB _) (aa (aR ..) e)) ?_);have:=h (a:=.val (.int y.1)) (b:=.val (.int y.2.1)) (acc++[fv y.1 y.2.1 w++[10]]) (λz hz=>g z (.tail _ hz)) (by rw[ah];exact e) λa b=>by have:=q a b;rwa[aM,sq]at this
  rwa[ba]at this
theorem FV{xs ys:List Rg}(i:∀y∈xs,y.1∈gk/\y.2.1∈gk)(g:∀y∈ys,y.1∈gk/\y.2.1∈gk)(e:xs.length<=4)(f:ys.length<=4):au (d+4) Fn.l8 [.list [.bR [.str IDSW,.list (xs.map pairP)],.bR [.str CASW,.list (ys.map pairP)]]] s=.ok (false,.bytes ((xs.map (λy=>fv y.1 y.2.1 IDSW)++ys.map λy=>fv y.1 y.2.1 CASW).flatMap λl=>l++[10])) s:=by
 refine(?H:gB (by
  have j:∀l∈xs.map (λy=>fv y.1 y.2.1 IDSW)++ys.map λy=>fv y.1 y.2.1 CASW,l.length<=30:=λl h=>by
   rcases bk.mp h with h|h<;>obtain⟨y,c,rfl⟩:=aL.mp h;·exact b7 (j5 (i y c).1 (i y c).2 (by decide))
   ·exact b7 (j5 (g y c).1 (g y c).2 (by decide))
  refine Wp.eq (bq kB rfl rfl ?_);dsimp[kB,bx];apply aQ;dsimp;apply aQ;dsimp;refine j1 ?_;dsimp;apply aQ;dsimp;refine FU (d:=d) (w:=IDSW) (by decide) (by decide) xs [] i (aa (aD e 0) (by decide)) λa b=>?_;dsimp;refine j1 ?_;dsimp;apply aQ;dsimp;refine FU (d:=d) (w:=CASW) (by decide) (by decide) ys _ g (aa (aW (b:=4) (by rw[aj];exact e) f) (by decide:4+4<=eu)) λa b=>?_;dsimp;apply aQ;dsimp;apply aQ;dsimp;have k:=Av (s:=s) j (by rw[ah,aj,aj];exact aa (aW e f) (by decide));rw[ba,bE,bE]at k;exact oS k ⟨rfl,rfl⟩)) gA
 intro w;delta id at w;(try dsimp-zetaHave only at w);refine(?F:gC _) _ w;exactλp _=>p
end
structure yk(xs:List Rg):Prop where
 x:∀z∈xs,z.1∈gk/\z.2.1∈gk/\(z.1<=z.2.1/\z.2.1<z.1+4)/\z.2.2=.bool true
 y:∀z∈xs,64<=z.1/\z.1<=z.2.1/\z.2.1+1<1114111
 wY:PO xs
 nV:xs.length<=4
theorem Ib.aad{d i:Nat}{xs:List Rg}(h:Ib d [.bool true] xs i)(k:d∈bases)(j:xs.length<=4):yk xs where
 x:=λz hz=>by refine uW (h.rc k j hz) λa b _ c e _ _ v=>?_;exact⟨a,b,⟨c,e⟩,ao.mp v⟩
 y:=λz hz=>by refine uW (h.rc k j hz) λ_ _ _ c _ f g _=>?_;exact⟨f,c,g⟩
 wY:=h.PQ.1
 nV:=j
noncomputable def lnW(y:Ln):Nat×Nat×List Nat:=(y.a,y.b,y.w)
theorem Qc{d:List PV}(zs:List (Nat×Nat×List Nat)):∀(X:List (List Nat))(lns:List Ln),(∀z∈zs,z.1∈gk/\z.2.1∈gk/\z.2.2∈WW/\z.2.2.length<=12)->PF X lns d->∃a,PF (X++zs.map λz=>fv z.1 z.2.1 z.2.2) (lns++a) d/\a.map lnW=zs:=by induction zs with|nil=>intro X lns _ h;exact⟨[],by refine zl fP ?_;refine zl (aT _) ?_;refine zl (aT _) ?_;exact h,rfl⟩|cons z zs j=>intro X lns hz h;refine t9 (hz _ (.head _)) λb c f e=>?_;refine dq (j _ _ (λy g=>hz y (.tail _ g)) (h.ph (PU f b c) (aa (j5 b c e) (by decide)))) λa h1 i=>?_;refine⟨⟨(X.length:Int)+1,z.1,z.2.1,z.2.2,[]⟩::a,?_,by refine zl aM ?_;refine zl i ?_;rfl⟩;rw[aG,aG]at h1;exact h1
section
variable{d:Nat}{xs ys:List Rg}
def Cn(xs ys:List Rg):List (Nat×Nat×List Nat):=xs.map (λy=>(y.1,y.2.1,IDSW))++ys.map λy=>(y.1,y.2.1,CASW)
theorem Md(g:yk xs)(i:yk ys):∀z∈Cn xs ys,z.1∈gk/\z.2.1∈gk/\(z.1<=z.2.1/\z.2.1<z.1+4)/\z.2.2∈WW/\z.2.2∈WS/\z.2.2.length<=12:=λz hz=>by
 rcases bk.mp hz with h|h<;>(refine dq (aL.mp h) λy f e=>?_;subst e);·refine t9 (g.x y f) λa b c _=>?_;exact⟨a,b,c,(by decide:IDSW∈WW/\IDSW∈WS/\IDSW.length<=12)⟩
 ·refine t9 (i.x y f) λa b c _=>?_;exact⟨a,b,c,(by decide:CASW∈WW/\CASW∈WS/\CASW.length<=12)⟩
theorem Me(i:yk xs)(j:yk ys)(h0:0<xs.length):∃lns:List Ln,(∀s,au (d+2) Fn.dR [.bytes ((xs.map (λy=>fv y.1 y.2.1 IDSW)++ys.map λy=>fv y.1 y.2.1 CASW).flatMap λl=>l++[10])] s=.ok (true,.list (lns.map Ln.ph)) s)/\(∀y∈lns,y.ok)/\lns.length<=8/\lns.filterMap Rk=xs.map (uO Xh)++ys.map (uO Xi):=by
 have n:=Md i j;refine dq (Qc (Cn xs ys) [] [] (λz hz=>by obtain⟨a,b,_,c,_,e⟩:=n z hz;exact⟨a,b,c,e⟩) PF.empty) λlns h1 m=>?_;have e:[]++(Cn xs ys).map (λz=>fv z.1 z.2.1 z.2.2)=xs.map (λy=>fv y.1 y.2.1 IDSW)++ys.map λy=>fv y.1 y.2.1 CASW:=by unfold Cn;refine zl (dS _) ?_;refine zl ba ?_;refine zl bE ?_;refine zl bE ?_;rfl
 replace h1:=e▸h1;have g:(xs.map (λy=>fv y.1 y.2.1 IDSW)++ys.map λy=>fv y.1 y.2.1 CASW).length<=8:=by refine zl ah ?_;refine zl (aj _) ?_;refine zl (aj _) ?_;exact aW i.nV j.nV
 refine⟨lns,λs=>(h1.JR.Xb (r7 λf p=>(h1.nl f p).1) ?_ ?_ ?_).1,λy h=>?_,?_,?_⟩;·clear n h1 m e g;cases xs with|nil=>cases h0|cons y r=>show mn (fv _ _ _++[10]++_);refine zl (aG _ _ _) ?_;exact Ce (i.x y (.head _)).1
 ·refine zl ah ?_;exact aa (ar g 1) (by decide)
 ·refine zl su ?_;refine aa (r9 (k:=101) λl q=>?_) (aa (bo 101 (by refine zl (aj _) ?_;exact g)) (by decide));refine dq (aL.mp q) λz hz o=>?_;subst o;refine zl ah ?_;exact aB (h1.nl z hz).2
 ·refine GJ (n (lnW y) (m▸dH h)) λa b c _ f _=>?_;exact⟨a,b,c,f⟩
 ·have:=congrArg cZ m;rw[aj]at this;show lns.length<=8;refine zl this ?_;unfold Cn;refine zl ah ?_;refine zl (aj _) ?_;refine zl (aj _) ?_;exact aW i.nV j.nV
 ·have:=congrArg (GA λz:Nat×Nat×List Nat=>(BNL.lookup z.2.2).map λx=>(⟨x,z.1,z.2.1,.bool true⟩:Pt)) m;replace this:=yz▸this;refine this.trans ?_;unfold Cn;refine zl M1 ?_;refine zl yz ?_;refine zl yz ?_;congr 1;·show GA (λy:Rg=>some (⟨Xh,y.1,y.2.1,.bool true⟩:Pt)) _=_;refine zl tO ?_;refine da λy h=>?_;show(⟨Xh,y.1,y.2.1,.bool true⟩:Pt)=⟨Xh,y.1,y.2.1,y.2.2⟩;exact zl ((i.x y h).2.2.2) rfl
  ·show GA (λy:Rg=>some (⟨Xi,y.1,y.2.1,.bool true⟩:Pt)) _=_;refine zl tO ?_;refine da λy h=>?_;show(⟨Xi,y.1,y.2.1,.bool true⟩:Pt)=⟨Xi,y.1,y.2.1,y.2.2⟩;exact zl ((j.x y h).2.2.2) rfl
theorem yk.told(h:yk xs){l N k:Nat}{s:aH}{a:uL}{x:List Nat}(D:DA s l N k a)(f:k<=250)(b:∀c,0<=c->c<=1114111->G a x c=jz xs c (.bool false)):au (d+4) Fn.f5 [.ref l,.str x,.list (xs.map sZ),.bool false] s=.ok (false,.bool true) s:=Q.told D f (aa h.nV (by decide)) λc i=>by
 obtain⟨c0,j⟩:=xe h.y i;refine⟨c0,b c c0 j,?_⟩;rcases P2 (xs:=xs) (c:=c) (dv:=.bool false)with e|⟨y,g,e⟩;·rw[e];rfl
 ·rw[e,(h.x y g).2.2.2];rfl
theorem Mf(f:yk xs)(g:yk ys){a:uL}(b:Ag ((xs.map (uO Xh)++ys.map (uO Xi)).foldl nO λy _=>qj y) a):(∀c,0<=c->c<=1114111->G a Xh c=jz xs c (.bool false))/\∀c,0<=c->c<=1114111->G a Xi c=jz ys c (.bool false):=by
 rw[List.foldl_append]at b;refine⟨λc h0 h1=>?_,λc h0 h1=>?_⟩;·rw[b _ c h0 h1,s9 λe=>absurd e (by decide)];exact Aq f.wY.dj (λ_=>Iff.rfl) f.wY.dj
 ·rw[b _ c h0 h1,Aq g.wY.dj (λ_=>Iff.rfl) g.wY.dj,s9 λe=>absurd e (by decide)];rfl
theorem FW(l:yk xs)(g:yk ys):mq (λy _=>qj y) (xs.map (uO Xh)++ys.map (uO Xi)):=Io (K:=isBl) (λa b m k=>by obtain⟨_,rfl⟩:=m;obtain⟨_,rfl⟩:=k;exact PS) λp f=>by
 have e:∀{zs:List Rg}{x:List Nat},yk zs->isBl (qj x)->p∈zs.map (uO x)->isBl p.v/\(0<=p.i/\p.i<=p.j/\p.j<1114111)/\∀c:Int,isBl (qj p.x):=λ{zs x}hz n f=>by obtain⟨y,h,rfl⟩:=aL.mp f;exact⟨⟨true,(hz.x y h).2.2.2⟩,⟨bb _,bW.mpr (hz.y y h).2.1,bX.mpr (cL (hz.y y h).2.2)⟩,λ_=>n⟩
 rcases bk.mp f with h|h;·exact e l ⟨false,rfl⟩ h
 ·exact e g ⟨false,rfl⟩ h
end
noncomputable def aae:List Nat:=[48,48,52,49,46,46,48,48,52,51,32,59,32,83,111,102,116,95,68,111,116,116,101,100,32,35,32,120,10,48,48,52,50,32,59,32,83,111,109,101,95,84,104,105,110,103,10]
noncomputable def smallL:List Ln:=[⟨1,65,67,[83,111,102,116,95,68,111,116,116,101,100],[120]⟩,⟨2,66,66,[83,111,109,101,95,84,104,105,110,103],[]⟩]
section
variable{d:Nat}{s r:aH}{xs ys:List Rg}{cs:List Int}{m:Int}{E:PV->aH->Prop}
theorem Ip:au (d+2) Fn.dR [.bytes aae] s=.ok (true,.list (smallL.map Ln.ph)) s:=by kernel_rfl
theorem aaf{t u:aH}{i:Nat}:(t++u)[t.length+i]?=u[i]?:=by rw[ec (aR ..),sd]
theorem Iq{j g n w v:Slot}{K:Fl->L->aH->Prop}(q:∀e s,K (.ret (false,.bool true)) e s):bS (au (d+7)) E 391 (fG.body.drop 9) [j,g,n,w,v,.bB,.bB,.bB,.bB,.bB,.bB] s K:=by
 dsimp[fG];apply aQ;dsimp;refine Wp.of (BY (d:=d+5) (t:=s)) ?_;dsimp;apply aQ;dsimp;have D:DA (s++[ML s.length,.dict Rh,.dict [],.dict [],.dict []]) s.length (s++[ML s.length,.dict Rh,.dict [],.dict [],.dict []]).length 0 []:=DA.new uK (aaf (i:=1)) (aaf (i:=2)) (by rw[ah];exact cB _);refine Ck (d:=d+1) (lns:=smallL) (λs=>Ip (d:=d+4)) (by unfold Ln.ok;decide+kernel) (by decide) D ?_ λs' l b o z=>?_;·exact⟨⟨by decide,by decide,by decide,PS,λ_=>PS⟩,trivial⟩
 apply aQ;dsimp;refine oC (p:=λi:Int=>.int i) (q:=λi=>if(65:Int)<=i/\i<=67 then .bool true else .bool false) [64,65,67,68] (λi u K f=>?_) ?_;·
  have h0:0<=i/\i<=1114111:=(by decide:∀i∈([64,65,67,68]:List Int),0<=i/\i<=1114111) i u;have c:=b.get (d:=d+4) (x:=[115,100]) (by decide) h0.1;rw[o _ _ h0.1 h0.2]at c;refine mI b.i0 rfl ?_;dsimp;refine Wp.of c ?_;have e:(smallL.filterMap Rk).foldl nO (λy _=>qj y) [115,100] i=if(65:Int)<=i/\i<=67 then .bool true else .bool false:=by
   show(if([115,100]:List Nat)=[115,100]/\(65:Int)<=i/\i<=67 then PV.bool true else PV.bool false)=_;by_cases k:(65:Int)<=i/\i<=67;·rw[if_pos ⟨rfl,k⟩,if_pos k]
   ·rw[if_neg λh=>k h.2,if_neg k]
  rw[e];exact f
 ·exact oS (a:=true) rfl (q _ _)
theorem DQ{Q:Bool×PV->aH->Prop}(f:jo cs m)(q:∀s,Q (false,.bool true) s):Wp (au (d+8) Fn.kX [.ref 0] [.cK cs m]) Q E:=by refine(?H:gB (by refine bq fG rfl rfl ?_;dsimp[fG,bx];apply aQ;dsimp;refine Ic (d:=d+4) f (by decide) λv xs A cs m G b h0 o f=>?_;dsimp;refine Ic (d:=d+4) f (by decide) λl ys n cs m j a C e f=>?_;have b:=b.aad G o;have a:=a.aad j e;have D:DA (.cK cs m::g9 1) 1 6 0 []:=DA.new (s:=.cK cs m::g9 1) rfl rfl rfl (aE rfl);refine Un (Me (d:=d+4) b a h0) λlns z k g c=>?_;dsimp;refine Wp.of (BY (d:=d+5) (t:=[.cK cs m])) ?_;dsimp;apply aQ;dsimp;apply aQ;dsimp;apply aQ;dsimp;refine c1 ?_;dsimp;refine oC (q:=pairP) _ (λy _ K h=>h) ?_;refine c1 ?_;dsimp;refine oC (q:=pairP) _ (λy _ K h=>h) ?_;apply aQ;dsimp;apply aQ;dsimp;refine Wp.of (FV (d:=d+3) (λy h=>⟨(b.x y h).1,(b.x y h).2.1⟩) (λy h=>⟨(a.x y h).1,(a.x y h).2.1⟩) o e) ?_;refine Ck (d:=d+1) z k (aa g (by decide)) D (c▸FW b a) λs' B u i L=>?_;replace i:=c▸i;refine zA (Mf b a i) λI J=>?_;apply aQ;dsimp;apply aQ;dsimp;apply aQ;dsimp;refine Wp.of (b.told (d:=d+3) u (by decide) I) ?_;dsimp;refine Wp.of (a.told (d:=d+3) u (by decide) J) ?_;dsimp;exact Iq λ_ s=>q s)) gA;intro w;delta id at w;(try dsimp-zetaHave only at w);refine(?F:gC _) _ w;exactλp _=>p
end
noncomputable def mF:List Nat:=[60,99,111,110,116,114,111,108,62]
noncomputable def GCS:List (List Nat):=[[76,117],[76,108],[77,110],[78,100],[83,111]]
noncomputable def BCS:List (List Nat):=[[76],[82],[78,83,77],[69,78]]
noncomputable def CCS:List Nat:=[0,0,230,9]
def NMS:List (List Nat):=[[65,32,66],[83,73,71,78,45,49],mF]
noncomputable def DMS:List (PV×List Nat):=[(.none,[]),(.bR [.str [],.bR [.int 97,.int 769]],[48,48,54,49,32,48,51,48,49]),(.bR [.str [],.bR [.int 75]],[48,48,52,66]),(.bR [.str [99,111,109,112,97,116],.bR [.int 97]],[60,99,111,109,112,97,116,62,32,48,48,54,49]),(.bR [.str [102,111,110,116],.bR [.int 98,.int 99]],[60,102,111,110,116,62,32,48,48,54,50,32,48,48,54,51])]
abbrev Nu:=PV×PV×List Nat×List Nat×List Nat
noncomputable def NUS:List Nu:=[(.none,.none,[],[],[]),(.str [100,101],.bR [.int 5,.int 1],[53],[53],[53]),(.str [100,105],.bR [.int 3,.int 1],[],[51],[51]),(.str [110,117],.bR [.int 1,.int 2],[],[],[49,47,50]),(.str [110,117],.bR [.int (-1),.int 2],[],[],[45,49,47,50]),(.str [110,117],.bR [.int 70,.int 1],[],[],[55,48])]
noncomputable def CSS:List (PV×List Nat):=[(.none,[]),(.int 65,[48,48,52,49]),(.int 7680,[49,69,48,48])]
noncomputable def ym:List Nat:=[3840,3841,3842,3843,3844,4096,4112,128512,128528,917760,917776]
theorem Mg:∀c∈ym,c∈H7:=by decide
noncomputable def mY:List Nat:=[60,66,105,103,32,79,110,101,115,44,32,76,97,115,116,62]
structure cw where
 c:Nat
 g:List Nat
 b:List Nat
 n:Nat
 nm:List Nat
 dm:PV×List Nat
 nu:Nu
 u:PV×List Nat
 l:PV×List Nat
 t:PV×List Nat
structure cw.ok(r:cw):Prop where
 c:r.c∈ym
 g:r.g∈[76,111]::GCS
 b:r.b∈BCS
 n:r.n∈CCS
 nm:r.nm∈mY::NMS
 dm:r.dm∈DMS
 nu:r.nu∈NUS
 u:r.u∈CSS
 l:r.l∈CSS
 t:r.t∈CSS
 eu:r.nm=mY->r.dm=(.none,[])/\r.nu=(.none,.none,[],[],[])/\r.u=(.none,[])/\r.l=(.none,[])/\r.t=(.none,[])
def cw.fs(r:cw):List (List Nat):=[gQ r.c,r.nm,r.g,iL r.n,r.b,r.dm.2,r.nu.2.2.1,r.nu.2.2.2.1,r.nu.2.2.2.2,[78],[],[],r.u.2,r.l.2,r.t.2]
def cw.tt(r:cw):PV:=if isNone r.t.1 then r.u.1 else r.t.1
def cw.Mh(r:cw):List PV:=[.str r.g,.str r.b,.int r.n,if r.nm=mF\/r.nm=mY then .none else .bytes r.nm,r.dm.1,r.nu.1,r.nu.2.1,r.u.1,r.l.1,r.tt]
def Ay(f:List Nat):Bool:=(f.all λc=>c !=35&&c !=59&&c !=10)&&(cm BL f==f)&&decide (f.length<=20)
theorem Qd:∀c∈H7,Ay (gQ c)=true/\FG (gQ c)=true/\FG (gQ c).reverse=true:=by decide+kernel
theorem Vk:(∀f∈[76,111]::GCS,Ay f=true)/\(∀f∈BCS,Ay f=true)/\(∀n∈CCS,Ay (iL n)=true)/\(∀f∈mY::NMS,Ay f=true)/\(∀p∈DMS,Ay p.2=true)/\(∀p∈NUS,Ay p.2.2.1=true/\Ay p.2.2.2.1=true/\Ay p.2.2.2.2=true)/\∀p∈CSS,Ay p.2=true:=by decide+kernel
theorem cw.ok.f{r:cw}(h:r.ok):∀f∈r.fs,Ay f=true:=by
 obtain⟨p1,p2,i,k,j,d,a⟩:=Vk;have e:(r.fs.all Ay)=true:=by unfold cw.fs;refine zl bP ?_;refine zl bP ?_;refine zl bP ?_;refine zl bP ?_;refine zl bP ?_;refine zl bP ?_;refine zl bP ?_;refine zl bP ?_;refine zl bP ?_;refine zl bP ?_;refine zl bP ?_;refine zl bP ?_;refine zl bP ?_;refine zl bP ?_;refine zl bP ?_;refine zl ((Qd _ (Mg _ h.c)).1) ?_;refine zl (k _ h.nm) ?_;refine zl (p1 _ h.g) ?_;refine zl (i _ h.n) ?_;refine zl (p2 _ h.b) ?_;refine zl (j _ h.dm) ?_;refine zl ((d _ h.nu).1) ?_;refine zl ((d _ h.nu).2.1) ?_;refine zl ((d _ h.nu).2.2) ?_;refine zl (a _ h.u) ?_;refine zl (a _ h.l) ?_;refine zl (a _ h.t) ?_;rfl
 exact bj.mp e
theorem qE{f:List Nat}(h:Ay f=true):35∉f/\59∉f/\10∉f/\cm BL f=f/\f.length<=20:=by unfold Ay at h;rw[ax,ax,bj]at h;refine⟨λq=>?_,λq=>?_,λq=>?_,eq_of_beq h.1.2,of_decide_eq_true h.2⟩<;>(have:=h.1.1 _ q;revert this;decide)
theorem qF{x:Nat}(a:x≠59){fs:List (List Nat)}(h:∀f∈fs,x∉f):x∉bD [59] fs:=by
 induction fs with
 |nil=>exact bJ
 |cons f r b=>
  cases r with
  |nil=>exact h f (.head _)
  |cons g r=>
   rw[je];intro q;rcases bk.mp q with q|q;·exact h f (.head _) q
   ·rcases av.mp q with q|q;·exact a q
    ·exact b (λz hz=>h z (.tail _ hz)) q
theorem drop_nil{p:Nat->Bool}{l:List Nat}(h:l.dropWhile p=[])(x)(a:x∈l):p x=true:=by
 induction l with
 |nil=>cases a
 |cons y r b=>
  replace h:=ke▸h;cases e:p y with
  |false=>replace h:=e▸h;cases h
  |true=>
   replace h:=e▸h;rcases av.mp a with k|a;·refine zl k ?_;exact e
   ·exact b h a
theorem FY{f:List Nat}{fs:List (List Nat)}(h:∀x∈f::fs,Ay x=true)(h1:FG f=true)(s:FG f.reverse=true):jr (bD [59] (f::fs))=(false,f::fs,[],false,false):=by
 have d:35∉bD [59] (f::fs):=qF (by decide) λx b=>(qE (h x b)).1;have g:10∉bD [59] (f::fs):=qF (by decide) λx b=>(qE (h x b)).2.2.1;have a:Ak 35 (bD [59] (f::fs))=-1:=JQ _ 0 d;have m:dY (bD [59] (f::fs))=bD [59] (f::fs):=by unfold dY;refine zl a ?_;rfl
 have j:pU (bD [59] (f::fs))=[]:=by unfold pU;refine zl a ?_;rfl
 have p:lg (bD [59] (f::fs))=false:=by unfold lg;refine zl a ?_;rfl
 have o:(bD [59] (f::fs)).contains 10=false:=by cases e:(bD [59] (f::fs)).contains 10 with|false=>rfl|true=>exact absurd (jg.mp e) g
 have n:du (bD [59] (f::fs)) [59]=f::fs:=nQ (λq=>by injection q) λx b=>(qE (h x b)).2.1;have l:(f::fs).map (cm BL)=f::fs:=(da λx b=>(qE (h x b)).2.2.2.1).trans (Q8 _);have i:(cm BL (bD [59] (f::fs))==[])=false:=by
  clear h s d g a m j p o n l;obtain⟨c,t,rfl⟩:∃c t,f=c::t:=by cases f with|nil=>cases h1|cons c t=>exact⟨c,t,rfl⟩
  refine zE (xd (c:=59) (x:=c) (t:=t) (r:=fs)) λu v=>?_;have k:BL.contains c=false:=by unfold FG at h1;exact dJ _▸h1
  refine zl v ?_;unfold cm;refine zl (show gE BL (c::u)=c::u by unfold gE;rw[ke,k];rfl) ?_;cases e:(gE BL (c::u).reverse).reverse==[]with|false=>rfl|true=>have e:=List.reverse_eq_nil_iff.mp (eq_of_beq e);unfold gE at e;have:=drop_nil e c (Ya.mpr (.head _));replace this:=k▸this;cases this
 unfold jr;refine zl m ?_;refine zl j ?_;refine zl n ?_;refine zl l ?_;refine zl p ?_;refine zl o ?_;refine zl i ?_;rfl
section
variable{d:Nat}{s r:aH}{cs:List Int}{m:Int}{E:PV->aH->Prop}
theorem Vl{c:Nat}(h:c∈H7):au (d+1) Fn.kr [.int c] s=.ok (false,.bytes (gQ c)) s:=vU PH c (cx _ h)
theorem FZ{fs:List (List Nat)}(h:∀f∈fs,Ay f=true)(a:fs.length<=50):gX s .join [.bytes [59],.list (fs.map .bytes)]=some (false,.bytes (bD [59] fs)):=oD (aa (ta λl a=>aa (qE (h l a)).2.2.2.2 (by decide)) (aa (bo 101 a) (by decide)))
theorem Xj{w:List Nat}(h:(w.all λc=>decide (c<256))=true){f:PV->aH->(Option PV->aH->Prop)->Prop}{k:Bool×PV->aH->Prop}(a:∀c,∀K:Option PV->aH->Prop,K (some (.int (c:Nat))) s->f (.str [c]) s K)(q:k (false,.bytes w) s):oB f (w.map λc=>.str [c]) s λout s=>i5 (gX s .bytes [.list out]) λv=>k v s:=oC (q:=λc:Nat=>.int c) w (λc _ K b=>a c K b) (oS (FI h) q)
theorem Ir:(∀g∈[76,111]::GCS,(g.all λc=>decide (c<256))=true)/\(∀g∈BCS,(g.all λc=>decide (c<256))=true)/\∀n∈CCS,((iL n).all λc=>decide (c<256))=true:=by decide
theorem aag:∀n∈CCS,gX s .str [.int (n:Nat)]=some (false,.str (iL n)):=λn a=>by have:n<1000:=(by decide:∀n∈CCS,n<1000) n a;exact congrArg (dI _) (congrArg (dI _) (if_pos ⟨bb n,bX.mpr this⟩))
theorem JV:∀p∈CSS,p=(.none,[])\/∃c∈H7,p=(.int (c:Nat),gQ c):=λp a=>by
 rcases av.mp a with rfl|a;·exact .inl rfl
 ·rcases av.mp a with rfl|a;·exact .inr ⟨65,by decide,rfl⟩
  ·cases ao.mp a;exact .inr ⟨7680,by decide,rfl⟩
theorem Co:∀p∈CSS,Ay p.2=true:=Vk.2.2.2.2.2.2
theorem Xl{f:Type}{P:f->Prop}{a b c:f}(i:P a)(j:P b)(g:P c):∀x∈[a,b,c],P x:=λx h=>(av.mp h).elim (λe=>e▸i) λh=>(av.mp h).elim (λe=>e▸j) λh=>ao.mp h▸g
theorem Az{a:List (List Nat)}(h:∀f∈a,Ay f=true):(bD [59] a).length<=101*a.length:=ta λl b=>aa (qE (h l b)).2.2.2.2 (by decide)
theorem Qe{p:PV×List Nat}(a:p∈CSS){K:Option PV->aH->Prop}(b:K (some (.bytes p.2)) s):jy (!isNone p.1) (Wp (au (d+1) Fn.kr [p.1] s) (λv s=>K (some v.2) s) noE) (K (some (.bytes [])) s):=(JV p a).elim (λe=>by clear a;subst e;exact b) λh=>by refine dq h λc f e=>?_;clear h;clear a;subst e;exact Wp.of (Vl f) b
def cw.j1(x:cw):List Nat:=bD [59] [gQ x.c,x.nm,x.g,iL x.n,x.b,x.dm.2]
def cw.j2(x:cw):List Nat:=bD [59] [x.nu.2.2.1,x.nu.2.2.2.1,x.nu.2.2.2.2]
def cw.j3(x:cw):List Nat:=bD [59] [x.u.2,x.l.2,x.t.2]
theorem cw.ok.j1{x:cw}(h:x.ok):∀f∈[gQ x.c,x.nm,x.g,iL x.n,x.b,x.dm.2],Ay f=true:=λf q=>h.f f (ct [x.nu.2.2.1,x.nu.2.2.2.1,x.nu.2.2.2.2,[78],[],[],x.u.2,x.l.2,x.t.2] q)
theorem cw.ok.j2{x:cw}(h:x.ok):∀f∈[x.nu.2.2.1,x.nu.2.2.2.1,x.nu.2.2.2.2],Ay f=true:=λf q=>h.f f (cx [gQ x.c,x.nm,x.g,iL x.n,x.b,x.dm.2] (ct [[78],[],[],x.u.2,x.l.2,x.t.2] q))
theorem cw.aeA(x:cw):x.j1++[59]++x.j2++[59,78,59,59,59]++x.j3=bD [59] x.fs:=by simp only[cw.fs,cw.j1,cw.j2,cw.j3,RC,oj,om,aG,b8,dS]
theorem Qf{x:cw}(g:x.ok){Q:Bool×PV->aH->Prop}{v a b c e f:Slot}(q:Q (false,.bR [.bytes (bD [59] x.fs),.bR x.Mh]) s):bS (au (d+2)) E 390 (gb.body.drop 10) [a,b,c,e,f,.val (.bytes x.nm),.val x.dm.1,.val (.bytes x.dm.2),.val x.nu.1,.val x.nu.2.1,.val (.bytes x.j2),.val x.u.1,.val x.l.1,.val x.t.1,.val (.bytes x.j3),v,.val (.bytes x.j1),.val (.bR x.Mh),.bB,.bB,.bB,.bB,.bB] s λh _ s=>Q (DB h) s:=by have k1:x.j1.length+1<=607:=ar (Az g.j1) 1;have k2:x.j1.length+1+x.j2.length<=910:=aW k1 (Az g.j2);have k3:x.j1.length+1+x.j2.length+5<=915:=ar k2 5;have i:x.j1.length+1+x.j2.length+5+x.j3.length<=1218:=aW k3 (Az (Xl (Co _ g.u) (Co _ g.l) (Co _ g.t)));dsimp[gb];apply aQ;dsimp;refine oS (kI (aa k1 (by decide))) (oS (kI (by rw[ah];exact aa k2 (by decide))) (oS (kI (by rw[ah,ah];exact aa k3 (by decide))) (oS (kI (by rw[ah,ah,ah];exact aa i (by decide))) ?_)));exact x.aeA▸q
theorem Qg{x:cw}(e:x.ok)(v:x.nm≠mY){Q:Bool×PV->aH->Prop}(q:Q (false,.bR [.bytes (bD [59] x.fs),.bR x.Mh]) s):bS (au (d+2)) E 395 (gb.body.drop 5) [.val (.ref 0),.val (.int x.c),.val (.str x.g),.val (.str x.b),.val (.int x.n),.val (.bytes x.nm),.val x.dm.1,.val (.bytes x.dm.2),.val x.nu.1,.val x.nu.2.1,.val (.bytes x.j2),.val x.u.1,.val x.l.1,.val x.t.1,.bB,.bB,.bB,.bB,.bB,.bB,.bB,.bB,.bB] s λj _ s=>Q (DB j) s:=by
 have a:∀k o,k=(if x.nm=mF\/x.nm=mY then .none else .bytes x.nm)->o=x.tt->bS (au (d+2)) E 390 (gb.body.drop 10) [.val (.ref 0),.val (.int x.c),.val (.str x.g),.val (.str x.b),.val (.int x.n),.val (.bytes x.nm),.val x.dm.1,.val (.bytes x.dm.2),.val x.nu.1,.val x.nu.2.1,.val (.bytes x.j2),.val x.u.1,.val x.l.1,.val x.t.1,.val (.bytes x.j3),.val (.list [.bytes x.g,.bytes x.b]),.val (.bytes x.j1),.val (.bR [.str x.g,.str x.b,.int x.n,k,x.dm.1,x.nu.1,x.nu.2.1,x.u.1,x.l.1,o]),.bB,.bB,.bB,.bB,.bB] s λj _ s=>Q (DB j) s:=λk o f i=>by subst f i;exact Qf e q
 clear q;dsimp[gb];apply aQ;dsimp;refine oC (p:=λp:PV×List Nat=>p.1) (q:=λp=>.bytes p.2) [x.u,x.l,x.t] (λp y K w=>Qe (Xl e.u e.l e.t p y) w) (oS (FZ (fs:=[x.u.2,x.l.2,x.t.2]) (Xl (Co _ e.u) (Co _ e.l) (Co _ e.t)) (aE rfl)) ?_);dsimp;apply aQ;dsimp;refine c1 (Xj (Ir.1 _ e.g) (λc K h=>h) (c1 (Xj (Ir.2.1 _ e.b) (λc K h=>h) ?_)));dsimp;apply aQ;dsimp;apply aQ;dsimp;refine Wp.of (Vl (Mg _ e.c)) (oS H8 (oS (aag _ e.n) (Xj (Ir.2.2 _ e.n) (λc K h=>h) (oS W7 (oS (FZ (fs:=[gQ x.c,x.nm,x.g,iL x.n,x.b,x.dm.2]) e.j1 (aE rfl)) ?_)))));dsimp;apply aQ;dsimp;by_cases f:x.nm=mF;·refine sl (by rw[f];rfl) ?_;cases i:isNone x.t.1 with|true=>exact sr rfl (a _ _ (if_pos (.inl f)).symm (if_pos i).symm)|false=>exact sl rfl (a _ _ (if_pos (.inl f)).symm (if_neg (by rw[i];exact aK)).symm)
 ·refine sr (beq_eq_false_iff_ne.mpr f) ?_;cases i:isNone x.t.1 with|true=>exact sr rfl (a _ _ (if_neg λh=>h.elim f v).symm (if_pos i).symm)|false=>exact sl rfl (a _ _ (if_neg λh=>h.elim f v).symm (if_neg (by rw[i];exact aK)).symm)
theorem Xm{c:Nat}(v:c∈ym){Q:Bool×PV->aH->Prop}(h:jo cs m)(q:∀(x:cw)j z,x.ok->x.c=c->x.nm≠mY->jo j z->Q (false,.bR [.bytes (bD [59] x.fs),.bR x.Mh]) (.cK j z::r)):Wp (au (d+3) Fn.uf [.ref 0,.int c] (.cK cs m::r)) Q E:=by refine bq gb rfl rfl ?_;dsimp[gb,bx];apply aQ;dsimp;refine vX (l:=GCS) (f:=.str) rfl h (by decide) λg cs m A h=>vX (l:=BCS) (f:=.str) rfl h (by decide) λb cs m o h=>?_;dsimp;apply aQ;dsimp;refine vX (l:=CCS) (f:=λn:Nat=>.int n) rfl h (by decide) λn cs m C h=>vX (l:=NMS) (f:=.bytes) rfl h (by decide) λnm cs m i h=>?_;dsimp;apply aQ;dsimp;refine vX (l:=DMS) (f:=λp=>.bR [p.1,.bytes p.2]) rfl h (by decide) λH cs m y h=>?_;dsimp;apply aQ;dsimp;refine vX (l:=NUS) (f:=λp=>.bR [p.1,p.2.1,.bytes (bD [59] [p.2.2.1,p.2.2.2.1,p.2.2.2.2])]) rfl h (by decide) λB cs m w h=>?_;dsimp;apply aQ;dsimp;refine oS (a:=[.int 0,.int 1,.int 2]) rfl (c1 (vX (l:=CSS) (f:=λp=>p.1) rfl h (by decide) λu cs m G h=>c1 (vX (l:=CSS) (f:=λp=>p.1) rfl h (by decide) λl cs m D h=>c1 (vX (l:=CSS) (f:=λp=>p.1) rfl h (by decide) λt cs m F h=>?_))));have o:nm≠mY:=λe=>absurd (show mY∈NMS from e▸i) (by decide);have k:(⟨c,g,b,n,nm,H,B,u,l,t⟩:cw).ok:=⟨v,.tail _ A,‹_›,C,.tail _ i,y,w,G,D,F,λe=>absurd e o⟩;exact Qg k o (q _ cs m k rfl o h)
end
noncomputable def iw(f a:Int)(fs:List (List Nat))(n:Int):jt:=.inst .ph [(.uX,.int f),(.ti,.int a),(.fields,.list (fs.map .bytes)),(.fW,.int n)]
section
variable{d l:Nat}{s:aH}{f la n k:Int}{fs:List (List Nat)}{E:PV->aH->Prop}
theorem pn(h:s[l]?=some (.inst .ph [])):au (d+1) Fn.pn [.ref l,.int f,.int la,.list (fs.map .bytes),.int n] s=.ok (false,.none) (s.set l (iw f la fs n)):=by refine Wp.eq (bq um rfl rfl ?_);dsimp[um,bx];apply aQ;dsimp;refine sA h rfl ?_;apply aQ;dsimp;refine sA (gs h) rfl ?_;refine zl ss ?_;apply aQ;dsimp;refine sA (gs h) rfl ?_;refine zl ss ?_;apply aQ;dsimp;refine sA (gs h) rfl ?_;exact⟨rfl,ss⟩
theorem gD{i:Nat}{w:List Nat}(h:fs[i]?=some w):gq s (.list (fs.map .bytes)) (.int i)=some (.bytes w):=Ah rfl ((bV ..).trans (congrArg (dI _) h))
theorem rt{i:Nat}{w:List Nat}(h:s[l]?=some (iw f la fs n))(b:fs[i]?=some w)(a:w∈WS):au (d+3) Fn.rt [.ref l,.int i] s=.ok (false,.str w) s:=by refine Wp.eq (bq uo rfl rfl ?_);dsimp[uo,bx];apply aQ;dsimp;exact oS (iA h) (oS rfl (oS (gD b) (oS (iA h) (oS rfl (Wp.of (W6 a) ⟨rfl,rfl⟩)))))
theorem oF{i:Nat}{w:List Nat}{a:PV}(h:s[l]?=some (iw f la fs n))(e:fs[i]?=some w)(b:w∈WS)(c:eD s .n8 (.str w) a=some false):au (d+4) Fn.ue [.ref l,.int i,a] s=.ok (false,.str w) s:=by refine Wp.eq (bq kA rfl rfl ?_);dsimp[kA,bx];apply aQ;dsimp;refine mI h rfl ?_;dsimp;refine Wp.of (rt h e b) ?_;dsimp;apply aQ;dsimp;refine oS c ?_;dsimp;apply aQ;dsimp;exact⟨rfl,rfl⟩
theorem AA{i:Nat}{w:List Nat}{a:PV}(h:s[l]?=some (iw f la fs n))(e:fs[i]?=some w)(b:w∈WS)(c:eD s .n8 (.str w) a=some true):au (d+4) Fn.ue [.ref l,.int i,a] s=.kc (.int n) s:=by refine Wp.SY (bq kA rfl rfl ?_);dsimp[kA,bx];apply aQ;dsimp;refine mI h rfl ?_;dsimp;refine Wp.of (rt h e b) ?_;dsimp;apply aQ;dsimp;refine oS c ?_;dsimp;apply aQ;dsimp;exact oS (iA h) (oS rfl ⟨rfl,rfl⟩)
theorem pR{i:Nat}{p:PV×List Nat}(h:s[l]?=some (iw f la fs n))(e:fs[i]?=some p.2)(g:p∈CSS):au (d+4) Fn.pq [.ref l,.int i] s=.ok (false,p.1) s:=by
 refine Wp.eq (bq jN rfl rfl ?_);dsimp[jN,bx];apply aQ;dsimp;refine oS (iA h) (oS rfl (oS (gD e) ?_));rcases JV p g with rfl|⟨c,b,rfl⟩;·exact⟨rfl,rfl⟩
 ·have a:(gQ c==[])=false:=(by decide+kernel:∀c∈H7,(gQ c==[])=false) c b;refine sr a ?_;exact oS (iA h) (oS rfl (oS (gD e) (oS (iA h) (oS rfl (Wp.of (vU PJ c (ct _ (cx _ b))) ⟨rfl,rfl⟩)))))
theorem ni{w:List Nat}(h:s[l]?=some (iw f la fs n))(a:fs[1]?=some w):au (d+1) Fn.uY [.ref l] s=.ok (false,.bool (eh [44,32,76,97,115,116,62] w)) s:=by refine Wp.eq (bq nB rfl rfl ?_);dsimp[nB,bx];apply aQ;dsimp;exact oS (iA h) (oS rfl (oS (gD (i:=1) a) ⟨rfl,rfl⟩))
theorem DR:CCS.map (λn=>au (d+1) Fn.pj [.bytes (iL n)] s)=CCS.map λ(n:Nat)=>.ok (false,.int n) s:=by kernel_rfl
theorem Vm:([76,111]::GCS).map (λg=>eD s .n8 (.str g) (d6 13))=([76,111]::GCS).map λ_=>some false:=by kernel_rfl
theorem aah:BCS.map (λg=>eD s .n8 (.str g) (d6 14))=BCS.map λ_=>some false:=by kernel_rfl
theorem gw:(∀g∈[76,111]::GCS,g∈WS)/\∀g∈BCS,g∈WS:=by decide
noncomputable def GC:List Nat:=[103,99]
noncomputable def BC:List Nat:=[98,99]
noncomputable def CCC:List Nat:=[99,99,99]
noncomputable def mu(p:List Nat×PV):PV:=.bR [.str p.1,p.2]
def qG(r:cw):List (List Nat×PV):=[(GC,.str r.g),(BC,.str r.b)]++if r.n=0 then[]else[(CCC,.int r.n)]
theorem Qh{r:cw}(c:r.n∈CCS)(j:r.g∈[76,111]::GCS)(m:r.b∈BCS)(h:s[l]?=some (iw f la r.fs n)):au (d+5) Fn.fE [.ref l] s=.ok (true,.list ((qG r).map mu)) s:=by
 refine(?H:gB (by
  refine Wp.eq (bq dn rfl rfl ?_);dsimp[dn,bx];apply aQ;dsimp;refine oS (iA h) (oS rfl (oS (gD (i:=3) rfl) (Wp.of (vU (DR (d:=d+3)) r.n c) ?_)));dsimp;apply aQ;dsimp;refine sn (bY.mpr (bW.mpr ((by decide:∀n∈CCS,n<=254) r.n c))) ?_;refine oS (iA h) (oS rfl (oS (gD (i:=9) rfl) (oS (a:=false) rfl ?_)));dsimp;apply aQ;dsimp;refine mI h rfl ?_;dsimp;refine Wp.of (oF (d:=d) (i:=2) h rfl (gw.1 _ j) (vU Vm _ j)) ?_;dsimp;refine mI h rfl ?_;dsimp;refine Wp.of (oF (d:=d) (i:=4) h rfl (gw.2 _ m) (vU aah _ m)) ?_;dsimp;apply aQ;dsimp;unfold qG;by_cases e:r.n=0;·refine zl (if_pos e) ?_;refine zl e ?_;refine sn (m9 0) ?_;apply aQ;dsimp;exact⟨rfl,rfl⟩
  ·refine zl (if_neg e) ?_;refine so (t8.mpr (p8 e)) ?_;apply aQ;dsimp;apply aQ;dsimp;exact⟨rfl,rfl⟩)) gA
 intro w;delta id at w;(try dsimp-zetaHave only at w);refine(?F:gC _) _ w;exactλp _=>p
theorem aai{r:cw}(a:r.ok)(h:s[l]?=some (iw f la r.fs n)):au (d+5) Fn.fE [.ref l] s=.ok (true,.list ((qG r).map mu)) s:=Qh a.n a.g a.b h
end
noncomputable def NAME:List Nat:=[110,97,109,101]
noncomputable def DM:List Nat:=[100,109]
noncomputable def NT:List Nat:=[110,116]
noncomputable def NV:List Nat:=[110,118]
noncomputable def UC:List Nat:=[117,99]
noncomputable def LC:List Nat:=[108,99]
noncomputable def TC:List Nat:=[116,99]
def nR(nm:List Nat):List (List Nat×PV):=if nm=mF\/nm=mY then[]else[(NAME,.bytes nm)]
def jO(x:List Nat)(v:PV):List (List Nat×PV):=if isNone v then[]else[(x,v)]
def yn(a:Nu):List (List Nat×PV):=if isNone a.1 then[]else[(NT,a.1),(NV,a.2.1)]
def wa(r:cw):List (List Nat×PV):=jO UC r.u.1++jO LC r.l.1++jO TC r.tt
noncomputable def Qi:List (List Nat×List Nat×List PV):=[([],[48,48,54,49,32,48,51,48,49],[.int 97,.int 769]),([],[48,48,52,66],[.int 75]),([99,111,109,112,97,116],[32,48,48,54,49],[.int 97]),([102,111,110,116],[32,48,48,54,50,32,48,48,54,51],[.int 98,.int 99])]
section
variable{d l:Nat}{s:aH}{f la n:Int}{E:PV->aH->Prop}
theorem Xn{a:cb}{Q:Bool×PV->aH->Prop}:(mY::NMS).map (λnm=>bS a E 399 (jI.body.drop 1) [.val (.ref l),.val (.bytes nm),.bB] s λb _ s=>Q (DB b) s)=(mY::NMS).map λnm=>Q (true,.list ((nR nm).map mu)) s:=by kernel_rfl
theorem AB{r:cw}(b:r.nm∈mY::NMS)(h:s[l]?=some (iw f la r.fs n)):au (d+1) Fn.lh [.ref l] s=.ok (true,.list ((nR r.nm).map mu)) s:=by refine Wp.eq (bq jI rfl rfl ?_);dsimp[jI,bx];apply aQ;dsimp;refine oS (iA h) (oS rfl (oS (gD (i:=1) rfl) ?_));exact(vU (Xn (Q:=λa s'=>a=(true,.list ((nR r.nm).map mu))/\s'=s)) r.nm b).mpr ⟨rfl,rfl⟩
theorem Mi{r:cw}(a:r.ok)(h:s[l]?=some (iw f la r.fs n)):au (d+1) Fn.lh [.ref l] s=.ok (true,.list ((nR r.nm).map mu)) s:=AB a.nm h
theorem TJ:Qi.map (λp=>au (d+4) Fn.nj [.bytes p.2.1,.int n] s)=Qi.map λp=>.ok (false,.bR p.2.2) s:=by kernel_rfl
theorem TK:ym.map (λ(c:Nat)=>Qi.map λp=>eD s .xY (.int c) (.bR p.2.2))=ym.map λ_=>Qi.map λ_=>some false:=by kernel_rfl
theorem Xo{b:List PV->aH->Prop}:Qi.map (λp=>oB (λa s k=>Wp (au (d+1) Fn.qk [a] s) (λv s=>i5 (nq v.2) λt=>jy t (k (some a) s) (k none s)) noE) p.2.2 s b)=Qi.map λ_=>b [] s:=by kernel_rfl
theorem Qj{a b G:Prop}:Qi.map (λp=>i5 (eD s .eq (.bR p.2.2) (.bR [])) λt=>jy t a (jy (p.1==[]) (jy (decide (2<(p.2.2.length:Int))) b G) G))=Qi.map λ_=>G:=by kernel_rfl
theorem Qk{r:cw}{c0:Nat}(j:r.ok)(k:c0∈ym)(h:s[l]?=some (iw c0 la r.fs n)):au (d+5) Fn.i8 [.ref l] s=.ok (true,.list ((jO DM r.dm.1).map mu)) s:=by
 refine(?H:gB (by
  have c:∀p∈Qi,∀e,bS (au (d+4)) noE 397 (dN.body.drop 3) [.val (.ref l),.val (.bytes p.2.1),.val (.str p.1),e,.bB,.bB] s λm _ s'=>DB m=(true,.list [mu (DM,.bR [.str p.1,.bR p.2.2])])/\s'=s:=λp g e=>by dsimp[dN];apply aQ;dsimp;refine oS (iA h) (oS rfl (Wp.of (vU (TJ (d:=d)) p g) ?_));dsimp;apply aQ;dsimp;refine(vU Qj p g).mpr ?_;refine oS (iA h) (oS rfl (oS (vU (vU (TK (s:=s)) c0 k) p g) ?_));dsimp;apply aQ;dsimp;refine(vU (Xo (d:=d+3)) p g).mpr ?_;refine oS (a:=false) rfl ?_;dsimp;apply aQ;dsimp;exact⟨rfl,rfl⟩
  refine Wp.eq (bq dN rfl rfl ?_);dsimp[dN,bx];apply aQ;dsimp;refine oS (iA h) (oS rfl (oS (gD (i:=5) (w:=r.dm.2) rfl) ?_));have b:=j.dm;revert b;generalize r.dm=o;intro b;rcases av.mp b with rfl|b;·dsimp;apply aQ;dsimp;apply aQ;dsimp;exact⟨rfl,rfl⟩
  rcases av.mp b with rfl|b;·dsimp;apply aQ;dsimp;apply aQ;dsimp;exact c ([],_,_) (.head _) .bB
  rcases av.mp b with rfl|b;·dsimp;apply aQ;dsimp;apply aQ;dsimp;exact c ([],_,_) (.tail _ (.head _)) .bB
  rcases av.mp b with rfl|b;·dsimp;apply aQ;dsimp;apply aQ;dsimp;refine sl rfl ?_;apply aQ;dsimp;apply aQ;dsimp;refine oS rfl (oS rfl (oS (iA h) (oS rfl (Wp.of (W6 (w:=[99,111,109,112,97,116]) (by decide)) ?_))));dsimp;apply aQ;dsimp;refine oS (a:=false) rfl ?_;dsimp;apply aQ;dsimp;exact c ([99,111,109,112,97,116],[32,48,48,54,49],[.int 97]) (by simp[Qi]) (.val (.int 7))
  ·cases ao.mp b;dsimp;apply aQ;dsimp;apply aQ;dsimp;refine sl rfl ?_;apply aQ;dsimp;apply aQ;dsimp;refine oS rfl (oS rfl (oS (iA h) (oS rfl (Wp.of (W6 (w:=[102,111,110,116]) (by decide)) ?_))));dsimp;apply aQ;dsimp;refine oS (a:=false) rfl ?_;dsimp;apply aQ;dsimp;exact c ([102,111,110,116],[32,48,48,54,50,32,48,48,54,51],[.int 98,.int 99]) (by simp[Qi]) (.val (.int 5)))) gA
 intro w;delta id at w;(try dsimp-zetaHave only at w);refine(?F:gC _) _ w;exactλp _=>p
end
section
variable{d l:Nat}{s:aH}{f la n:Int}{E:PV->aH->Prop}
theorem Xp:NUS.tail.map (λp=>au (d+2) Fn.rr [.bytes p.2.2.2.2,.int n] s)=NUS.tail.map λp=>.ok (false,p.2.1) s:=by kernel_rfl
theorem aaj{a:cb}{Q:Bool×PV->aH->Prop}:NUS.tail.map (λp=>bS a E 397 (iN.body.drop 3) [.val (.ref l),.val (.bytes p.2.2.1),.val (.bytes p.2.2.2.1),.val (.bytes p.2.2.2.2),.val p.2.1,.bB] s λb _ s=>Q (DB b) s)=NUS.tail.map λp=>Q (true,.list ((yn p).map mu)) s:=by kernel_rfl
theorem Ql{r:cw}(g:r.ok)(h:s[l]?=some (iw f la r.fs n)):au (d+3) Fn.l0 [.ref l] s=.ok (true,.list ((yn r.nu).map mu)) s:=by
 refine(?H:gB (by
  refine Wp.eq (bq iN rfl rfl ?_);dsimp[iN,bx];apply aQ;dsimp;refine oS (iA h) (oS rfl (oS (gD (i:=6) (w:=r.nu.2.2.1) rfl) (oS (iA h) (oS rfl (oS (gD (i:=7) (w:=r.nu.2.2.2.1) rfl) (oS (iA h) (oS rfl (oS (gD (i:=8) (w:=r.nu.2.2.2.2) rfl) ?_))))))));have b:=g.nu;revert b;generalize r.nu=c;intro b;rcases av.mp b with rfl|b;·dsimp;apply aQ;dsimp;apply aQ;dsimp;apply aQ;dsimp;exact⟨rfl,rfl⟩
  ·have e:(c.2.2.2.2==[])=false:=(by decide:∀p∈NUS.tail,(p.2.2.2.2==[])=false) c b;apply aQ;dsimp;refine sr e ?_;apply aQ;dsimp;refine oS (iA h) (oS rfl (Wp.of (vU Xp c b) ?_));dsimp;exact(vU (aaj (Q:=λa s'=>a=(true,.list ((yn c).map mu))/\s'=s)) c b).mpr ⟨rfl,rfl⟩)) gA
 intro w;delta id at w;(try dsimp-zetaHave only at w);refine(?F:gC _) _ w;exactλp _=>p
theorem xf{j:cb}{rs:PV}{a b c e g h:Slot}{acc:List (List Nat×PV)}{x:List Nat}{v:PV}{rest:List PV}{K:Fl->L->aH->Prop}(o:acc.length<eu)(q:∀g h,fJ (λi l s k=>pT [5,6] i l λl=>bS j E 395 (ft (d5.body.drop 2)) l s k) rest [a,b,c,e,.cj ((acc++jO x v).map mu),g,h] s K):fJ (λi l s k=>pT [5,6] i l λl=>bS j E 395 (ft (d5.body.drop 2)) l s k) (.bR [.str x,v]::rest) [a,b,c,e,.cj (acc.map mu),g,h] s K:=by unfold jO at q;refine j1 ?_;dsimp[ft,d5];apply aQ;dsimp;cases m:isNone v with|true=>rw[m,if_pos rfl,aT]at q;exact q _ _|false=>rw[m,if_neg aK,ba]at q;show bS _ _ _ _ _ _ _;apply aQ;dsimp;exact so (by rw[aj];exact o) (q _ _)
theorem Mj{r:cw}(b:r.ok)(h:s[l]?=some (iw f la r.fs n)):au (d+5) Fn.oH [.ref l] s=.ok (true,.list ((wa r).map mu)) s:=by
 refine(?H:gB (by
  have a:∀c,c=r.tt->bS (au (d+4)) noE 398 (d5.body.drop 2) [.val (.ref l),.val r.u.1,.val r.l.1,.val c,.bB,.bB,.bB] s λj _ s'=>DB j=(true,.list ((wa r).map mu))/\s'=s:=λc e=>by
   subst e;dsimp[d5];apply aQ;dsimp;apply aQ;dsimp;refine xf (rs:=.none) (acc:=[]) (by decide) λg h=>?_;refine xf (rs:=.none) (acc:=[]++jO UC r.u.1) ?_ λg h=>?_;·unfold jO;split<;>exact aE rfl
   refine xf (rs:=.none) (acc:=[]++jO UC r.u.1++jO LC r.l.1) ?_ λg h=>?_;·unfold jO;split<;>split<;>exact aE rfl
   dsimp;apply aQ;dsimp;exact⟨rfl,rfl⟩
  refine Wp.eq (bq d5 rfl rfl ?_);dsimp[d5,bx];apply aQ;dsimp;refine mI h rfl ?_;dsimp;refine Wp.of (pR (d:=d) (i:=12) (p:=r.u) h rfl b.u) ?_;dsimp;refine mI h rfl ?_;dsimp;refine Wp.of (pR (d:=d) (i:=13) (p:=r.l) h rfl b.l) ?_;dsimp;refine mI h rfl ?_;dsimp;refine Wp.of (pR (d:=d) (i:=14) (p:=r.t) h rfl b.t) ?_;dsimp;apply aQ;dsimp;cases e:isNone r.t.1 with|true=>exact a _ (by unfold cw.tt;refine zl e ?_;rfl)|false=>exact a _ (by unfold cw.tt;refine zl e ?_;rfl))) gA
 intro w;delta id at w;(try dsimp-zetaHave only at w);refine(?F:gC _) _ w;exactλp _=>p
end
def Cq(r:cw):List (List Nat×PV):=nR r.nm++jO DM r.dm.1++yn r.nu++wa r
def wb(r:cw):List (List Nat×PV):=qG r++Cq r
theorem Qm{r:cw}(d:r.ok)(h:r.nm=mY):Cq r=[]:=by refine qK (d.eu h) λa b c e f=>?_;unfold Cq wa cw.tt nR;refine zl a ?_;refine zl b ?_;refine zl c ?_;refine zl e ?_;refine zl f ?_;refine zl (if_pos (.inr h)) ?_;rfl
theorem yK{x:List Nat}{v:PV}:(jO x v).length<=1:=by unfold jO;split<;>exact aE rfl
theorem Qn{nm:List Nat}:(nR nm).length<=1:=by unfold nR;split<;>exact aE rfl
theorem TL{a:Nu}:(yn a).length<=2:=by unfold yn;split<;>exact aE rfl
theorem Qo{r:cw}:(wa r).length<=3:=by unfold wa;rw[ah,ah];exact aW (aW yK yK) yK
theorem Mk{r:cw}:(qG r).length<=3:=by unfold qG;split<;>exact aE rfl
section
variable{d l:Nat}{s:aH}{f la n:Int}{E:PV->aH->Prop}
theorem yL{A B:List (List Nat×PV)}(h:A.length+B.length<=eu):kz .add (.list (A.map mu)) (.list (B.map mu))=some (true,.list ((A++B).map mu)):=(qR (by rw[aj,aj];exact h)).trans (by rw[ba])
theorem TM{r:cw}{c0:Nat}(a:r.ok)(j:c0∈ym)(h:s[l]?=some (iw c0 la r.fs n)):au (d+6) Fn.n9 [.ref l] s=.ok (true,.list ((wb r).map mu)) s:=by
 refine(?H:gB (by
  have c:(nR r.nm).length+(jO DM r.dm.1).length<=2:=aW Qn yK;have i:(nR r.nm++jO DM r.dm.1).length+(yn r.nu).length<=4:=by rw[ah];exact aW c TL
  have g:(nR r.nm++jO DM r.dm.1++yn r.nu).length+(wa r).length<=7:=by rw[ah];exact aW i Qo
  have o:(qG r).length+(Cq r).length<=10:=by unfold Cq;rw[ah];exact aW Mk g
  refine Wp.eq (bq gx rfl rfl ?_);dsimp[gx,bx];apply aQ;dsimp;refine Wp.of (aai (d:=d) a h) ?_;dsimp;apply aQ;dsimp;refine Wp.of (Mi (d:=d+4) a h) (Wp.of (Qk (d:=d) a j h) (oS (yL (aa c (by decide))) (Wp.of (Ql (d:=d+2) a h) (oS (yL (aa i (by decide))) (Wp.of (Mj (d:=d) a h) (oS (yL (aa g (by decide))) ?_))))));dsimp;apply aQ;dsimp;apply aQ;dsimp;refine mI h rfl ?_;dsimp;refine Wp.of (ni (d:=d+4) h (w:=r.nm) rfl) ?_;have b:bS (au (d+5)) noE 396 (gx.body.drop 4) [.val (.ref l),.cj ((qG r).map mu),.val (.list ((Cq r).map mu))] s λk _ s'=>DB k=(true,.list ((wb r).map mu))/\s'=s:=by dsimp[gx];apply aQ;dsimp;apply aQ;dsimp;apply aQ;dsimp;exact oS (yL (aa o (by decide))) ⟨rfl,rfl⟩
  by_cases hb:r.nm=mY;·refine sl (by rw[hb];rfl) ?_;refine oS FE ?_;rw[show((nR r.nm++jO DM r.dm.1++yn r.nu++wa r).map mu).isEmpty=true by rw[show nR r.nm++jO DM r.dm.1++yn r.nu++wa r=[]from Qm a hb];rfl];exact b
  ·have m:eh [44,32,76,97,115,116,62] r.nm=false:=by
    rcases av.mp a.nm with e|e;·exact absurd e hb
    ·exact(by decide:∀x∈NMS,eh [44,32,76,97,115,116,62] x=false) _ e
   exact sr m b)) gA
 intro w;delta id at w;(try dsimp-zetaHave only at w);refine(?F:gC _) _ w;exactλp _=>p
end
abbrev NR:=Int×cw
def sb(p:NR):PV:=.bR [.int p.1,.list (p.2.fs.map .bytes),.bytes []]
def Cr(p:NR):jt:=iw p.2.c p.2.c p.2.fs p.1
noncomputable def aak(l k:Nat):List PV:=(e8 l k).map .ref
noncomputable def Up:Int->List NR->Prop|_,[]=>True|a,p::r=>a<p.2.c/\Up p.2.c r
noncomputable def JW:Int->List NR->Int|a,[]=>a|_,p::r=>JW p.2.c r
section
variable{d:Nat}{s:aH}{E:PV->aH->Prop}
theorem Qp{c:Nat}{n:Int}(h:c∈H7):au (d+3) Fn.ek [.bytes (gQ c),.int n] s=.ok (false,.int c) s:=vU PJ c (ct _ (cx _ h))
theorem DS{f a n:Int}{fs:List (List Nat)}:au (d+1) Fn.pn [.ref s.length,.int f,.int a,.list (fs.map .bytes),.int n] (s++[.inst .ph []])=.ok (false,.none) (s++[iw f a fs n]):=by rw[pn uK,Pn]
theorem Xq{a b:Bool}{A B:Prop}(h:(a&&b)=false)(x:B):jy a (jy b A B) B:=by cases a with|false=>exact x|true=>cases b with|false=>exact x|true=>cases h
def Xr(r:cw):Prop:=r.c∈ym/\r.nm∈NMS
theorem F0{r:cw}(h:r.ok/\r.nm≠mY):Xr r:=⟨h.1.c,(av.mp h.1.nm).resolve_left h.2⟩
theorem JX{o:PV}{rest:List PV}{Q:Fl->L->aH->Prop}(xs:List NR):∀(acc:List PV)(g:Int)(s:aH){a b c e f:Slot},(∀p∈xs,Xr p.2)->Up g xs->acc.length+xs.length<=eu->(∀a b c e f,fJ (λh l s k=>pT [4,5,6] h l λl=>bS (au (d+4)) E 397 (ft bH.body) l s k) rest [.val o,.cj (acc++aak s.length xs.length),.val .none,.val (.int (JW g xs)),a,b,c,e,f] (s++xs.map Cr) Q)->fJ (λh l s k=>pT [4,5,6] h l λl=>bS (au (d+4)) E 397 (ft bH.body) l s k) (xs.map sb++rest) [.val o,.cj acc,.val .none,.val (.int g),a,b,c,e,f] s Q:=by refine(?H:gB (by induction xs with|nil=>intro acc g s a b c e f _ _ _ q;have:=q a b c e f;rwa[fP,aT,show acc++aak s.length ([]:List NR).length=acc from aT _]at this|cons t xs A=>obtain⟨n,r⟩:=t;intro acc g s a b c e f u v B q;obtain⟨y,j⟩:=u _ (.head _);have m:acc.length+1+xs.length<=eu:=bg acc.length xs.length 1▸B;have h1:(cU [60] r.nm&&eh [44,32,70,105,114,115,116,62] r.nm)=false:=(by decide:∀x∈NMS,(cU [60] x&&eh [44,32,70,105,114,115,116,62] x)=false) _ j;have z:eh [44,32,76,97,115,116,62] r.nm=false:=(by decide:∀x∈NMS,eh [44,32,76,97,115,116,62] x=false) _ j;refine j1 ?_;dsimp[ft,bH,sb];apply aQ;dsimp;refine sr rfl ?_;apply aQ;dsimp;refine oS (gD (i:=0) rfl) (Wp.of (Qp (d:=d+1) (Mg _ y)) (oS (gD (i:=1) (w:=r.nm) rfl) ?_));dsimp;apply aQ;dsimp;refine sn (cu.mpr v.1) ?_;apply aQ;dsimp;apply aQ;dsimp;apply aQ;dsimp;refine Xq h1 ?_;apply aQ;dsimp;refine sr z ?_;apply aQ;dsimp;refine Wp.of DS ?_;dsimp;refine so (aw (cB _) (aa (aR ..) m)) ?_;refine A (acc++[.ref s.length]) r.c (s++[Cr (n,r)]) (λp C=>u p (.tail _ C)) v.2 (by rw[ah];exact m) λa b c e f=>?_;rw[aG,aG,ah];exact q a b c e f)) gA;intro w;delta id at w;(try dsimp-zetaHave only at w);refine(?F:gC _) _ w;exactλp _=>p
end
noncomputable def LO:List Nat:=[76,111]
def FF:List (List Nat):=[[48,70,48,48],[60,66,105,103,32,79,110,101,115,44,32,70,105,114,115,116,62],LO,[48],[76],[],[],[],[],[78],[],[],[],[],[]]
def Vn(c:Nat)(nm:List Nat):cw:=⟨c,LO,[76],0,nm,(.none,[]),(.none,.none,[],[],[]),(.none,[]),(.none,[]),(.none,[])⟩
def fS:cw:=Vn 3844 mY
theorem TN{c:Nat}{nm:List Nat}(a:c∈ym)(b:nm∈mY::NMS):(Vn c nm).ok:=⟨a,.head _,.head _,.head _,b,.head _,.head _,.head _,.head _,.head _,λ_=>⟨rfl,rfl,rfl,rfl,rfl⟩⟩
section
variable{d:Nat}{s:aH}{E:PV->aH->Prop}
def FR:PV:=.bR [.int 1,.list (FF.map .bytes),.bytes []]
theorem Cs{o:PV}{rest:List PV}{Q:Fl->L->aH->Prop}{a b c e f:Slot}(q:∀a b c e f,fJ (λg l s k=>pT [4,5,6] g l λl=>bS (au (d+4)) E 397 (ft bH.body) l s k) rest [.val o,.cj [],.val (.ref s.length),.val (.int 3840),a,b,c,e,f] (s++[iw 3840 3840 FF 1]) Q):fJ (λg l s k=>pT [4,5,6] g l λl=>bS (au (d+4)) E 397 (ft bH.body) l s k) (FR::rest) [.val o,.cj [],.val .none,.val (.int (-1)),a,b,c,e,f] s Q:=by refine j1 ?_;dsimp[ft,bH,FR];apply aQ;dsimp;refine sr rfl ?_;apply aQ;dsimp;refine oS (gD (fs:=FF) (i:=0) rfl) (Wp.of (Qp (d:=d+1) (c:=3840) (by decide)) (oS (gD (fs:=FF) (i:=1) rfl) ?_));dsimp;apply aQ;dsimp;apply aQ;dsimp;apply aQ;dsimp;apply aQ;dsimp;refine sl rfl (sl rfl ?_);apply aQ;dsimp;refine Wp.of (DS (fs:=FF)) ?_;dsimp;exact q _ _ _ _ _
theorem Qq{o:PV}{rest:List PV}{Q:Fl->L->aH->Prop}{a b c e f:Slot}(q:∀a b c e f,fJ (λg l s k=>pT [4,5,6] g l λl=>bS (au (d+4)) E 397 (ft bH.body) l s k) rest [.val o,.cj [.ref (s++[iw 3840 3840 FF 1]).length],.val .none,.val (.int 3844),a,b,c,e,f] (s++[iw 3840 3840 FF 1]++[iw 3840 3844 fS.fs 2]) Q):fJ (λg l s k=>pT [4,5,6] g l λl=>bS (au (d+4)) E 397 (ft bH.body) l s k) (sb (2,fS)::rest) [.val o,.cj [],.val (.ref s.length),.val (.int 3840),a,b,c,e,f] (s++[iw 3840 3840 FF 1]) Q:=by refine(?H:gB (by refine j1 ?_;dsimp[ft,bH,sb];apply aQ;dsimp;refine sr rfl ?_;apply aQ;dsimp;refine oS (gD (i:=0) rfl) (Wp.of (Qp (d:=d+1) (c:=3844) (by decide)) (oS (gD (fs:=fS.fs) (i:=1) rfl) ?_));dsimp;apply aQ;dsimp;apply aQ;dsimp;apply aQ;dsimp;apply aQ;dsimp;refine sr rfl ?_;apply aQ;dsimp;refine oS (iA uK) (oS rfl (oS (a:=(true,.list ((FF.drop 2).map .bytes))) rfl (oS (a:=false) rfl ?_)));dsimp;apply aQ;dsimp;refine oS (iA uK) (oS rfl (oS (gD (fs:=FF) (i:=1) rfl) ?_));dsimp;refine sr rfl ?_;apply aQ;dsimp;refine oS (iA uK) (oS rfl (Wp.of (DS (fs:=fS.fs)) ?_));dsimp;apply aQ;dsimp;exact q _ _ _ _ _)) gA;intro w;delta id at w;(try dsimp-zetaHave only at w);refine(?F:gC _) _ w;exactλp _=>p
end
abbrev Ob:=Nat×Nat×NR
def Vo(o:Ob):jt:=iw o.1 o.2.1 o.2.2.2.fs o.2.2.1
noncomputable def It(p:NR):Ob:=(p.2.c,p.2.c,p)
def objs(pair:Bool)(xs:List NR):List Ob:=(if pair then[(3840,3844,(2,fS))]else[])++xs.map It
noncomputable def F1(s:aH):List Nat->List Ob->Prop|[],[]=>True|l::R,o::os=>s[l]?=some (Vo o)/\F1 s R os|_,_=>False
theorem F2(xs:List NR):∀(s:aH),F1 (s++xs.map Cr) (e8 s.length xs.length) (xs.map It):=by induction xs with|nil=>intro s;exact trivial|cons p xs a=>intro s;have:=a (s++[Cr p]);rw[aG,ah]at this;exact⟨uK,this⟩
noncomputable def Xs(p:Pt):PV:=.bR [.str p.x,.int p.i,.int p.j,p.v]
def mG(o:Ob):List Pt:=(wb o.2.2.2).map λq=>⟨q.1,o.1,o.2.1,q.2⟩
section
variable{d l N:Nat}{s:aH}{E:PV->aH->Prop}
theorem Iu{o:List Nat}{pair:Bool}{xs:List NR}{rest:List PV}{Q:Bool×PV->aH->Prop}(j:au (d+4) Fn.dR [.bytes o] s=.ok (true,.list ((if pair then[FR,sb (2,fS)]else[])++(xs.map sb++rest))) s)(m:∀p∈xs,Xr p.2)(n:Up (if pair then 3844 else-1) xs)(h:xs.length<=50)(q:∀R t a b c e f,R.length<=60->F1 (s++t) R (objs pair xs)->fJ (λg l s k=>pT [4,5,6] g l λl=>bS (au (d+4)) E 397 (ft bH.body) l s k) rest [.val (.bytes o),.cj (R.map .ref),.val .none,.val (.int (JW (if pair then 3844 else-1) xs)),a,b,c,e,f] (s++t) λi l s=>Bm i (bS (au (d+4)) E 398 (bH.body.drop 2) l s λi _ s=>Q (DB i) s) λv=>Q v s):Wp (au (d+5) Fn.fq [.bytes o] s) Q E:=by refine bq bH rfl rfl ?_;dsimp[bH,bx];apply aQ;dsimp;apply aQ;dsimp;refine Wp.of j ?_;dsimp;clear j;cases pair with|false=>exact JX (d:=d) (E:=E) (o:=.bytes o) xs [] (-1) s (a:=.bB) (b:=.bB) (c:=.bB) (e:=.bB) (f:=.bB) m n (aa (aD h 0) (by decide)) λa b c e f=>q (e8 s.length xs.length) (xs.map Cr) a b c e f (by rw[qc];exact aa h (by decide)) (F2 xs s)|true=>refine Cs λa b c e f=>Qq λa b c e f=>?_;refine JX (d:=d) (E:=E) (o:=.bytes o) xs [.ref (s++[iw 3840 3840 FF 1]).length] 3844 (s++[iw 3840 3840 FF 1]++[iw 3840 3844 fS.fs 2]) (a:=a) (b:=b) (c:=c) (e:=e) (f:=f) m n (aa (aD h 1) (by decide)) λa b c e f=>?_;have:=q ((s++[iw 3840 3840 FF 1]).length::e8 (s++[iw 3840 3840 FF 1]++[iw 3840 3844 fS.fs 2]).length xs.length) ([iw 3840 3840 FF 1]++[iw 3840 3844 fS.fs 2]++xs.map Cr) a b c e f (by rw[aO,qc];exact aa (aB h) (by decide)) (by rw[<-aG,<-aG];exact⟨by rw[aG];exact uK,F2 xs _⟩);rw[<-aG,<-aG]at this;exact this
theorem F3{o:List Nat}{pair:Bool}{xs:List NR}{Q:Bool×PV->aH->Prop}(g:au (d+4) Fn.dR [.bytes o] s=.ok (true,.list ((if pair then[FR,sb (2,fS)]else[])++xs.map sb)) s)(i:∀p∈xs,Xr p.2)(j:Up (if pair then 3844 else-1) xs)(k:xs.length<=50)(q:∀R t,F1 (s++t) R (objs pair xs)->Q (true,.list (R.map .ref)) (s++t)):Wp (au (d+5) Fn.fq [.bytes o] s) Q E:=Iu (rest:=[]) (by refine zl (aT _) ?_;exact g) i j k λR t a b c e f _ h=>by dsimp[bH];apply aQ;dsimp;apply aQ;dsimp;exact q R t h
end
section
variable{d l N:Nat}{s:aH}{E:PV->aH->Prop}
theorem Qr{g:cb}{N:Nat}{o dv:PV}{r:Nat}{c0 m:Int}{fs:List (List Nat)}{n:Int}{Q:Fl->L->aH->Prop}(h:s[r]?=some (iw c0 m fs n))(c:List (List Nat×PV)):∀(acc:List Pt){a b e f:Slot},acc.length+c.length<=eu->(∀a b,Q .next [.val o,.val dv,.cj ((acc++c.map λq=>(⟨q.1,c0,m,q.2⟩:Pt)).map Xs),.val (.ref r),a,b,e,f] s)->fJ (λi l s k=>pT [4,5] i l λl=>bS g E (N+20) [.qn 2 (.bR [(.aq 4),(.cO (.aq 3) .uX),(.cO (.aq 3) .ti),(.aq 5)])] l s k) (c.map mu) [.val o,.val dv,.cj (acc.map Xs),.val (.ref r),a,b,e,f] s Q:=by
 induction c with
 |nil=>intro acc a b e f _ q;have:=q a b;rwa[show acc++[].map (λq:List Nat×PV=>(⟨q.1,c0,m,q.2⟩:Pt))=acc from aT _]at this
 |cons p c t=>
  intro acc a b e f u q;have j:acc.length+1+c.length<=eu:=bg acc.length c.length 1▸u;refine j1 ?_;dsimp[mu];apply aQ;dsimp;refine oS (iA h) (oS rfl (oS (iA h) (oS rfl ?_)));refine so (by rw[aj];exact aw (cB _) (aa (aR ..) j)) ?_;have:=t (a:=.val (.str p.1)) (b:=.val p.2) (e:=e) (f:=f) (acc++[⟨p.1,c0,m,p.2⟩]) (by rw[ah];exact j) λa b=>by have:=q a b;rwa[aM,sq]at this
  rwa[ba]at this
def Qs(o:Ob):Prop:=o.2.2.2.ok/\o.1∈ym
theorem JY{o dv:PV}{rest:List PV}{Q:Fl->L->aH->Prop}(R:List Nat):∀(i:List Ob)(acc:List Pt){a b c e f:Slot},F1 s R i->(∀m∈i,Qs m)->acc.length+(i.flatMap mG).length<=200->(∀a b c,fJ (λg l s k=>bS (au (d+6)) E 397 (ft bZ.body) (pt l 3 (.val g)) s k) rest [.val o,.val dv,.cj ((acc++i.flatMap mG).map Xs),a,b,c,e,f] s Q)->fJ (λg l s k=>bS (au (d+6)) E 397 (ft bZ.body) (pt l 3 (.val g)) s k) (R.map .ref++rest) [.val o,.val dv,.cj (acc.map Xs),a,b,c,e,f] s Q:=by
 induction R with
 |nil=>intro i acc a b c e f h _ _ q;clear a_1 a_2;cases i with|nil=>have:=q a b c;rwa[show acc++[].flatMap mG=acc from aT _]at this|cons=>exact h.elim
 |cons l R v=>intro i acc a b c e f h j n q;cases i with|nil=>exact h.elim|cons m i=>obtain⟨r,w⟩:=h;obtain⟨h1,u⟩:=j m (.head _);rw[gW,ah,<-cM]at n;have p:(wb m.2.2.2).length=(mG m).length:=(aj ..).symm;refine j1 ?_;dsimp[ft,bZ];apply aQ;dsimp;refine Wp.of (TM (d:=d) h1 u r) ?_;dsimp;refine Qr r _ acc (by rw[p];exact aa (aa (aR ..) n) (by decide)) λa b=>?_;dsimp;refine v i _ w (λo t=>j o (.tail _ t)) (by rw[ah];exact n) λa b c=>?_;rw[aG];have:=q a b c;rwa[gW]at this
set_option genInjectivity false in set_option genCtorIdx false in inductive DI(l:Nat):L->Prop|mk(o y a b c f g:Slot):DI l [o,.val (.ref l),y,a,b,c,f,g]
theorem TO(p:Pt)(e:L)(s s':aH)(K:Fl->L->aH->Prop)(n:True)(m:DI l e)(h0:s[l]?=some (ML l))(k:au (d+4) Fn.pv [.ref l,.str p.x,.int p.i,.int p.j,p.v] s=.ok (false,.none) s')(q:∀h,DI l h->K .next h s'):pT [4,6,7,5] (Xs p) e λe=>bS (au (d+4)) E 395 (j4 bZ 2) e s K:=by obtain⟨o,y,a,b,c,f,g⟩:=m;dsimp[j4,ft,bZ,Xs];apply aQ;dsimp;refine mI h0 rfl ?_;dsimp;exact Wp.of k (q _ ⟨o,y,a,_,_,_,_⟩)
theorem TP{o:List Nat}{f:List Ob}{Q:Bool×PV->aH->Prop}(v:∀k:Bool×PV->aH->Prop,(∀R t,F1 (s++t) R f->k (true,.list (R.map .ref)) (s++t))->Wp (au (d+6) Fn.fq [.bytes o] s) k E)(h:∀w∈f,Qs w)(g:(f.flatMap mG).length<=60)(D:DA s l N 0 [])(u:mq (λy _=>qj y) (f.flatMap mG))(q:∀s' e,DA s' l N 190 e->Ag ((f.flatMap mG).foldl nO λy _=>qj y) e->GG l N s s'->Q (false,.none) s'):Wp (au (d+7) Fn.cA [.bytes o,.ref l] s) Q E:=by refine bq bZ rfl rfl ?_;dsimp[bZ,bx];apply aQ;dsimp;apply aQ;dsimp;refine v _ λR t r=>?_;dsimp;refine zr (aT (R.map PV.ref)) ?_;refine JY R f [] r h (aa (aD g 0) (by decide)) λa b c=>?_;dsimp;apply aQ;dsimp;apply aQ;dsimp;refine sY (d:=d+2) Xs (DI l) (λ_=>True) TO _ _ _ 0 [] _ D.qn (λy c _ _=>rfl) (by exact o22 g) u (λ_ _=>trivial) ⟨_,_,_,_,_,_,_⟩ λx s' e _ m p i=>?_;refine q s' e (m.le (by exact o23 g)) p ⟨aa (by refine zl ah ?_;exact aR ..) i.1,λj h1 n=>(i.2 j h1 n).trans (dG (aw h1 D.iG))⟩
end
noncomputable def keep:PV->Bool|.none=>false|.ref _=>false|.CI _=>false|.int n=>!(n==0)|_=>true
def hJ(r:cw):List (List Nat×PV):=[(GC,.str r.g),(BC,.str r.b),(CCC,.int r.n),(NAME,if r.nm=mF\/r.nm=mY then .none else .bytes r.nm),(DM,r.dm.1),(NT,r.nu.1),(NV,r.nu.2.1),(UC,r.u.1),(LC,r.l.1),(TC,r.tt)]
def AD:List (List Nat):=[GC,BC,CCC,NAME,DM,NT,NV,UC,LC,TC]
theorem AF(r:cw):(hJ r).map (·.1)=AD:=rfl
theorem Vp:AD.map qj=[.str [67,110],.str [76],.int 0,.none,.none,.none,.none,.none,.none,.none]:=by kernel_rfl
theorem pW:∀p∈CSS,keep p.1=!isNone p.1:=by decide
theorem F4:∀p∈DMS,keep p.1=!isNone p.1:=by decide
theorem AG:∀p∈NUS,keep p.1=!isNone p.1/\keep p.2.1=!isNone p.1/\keep p.2.1=!isNone p.2.1:=by decide
def xQ(q:List Nat×PV):Bool:=keep q.2
theorem wc{x:List Nat}{v:PV}(h:keep v=!isNone v):jO x v=[(x,v)].filter xQ:=by unfold jO;refine zl dZ ?_;refine zl (show xQ (x,v)=keep v from rfl) ?_;refine zl h ?_;cases isNone v<;>rfl
theorem Qt{r:cw}(a:r.ok):keep r.tt=!isNone r.tt:=by
 unfold cw.tt;split;·exact pW _ a.u
 ·exact pW _ a.t
theorem xg{r:cw}(d:r.ok):wb r=(hJ r).filter xQ:=by
 have e:hJ r=[(GC,.str r.g),(BC,.str r.b),(CCC,.int r.n)]++([(NAME,if r.nm=mF\/r.nm=mY then .none else .bytes r.nm)]++[(DM,r.dm.1)]++[(NT,r.nu.1),(NV,r.nu.2.1)]++([(UC,r.u.1)]++[(LC,r.l.1)]++[(TC,r.tt)])):=rfl;refine zl e ?_;refine zl (gj _ _) ?_;refine zl (gj _ _) ?_;refine zl (gj _ _) ?_;refine zl (gj _ _) ?_;refine zl (gj _ _) ?_;refine zl (gj _ _) ?_;refine zr (wc (F4 _ d.dm)) ?_;refine zr (wc (pW _ d.u)) ?_;refine zr (wc (pW _ d.l)) ?_;refine zr (wc (Qt d)) ?_;have h1:qG r=[(GC,.str r.g),(BC,.str r.b),(CCC,.int r.n)].filter xQ:=by obtain⟨c,g,b,n,nm,j,i,u,l,t⟩:=r;clear d e;cases n<;>rfl
 have h:nR r.nm=[(NAME,if r.nm=mF\/r.nm=mY then PV.none else .bytes r.nm)].filter xQ:=by unfold nR;split<;>rfl
 have f:yn r.nu=[(NT,r.nu.1),(NV,r.nu.2.1)].filter xQ:=by refine uU (AG _ d.nu) λa b _=>?_;unfold yn;refine zl dZ ?_;refine zl dZ ?_;refine zl (show xQ (NT,r.nu.1)=keep r.nu.1 from rfl) ?_;refine zl (show xQ (NV,r.nu.2.1)=keep r.nu.2.1 from rfl) ?_;refine zl a ?_;refine zl b ?_;cases isNone r.nu.1<;>rfl
 refine zr h1 ?_;refine zr h ?_;refine zr f ?_;rfl
theorem Xt{v:PV}(h:keep v=true):lk .none v:=by cases v<;>first|cases h;done|exact⟨rfl,λh=>mR h⟩
theorem pX{v:PV}(h:keep v=!isNone v)(k:keep v=false):v=.none:=by rw[k]at h;cases v<;>first|rfl|cases h
theorem Ct{r:cw}(b:r.ok):∀q∈hJ r,(keep q.2=false->qj q.1=q.2)/\(keep q.2=true->lk (qj q.1) q.2):=by
 have e:=Vp;unfold AD at e;simp only[aM,fP,Yo,and_true]at e;obtain⟨a1,o,g,p,i,m,j,n,h,d⟩:=e;have a:∀{x:List Nat}{v:PV},qj x=.none->(keep v=false->v=.none)->(keep v=false->qj x=v)/\(keep v=true->lk (qj x) v):=λ{x v}f s=>⟨λk=>f.trans (s k).symm,λk=>by refine zl f ?_;exact Xt k⟩;intro q c;unfold hJ at c;simp only[av,bJ,or_false]at c;rcases c with rfl|rfl|rfl|rfl|rfl|rfl|rfl|rfl|rfl|rfl;·exact⟨(λk=>by injection k),λ_=>a1▸JO⟩
 ·exact⟨(λk=>by injection k),λ_=>o▸JO⟩
 ·exact⟨λk=>by refine zl g ?_;exact(congrArg PV.int (eq_of_beq (Um _▸k))).symm,λ_=>by refine zl g ?_;exact⟨rfl,λ_=>rfl⟩⟩
 ·exact a p λk=>by
   revert k;dsimp;split;·exactλ_=>rfl
   ·exactλk=>by injection k
 ·exact a i (pX (F4 _ b.dm))
 ·exact a m (pX (AG _ b.nu).1)
 ·exact a j (pX (AG _ b.nu).2.2)
 ·exact a n (pX (pW _ b.u))
 ·exact a h (pX (pW _ b.l))
 ·exact a d (pX (Qt b))
def Ml(p:Pt)(c:Int):Prop:=p.i<=c/\c<=p.j
theorem JZ{x:List Nat}{c:Int}{v:PV}{b:List Pt}:∀{g:Gf},(∀p∈b,p.x=x->Ml p c->p.v=v)->(g x c=v\/∃p∈b,p.x=x/\Ml p c)->b.foldl nO g x c=v:=by
 induction b with
 |nil=>intro g _ h;exact h.elim id λh=>by refine dq h λ_ k _=>?_;clear h;cases k
 |cons p r f=>
  intro g h1 d;refine f (λq a=>h1 q (.tail _ a)) ?_;unfold nO;by_cases k:x=p.x/\p.i<=c/\c<=p.j;·exact .inl ((if_pos k).trans (h1 p (.head _) k.1.symm k.2))
  ·refine zl (if_neg k) ?_;refine d.imp id λh=>?_;refine pg h λq a e w=>?_;clear h;clear h1 d;rcases av.mp a with rfl|a;·exact absurd ⟨e.symm,w⟩ k
   ·exact⟨q,a,e,w⟩
theorem Iv{d:List Pt}:∀{g:Gf},(∀p∈d,0<=p.i/\p.i<=p.j/\p.j<1114111/\lk (g p.x (p.j+1)) p.v/\lk (g p.x (p.i-1)) p.v)->(∀p∈d,∀q∈d,q.x=p.x->Ml q (p.j+1)\/Ml q (p.i-1)->lk q.v p.v)->mq g d:=by
 induction d with
 |nil=>intro _ _ _;exact trivial
 |cons p r m=>
  intro g h1 l;refine qK (h1 p (.head _)) λa b c e f=>?_;refine⟨⟨a,b,c,e,λ_=>f⟩,m (λq h=>?_) λq h w o=>l q (.tail _ h) w (.tail _ o)⟩;refine qK (h1 q (.tail _ h)) λa b c e f=>?_;have n:=l q (.tail _ h) p (.head _);refine⟨a,b,c,?_,?_⟩<;>unfold nO<;>split;·exact n (by rename_i k;exact k.1.symm) (.inl (by rename_i k;exact k.2))
  ·exact e
  ·exact n (by rename_i k;exact k.1.symm) (.inr (by rename_i k;exact k.2))
  ·exact f
theorem Mm{a b:List Nat×PV}{l:List (List Nat×PV)}(h:(l.map (·.1)).Nodup)(c:a∈l)(i:b∈l)(e:a.1=b.1):a.2=b.2:=by
 induction l with
 |nil=>cases c
 |cons z r f=>
  obtain⟨h1,j⟩:=gJ.mp h;clear h;rcases av.mp c with rfl|g;·
   clear c f;rcases av.mp i with rfl|d;·rfl
   ·exact absurd (aL.mpr ⟨b,d,e.symm⟩) h1
  ·clear c;rcases av.mp i with rfl|d;·exact absurd (aL.mpr ⟨a,g,e⟩) h1
   ·exact f j g d
def Bp(o:Ob):Prop:=∀q∈hJ o.2.2.2,keep q.2=true->∃w,q.2=.str w
def Qu(a:List Ob):Prop:=(∀o∈a,Qs o/\0<o.1/\o.1<=o.2.1/\o.2.1<1114110)/\∀o∈a,∀w∈a,o=w\/(o.2.1+1<w.1\/w.2.1+1<o.1)\/(o.2.1<w.1\/w.2.1<o.1)/\Bp o/\Bp w
theorem Xu{c:List Ob}{p:Pt}(h:p∈c.flatMap mG):∃o∈c,∃q∈hJ o.2.2.2,keep q.2=true/\p=⟨q.1,o.1,o.2.1,q.2⟩\/¬o.2.2.2.ok:=by
 obtain⟨o,b,h⟩:=mQ.mp h;obtain⟨q,a,rfl⟩:=aL.mp h;by_cases k:o.2.2.2.ok;·rw[xg k]at a;obtain⟨a,d⟩:=cC.mp a;exact⟨o,b,q,a,.inl ⟨d,rfl⟩⟩
 ·exact⟨o,b,(GC,.str o.2.2.2.g),.head _,.inr k⟩
section
variable{os:List Ob}(I:Qu os)
include I
theorem Qu.mem{p:Pt}(h:p∈os.flatMap mG):∃o∈os,∃q∈hJ o.2.2.2,keep q.2=true/\p=⟨q.1,o.1,o.2.1,q.2⟩:=by
 obtain⟨o,a,q,b,h|h⟩:=Xu h;·exact⟨o,a,q,b,h⟩
 ·exact absurd (I.1 o a).1.1 h
theorem Qu.mq:mq (λy _=>qj y) (os.flatMap mG):=by
 refine Iv (λp j=>?_) λp j q g i d=>?_;·obtain⟨o,f,q,g,k,rfl⟩:=I.mem j;refine t9 (I.1 o f) λa b c e=>?_;have l:=(Ct a.1 q g).2 k;exact⟨bb _,bW.mpr c,bX.mpr (gT e),l,l⟩
 ·obtain⟨o,f,t,k1,r,rfl⟩:=I.mem j;clear i;obtain⟨w,u,z,k2,s,rfl⟩:=I.mem g;clear g;refine t9 (I.1 o f) λa b c e=>?_;unfold Ml at d;dsimp at d⊢;rcases I.2 o f w u with rfl|h|⟨_,n,v⟩;·exact(adb d).elim
  ·exact(ade c h d).elim
  ·refine zE (n t k1 r) λx i=>?_;refine zE (v z k2 s) λy m=>?_;refine zl i ?_;refine zl m ?_;exact JO
theorem Qu.val{o:Ob}(f:o∈os){c:Int}(h1:(o.1:Int)<=c)(g:c<=o.2.1){q:List Nat×PV}(b:q∈hJ o.2.2.2):(os.flatMap mG).foldl nO (λy _=>qj y) q.1 c=q.2:=by
 have i:=(I.1 o f).1.1;refine JZ (λp l h a=>?_) ?_;·
  obtain⟨w,j,n,d,_,rfl⟩:=I.mem l;have e:o=w:=by
   unfold Ml at a;dsimp at a;rcases I.2 o f w j with e|e|⟨e,_⟩;·exact e
   ·exact(YK h1 g a (e.imp cL cL)).elim
   ·exact(YK h1 g a e).elim
  clear j l a;subst e;revert b d h;have m:((hJ o.2.2.2).map (·.1)).Nodup:=by rw[AF];decide
  exactλb d h=>Mm m d b h
 ·cases k:keep q.2 with|false=>exact .inl ((Ct i q b).1 k)|true=>exact .inr ⟨⟨q.1,o.1,o.2.1,q.2⟩,mQ.mpr ⟨o,f,aL.mpr ⟨q,by rw[xg i];exact cC.mpr ⟨b,k⟩,rfl⟩⟩,rfl,h1,g⟩
theorem Qu.out{c:Int}{x:List Nat}(h:∀o∈os,¬((o.1:Int)<=c/\c<=o.2.1)):(os.flatMap mG).foldl nO (λy _=>qj y) x c=qj x:=by refine JZ (λp d e b=>?_) (.inl rfl);obtain⟨w,a,g,f,_,rfl⟩:=I.mem d;exact absurd b (h w a)
end
section
variable{d l N k:Nat}{s:aH}{es:uL}{c:Int}
theorem qm(D:DA s l N k es)(b:k<=250)(f:0<=c):au (d+4) Fn.qm [.ref l,.int c] s=.ok (false,.bR (AD.map λx=>G es x c)) s:=by
 refine Wp.eq (bq wQ rfl rfl ?_);dsimp[wQ,bx];apply aQ;dsimp;refine oS (a:=AD.map .str) rfl ?_;refine oC (q:=λx=>G es x c) AD (λx g K e=>?_) ?_;·refine mI D.i0 rfl ?_;dsimp;exact Wp.of (D.get (d:=d) b f) (sl rfl e)
 ·exact oS rfl ⟨rfl,rfl⟩
end
def j6(fs:List (List Nat)):Prop:=∃c∈H7,∃r,fs=gQ c::r/\(∀x∈fs,Ay x=true)/\fs.length<=15
theorem TQ:∀c∈H7,(gQ c).head?≠none/\(gQ c).head?≠some 239:=by decide+kernel
theorem j6.pY{fs:List (List Nat)}(h:j6 fs):jr (bD [59] fs)=(false,fs,[],false,false):=by obtain⟨c,a,r,rfl,h,_⟩:=h;exact FY h (Qd c a).2.1 (Qd c a).2.2
theorem Cu{c k:Nat}{ls:List (List Nat)}(h:∀l∈ls,l.length<=k):(bD [c] ls).length<=(k+1)*ls.length:=by induction ls with|nil=>exact cy _|cons x r b=>cases r with|nil=>rw[M3,Nat.mul_one];exact b7 (h x (.head _))|cons y r=>rw[je,ah,aO,aO,tD,cE];exact(Nat.succ_add _ _).symm▸(Nat.add_succ _ _)▸aW (b λl a=>h l (.tail _ a)) (aB (h x (.head _)))
theorem j6.iG{fs:List (List Nat)}(h:j6 fs):10∉bD [59] fs/\(bD [59] fs).length<=315:=by obtain⟨c,d,r,rfl,h,b⟩:=h;exact⟨qF (by decide) λx a=>(qE (h x a)).2.2.1,aa (Cu λx a=>(qE (h x a)).2.2.2.2) (bo 21 b)⟩
def xR(k:Nat)(l:List (List (List Nat))):List PV:=dE (motive:=λ_=>Nat->List PV) (λ_=>[]) (λfs _ f k=>.bR [.int ((k:Int)+1),.list (fs.map .bytes),.bytes []]::f (k+1)) l k
theorem TR{k:Nat}{fs:List (List Nat)}{r:List (List (List Nat))}:xR k (fs::r)=.bR [.int ((k:Int)+1),.list (fs.map .bytes),.bytes []]::xR (k+1) r:=rfl
theorem Xv(a:List (List (List Nat))):∀(k:Nat),(∀fs∈a,j6 fs)->e7 k (a.map (bD [59])++[[]])=xR k a:=by induction a with|nil=>intro k _;exact rfl|cons fs r c=>intro k h;have:=c (k+1) λx b=>h x (.tail _ b);unfold e7 at this⊢;rw[aM,b8,mM,kg,this];dsimp;rw[Au (h fs (.head _)).pY];rfl
def ix(a:List (List (List Nat))):List Nat:=(a.map (bD [59])).flatMap λl=>l++[10]
theorem Qv{ls:List (List Nat)}(h:ls≠[]):vY ls=ls.flatMap λl=>l++[10]:=by induction ls with|nil=>exact absurd rfl h|cons x r a=>cases r with|nil=>exact(aT _).symm|cons y r=>have:=a (eQ _ _);unfold vY at this⊢;rw[je,aG,b8,this];exact(aG x [10] _).symm
section
variable{d:Nat}{s:aH}
theorem xh{g:List (List (List Nat))}(h:∀fs∈g,j6 fs)(h0:g≠[])(m:g.length<=20):au (d+2) Fn.dR [.bytes (ix g)] s=.ok (true,.list (xR 0 g)) s:=by
 have e:du (ix g) [10]=g.map (bD [59])++[[]]:=r7 λf n=>by obtain⟨fs,i,rfl⟩:=aL.mp n;exact(h fs i).iG.1
 have j:(ix g).length<=6320:=by unfold ix;rw[su];refine aa (r9 (k:=316) λl m=>?_) (aa (bo 316 (by rw[aj,aj];exact m)) (by decide));obtain⟨z,hz,rfl⟩:=aL.mp m;clear m;obtain⟨fs,i,rfl⟩:=aL.mp hz;rw[ah];exact aB (h fs i).iG.2
 have h1:mn (ix g):=by clear m e j;cases g with|nil=>exact absurd rfl h0|cons fs r=>clear h0;obtain⟨c,p,t,rfl,_⟩:=h fs (.head _);obtain⟨a,b⟩:=TQ c p;cases k:gQ c with|nil=>rw[k]at a;exact absurd rfl a|cons x u=>rw[k]at b;unfold ix;rw[aM,gW];obtain⟨w,y⟩:=xd (c:=59) (x:=x) (t:=u) (r:=t);rw[y];exact yJ λq=>b (congrArg some q)
 have v:∀l∈du (ix g) [10],l.length+1<eu:=λl q=>by
  rw[e]at q;rcases bk.mp q with q|q;·obtain⟨fs,i,rfl⟩:=aL.mp q;exact aA (aB (h fs i).iG.2) (by decide)
  ·cases ao.mp q;decide
 have o:(du (ix g) [10]).length<=eu:=by rw[e,ah,aj];exact aa (aB m) (by decide)
 rw[Q.DD (d:=d) h1 (aA (aB j) (by decide)) v o,e,Xv g 0 h]
end
def nY(k:Nat)(l:List cw):List NR:=dE (motive:=λ_=>Nat->List NR) (λ_=>[]) (λr _ f k=>((k:Int)+1,r)::f (k+1)) l k
theorem AH{k:Nat}{r:cw}{rs:List cw}:nY k (r::rs)=((k:Int)+1,r)::nY (k+1) rs:=rfl
noncomputable def J0:Int->List cw->Prop|_,[]=>True|a,r::rs=>a<r.c/\J0 r.c rs
theorem Cv(rs:List cw):∀(k:Nat),xR k (rs.map cw.fs)=(nY k rs).map sb:=by induction rs with|nil=>intro _;exact rfl|cons r rs a=>intro k;exact congrArg (sb ((k:Int)+1,r)::·) (a (k+1))
theorem we(rs:List cw)(k:Nat):(nY k rs).map (·.2)=rs:=by induction rs generalizing k with|nil=>rfl|cons r rs a=>exact congrArg (r::·) (a (k+1))
theorem yM(rs:List cw):∀(k:Nat)(a:Int),J0 a rs->Up a (nY k rs):=by induction rs with|nil=>intro _ _ _;exact trivial|cons r rs b=>intro k a h;exact⟨h.1,b (k+1) _ h.2⟩
theorem pZ{rs:List cw}{k:Nat}{p:NR}(h:p∈nY k rs):p.2∈rs:=we rs k▸dH h
theorem F5{rs:List cw}{k:Nat}{r:cw}(h:r∈rs):∃n,(n,r)∈nY k rs:=by rw[<-we rs k]at h;obtain⟨p,a,rfl⟩:=aL.mp h;exact⟨p.1,a⟩
theorem wg{rs:List cw}{k:Nat}:(nY k rs).length=rs.length:=by have:=congrArg cZ (we rs k);rwa[aj]at this
def iy(pair:Bool)(rs:List cw):List (List (List Nat)):=(if pair then[FF,fS.fs]else[])++rs.map cw.fs
def qH(pair:Bool)(rs:List cw):List Ob:=objs pair (nY (if pair then 2 else 0) rs)
theorem cw.ok.pY{r:cw}(h:r.ok):j6 r.fs:=⟨r.c,Mg _ h.c,_,rfl,h.f,bf 15⟩
theorem DT:j6 FF:=⟨3840,by decide,FF.drop 1,by decide,by decide,by decide⟩
theorem yN:fS.ok:=TN (by decide) (.head _)
theorem wh{pair:Bool}{rs:List cw}(h:∀r∈rs,j6 r.fs):∀fs∈iy pair rs,j6 fs:=λfs a=>by
 rcases bk.mp a with a|a;·
  cases pair with
  |false=>cases a
  |true=>
   rcases av.mp a with rfl|a;·exact DT
   ·cases ao.mp a;exact yN.pY
 ·obtain⟨r,b,rfl⟩:=aL.mp a;exact h r b
theorem J1{pair:Bool}{rs:List cw}:xR 0 (iy pair rs)=(if pair then[FR,sb (2,fS)]else[])++(nY (if pair then 2 else 0) rs).map sb:=by cases pair with|false=>exact Cv rs 0|true=>exact congrArg (λz=>FR::sb (2,fS)::z) (Cv rs 2)
theorem DU{pair:Bool}{rs:List cw}{o:Ob}(h:o∈qH pair rs):(pair=true/\o=(3840,3844,(2,fS)))\/∃n r,r∈rs/\o=It (n,r):=by
 rcases bk.mp h with h|h;·cases pair with|false=>cases h|true=>exact .inl ⟨rfl,ao.mp h⟩
 ·refine dq (aL.mp h) λp b a=>?_;subst a;exact .inr ⟨p.1,p.2,pZ b,rfl⟩
section
variable{d l N:Nat}{s:aH}{E:PV->aH->Prop}{pair:Bool}{rs:List cw}
theorem Cw(h:∀r∈rs,j6 r.fs)(h0:rs≠[])(a:rs.length<=10):au (d+2) Fn.dR [.bytes (ix (iy pair rs))] s=.ok (true,.list ((if pair then[FR,sb (2,fS)]else[])++(nY (if pair then 2 else 0) rs).map sb)) s:=by
 rw[xh (wh h),J1];·intro q;exact h0 (il.mp (cF.mp q).2)
 ·unfold iy;rw[ah,aj];refine aa (aW (show _<=2 from ?_) a) (by decide);cases pair<;>decide
theorem Cy{Q:Bool×PV->aH->Prop}(h:∀r∈rs,r.ok/\r.nm≠mY)(h0:rs≠[])(b:rs.length<=10)(j:J0 (if pair then 3844 else-1) rs)(I:Qu (qH pair rs))(g:((qH pair rs).flatMap mG).length<=60)(D:DA s l N 0 [])(q:∀s' a,DA s' l N 190 a->Ag (((qH pair rs).flatMap mG).foldl nO λy _=>qj y) a->GG l N s s'->Q (false,.none) s'):Wp (au (d+7) Fn.cA [.bytes (ix (iy pair rs)),.ref l] s) Q E:=TP (λk f=>F3 (d:=d+1) (Cw (d:=d+3) (λr c=>(h r c).1.pY) h0 b) (λp i=>F0 (h _ (pZ i))) (yM _ _ _ j) (by refine zl wg ?_;exact aa b (by decide)) f) (λo e=>(I.1 o e).1) g D I.mq q
end
section
variable{d:Nat}{s:aH}{E:PV->aH->Prop}{rest:List PV}{Q:Fl->L->aH->Prop}{a b c e f:Slot}{o y z:PV}{acc:List PV}{n ti:Int}
noncomputable def F6(n:Int)(fs:List (List Nat)):PV:=.bR [.int n,.list (fs.map .bytes),.bytes []]
theorem TS{r:cw}(h:E (.int n) s):fJ (λg l s k=>pT [4,5,6] g l λl=>bS (au (d+4)) E 397 (ft bH.body) l s k) (F6 n (r.fs.take 14)::rest) [.val o,.cj acc,.val y,.val z,a,b,c,e,f] s Q:=by refine j1 ?_;dsimp[ft,bH,F6];apply aQ;dsimp;refine sl rfl ?_;apply aQ;dsimp;exact h
theorem TU{r:cw}{fs:List (List Nat)}(j:r.c∈ym)(m:(r.c:Int)<=ti)(h:E (.int n) s):fJ (λg l s k=>pT [4,5,6] g l λl=>bS (au (d+4)) E 397 (ft bH.body) l s k) (F6 n r.fs::rest) [.val o,.cj acc,.val y,.val (.int ti),a,b,c,e,f] s Q:=by refine j1 ?_;dsimp[ft,bH,F6];apply aQ;dsimp;refine sr rfl ?_;apply aQ;dsimp;refine oS (gD (i:=0) rfl) (Wp.of (Qp (d:=d+1) (Mg _ j)) (oS (gD (i:=1) (w:=r.nm) rfl) ?_));dsimp;apply aQ;dsimp;refine sl (decide_eq_true m) ?_;apply aQ;dsimp;exact h
theorem Qw{r:cw}(m:r.ok)(u:r.nm≠mY)(q:ti<r.c)(h:E (.int 1) (s++[iw 3840 3840 FF 1])):fJ (λg l s k=>pT [4,5,6] g l λl=>bS (au (d+4)) E 397 (ft bH.body) l s k) (F6 n r.fs::rest) [.val o,.cj acc,.val (.ref s.length),.val (.int ti),a,b,c,e,f] (s++[iw 3840 3840 FF 1]) Q:=by refine(?H:gB (by have j:r.nm∈NMS:=(av.mp m.nm).resolve_left u;have t:eh [44,32,76,97,115,116,62] r.nm=false:=(by decide:∀x∈NMS,eh [44,32,76,97,115,116,62] x=false) _ j;refine j1 ?_;dsimp[ft,bH,F6];apply aQ;dsimp;refine sr rfl ?_;apply aQ;dsimp;refine oS (gD (i:=0) rfl) (Wp.of (Qp (d:=d+1) (Mg _ m.c)) (oS (gD (i:=1) (w:=r.nm) rfl) ?_));dsimp;apply aQ;dsimp;refine sn (cu.mpr q) ?_;apply aQ;dsimp;apply aQ;dsimp;apply aQ;dsimp;refine sl (by rw[t];rfl) ?_;apply aQ;dsimp;exact oS (iA uK) (oS rfl h))) gA;intro w;delta id at w;(try dsimp-zetaHave only[ff,fg,fi,fj,fm,ib,ic,ie,ig,ij,JI,Po,Pp,Pq,Pr,JJ,Pu,Pw]at w);delta jJ nU at w;extract_lets+proofs+implicits+lift at w;refine(?F:gC _) _ w;exactλp _=>p
end
theorem Mn{fs:List (List Nat)}(A:List (List (List Nat))):∀(k:Nat),xR k (A++[fs])=xR k A++[F6 (((k+A.length:Nat):Int)+1) fs]:=by induction A with|nil=>intro k;exact rfl|cons x A a=>intro k;have:=a (k+1);rw[b8,TR,this,aO,rl];rfl
theorem Mo{r:cw}(rs:List cw):∀(k:Nat)(a:Int),JW a (nY k (rs++[r]))=r.c:=by induction rs with|nil=>intro k a;exact rfl|cons x rs b=>intro k a;exact b (k+1) x.c
section
variable{d l N:Nat}{s:aH}{E:PV->aH->Prop}{Q:Bool×PV->aH->Prop}{pair:Bool}{rs:List cw}{fs:List (List Nat)}{r:cw}
theorem xi(a:rs.length<=10):(iy pair rs).length<=12:=by unfold iy;rw[ah,aj];exact aa (aW (show _<=2 by cases pair<;>decide) a) (by decide)
theorem F7(h:∀r∈rs,r.ok)(c:j6 fs)(e:rs.length<=10):au (d+2) Fn.dR [.bytes (ix (iy pair rs++[fs]))] s=.ok (true,.list ((if pair then[FR,sb (2,fS)]else[])++((nY (if pair then 2 else 0) rs).map sb++[F6 (((iy pair rs).length:Int)+1) fs]))) s:=by
 have h1:∀x∈iy pair rs++[fs],j6 x:=λx a=>by
  rcases bk.mp a with a|a;·exact wh (λr b=>(h r b).pY) x a
  ·cases ao.mp a;exact c
 have f:(iy pair rs++[fs]).length<=20:=by rw[ah];exact aa (aB (xi e)) (by decide)
 rw[xh h1 (λq=>eQ _ _ (cF.mp q).2) f,Mn,J1,bO,aG]
theorem Qx(h:∀r∈rs,r.ok/\r.nm≠mY)(i:rs.length<=10)(k:J0 (if pair then 3844 else-1) rs)(g:r.ok)(q:∀t,E (.int (((iy pair rs).length:Int)+1)) (s++t)):Wp (au (d+5) Fn.fq [.bytes (ix (iy pair rs++[r.fs.take 14]))] s) Q E:=Iu (F7 (d:=d+2) (λr g=>(h r g).1) ⟨r.c,Mg _ g.c,_,rfl,λx j=>g.f x (Q9 j),show 14<=15 by decide⟩ i) (λp m=>F0 (h _ (pZ m))) (yM _ _ _ k) (by refine zl wg ?_;exact aa i (by decide)) λR t a b c e f _ _=>TS (q t)
theorem Qy(h:∀x∈rs++[r],x.ok/\x.nm≠mY)(i:(rs++[r]).length<=10)(j:J0 (if pair then 3844 else-1) (rs++[r]))(q:∀t,E (.int (((iy pair (rs++[r])).length:Int)+1)) (s++t)):Wp (au (d+5) Fn.fq [.bytes (ix (iy pair (rs++[r])++[r.fs]))] s) Q E:=by have g:=(h r (cx _ (.head _))).1;refine Iu (F7 (d:=d+2) (λr g=>(h r g).1) g.pY i) (λp k=>F0 (h _ (pZ k))) (yM _ _ _ j) (by refine zl wg ?_;exact aa i (by decide)) λR t a b c e f _ _=>?_;refine zl (Mo _ _ _) ?_;exact TU (fs:=r.fs) g.c (gU _) (q t)
theorem Qz(h:∀x∈r::rs,x.ok/\x.nm≠mY)(n:(r::rs).length<=10)(j:3840<r.c)(q:∀t,E (.int 1) (s++t)):Wp (au (d+5) Fn.fq [.bytes (ix (FF::(r::rs).map cw.fs))] s) Q E:=by
 have i:=h r (.head _);have m:∀fs∈FF::(r::rs).map cw.fs,j6 fs:=λfs g=>by
  rcases av.mp g with rfl|g;·exact DT
  ·obtain⟨x,k,rfl⟩:=aL.mp g;exact(h x k).1.pY
 refine bq bH rfl rfl ?_;dsimp[bH,bx];apply aQ;dsimp;apply aQ;dsimp;refine Wp.of (xh (d:=d+2) m (λq=>by injection q) (by rw[aO,aO,aj];exact aa (aB n) (by decide))) ?_;dsimp;refine Cs λa b c e f=>?_;exact Qw i.1 i.2 (bX.mpr j) (q _)
theorem Iw{o:List Nat}{m:Int}(h:∀(b:Bool×PV->aH->Prop)(a:PV->aH->Prop),(∀t,a (.int m) (s++t))->Wp (au (d+1) Fn.fq [.bytes o] s) b a)(q:∀t,E (.int m) (s++t)):Wp (au (d+2) Fn.cA [.bytes o,.ref l] s) Q E:=by refine bq bZ rfl rfl ?_;dsimp[bZ,bx];apply aQ;dsimp;apply aQ;dsimp;exact h _ _ q
theorem QA{o:List Nat}{m:Int}(h:∀(b:Bool×PV->aH->Prop)(a:PV->aH->Prop),(∀t,a (.int m) (s++t))->Wp (au (d+1) Fn.cA [.bytes o,.ref l] s) b a)(q:∀t,Q (false,.int m) (s++t)):Wp (au (d+2) Fn.lC [.int 1,.bytes o,.ref l] s) Q E:=by refine bq jw rfl rfl ?_;dsimp[jw,bx];apply aQ;dsimp;apply aQ;dsimp;refine h _ _ λt=>?_;apply aQ;dsimp;exact q t
end
noncomputable def XX2:List Nat:=[88,120]
noncomputable def N255:List Nat:=[50,53,53]
noncomputable def ZZ2:List Nat:=[90,90]
noncomputable def ODD:List Nat:=[60,111,100,100,62,32,48,48,54,49]
section
variable{d l:Nat}{s:aH}{f la n:Int}{r:cw}
theorem aeB:au (d+1) Fn.pj [.bytes N255] s=.ok (false,.int 255) s:=by kernel_rfl
theorem aal(b:r.ok)(h:s[l]?=some (iw f la (r.fs.set 2 XX2) n)):au (d+5) Fn.fE [.ref l] s=.kc (.int n) s:=by refine Wp.SY (bq dn rfl rfl ?_);dsimp[dn,bx];apply aQ;dsimp;refine oS (iA h) (oS rfl (oS (gD (i:=3) rfl) (Wp.of (vU (DR (d:=d+3)) r.n b.n) ?_)));dsimp;apply aQ;dsimp;refine sn (bY.mpr (bW.mpr ((by decide:∀n∈CCS,n<=254) r.n b.n))) ?_;refine oS (iA h) (oS rfl (oS (gD (i:=9) rfl) (oS (a:=false) rfl ?_)));dsimp;apply aQ;dsimp;refine mI h rfl ?_;dsimp;exact Wp.ex (AA (d:=d) (i:=2) (w:=XX2) h rfl (by decide) (by kernel_rfl)) ⟨rfl,rfl⟩
theorem aam(a:r.ok)(h:s[l]?=some (iw f la (r.fs.set 3 N255) n)):au (d+5) Fn.fE [.ref l] s=.kc (.int n) s:=by refine Wp.SY (bq dn rfl rfl ?_);dsimp[dn,bx];apply aQ;dsimp;refine oS (iA h) (oS rfl (oS (gD (i:=3) (w:=N255) rfl) (Wp.of (aeB (d:=d+3)) ?_)));dsimp;apply aQ;dsimp;apply aQ;dsimp;exact oS (iA h) (oS rfl ⟨rfl,rfl⟩)
theorem aan(b:r.ok)(h:s[l]?=some (iw f la (r.fs.set 4 ZZ2) n)):au (d+5) Fn.fE [.ref l] s=.kc (.int n) s:=by refine Wp.SY (bq dn rfl rfl ?_);dsimp[dn,bx];apply aQ;dsimp;refine oS (iA h) (oS rfl (oS (gD (i:=3) rfl) (Wp.of (vU (DR (d:=d+3)) r.n b.n) ?_)));dsimp;apply aQ;dsimp;refine sn (bY.mpr (bW.mpr ((by decide:∀n∈CCS,n<=254) r.n b.n))) ?_;refine oS (iA h) (oS rfl (oS (gD (i:=9) rfl) (oS (a:=false) rfl ?_)));dsimp;apply aQ;dsimp;refine mI h rfl ?_;dsimp;refine Wp.of (oF (d:=d) (i:=2) h rfl (gw.1 _ b.g) (vU Vm _ b.g)) ?_;dsimp;refine mI h rfl ?_;dsimp;exact Wp.ex (AA (d:=d) (i:=4) (w:=ZZ2) h rfl (by decide) (by kernel_rfl)) ⟨rfl,rfl⟩
theorem aao(h:s[l]?=some (iw f la (r.fs.set 5 ODD) n)):au (d+5) Fn.i8 [.ref l] s=.kc (.int n) s:=by refine(?H:gB (by refine Wp.SY (bq dN rfl rfl ?_);dsimp[dN,bx];apply aQ;dsimp;refine oS (iA h) (oS rfl (oS (gD (i:=5) (w:=ODD) rfl) ?_));dsimp[ODD];apply aQ;dsimp;apply aQ;dsimp;refine sl rfl ?_;apply aQ;dsimp;apply aQ;dsimp;refine oS rfl (oS rfl (oS (iA h) (oS rfl (Wp.of (W6 (w:=[111,100,100]) (by decide)) ?_))));dsimp;apply aQ;dsimp;refine oS (a:=true) rfl ?_;dsimp;apply aQ;dsimp;exact oS (iA h) (oS rfl ⟨rfl,rfl⟩))) gA;intro w;delta id at w;(try dsimp-zetaHave only at w);refine(?F:gC _) _ w;exactλp _=>p
def tu(r:cw):Nat->cw|0=>{r with g:=XX2}|1=>{r with n:=255}|2=>{r with b:=ZZ2}|_=>{r with dm:=(r.dm.1,ODD)}
theorem QB:(tu r 1).fs=r.fs.set 3 N255:=congrArg (λz=>[gQ r.c,r.nm,r.g,z,r.b,r.dm.2,r.nu.2.2.1,r.nu.2.2.2.1,r.nu.2.2.2.2,[78],[],[],r.u.2,r.l.2,r.t.2]) (show iL 255=N255 by decide+kernel)
theorem AI(a:r.ok){k:Nat}(g:k<4):j6 (tu r k).fs:=by
 have b:∀{x:List Nat}{i:Nat},Ay x=true->∀y∈r.fs.set i x,Ay y=true:=λe y j=>(List.mem_or_eq_of_mem_set j).elim (λh=>a.f y h) λh=>h▸e;refine RG g ?_ ?_ ?_ ?_;·exact⟨r.c,Mg _ a.c,_,rfl,b (i:=2) (x:=XX2) (by decide),bf 15⟩
 ·exact⟨r.c,Mg _ a.c,_,rfl,QB▸b (i:=3) (x:=N255) (by decide),bf 15⟩
 ·exact⟨r.c,Mg _ a.c,_,rfl,b (i:=4) (x:=ZZ2) (by decide),bf 15⟩
 ·exact⟨r.c,Mg _ a.c,_,rfl,b (i:=5) (x:=ODD) (by decide),bf 15⟩
theorem Xw(h:Xr r):∀k,Xr (tu r k)|0=>h|1=>h|2=>h|_+3=>h
theorem QC(a:r.ok){k:Nat}(c:k<4)(h:s[l]?=some (iw f la (tu r k).fs n)):au (d+6) Fn.n9 [.ref l] s=.kc (.int n) s:=by
 refine Wp.SY (bq gx rfl rfl ?_);dsimp[gx,bx];revert h;refine RG c ?_ ?_ ?_ ?_<;>intro h;·apply aQ;dsimp;exact Wp.ex (aal (d:=d) a h) ⟨rfl,rfl⟩
 ·apply aQ;dsimp;exact Wp.ex (aam (d:=d) a (QB▸h)) ⟨rfl,rfl⟩
 ·apply aQ;dsimp;exact Wp.ex (aan (d:=d) a h) ⟨rfl,rfl⟩
 ·apply aQ;dsimp;refine Wp.of (Qh (d:=d) (r:=tu r 3) a.n a.g a.b h) ?_;dsimp;apply aQ;dsimp;exact Wp.of (AB (d:=d+4) (r:=tu r 3) a.nm h) (Wp.ex (aao (d:=d) h) ⟨rfl,rfl⟩)
end
theorem QD{r:cw}(rs:List cw):∀(k:Nat),nY k (rs++[r])=nY k rs++[(((k+rs.length:Nat):Int)+1,r)]:=by induction rs with|nil=>intro k;exact rfl|cons x rs a=>intro k;have:=a (k+1);rw[b8,AH,this,aO,rl];rfl
theorem aap{r:cw}:∀k,(tu r k).c=r.c|0=>rfl|1=>rfl|2=>rfl|_+3=>rfl
theorem Xx{r:cw}{k:Nat}{rs:List cw}:∀{a:Int},J0 a (rs++[r])->J0 a (rs++[tu r k]):=by induction rs with|nil=>intro a h;exact⟨by rw[aap];exact h.1,trivial⟩|cons x rs b=>intro a h;exact⟨h.1,b h.2⟩
theorem QE{s:aH}{o:Ob}{a:List Ob}{R:List Nat}(h:F1 s R (a++[o])):∃b l,R=b++[l]/\F1 s b a/\s[l]?=some (Vo o):=by
 induction a generalizing R with
 |nil=>cases R with|nil=>exact h.elim|cons l R=>cases R with|nil=>exact⟨[],l,rfl,trivial,h.1⟩|cons m R=>exact h.2.elim
 |cons x a e=>cases R with|nil=>exact h.elim|cons l R=>refine d0 (e h.2) λb m c h1 d=>?_;subst c;exact⟨l::b,m,rfl,⟨h.1,h1⟩,d⟩
theorem Xy{pair:Bool}{rs:List cw}(h:∀r∈rs,r.ok):∀o∈qH pair rs,Qs o:=λo b=>by
 rcases DU b with⟨_,rfl⟩|⟨n,r,a,rfl⟩;·exact⟨yN,by decide⟩
 ·exact⟨h r a,(h r a).c⟩
theorem Xz{pair:Bool}{rs:List cw}:(iy pair rs).length=(if pair then 2 else 0)+rs.length:=by unfold iy;rw[ah,aj];cases pair<;>rfl
section
variable{d l N:Nat}{s:aH}{E:PV->aH->Prop}{Q:Bool×PV->aH->Prop}{pair:Bool}{rs:List cw}{r:cw}
theorem XA{k:Nat}(v:k<4)(h:∀x∈rs++[r],x.ok/\x.nm≠mY)(w:(rs++[r]).length<=10)(C:J0 (if pair then 3844 else-1) (rs++[r]))(A:((qH pair rs).flatMap mG).length<=200)(q:∀t,E (.int (((iy pair rs).length:Int)+1)) (s++t)):Wp (au (d+7) Fn.cA [.bytes (ix (iy pair (rs++[tu r k]))),.ref l] s) Q E:=by
 have m:=h r (cx _ (.head _));have i:∀x∈rs,x.ok/\x.nm≠mY:=λx f=>h x (ct _ f);have g:(rs++[tu r k]).length<=10:=by rw[ah]at w⊢;exact w
 have j:∀x∈rs++[tu r k],j6 x.fs:=λx f=>by
  rcases bk.mp f with f|f;·exact(i x f).1.pY
  ·cases ao.mp f;exact AI m.1 v
 have n:∀x∈rs++[tu r k],Xr x:=λx f=>by
  rcases bk.mp f with f|f;·exact F0 (i x f)
  ·cases ao.mp f;exact Xw (F0 m) k
 refine bq bZ rfl rfl ?_;dsimp[bZ,bx];apply aQ;dsimp;apply aQ;dsimp;refine F3 (d:=d+1) (Cw (d:=d+3) j (λq=>eQ _ _ (cF.mp q).2) g) (λp B=>n _ (pZ B)) (yM _ _ _ (Xx C)) (by refine zl wg ?_;exact aa g (by decide)) λR t o=>?_;have e:objs pair (nY (if pair then 2 else 0) (rs++[tu r k]))=qH pair rs++[It ((((if pair then 2 else 0)+rs.length:Nat):Int)+1,tu r k)]:=by unfold qH objs;refine zl (QD _ _) ?_;refine zl ba ?_;refine zl (aG _ _ _) ?_;rfl
 replace o:=e▸o;refine d0 (QE o) λz D u h1 y=>?_;subst u;dsimp;refine zl ba ?_;refine JY z _ [] h1 (Xy λx f=>(i x f).1) (aa (bA (bO _)) A) λa b c=>?_;refine j1 ?_;dsimp[ft,bZ];apply aQ;dsimp;refine Wp.ex (QC (d:=d) m.1 v y) ?_;have:=q t;replace this:=Xz▸this;exact this
end
def Vq(r:cw):PV×List Nat:=if isNone r.t.1 then r.u else r.t
def eJ(c:Nat)(r:cw):cw:={r with c:=c,nm:=if r.nm=mF\/r.nm=mY then mF else r.nm,t:=Vq r}
theorem DV{r:cw}:(Vq r).1=r.tt:=by unfold Vq cw.tt;split<;>rfl
theorem DW{r:cw}(a:r.ok):Vq r∈CSS:=by
 unfold Vq;split;·exact a.u
 ·exact a.t
theorem wi{r:cw}{c:Nat}(a:r.ok)(e:c∈ym):(eJ c r).ok/\(eJ c r).nm≠mY:=by
 have d:(eJ c r).nm≠mY:=λq=>by
  have q:(if r.nm=mF\/r.nm=mY then mF else r.nm)=mY:=q;by_cases k:r.nm=mF\/r.nm=mY;·replace q:=if_pos k▸q;cases q
  ·replace q:=if_neg k▸q;exact k (.inr q)
 refine⟨⟨e,a.g,a.b,a.n,?_,a.dm,a.nu,a.u,a.l,DW a,λq=>absurd q d⟩,d⟩;show(if r.nm=mF\/r.nm=mY then mF else r.nm)∈_;split;·decide
 ·exact a.nm
theorem Mp{r:cw}{c:Nat}:hJ (eJ c r)=hJ r:=by
 have h1:(eJ c r).tt=r.tt:=by show(if isNone (Vq r).1 then r.u.1 else(Vq r).1)=r.tt;refine zl DV ?_;unfold cw.tt;cases e:isNone r.t.1 with|true=>refine zl (if_pos rfl) ?_;split<;>rfl|false=>simp[e]
 have a:(if(eJ c r).nm=mF\/(eJ c r).nm=mY then PV.none else .bytes (eJ c r).nm)=if r.nm=mF\/r.nm=mY then PV.none else .bytes r.nm:=by
  by_cases k:r.nm=mF\/r.nm=mY;·rewrite[show(eJ c r).nm=mF from if_pos k];refine zl (if_pos (.inl rfl)) ?_;exact zl (if_pos k) rfl
  ·rw[show(eJ c r).nm=r.nm from if_neg k]
 unfold hJ;refine zl h1 ?_;refine zl a ?_;rfl
section
variable{d l N k:Nat}{s:aH}{es:uL}{E:PV->aH->Prop}
theorem aaq:CCS.map (λ(n:Nat)=>au (d+1) Fn.gL [.int n] s)=CCS.map λn=>.ok (false,.bytes (iL n)) s:=by kernel_rfl
theorem XB:DMS.map (λp=>au (d+3) Fn.jK [p.1] s)=DMS.map λp=>.ok (false,.bytes p.2) s:=by kernel_rfl
theorem DX:CSS.map (λp=>au (d+2) Fn.iq [p.1] s)=CSS.map λp=>.ok (false,.bytes p.2) s:=by kernel_rfl
theorem XC{Q:Bool×PV->aH->Prop}{a b:Slot}:NUS.map (λc=>bS (au (d+3)) E 399 (gG.body.drop 1) [a,b,.val c.1,.val c.2.1,.bB] s λe _ s=>Q (DB e) s)=NUS.map λc=>Q (true,.list [.bytes c.2.2.1,.bytes c.2.2.2.1,.bytes c.2.2.2.2]) s:=by kernel_rfl
theorem TV{r:cw}{c:Nat}(D:DA s l N k es)(b:k<=250)(g:r.ok)(h:∀q∈hJ r,G es q.1 c=q.2):au (d+4) Fn.ko [.ref l,.int c] s=.ok (true,.list [.bytes r.nu.2.2.1,.bytes r.nu.2.2.2.1,.bytes r.nu.2.2.2.2]) s:=by have f:=D.get (d:=d) b (x:=NT) (c:=c) (bb c);have e:=D.get (d:=d) b (x:=NV) (c:=c) (bb c);rw[h (NT,r.nu.1) (by simp[hJ])]at f;rw[h (NV,r.nu.2.1) (by simp[hJ])]at e;refine Wp.eq (bq gG rfl rfl ?_);dsimp[gG,bx];apply aQ;dsimp;refine mI D.i0 rfl ?_;dsimp;refine Wp.of f ?_;dsimp;refine mI D.i0 rfl ?_;dsimp;refine Wp.of e ?_;dsimp;exact(vU (XC (d:=d) (Q:=λa s'=>a=(true,.list [.bytes r.nu.2.2.1,.bytes r.nu.2.2.2.1,.bytes r.nu.2.2.2.2])/\s'=s)) r.nu g.nu).mpr ⟨rfl,rfl⟩
end
section
variable{d l N k:Nat}{s:aH}{es:uL}{E:PV->aH->Prop}
theorem TX{r:cw}{c:Nat}(D:DA s l N k es)(j:k<=250)(e:r.ok)(m:c∈ym)(h:∀q∈hJ r,G es q.1 c=q.2):au (d+5) Fn.jL [.ref l,.int c] s=.ok (false,.bytes (bD [59] (eJ c r).fs++[10])) s:=by
 refine(?H:gB (by
  have f:∀{x:List Nat}{v:PV},(x,v)∈hJ r->au (d+4) Fn.yQ [.ref l,.str x,.int c] s=.ok (false,v) s:=λ{x v}q=>by have:=D.get (d:=d+1) j (x:=x) (c:=c) (bb c);rwa[h _ q]at this
  have i:=vU (PG (d:=d+3) (s:=s)) c (cx _ (Mg c m));have o:(bD [59] (eJ c r).fs).length<=315:=((wi e m).1.pY).iG.2;have a:∀z,bS (au (d+4)) noE 397 (eE.body.drop 3) [.val (.ref l),.val (.int c),.val z,.val r.u.1,.val r.l.1,.val r.tt,.cj [.bytes (gQ c),.bytes (eJ c r).nm,.bytes r.g],.bB] s λy _ s'=>DB y=(false,.bytes (bD [59] (eJ c r).fs++[10]))/\s'=s:=λz=>by dsimp[eE];apply aQ;dsimp;apply aQ;dsimp;refine mI D.i0 rfl ?_;dsimp;refine Wp.of (f (x:=CCC) (.tail _ (.tail _ (.head _)))) (Wp.of (vU (aaq (d:=d+3)) r.n e.n) (mI D.i0 rfl ?_));dsimp;refine Wp.of (f (x:=BC) (.tail _ (.head _))) (Wp.of (wY (d:=d+2) (gw.2 _ e.b)) ?_);dsimp;apply aQ;dsimp;apply aQ;dsimp;refine mI D.i0 rfl ?_;dsimp;refine Wp.of (f (x:=DM) (.tail _ (.tail _ (.tail _ (.tail _ (.head _)))))) (Wp.of (vU (XB (d:=d+1)) r.dm e.dm) (Wp.of (TV D j e h) ?_));dsimp;apply aQ;dsimp;apply aQ;dsimp;refine Wp.of (vU (DX (d:=d+2)) r.u e.u) (Wp.of (vU (DX (d:=d+2)) r.l e.l) ?_);dsimp;rw[<-DV];refine Wp.of (vU (DX (d:=d+2)) (Vq r) (DW e)) ?_;dsimp;apply aQ;dsimp;apply aQ;dsimp;refine oS (oD (c:=[59]) (ls:=(eJ c r).fs) (aa o (by decide))) ?_;exact oS (kI (aa (ar o 1) (by decide))) ⟨rfl,rfl⟩
  refine Wp.eq (bq eE rfl rfl ?_);dsimp[eE,bx];apply aQ;dsimp;refine mI D.i0 rfl ?_;dsimp;refine Wp.of (f (x:=NAME) (.tail _ (.tail _ (.tail _ (.head _))))) ?_;dsimp;apply aQ;dsimp;refine oC (p:=λq:List Nat×PV=>.str q.1) (q:=λq=>q.2) [(UC,r.u.1),(LC,r.l.1),(TC,r.tt)] (λq A K t=>?_) ?_;·refine mI D.i0 rfl ?_;dsimp;exact Wp.of (f (x:=q.1) (v:=q.2) (.tail _ (.tail _ (.tail _ (.tail _ (.tail _ (.tail _ (.tail _ A)))))))) t
  dsimp;apply aQ;dsimp;refine Wp.of i ?_;by_cases k:r.nm=mF\/r.nm=mY;·have a:=a (if r.nm=mF\/r.nm=mY then PV.none else PV.bytes r.nm);rw[show(eJ c r).nm=mF from if_pos k]at a;rw[if_pos k]at a⊢;refine sl rfl (mI D.i0 rfl ?_);dsimp;exact Wp.of (f (x:=GC) (.head _)) (Wp.of (wY (d:=d+2) (gw.1 _ e.g)) a)
  ·have a:=a (if r.nm=mF\/r.nm=mY then PV.none else PV.bytes r.nm);rw[show(eJ c r).nm=r.nm from if_neg k]at a;rw[if_neg k]at a⊢;refine sr rfl (mI D.i0 rfl ?_);dsimp;exact Wp.of (f (x:=GC) (.head _)) (Wp.of (wY (d:=d+2) (gw.1 _ e.g)) a))) gA
 intro w;delta id at w;(try dsimp-zetaHave only at w);refine(?F:gC _) _ w;exactλp _=>p
theorem QF{rs:List (Nat×cw)}(D:DA s l N k es)(i:k<=250)(g:∀p∈rs,p.2.ok/\p.1∈ym/\∀q∈hJ p.2,G es q.1 p.1=q.2)(n:rs.length<=10):au (d+6) Fn.jm [.ref l,.list (rs.map λp=>.int p.1)] s=.ok (false,.bytes (ix (rs.map λp=>(eJ p.1 p.2).fs))) s:=by
 refine Wp.eq (bq iJ rfl rfl ?_);dsimp[iJ,bx];apply aQ;dsimp;refine oC (q:=λp:Nat×cw=>.bytes (bD [59] (eJ p.1 p.2).fs++[10])) rs (λp f K j=>?_) ?_;·refine uU (g p f) λh1 a h=>?_;exact Wp.of (TX (d:=d) D i h1 a h) j
 ·have e:(rs.map λp:Nat×cw=>PV.bytes (bD [59] (eJ p.1 p.2).fs++[10]))=(rs.map λp:Nat×cw=>bD [59] (eJ p.1 p.2).fs++[10]).map .bytes:=by refine zl bE ?_;rfl
  have m:ix (rs.map λp=>(eJ p.1 p.2).fs)=(rs.map λp:Nat×cw=>bD [59] (eJ p.1 p.2).fs++[10]).flatten:=by unfold ix;refine zl su ?_;refine zl bE ?_;refine zl bE ?_;rfl
  refine zl e ?_;refine oS (oD (c:=[]) ?_) ?_;·refine zl (td _) ?_;refine aa (r9 (k:=316) λz hz=>?_) (aa (bo 316 (by refine zl (aj _) ?_;exact n)) (by decide));refine dq (aL.mp hz) λp f b=>?_;subst b;refine uU (g p f) λh1 a h=>?_;refine zl ah ?_;exact aB ((wi h1 a).1.pY).iG.2
  ·refine zl (td _) ?_;refine zl m ?_;exact⟨rfl,rfl⟩
end
def jA(ds:List (Nat×cw)):List (PV×PV):=ds.map λp=>(.int p.1,.bR p.2.Mh)
theorem J2(c:Int)(ds:List (Nat×cw)):iU (.int c) (jA ds)=true:=by unfold iU jA;rw[ax];refine⟨rfl,bj.mpr λe a=>?_⟩;obtain⟨p,_,rfl⟩:=aL.mp a;rfl
theorem J3{a b:Nat}:(PV.int a).lD (.int b)=(a==b):=by
 show((a:Int)==(b:Int))=(a==b);by_cases h:a=b;·rw[h,beq_self_eq_true,beq_self_eq_true]
 ·rw[beq_eq_false_iff_ne.mpr h];exact beq_eq_false_iff_ne.mpr λq=>h (m7 q)
theorem TY{c:Nat}{r:cw}{ds:List (Nat×cw)}:(∀p∈ds,p.1≠c)->q7 (.int c) (.bR r.Mh) (jA ds)=jA (ds++[(c,r)]):=by induction ds with|nil=>intro _;exact rfl|cons p ds b=>intro h;have:=b λq a=>h q (.tail _ a);show(if((PV.int p.1).lD (.int c))=true then _ else _)=_;refine zl J3 ?_;refine zl (beq_eq_false_iff_ne.mpr (h p (.head _))) ?_;refine zl (if_neg aK) ?_;exact congrArg _ this
theorem F8{c:Nat}{r:cw}{ds:List (Nat×cw)}(h:(ds.map (·.1)).Nodup)(a:(c,r)∈ds):dw (.int c) (jA ds)=some (.bR r.Mh):=by
 induction ds with
 |nil=>cases a
 |cons p ds b=>
  refine zA (gJ.mp h) λh1 d=>?_;show(if((PV.int p.1).lD (.int c))=true then _ else _)=_;refine zl J3 ?_;rcases av.mp a with k|k;·refine zr k ?_;refine zl (beq_self_eq_true _) ?_;exact zl (if_pos rfl) rfl
  ·rewrite[beq_eq_false_iff_ne.mpr λq=>h1 (aL.mpr ⟨_,k,q.symm⟩)];refine zl (if_neg aK) ?_;exact b d k
def qI(v:PV):Bool:=lE 5 v v&&v.lD v
theorem F9{xs:List PV}:(∀v∈xs,qI v=true)->((xs.zip xs).all λp=>lE 5 p.1 p.2)=true/\pC xs xs=true:=by
 induction xs with
 |nil=>intro _;exact⟨rfl,rfl⟩
 |cons x xs e=>
  intro h;obtain⟨a,b⟩:=e λv d=>h v (.tail _ d);have c:=h x (.head _);unfold qI at c;rw[ax]at c;refine⟨?_,?_⟩;·rw[yq,bP,a,c.1];rfl
  ·show(x.lD x&&pC xs xs)=true;rw[c.2,b];rfl
theorem QG:∀p∈DMS,qI p.1=true:=by decide
theorem Ga:∀p∈NUS,qI p.1=true/\qI p.2.1=true:=by decide
theorem AJ:∀p∈CSS,qI p.1=true:=by decide
theorem Gb{w:List Nat}:qI (.str w)=true:=beq_self_eq_true w
theorem Iy{w:List Nat}:qI (.bytes w)=true:=beq_self_eq_true w
theorem Gd{n:Int}:qI (.int n)=true:=beq_self_eq_true n
theorem cw.ok.self{r:cw}(h:r.ok):lE Kk (.bR r.Mh) (.bR r.Mh)=true/\(PV.bR r.Mh).lD (.bR r.Mh)=true:=by
 refine F9 λv a=>?_;unfold cw.Mh at a;simp only[av,bJ,or_false]at a;rcases a with rfl|rfl|rfl|rfl|rfl|rfl|rfl|rfl|rfl|rfl;·exact Gb
 ·exact Gb
 ·exact Gd
 ·split;·rfl
  ·exact Iy
 ·exact QG _ h.dm
 ·exact(Ga _ h.nu).1
 ·exact(Ga _ h.nu).2
 ·exact AJ _ h.u
 ·exact AJ _ h.l
 ·refine zr DV ?_;exact AJ _ (DW h)
section
variable{d l ld N k n:Nat}{s:aH}{es:uL}{E:PV->aH->Prop}{ds:List (Nat×cw)}
theorem J4{r:cw}{c:Int}(h:∀q∈hJ r,G es q.1 c=q.2):AD.map (λx=>G es x c)=r.Mh:=by rw[<-AF r,bE];exact da h
theorem DY(a:s[ld]?=some (.dict (jA ds))):di s .val [.ref ld]=some (ds.map λp=>.int p.1):=by show(dictAt s (.ref ld)).map _=_;unfold dictAt;show((s[ld]?).bind wK).map _=_;refine zl a ?_;exact congrArg some (bE ..)
theorem xj(a:s[ld]?=some (.dict (jA ds))):jR [.ref ld] (ds.map λp=>.int p.1) s=true:=by show(((s[ld]?).bind wK).any _&&true)=true;rw[a,Bool.and_true];show pC ((jA ds).map (·.1)) _=true;rw[show(jA ds).map (·.1)=ds.map λp=>PV.int p.1 from bE ..];exact(F9 λv b=>by obtain⟨p,_,rfl⟩:=aL.mp b;exact Gd).2
theorem Ge{c:Int}{v:PV}(a:s[ld]?=some (.dict (jA ds)))(h:dw (.int c) (jA ds)=some v):gq s (.ref ld) (.int c)=some v:=by show((s[ld]?).bind wK).bind _=_;rw[a];show(if iU (.int c) (jA ds)then _ else _)=_;rw[J2,if_pos rfl,h]
theorem Mq{v0 v w t v5 v6 v7 v8 j c f b a v15 v16 v17 v18:Slot}{K:Fl->L->aH->Prop}(D:DA s l N k es)(m:k<=250)(g:s[ld]?=some (.dict (jA ds)))(r:(ds.map (·.1)).Nodup)(h:∀p∈ds,p.2.ok/\∀q∈hJ p.2,G es q.1 p.1=q.2)(q:∀e,K (.ret (false,.bool true)) e s):bS (au (d+5)) E (n+53) (aC.body.drop 12) [v0,v,w,t,.val (.ref ld),v5,v6,v7,v8,j,.val (.ref l),c,f,b,a,v15,v16,v17,v18] s K:=by
 dsimp[aC];apply aQ;dsimp;refine oS (DY g) ?_;refine Aj (q:=λ_=>none) ds (λp i X u=>?_) ?_;·refine Wp.of (qm (d:=d+1) D m (bb _)) ?_;dsimp;refine zA (h p i) λh1 o=>?_;refine oS (Ge g (F8 r i)) ?_;refine zl (J4 o) ?_;refine oS (U7 h1.self.1) ?_;refine zl h1.self.2 ?_;exact sr rfl (sl (xj g) u)
 ·refine zl (eA.mpr λ_ _=>rfl) ?_;exact q _
theorem Iz{v0 v r m v5 v6 v7 v8 i e f b g v15 v16 v17 v18:Slot}{K:Fl->L->aH->Prop}(D:DA s l N k es)(t:k<=250)(j:s[ld]?=some (.dict (jA ds)))(y:(ds.map (·.1)).Nodup)(h:∀p∈ds,p.2.ok/\∀q∈hJ p.2,G es q.1 p.1=q.2)(h0:G es GC 3845=.str [67,110])(q:∀v17,bS (au (d+5)) E (n+54) (aC.body.drop 11) [v0,v,r,m,.val (.ref ld),v5,v6,v7,v8,.val (.ref l),i,e,f,b,g,v15,v16,v17,v18] s K):bS (au (d+5)) E (n+55) (aC.body.drop 10) [v0,v,r,m,.val (.ref ld),v5,v6,v7,v8,.val (.ref l),i,e,f,b,g,v15,v16,v17,v18] s K:=by
 dsimp[aC]at q⊢;apply aQ;dsimp;refine oS (DY j) ?_;refine Aj (q:=λ_=>none) ds (λp o X z=>?_) ?_;·refine Wp.of (qm (d:=d+1) D t (bb _)) ?_;dsimp;obtain⟨h1,w⟩:=h p o;refine oS (Ge j (F8 y o)) ?_;rw[J4 w];refine oS (U7 h1.self.1) ?_;rw[h1.self.2];exact sr rfl (sl (xj j) z)
 ·rw[eA.mpr λ_ _=>rfl];refine oS (a:=false) rfl ?_;dsimp;refine mI D.i0 rfl ?_;dsimp;have u:=D.get (d:=d+2) t (x:=GC) (c:=3845) (by decide);rw[h0]at u;refine Wp.of u ?_;dsimp;exact sr rfl (q _)
end
section
variable{d l l2 ld N N2 k n:Nat}{s:aH}{es:uL}{E:PV->aH->Prop}{ds:List (Nat×cw)}
theorem QH(ds:List (Nat×cw)):lq ((jA ds).map (·.1))=some (ds.map λp=>(p.1:Int)):=by induction ds with|nil=>rfl|cons p ds a=>exact congrArg (dI ((p.1:Int)::·)) a
theorem QI(a:s[ld]?=some (.dict (jA ds)))(b:ds.length<=10)(c:fR tQ (ds.map λp=>(p.1:Int))=ds.map λp=>(p.1:Int)):vf s (.ref ld)=some (.list (ds.map λp=>.int p.1)):=by show((((s[ld]?).bind wK)).bind λes=>(lq (es.map (·.1))).bind _)=_;refine zl a ?_;show((lq ((jA ds).map (·.1))).bind _)=_;refine zl (QH _) ?_;show(if _ then _ else _)=_;refine zl c ?_;refine zl (if_pos (by rw[aj];exact aA b (by decide))) ?_;refine zl bE ?_;rfl
theorem TZ(a:s[ld]?=some (.dict (jA ds)))(c:ds.length<=10)(b:fR tQ (ds.map λp=>(p.1:Int))=ds.map λp=>(p.1:Int)):gX s .sorted [.ref ld]=some (true,.list (ds.map λp=>.int p.1)):=by show(vf s (.ref ld)).map _=_;rw[QI a c b];rfl
def DZ(ds:List (Nat×cw)):List cw:=ds.map λp=>eJ p.1 p.2
theorem Gg{v0 Y S R v5 v6 v7 v8 t v j y v15 v16 v17 v18:Slot}{K:Fl->L->aH->Prop}(D:DA s l N k es)(V:k<=250)(U:DA s l2 N2 0 [])(A:ld<N2)(B:ld≠l2+2)(C:s[ld]?=some (.dict (jA ds)))(Q:(ds.map (·.1)).Nodup)(a:ds.length<=10)(w:ds≠[])(hs:fR tQ (ds.map λp=>(p.1:Int))=ds.map λp=>(p.1:Int))(h:∀p∈ds,p.2.ok/\p.1∈ym/\∀q∈hJ p.2,G es q.1 p.1=q.2)(Z:J0 (-1) (DZ ds))(I:Qu (qH false (DZ ds)))(z:((qH false (DZ ds)).flatMap mG).length<=60)(q:∀e s,K (.ret (false,.bool true)) e s):bS (au (d+8)) E (n+54) (aC.body.drop 11) [v0,Y,S,R,.val (.ref ld),v5,v6,v7,v8,.val (.ref l),.val (.ref l2),t,v,j,y,v15,v16,v17,v18] s K:=by
 have u:∀r∈DZ ds,r.ok/\r.nm≠mY:=λr F=>by obtain⟨p,b,rfl⟩:=aL.mp F;exact wi (h p b).1 (h p b).2.1
 have H:ix (ds.map λp=>(eJ p.1 p.2).fs)=ix (iy false (DZ ds)):=congrArg ix (bE (f:=λp:Nat×cw=>eJ p.1 p.2) (g:=cw.fs) (l:=ds)).symm;have i:=QF (d:=d+2) D V h a;rw[H]at i;dsimp[aC];apply aQ;dsimp;refine oS (TZ C a hs) ?_;dsimp;refine Wp.of i ?_;dsimp;refine Cy (d:=d+1) (pair:=false) u (λq=>w (il.mp q)) (by unfold DZ;rw[aj];exact a) Z I z U λs' M T O J=>?_;refine Mq (d:=d+3) (n:=n) (E:=E) T (by decide) ((J.2 ld A B).trans C) Q (λp b=>⟨(h p b).1,λx P=>?_⟩) λe=>q e s';obtain⟨m,W⟩:=F5 (k:=0) (show eJ p.1 p.2∈DZ ds from aL.mpr ⟨p,b,rfl⟩);have X:p.1<1114111:=(by decide:∀c∈ym,c<1114111) _ (h p b).2.1;rw[O x.1 p.1 (bb _) (by exact acV X)];exact I.val (o:=It (m,eJ p.1 p.2)) (cx _ (aL.mpr ⟨_,W,rfl⟩)) (gU _) (gU _) (by show x∈hJ (eJ p.1 p.2);rw[Mp];exact P)
end
section
variable{d l ld N n:Nat}{s:aH}{E:PV->aH->Prop}{ds:List (Nat×cw)}
theorem QJ:qj GC=.str [67,110]:=(XM.inj Vp).1
theorem QK{o:List Nat}{m:Int}{v0 A y w v5 v6 v7 v8 k i g j v16 v17 v18:Slot}{K:Fl->L->aH->Prop}(D:DA s l N 0 [])(f:s[ld]?=some (.dict (jA ds)))(h:∀(z:Bool×PV->aH->Prop)(r:PV->aH->Prop),(∀t,r (.int m) (s++t))->Wp (au (d+7) Fn.cA [.bytes o,.ref l] s) z r)(q:∀e s,K (.ret (false,.bool true)) e s):bS (au (d+8)) E (n+57) (aC.body.drop 8) [v0,A,y,w,.val (.ref ld),v5,v6,v7,v8,.val (.ref l),k,.val (.int m),i,g,j,.val (.bytes o),v16,v17,v18] s K:=by
 dsimp[aC];apply aQ;dsimp;apply aQ;dsimp;refine QA (d:=d+6) h λt=>?_;have u:DA (s++t) l N 0 []:=D.qn;have b:(s++t)[ld]?=some (.dict (jA ds)):=by
  rw[dG];·exact f
  ·cases Nat.lt_or_ge ld s.length with|inl h=>exact h|inr h=>replace f:=uR h▸f;cases f
 refine oS (a:=true) ((U6 rfl).trans (congrArg some (beq_self_eq_true m))) (sl rfl ?_);refine oS (DY b) ?_;refine Aj (q:=λ_=>none) ds (λp C X B=>?_) ?_;·refine mI u.i0 rfl ?_;dsimp;have v:=u.get (d:=d+5) (by decide) (x:=GC) (c:=p.1) (bb _);rw[show G [] GC p.1=.str [67,110]from QJ]at v;refine Wp.of v ?_;dsimp;exact sr rfl (sl (xj b) B)
 ·refine zl (eA.mpr λ_ _=>rfl) ?_;exact oS (a:=true) rfl (sl rfl (q _ _))
end
theorem XD{c:Type}{S:c->c->Prop}{l:List c}(h:l.Pairwise S)(o)(a:o∈l)(w)(b:w∈l):o=w\/S o w\/S w o:=by
 induction h with
 |nil=>cases a
 |cons h1 _ d=>
  rcases av.mp a with e|a<;>rcases av.mp b with k|b;·exact .inl (e.trans k.symm)
  ·exact .inr (.inl (e▸h1 w b))
  ·exact .inr (.inr (k▸h1 o a))
  ·exact d a b
theorem XE{a:List Ob}(h1:∀o∈a,Qs o/\0<o.1/\o.1<=o.2.1/\o.2.1<1114110)(d:a.Pairwise λo w=>o.2.1+1<w.1\/o.2.1<w.1/\Bp o/\Bp w):Qu a:=by
 refine⟨h1,λo c w b=>?_⟩;rcases XD d o c w b with e|(h|h)|(h|h);·exact .inl e
 ·exact .inr (.inl (.inl h))
 ·exact .inr (.inr ⟨.inl h.1,h.2⟩)
 ·exact .inr (.inl (.inr h))
 ·exact .inr (.inr ⟨.inr h.1,h.2.2,h.2.1⟩)
theorem QL{r:cw}(h1:r.n=0)(e:r.nm=mF\/r.nm=mY)(c:r.dm.1=.none)(g:r.nu.1=.none)(f:r.nu.2.1=.none)(h:r.u.1=.none)(k:r.l.1=.none)(d:r.tt=.none)(i j n:Nat)(m:Int):Bp (i,j,m,r):=by
 refine(?H:gB (by
  intro q a b;dsimp at a;unfold hJ at a;rw[h1,if_pos e,c,g,f,h,k,d]at a;simp only[av,bJ,or_false]at a;rcases a with rfl|rfl|rfl|rfl|rfl|rfl|rfl|rfl|rfl|rfl;·exact⟨_,rfl⟩
  ·exact⟨_,rfl⟩
  all_goals cases b)) gA
 intro w;(try dsimp-zetaHave only at w);refine(?F:gC _) _ w;exactλp _=>p
section
variable{d n:Nat}{s:aH}{E:PV->aH->Prop}
theorem Mr{e:cb}{a b:Slot}{xs:List PV}{Q:Fl->L->aH->Prop}(cs:List Int):∀(m:Int)(c:Slot),0<=m->m<1000003->(∀m c,0<=m->m<1000003->Q .next [a,b,.val (.int m),c,.bB] s)->fJ (λf l s k=>bS e E (n+20) (j4 nD 1) (pt l 3 (.val f)) s k) (cs.map .int) [a,b,.val (.int m),c,.bB] s Q:=by induction cs with|nil=>intro m c h1 g q;exact q m c h1 g|cons x cs h=>intro m c h1 g q;refine j1 ?_;dsimp[j4,ft,nD];apply aQ;dsimp;refine oS (HY (aw (RH (n:=1000003) h1 g) (by decide))) ?_;dsimp;exact oS (yH (by decide)) (h _ _ (tM _ (by decide)) (yy _ (by decide)) q)
theorem QM(xs:List Int):lq (xs.map PV.int)=some xs:=by induction xs with|nil=>rfl|cons x xs a=>exact congrArg (dI (x::·)) a
theorem T1{is:List Int}(i:is.length<=63){Q:Bool×PV->aH->Prop}(q:∀cs m,jo cs m->Q (false,.ref 0) [.cK cs m]):Wp (au (d+1) Fn.yR [.CI is] []) Q E:=by
 refine bq nD rfl rfl ?_;dsimp[nD,bx];apply aQ;dsimp;refine oC (p:=PV.int) (q:=PV.int) _ (λx _ K e=>e) ?_;apply aQ;dsimp;refine Mr (xs:=[]) _ 11 _ (by decide) (by decide) λm c h1 g=>?_;dsimp;apply aQ;dsimp;apply aQ;dsimp;have b:jo (is.take 40) m:=⟨by rw[cW];exact aa (nZ ..) (by decide),pe (RH (n:=1000003) h1 g) (by decide)⟩;have f:ru 0 1 (λx=>if x=0 then Slot.val (PV.list (qd PV.int (Ka 40 is)))else .val (.int m)) []=.ok (false,.ref 0) [.cK (is.take 40) m]:=by
  have h:((((ny (Slot.val (PV.list (qd PV.int (Ka 40 is))))).bind iH).bind lq).bind λa=>dI (λm=>(a,m)) ((ny (.val (.int m))).bind br))=some (is.take 40,m):=by show((lq ((is.take 40).map PV.int)).bind _)=_;rw[QM];rfl
  exact(congrArg (λo:Option (List Int×Int)=>match o with|some p=>(if p.1.length<=1000/\p.2.natAbs<2147483648 then jb.ok (false,PV.ref 0) ([.cK p.1 p.2]:aH)else .aS)|none=>.aS) h).trans (if_pos b)
 exact Wp.of f (q _ _ b)
end
section
variable{d:Nat}
theorem XF{is:List Int}(e:is.length<=63)(b:∀cs m,jo cs m->∀c:Bool×PV->aH->Prop,(∀s,c (false,.bool true) s)->Wp (au (d+9) Fn.jH [.ref 0] [.cK cs m]) c noE){Q:Bool×PV->aH->Prop}(q:∀s,Q (false,.bool true) s):Wp (au (d+10) Fn.Uo [.CI is] []) Q noE:=by
 refine bq Nd rfl rfl ?_;dsimp[Nd,bx];apply aQ;dsimp;refine T1 e λcs m a=>?_;dsimp;apply aQ;dsimp;refine nP (n:=4) a (by decide) λu cs m f a=>?_;dsimp;apply aQ;dsimp;refine RG f ?_ ?_ ?_ ?_;·refine sl rfl ?_;apply aQ;dsimp;exact Im (d:=d+1) a q
 ·refine sr rfl ?_;apply aQ;dsimp;exact DQ (d:=d+1) a q
 ·refine sr rfl ?_;apply aQ;dsimp;exact b _ _ a _ q
 ·refine sr rfl ?_;apply aQ;dsimp;exact b _ _ a _ q
end
section
variable{d n:Nat}{cs:List Int}{m:Int}{E:PV->aH->Prop}
def P5(pair:Bool):List (Nat×cw):=if pair then[(3840,fS),(3841,fS),(3842,fS),(3843,fS),(3844,fS)]else[]
theorem IA{a:Slot}{pair:Bool}{K:Fl->L->aH->Prop}(q:∀v5,bS (au d) E (n+397) (aC.body.drop 2) [.val (.ref 0),a,.val (.int (if pair then 1 else 0)),.cj ((if pair then[FF,fS.fs]else[]).map λf=>.bytes (bD [59] f)),.val (.ref 1),v5,.bB,.bB,.bB,.bB,.bB,.bB,.bB,.bB,.bB,.bB,.bB,.bB,.bB] [.cK cs m,.dict (jA (P5 pair))] K):bS (au d) E (n+398) (aC.body.drop 1) [.val (.ref 0),a,.val (.int (if pair then 1 else 0)),.cj [],.val (.ref 1),.bB,.bB,.bB,.bB,.bB,.bB,.bB,.bB,.bB,.bB,.bB,.bB,.bB,.bB] [.cK cs m,.dict []] K:=by
 refine(?H:gB (by
  dsimp[aC]at q⊢;cases pair with
  |false=>apply aQ;dsimp;exact q _
  |true=>
   apply aQ;dsimp;apply aQ;dsimp;apply aQ;dsimp;refine oS rfl ?_;iterate 5 refine j1 ?_;apply aQ;dsimp;refine sI rfl rfl (by decide) ?_;dsimp
   exact q _)) gA
 intro w;delta id at w;(try dsimp-zetaHave only at w);refine(?F:gC _) _ w;exactλp _=>p
end
section
variable{d n:Nat}{cs:List Int}{m:Int}{E:PV->aH->Prop}{r:aH}
theorem uP{g h v5 v8:Slot}{c0 i c:Nat}{ls:List (List (List Nat))}{ds:List (Nat×cw)}{K:Fl->L->aH->Prop}(s:(c0:Int)+16*i=c)(k:c∈ym)(b:jo cs m)(t:ls.length<=10)(o:∀p∈ds,p.1≠c)(a:ds.length<=10)(q:∀(x:cw)cs m v8,x.ok->x.c=c->x.nm≠mY->jo cs m->K .next [.val (.ref 0),g,h,.cj ((ls++[x.fs]).map λf=>.bytes (bD [59] f)),.val (.ref 1),.val (.int c),.val (.int c0),.val (.int i),v8,.bB,.bB,.bB,.bB,.bB,.bB,.bB,.bB,.bB,.bB] [.cK cs m,.dict (jA (ds++[(c,x)]))]):bS (au (d+8)) E (n+394) (j4 aC 2) [.val (.ref 0),g,h,.cj (ls.map λf=>.bytes (bD [59] f)),.val (.ref 1),v5,.val (.int c0),.val (.int i),v8,.bB,.bB,.bB,.bB,.bB,.bB,.bB,.bB,.bB,.bB] [.cK cs m,.dict (jA ds)] K:=by dsimp[aC,j4,ft];apply aQ;dsimp;refine oS (HY (by decide)) ?_;dsimp;rw[s];apply aQ;dsimp;refine Xm (d:=d+5) k b λx cs m l e j b=>?_;dsimp;refine sI rfl (J2 _ _) (by unfold jA;rw[aj];exact acW a) ?_;dsimp;rw[TY o];apply aQ;dsimp;refine so (by rw[aj];exact aA t (by decide)) ?_;have:=q x cs m (.val (.bytes (bD [59] x.fs))) l e j b;rw[ba]at this;exact this
end
section
variable{d n:Nat}{cs:List Int}{m:Int}{E:PV->aH->Prop}
theorem tN1{x:Prop}{y:Bool×PV->Prop}(h:x):Bm .next x y:=h
theorem j0{f:PV->L->aH->(Fl->L->aH->Prop)->Prop}{l:L}{s:aH}{k:Fl->L->aH->Prop}(h:k .next l s):fJ f [] l s k:=h
noncomputable def XG:List Nat:=[4096,128512,917760]
theorem IB{D C v5:Slot}{ls:List (List (List Nat))}{ds:List (Nat×cw)}{K:Fl->L->aH->Prop}(h:jo cs m)(w:ls.length<=2)(t:∀p∈ds,p.1<4096)(k:ds.length<=5)(q:∀(b:Nat)(xs:List cw)cs m v5 v7 v8,b∈XG->(∀x∈xs,x.ok/\x.nm≠mY)->(xs.map (·.c)=[b]\/xs.map (·.c)=[b,b+16])->jo cs m->bS (au (d+8)) E (n+395) (aC.body.drop 4) [.val (.ref 0),D,C,.cj ((ls++xs.map cw.fs).map λf=>.bytes (bD [59] f)),.val (.ref 1),v5,.val (.int b),v7,v8,.bB,.bB,.bB,.bB,.bB,.bB,.bB,.bB,.bB,.bB] [.cK cs m,.dict (jA (ds++xs.map λx=>(x.c,x)))] K):bS (au (d+8)) E (n+397) (aC.body.drop 2) [.val (.ref 0),D,C,.cj (ls.map λf=>.bytes (bD [59] f)),.val (.ref 1),v5,.bB,.bB,.bB,.bB,.bB,.bB,.bB,.bB,.bB,.bB,.bB,.bB,.bB] [.cK cs m,.dict (jA ds)] K:=by
 dsimp[aC]at q⊢;apply aQ;dsimp;refine nP (n:=3) h (by decide) λu cs m B h=>?_;obtain⟨b,l,e⟩:∃b:Nat,b∈XG/\gq [jt.cK cs m,jt.dict (jA ds)] (PV.list [PV.int 4096,PV.int 128512,PV.int 917760]) (PV.int u)=some (.int b):=by
  refine lt3 B ?_ ?_ ?_;·exact⟨4096,by decide,rfl⟩
  ·exact⟨128512,by decide,rfl⟩
  ·exact⟨917760,by decide,rfl⟩
 refine oS e ?_;apply aQ;dsimp;refine nP (n:=2) h (by decide) λu cs m B h=>?_;dsimp;have g:b∈ym/\b+16∈ym/\4096<=b:=(by decide:∀b∈XG,b∈ym/\b+16∈ym/\4096<=b) b l;refine Yb B ?_ ?_;·refine oS (a:=[.int 0]) rfl ?_;refine j1 ?_;refine uP (n:=n) (c0:=b) (i:=0) (c:=b) (by exact o24) g.1 h (aa w (by decide)) (λp j=>cq (aw (t p j) g.2.2)) (aa k (by decide)) λx cs m v8 v e A h=>?_;clear g;subst e;exact tN1 (j0 (tN1 (q x.c [x] cs m _ _ _ l (λy o=>by cases ao.mp o;exact⟨v,A⟩) (.inl rfl) h)))
 ·refine oS (a:=[.int 0,.int 1]) rfl ?_;refine j1 ?_;refine uP (n:=n) (c0:=b) (i:=0) (c:=b) (by exact o24) g.1 h (aa w (by decide)) (λp j=>cq (aw (t p j) g.2.2)) (aa k (by decide)) λx cs m v8 v e A h=>?_;refine tN1 (j1 ?_);refine uP (n:=n) (c0:=b) (i:=1) (c:=b+16) (by exact acX) g.2.1 h (by rw[ah];exact aa (aB w) (by decide)) (λp j=>by
   rcases bk.mp j with j|j;·exact cq (aw (t p j) (aa g.2.2 (aR _ _)))
   ·cases ao.mp j;show b≠b+16;exact acY) (by rw[ah];exact aa (aB k) (by decide)) λy cs m v8 o s r h=>?_
  clear g;subst e;have:=q x.c [x,y] cs m (.val (.int (x.c+16:Nat))) (.val (.int 1)) v8 l (λz hz=>by
   clear l e s;rcases av.mp hz with rfl|hz;·exact⟨v,A⟩
   ·cases ao.mp hz;exact⟨o,r⟩) (.inr (by show[x.c,y.c]=_;rw[s])) h
  rw[<-s]at this⊢;rw[aG,aG];exact tN1 (j0 (tN1 this))
end
theorem IC{c β:Type}{f:c->β}{S:β->β->Prop}{T:c->c->Prop}(h:∀a b,S (f a) (f b)->T a b){l:List c}(k:(l.map f).Pairwise S):l.Pairwise T:=(ee.mp k).imp λ{a b}q=>h a b q
def Ahd(r w:cw):Prop:=r.c+1<w.c\/r.c<w.c/\∀m,Bp (It (m,r))/\Bp (It (m,w))
theorem Vr{rs:List cw}:∀{a:Int},(∀r∈rs,a<r.c)->rs.Pairwise (λr w=>r.c<w.c)->J0 a rs:=by induction rs with|nil=>intro _ _ _;exact trivial|cons r rs d=>intro a h k;exact⟨h r (.head _),d (λw b=>bX.mpr ((bG.mp k).1 w b)) (bG.mp k).2⟩
theorem Gh{pair:Bool}{rs:List cw}(h:∀r∈rs,r.ok/\(if pair then 3845 else 0)<r.c/\r.c<1114110)(e:rs.Pairwise Ahd):Qu (qH pair rs):=by
 have l:∀{m n:Int}{r:cw},Bp (It (m,r))->Bp (It (n,r)):=λh=>h;refine XE (λo d=>?_) ?_;·
  rcases DU d with⟨_,rfl⟩|⟨n,r,g,rfl⟩;·exact⟨⟨yN,by decide⟩,by decide⟩
  ·refine uU (h r g) λa b c=>?_;exact⟨⟨a,a.c⟩,aA (cy _) b,bf _,c⟩
 ·refine jG.mpr ⟨?_,ee.mpr ?_,λo d w j=>?_⟩;·
   clear h;cases pair;·exact .nil
   ·exact iE ..
  ·refine IC (f:=Prod.snd) (S:=Ahd) (λp q k=>?_) ((we rs _).symm▸e);exact k.imp id λh=>⟨h.1,(h.2 p.1).1,(h.2 q.1).2⟩
  ·refine dq (aL.mp j) λp e i=>?_;subst i;have g:=(h _ (pZ e)).2.1;clear h e j;cases pair;·cases d
   ·cases ao.mp d;exact .inl g
theorem QN{r:cw}(h:r.ok):(wb r).length<=10:=by rw[xg h];exact gm ..
theorem QO{m:Int}{r:cw}:(mG (It (m,r))).length=(wb r).length:=aj ..
theorem J5{rs:List cw}:∀{k:Nat},(∀r∈rs,r.ok)->(((nY k rs).map It).flatMap mG).length<=10*rs.length:=by induction rs with|nil=>intro _ _;exact bf 0|cons r rs b=>intro k h;have:=b (k:=k+1) λx a=>h x (.tail _ a);rw[AH,aM,gW,ah,QO,aO,tD,cE];exact aW this (QN (h r (.head _)))
theorem Gi{pair:Bool}{rs:List cw}(h:∀r∈rs,r.ok)(a:rs.length<=2):((qH pair rs).flatMap mG).length<=60:=by
 unfold qH objs;rw[xo,ah];refine aa (aW (show _<=10 from ?_) (aa (J5 h) (bo 10 a))) (by decide);cases pair;·exact cy _
 ·exact aE rfl
structure Sg(pair:Bool)(b:Nat)(xs:List cw):Prop where
 hb:b∈XG
 ok:∀x∈xs,x.ok/\x.nm≠mY
 cs:xs.map (·.c)=[b]\/xs.map (·.c)=[b,b+16]
def mv(pair:Bool)(xs:List cw):List (Nat×cw):=P5 pair++xs.map λx=>(x.c,x)
theorem Vs{pair:Bool}{xs:List cw}:(mv pair xs).map (·.1)=(if pair then[3840,3841,3842,3843,3844]else[])++xs.map (·.c):=by unfold mv;rw[ba,bE];cases pair<;>rfl
section
variable{pair:Bool}{b:Nat}{xs:List cw}(h:Sg pair b xs)
include h
theorem Sg.iG:0<xs.length/\xs.length<=2:=by refine zr (aj (f:=λr:cw=>r.c)) ?_;rcases h.cs with e|e<;>refine zl e ?_<;>exact⟨aE rfl,aE rfl⟩
theorem Sg.ne:xs≠[]:=λq=>by have:=h.iG.1;replace this:=q▸this;cases this
theorem Sg.code:∀x∈xs,4096<=x.c/\x.c<1114110:=λx f=>by
 have a:x.c∈xs.map (·.c):=dH f;have d:=(by decide:∀b∈XG,4096<=b/\b+16<1114110) b h.hb;rcases h.cs with e|e<;>replace a:=e▸a;·clear h e;cases ao.mp a;exact ac0 d
 ·rcases av.mp a with e|a;·exact ac1 d e
  ·have:=ao.mp a;exact ac2 d this
theorem Sg.pw:xs.Pairwise λr w=>r.c+1<w.c:=by
 refine IC (f:=λr:cw=>r.c) (S:=λa b=>a+1<b) (λ_ _ h=>h) ?_;rcases h.cs with e|e<;>refine zl e ?_;·exact iE ..
 ·exact .cons (λx d=>by cases ao.mp d;exact acZ) (iE ..)
theorem Sg.up:J0 (if pair then 3844 else-1) xs:=Vr (λr a=>by
 have:=(h.code r a).1;cases pair;·exact cR (by decide) (bb _)
 ·exact bX.mpr (aw (by decide) this)) (h.pw.imp λh=>cL h)
theorem Sg.iso:Qu (qH pair xs):=Gh (λr a=>⟨(h.ok r a).1,aw (by cases pair<;>decide) (h.code r a).1,(h.code r a).2⟩) (h.pw.imp .inl)
theorem Sg.nV:((qH pair xs).flatMap mG).length<=60:=Gi (λr a=>(h.ok r a).1) h.iG.2
theorem Sg.aeC:(mv pair xs).length<=10:=by unfold mv;rw[ah,aj];exact aa (aW (show _<=5 by cases pair<;>decide) h.iG.2) (by decide)
theorem Sg.dne:mv pair xs≠[]:=λq=>h.ne (il.mp (cF.mp q).2)
theorem Sg.QP:((mv pair xs).map (·.1)).Nodup/\fR tQ ((mv pair xs).map λp=>(p.1:Int))=(mv pair xs).map λp=>(p.1:Int):=by
 have e:(mv pair xs).map (λp=>(p.1:Int))=((mv pair xs).map (·.1)).map λn:Nat=>(n:Int):=(bE ..).symm;refine zl e ?_;refine zl Vs ?_;have k:=(by decide:∀p:Bool,∀b∈XG,∀l∈[[b],[b,b+16]],((if p then[3840,3841,3842,3843,3844]else[])++l).Nodup/\fR tQ (((if p then[3840,3841,3842,3843,3844]else[])++l).map λn:Nat=>(n:Int))=((if p then[3840,3841,3842,3843,3844]else[])++l).map λn:Nat=>(n:Int)) pair b h.hb;rcases h.cs with e|e<;>refine zl e ?_;·exact k _ (.head _)
 ·exact k _ (.tail _ (.head _))
theorem Sg.dok:∀p∈mv pair xs,p.2.ok/\p.1∈ym:=λp a=>by
 rcases bk.mp a with a|a;·
  have k:=(by decide:∀q:Bool,∀c∈(P5 q).map (·.1),c∈ym) pair p.1 (dH a);refine⟨?_,k⟩;cases pair;·cases a
  ·have e:∀q∈P5 true,q.2=fS:=λq g=>by simp only[P5,if_true,av,bJ,or_false]at g;rcases g with rfl|rfl|rfl|rfl|rfl<;>rfl
   refine zl (e p a) ?_;exact yN
 ·refine dq (aL.mp a) λx f d=>?_;subst d;exact⟨(h.ok x f).1,(h.ok x f).1.c⟩
end
theorem Cz(c:Nat)(m:Int):Bp (It (m,eJ c fS)):=QL (r:=eJ c fS) rfl (.inl rfl) rfl rfl rfl rfl rfl rfl c c 0 m
theorem AK:DZ (P5 true)=[3840,3841,3842,3843,3844].map λc=>eJ c fS:=rfl
theorem QQ{xs:List cw}:DZ (xs.map λx=>(x.c,x))=xs.map λx=>eJ x.c x:=bE ..
theorem J6{a b:List (Nat×cw)}:DZ (a++b)=DZ a++DZ b:=ba ..
theorem Ms{c:Nat}:(wb (eJ c fS)).length=2:=rfl
theorem T3{rs:List cw}:∀{k:Nat},(∀r∈rs,(wb r).length=2)->(((nY k rs).map It).flatMap mG).length<=2*rs.length:=by induction rs with|nil=>intro _ _;exact bf 0|cons r rs b=>intro k h;have:=b (k:=k+1) λx a=>h x (.tail _ a);rw[AH,aM,gW,ah,QO,aO,tD,cE,h r (.head _)];exact ar this 2
theorem QR{a:List cw}:∀{b:List cw}{k:Nat},nY k (a++b)=nY k a++nY (k+a.length) b:=by induction a with|nil=>intro b k;exact rfl|cons x a c=>intro b k;have:=c (b:=b) (k:=k+1);rw[b8,AH,this,AH,aO,rl];rfl
section
variable{pair:Bool}{b:Nat}{xs:List cw}(h:Sg pair b xs)
include h
theorem Sg.aeD:((mv pair xs).map (·.1)).Pairwise (·<·):=by
 refine zl Vs ?_;have k:=(by decide:∀p:Bool,∀b∈XG,∀l∈[[b],[b,b+16]],((if p then[3840,3841,3842,3843,3844]else[])++l).Pairwise (·<·)) pair b h.hb;rcases h.cs with e|e<;>refine zl e ?_;·exact k _ (.head _)
 ·exact k _ (.tail _ (.head _))
theorem Sg.aat:(DZ (mv pair xs)).Pairwise λr w=>r.c<w.c:=ee.mpr (IC (λ_ _ h=>h) h.aeD)
theorem Sg.nok:∀r∈DZ (mv pair xs),r.ok/\0<r.c/\r.c<1114110:=λr e=>by refine dq (aL.mp e) λp f d=>?_;subst d;refine zA (h.dok p f) λa b=>?_;exact⟨(wi a b).1,(by decide:∀c∈ym,0<c/\c<1114110) p.1 b⟩
theorem Sg.nup:J0 (-1) (DZ (mv pair xs)):=Vr (λr a=>cR (by decide) (bb _)) h.aat
theorem Sg.aeE:Qu (qH false (DZ (mv pair xs))):=by
 refine Gh h.nok ?_;unfold mv;rw[J6,QQ];refine jG.mpr ⟨?_,ee.mpr (h.pw.imp .inl),λr d w f=>?_⟩;·
  cases pair;·exact .nil
  ·rw[AK];exact ee.mpr ((by decide:[3840,3841,3842,3843,3844].Pairwise (·<·)).imp λ{a b}k=>.inr ⟨k,λm=>⟨Cz a m,Cz b m⟩⟩)
 ·obtain⟨x,e,rfl⟩:=aL.mp f;refine .inl (aw (m:=4096) ?_ (h.code x e).1);cases pair;·cases d
  ·rw[AK]at d;obtain⟨c,g,rfl⟩:=aL.mp d;exact(by decide:∀c∈[3840,3841,3842,3843,3844],c+1<4096) c g
theorem Sg.aeF:((qH false (DZ (mv pair xs))).flatMap mG).length<=60:=by
 unfold mv qH objs;rw[J6,QQ,QR,ba,xo,xo,ah,ah];have h1:(((nY 0 (DZ (P5 pair))).map It).flatMap mG).length<=10:=by
  cases pair;·exact cy _
  ·rw[AK];exact T3 λr a=>by obtain⟨c,_,rfl⟩:=aL.mp a;exact Ms
 have e:=J5 (rs:=xs.map λx=>eJ x.c x) (k:=0+(DZ (P5 pair)).length) λr a=>by obtain⟨x,d,rfl⟩:=aL.mp a;exact(wi (h.ok x d).1 (h.ok x d).1.c).1
 have f:=h.iG.2;rw[aj]at e;exact aa (aW (bf 0) (aW h1 (aa e (bo 10 f)))) (by decide)
end
section
variable{pair:Bool}{b d:Nat}{xs:List cw}{cs:List Int}{m:Int}{E:PV->aH->Prop}
def XH(cs:List Int)(m:Int)(pair:Bool)(xs:List cw):aH:=.cK cs m::.dict (jA (mv pair xs))::(g9 2++g9 7)
theorem Vt{cs:List Int}{m:Int}{pair:Bool}{xs:List cw}:DA (XH cs m pair xs) 2 12 0 []:=DA.new (s:=XH cs m pair xs) rfl rfl rfl (aE rfl)
theorem Sg.told(h:Sg pair b xs){f:uL}(e:Ag (((qH pair xs).flatMap mG).foldl nO λy _=>qj y) f):(∀p∈mv pair xs,∀q∈hJ p.2,G f q.1 p.1=q.2)/\G f GC 3845=.str [67,110]:=by
 refine⟨λp a q g=>?_,?_⟩;·
  have i:=(by decide:∀c∈ym,c<=1114111) p.1 (h.dok p a).2;rw[e q.1 p.1 (bb _) (bW.mpr i)];clear e i;rcases bk.mp a with a|a;·
   cases pair;·cases a
   ·have k:∀p∈P5 true,p.2=fS/\3840<=p.1/\p.1<=3844:=λp a=>by simp only[P5,if_true,av,bJ,or_false]at a;rcases a with rfl|rfl|rfl|rfl|rfl<;>exact⟨rfl,by decide,by decide⟩
    obtain⟨k1,k2,k3⟩:=k p a;exact h.iso.val (o:=(3840,3844,(2,fS))) (ct _ (.head _)) (bW.mpr k2) (bW.mpr k3) (k1▸g)
  ·obtain⟨x,s,rfl⟩:=aL.mp a;obtain⟨n,t⟩:=F5 (k:=if pair then 2 else 0) s;exact h.iso.val (o:=It (n,x)) (cx _ (aL.mpr ⟨_,t,rfl⟩)) (gU _) (gU _) g
 ·rw[e GC 3845 (by decide) (by decide),h.iso.out,QJ];intro o l;rcases DU l with⟨_,rfl⟩|⟨n,r,j,rfl⟩;·decide
  ·have:=(h.code r j).1;exactλk=>absurd (bW.mp k.1) (gi.mpr (aw (by decide) this))
theorem ID(h:Sg pair b xs){v0 y w v v5 v6 v7 v8 g f i v16 v17 v18:Slot}{K:Fl->L->aH->Prop}(q:∀e s,K (.ret (false,.bool true)) e s):bS (au (d+8)) E 392 (aC.body.drop 8) [v0,y,w,v,.val (.ref 1),v5,v6,v7,v8,.val (.ref 2),.val (.ref 7),.val .none,g,f,i,.val (.bytes (ix (iy pair xs))),v16,v17,v18] (XH cs m pair xs) K:=by dsimp[aC];apply aQ;dsimp;apply aQ;dsimp;refine Cy (d:=d+1) (λr o=>h.ok r o) h.ne (aa h.iG.2 (by decide)) h.up h.iso h.nV Vt λs' t j u a=>?_;obtain⟨l,z⟩:=h.told u;have k:s'[1]?=some (.dict (jA (mv pair xs))):=a.2 1 (by decide) (by decide);have x:DA s' 7 s'.length 0 []:=DA.new (a.2 7 (by decide) (by decide)) (a.2 8 (by decide) (by decide)) (a.2 9 (by decide) (by decide)) (aw (aE rfl) a.1);refine Iz (d:=d+3) (n:=335) j (by decide) k h.QP.1 (λp c=>⟨(h.dok p c).1,l p c⟩) z λv17=>?_;exact Gg (d:=d) (n:=335) j (by decide) x (aw (aE rfl) a.1) (by decide) k h.QP.1 h.aeC h.dne h.QP.2 (λp c=>⟨(h.dok p c).1,(h.dok p c).2,l p c⟩) h.nup h.aeE h.aeF q
end
def A3(F:List (List (List Nat))):List PV:=F.map λf=>.bytes (bD [59] f)
theorem tf{F:List (List (List Nat))}{f:List (List Nat)}:A3 (F++[f])=A3 F++[.bytes (bD [59] f)]:=ba ..
theorem aau{F:List (List (List Nat))}:A3 F=(F.map (bD [59])).map .bytes:=(bE ..).symm
theorem D0{pair:Bool}{ys:List cw}{r:cw}:iy pair (ys++[r])=iy pair ys++[r.fs]:=by unfold iy;rw[ba,<-aG];rfl
theorem uQ{A:List PV}{x:PV}:ju (-1) (A++[x]).length=some A.length:=by unfold ju;refine zl ah ?_;refine zl M3 ?_;refine zl (if_neg (by decide)) ?_;refine zl (if_pos (by exact ac3)) ?_;exact congrArg some (by exact ac4)
theorem wj{A:List PV}{x:PV}:oh (A++[x]) (.int (-1))=some x:=by show(ju (-1) (A++[x]).length).bind _=_;rw[uQ];show(A++[x])[A.length]?=_;rw[ec (bf _),lW];rfl
theorem Gj{A:List PV}{x y:PV}:(A++[x]).set A.length y=A++[y]:=by rw[MZ _ _ (bf _),lW];rfl
section
variable{d:Nat}{s:aH}{E:PV->aH->Prop}{pair:Bool}{r:cw}
theorem AL{fs:List (List Nat)}(h:j6 fs):gX s .split [.bytes (bD [59] fs),.bytes [59]]=some (true,.list (fs.map .bytes)):=by rw[r6 (aA (aB h.iG.2) (by decide))];obtain⟨c,b,t,rfl,h,_⟩:=h;exact congrArg (λz:List (List Nat)=>some (true,PV.list (z.map .bytes))) (nQ (eQ _ _) λf a=>(qE (h f a)).2.1)
theorem CA{F:List (List (List Nat))}(h:∀f∈F,j6 f)(h0:F≠[])(o:F.length<=20){v0 v p n m v5 v6 v7 v8 t g b c a e v15 v16 v17 v18:Slot}{K:Fl->L->aH->Prop}(z:n=.cj (A3 F)\/n=.val (.list (A3 F)))(q:bS (au (d+8)) E 392 (aC.body.drop 8) [v0,v,p,.val (.list (A3 F)),m,v5,v6,v7,v8,t,g,b,c,a,e,.val (.bytes (ix F)),v16,v17,v18] s K):bS (au (d+8)) E 394 (aC.body.drop 6) [v0,v,p,n,m,v5,v6,v7,v8,t,g,b,c,a,e,v15,v16,v17,v18] s K:=by
 have j:F.map (bD [59])≠[]:=λq=>h0 (il.mp q);have w:(bD [10] (F.map (bD [59]))).length<=6320:=by refine aa (Cu (k:=315) λl o=>?_) (aa (bo 316 (by refine zl (aj _) ?_;exact o)) (by decide));refine dq (aL.mp o) λf x u=>?_;subst u;exact(h f x).iG.2
 have y:bD [10] (F.map (bD [59]))++[10]=ix F:=Qv j;have i:bS (au (d+8)) E 393 (aC.body.drop 7) [v0,v,p,.val (.list (A3 F)),m,v5,v6,v7,v8,t,g,b,c,a,e,v15,v16,v17,v18] s K:=by dsimp[aC]at q⊢;apply aQ;dsimp;rw[aau]at q⊢;refine oS (oD (aa w (by decide))) (oS (kI (aa (aB w) (by decide))) ?_);refine zl y ?_;exact q
 rcases z with rfl|rfl;·exact aQ i
 ·exact aQ i
end
section
variable{d:Nat}{s:aH}{E:PV->aH->Prop}{pair:Bool}{r:cw}{ys:List cw}{v0 v2 v4 v5 v6 v7 v8 v9 v10 MN MO MP v15 v16 v17 v18:Slot}{K:Fl->L->aH->Prop}
theorem QS{F:List (List (List Nat))}{x:PV}:(((A3 F++[x]).length:Nat):Int)=(F.length:Int)+1:=by unfold A3;rw[ah,aj];rfl
theorem aav:pD (bD [59] r.fs) none (some ((((bD [59] r.fs).length:Nat):Int)-((r.t.2.length:Nat):Int)-1))=bD [59] (r.fs.take 14):=by have e:bD [59] r.fs=bD [59] (r.fs.take 14)++59::r.t.2:=B4 (fs:=r.fs.take 14) (y:=r.t.2) (eQ _ _);rw[e,Ab (i:=(bD [59] (r.fs.take 14)).length) (by rw[ah,aO];exact ac5),List.take_left'];rfl
theorem Mu(a:r.ok)(q:bS (au (d+8)) E 394 (aC.body.drop 6) [v0,.val (.int 1),v2,.cj (A3 (iy pair ys++[r.fs.take 14])),v4,v5,v6,v7,v8,v9,v10,.val (.int (((iy pair ys).length:Int)+1)),MN,MO,MP,v15,v16,v17,v18] s K):bS (au (d+8)) E 395 (aC.body.drop 5) [v0,.val (.int 1),v2,.cj (A3 (iy pair (ys++[r]))),v4,v5,v6,v7,v8,v9,v10,.val .none,MN,MO,MP,v15,v16,v17,v18] s K:=by refine(?H:gB (by refine zl D0 ?_;refine zl tf ?_;replace q:=tf▸q;dsimp[aC]at q⊢;apply aQ;dsimp;apply aQ;dsimp;refine oS wj ?_;dsimp;refine oS wj ?_;dsimp;refine oS wj (oS (AL a.pY) ?_);dsimp;refine oS (show gq s (.list (r.fs.map .bytes)) (.int (-1))=some (.bytes r.t.2)from rfl) ?_;dsimp;refine zl aav ?_;refine oS uQ ?_;refine zl Gj ?_;refine zl QS ?_;exact q)) gA;intro w;delta id at w;(try dsimp-zetaHave only at w);refine(?F:gC _) _ w;exactλp _=>p
end
section
variable{d:Nat}{s:aH}{E:PV->aH->Prop}{pair:Bool}{r:cw}{ys:List cw}{v0 v2 v4 v5 v6 v7 v8 v9 v10 MN MO MP v15 v16 v17 v18:Slot}{K:Fl->L->aH->Prop}
theorem D3{F:List (List (List Nat))}:(A3 F).length=F.length:=aj ..
theorem Gk{u:Int}(h1:(u==1)=false)(c:(u==2)=true)(b:(iy pair (ys++[r])).length<=20)(q:bS (au (d+8)) E 394 (aC.body.drop 6) [v0,.val (.int u),v2,.cj (A3 (iy pair (ys++[r])++[r.fs])),v4,v5,v6,v7,v8,v9,v10,.val (.int (((iy pair (ys++[r])).length:Int)+1)),MN,MO,MP,v15,v16,v17,v18] s K):bS (au (d+8)) E 395 (aC.body.drop 5) [v0,.val (.int u),v2,.cj (A3 (iy pair (ys++[r]))),v4,v5,v6,v7,v8,v9,v10,.val .none,MN,MO,MP,v15,v16,v17,v18] s K:=by
 have a:oh (A3 (iy pair (ys++[r]))) (.int (-1))=some (.bytes (bD [59] r.fs)):=by rw[D0,tf];exact wj
 rw[tf]at q;dsimp[aC]at q⊢;apply aQ;dsimp;refine sr h1 ?_;apply aQ;dsimp;refine sl c ?_;apply aQ;dsimp;apply aQ;dsimp;refine oS a ?_;refine oS (qR (aa (aB (D3▸b)) (by decide))) ?_;dsimp;rw[D3];exact q
theorem IE{u w:Int}{xs:List cw}(h1:(u==1)=false)(e:(u==2)=false)(a:(u==3)=true)(b:(w==1)=true)(c:xs.length<=2)(q:bS (au (d+8)) E 394 (aC.body.drop 6) [v0,.val (.int u),.val (.int w),.cj (A3 (FF::xs.map cw.fs)),v4,v5,v6,v7,v8,v9,v10,.val (.int 1),MN,MO,MP,v15,v16,v17,v18] s K):bS (au (d+8)) E 395 (aC.body.drop 5) [v0,.val (.int u),.val (.int w),.cj (A3 (iy true xs)),v4,v5,v6,v7,v8,v9,v10,.val .none,MN,MO,MP,v15,v16,v17,v18] s K:=by
 dsimp[aC]at q⊢;apply aQ;dsimp;refine sr h1 ?_;apply aQ;dsimp;refine sr e ?_;apply aQ;dsimp;refine sl a (sl b ?_);apply aQ;dsimp;apply aQ;dsimp;rw[Ab (k:=1) (i:=1) rfl,Ac (k:=2) (i:=2) rfl];refine oS (qR ?_) ?_;·show 1+(A3 (xs.map cw.fs)).length<=eu;rw[D3,aj];exact aa (aD c 1) (by decide)
 exact q
end
def aaw:List PV:=[.bR [.int 2,.bytes XX2],.bR [.int 3,.bytes N255],.bR [.int 4,.bytes ZZ2],.bR [.int 5,.bytes ODD]]
section
variable{d:Nat}{s:aH}{E:PV->aH->Prop}{pair:Bool}{r:cw}{ys:List cw}{v0 v2 v4 v5 v6 v7 v8 v9 v10 v15 v16 v17 v18:Slot}{K:Fl->L->aH->Prop}
theorem XI{k:Nat}(a:k<4):∃(o:List Nat)(j:Nat),aaw[k]?=some (.bR [.int j,.bytes o])/\(r.fs.map PV.bytes).take j++[.bytes o]++(r.fs.map PV.bytes).drop (j+1)=(tu r k).fs.map .bytes:=by
 refine RG a ?_ ?_ ?_ ?_;·exact⟨_,_,rfl,rfl⟩
 ·exact⟨N255,3,rfl,by rw[QB];rfl⟩
 ·exact⟨_,_,rfl,rfl⟩
 ·exact⟨_,_,rfl,rfl⟩
theorem Mv{k:Nat}(b:k<4){u:Int}(g:r.ok)(h1:(u==1)=false)(n:(u==2)=false)(h:(u==3)=false)(x:3<u)(t:u-4=k)(q:∀f c e,bS (au (d+8)) E 394 (aC.body.drop 6) [v0,.val (.int u),v2,.cj (A3 (iy pair (ys++[tu r k]))),v4,v5,v6,v7,v8,v9,v10,.val (.int (((iy pair ys).length:Int)+1)),f,c,e,v15,v16,v17,v18] s K):bS (au (d+8)) E 395 (aC.body.drop 5) [v0,.val (.int u),v2,.cj (A3 (iy pair (ys++[r]))),v4,v5,v6,v7,v8,v9,v10,.val .none,.bB,.bB,.bB,v15,v16,v17,v18] s K:=by
 refine(?H:gB (by
  refine lB (XI (r:=r) b) λo j l m=>?_;refine zl D0 ?_;refine zl tf ?_;dsimp[aC]at q⊢;apply aQ;dsimp;refine sr h1 ?_;apply aQ;dsimp;refine sr n ?_;apply aQ;dsimp;refine sr h ?_;apply aQ;dsimp;refine so x ?_;apply aQ;dsimp;refine zl t ?_;have v:gq s (.list aaw) (.int k)=some (.bR [.int j,.bytes o]):=by show(ju (k:Int) 4).bind _=some _;unfold ju;refine zl (if_pos (bb k)) ?_;refine zl (if_pos (bX.mpr b)) ?_;exact l
  refine oS v ?_;dsimp;apply aQ;dsimp;refine oS wj (oS (AL g.pY) ?_);dsimp;refine zl QS ?_;apply aQ;dsimp;apply aQ;dsimp;refine zl (Ab (k:=(j:Int)) (i:=j) rfl) ?_;refine zl (Ac (k:=(j:Int)+1) (i:=j+1) rfl) ?_;have a:(r.fs.map PV.bytes).length=15:=rfl;refine oS (qR (aa (aB (aa (Q6 ..) (bA a))) (by decide))) ?_;refine oS (qR ?_) ?_;·refine zl ah ?_;refine zl cX ?_;refine zl a ?_;refine zl cW ?_;refine zl a ?_;exact aa (aW (ar (mH ..) 1) (jC ..)) (by decide)
  refine zl m ?_;refine oS (oD (aa (AI g b).iG.2 (by decide))) ?_;dsimp;refine oS uQ ?_;refine zl Gj ?_;have q:=q (.val (.int j)) (.val (.bytes o)) (.val (.list (r.fs.map .bytes)));replace q:=D0▸q;replace q:=tf▸q;exact q)) gA
 intro w;delta id at w;(try dsimp-zetaHave only at w);refine(?F:gC _) _ w;exactλp _=>p
end
section
variable{d:Nat}{s:aH}{E:PV->aH->Prop}{pair:Bool}{r:cw}{xs ys:List cw}{b:Nat}{cs:List Int}{m:Int}{v0 v2 v3 v4 v5 v6 v7 v8 v9 v10 MN MO MP v15 v16 v17 v18:Slot}{K:Fl->L->aH->Prop}
theorem IF{u w:Int}(h1:(u==1)=false)(f:(u==2)=false)(a:(u==3)=false\/((u==3)=true/\(w==1)=false))(c:¬3<u)(q:bS (au (d+8)) E 394 (aC.body.drop 6) [v0,.val (.int u),.val (.int w),v3,v4,v5,v6,v7,v8,v9,v10,.val .none,MN,MO,MP,v15,v16,v17,v18] s K):bS (au (d+8)) E 395 (aC.body.drop 5) [v0,.val (.int u),.val (.int w),v3,v4,v5,v6,v7,v8,v9,v10,.val .none,MN,MO,MP,v15,v16,v17,v18] s K:=by
 dsimp[aC]at q⊢;apply aQ;dsimp;refine sr h1 ?_;apply aQ;dsimp;refine sr f ?_;apply aQ;dsimp;rcases a with a|⟨a,e⟩;·refine sr a ?_;apply aQ;dsimp;exact sn c q
 ·refine sl a (sr e ?_);apply aQ;dsimp;exact sn c q
abbrev XJ(d:Nat)(E:PV->aH->Prop)(K:Fl->L->aH->Prop)(pair:Bool)(xs:List cw)(cs:List Int)(m u w:Int)(v0 v5 v6 v7 v8 v15 v16 v17 v18:Slot):Prop:=bS (au (d+8)) E 395 (aC.body.drop 5) [v0,.val (.int u),.val (.int w),.cj (A3 (iy pair xs)),.val (.ref 1),v5,v6,v7,v8,.val (.ref 2),.val (.ref 7),.val .none,.bB,.bB,.bB,v15,v16,v17,v18] (XH cs m pair xs) K
theorem aeG{r:cw}{zs:List cw}:∀{a:Int},J0 a (zs++[r])->J0 a zs:=by induction zs with|nil=>intro _ _;exact trivial|cons _ _ c=>intro _ k;exact⟨k.1,c k.2⟩
theorem Sg.le(h:Sg pair b xs):xs.length<=10:=aa h.iG.2 (by decide)
theorem Sg.pY(h:Sg pair b xs):∀f∈iy pair xs,j6 f:=wh λx a=>(h.ok x a).1.pY
theorem Sg.ti(h:Sg pair b (ys++[r])):(r.ok/\r.nm≠mY)/\(∀x∈ys,x.ok/\x.nm≠mY)/\ys.length<=1:=⟨h.ok r (cx _ (.head _)),λx a=>h.ok x (ct _ a),by have:=h.iG.2;rw[ah]at this;exact lR this⟩
section
variable{u w:Int}{F:List (List (List Nat))}(q:∀e s,K (.ret (false,.bool true)) e s)
include q
theorem th{n:Int}(g:∀f∈F,j6 f)(h0:F≠[])(c:F.length<=20)(h:∀(i:Bool×PV->aH->Prop)(a:PV->aH->Prop),(∀t,a (.int n) (XH cs m pair xs++t))->Wp (au (d+7) Fn.cA [.bytes (ix F),.ref 2] (XH cs m pair xs)) i a):bS (au (d+8)) E 394 (aC.body.drop 6) [v0,.val (.int u),.val (.int w),.cj (A3 F),.val (.ref 1),v5,v6,v7,v8,.val (.ref 2),.val (.ref 7),.val (.int n),MN,MO,MP,v15,v16,v17,v18] (XH cs m pair xs) K:=CA g h0 c (.inl rfl) (QK (l:=2) (n:=335) Vt (ds:=mv pair xs) rfl h q)
theorem Vu(h:Sg pair b xs)(h1:(u==1)=false)(f:(u==2)=false)(a:(u==3)=false\/((u==3)=true/\(w==1)=false))(c:¬3<u):XJ d E K pair xs cs m u w v0 v5 v6 v7 v8 v15 v16 v17 v18:=IF h1 f a c (CA h.pY (λk=>h.ne (il.mp (cF.mp k).2)) (aa (xi h.le) (by decide)) (.inl rfl) (ID h q))
theorem aax(h:Sg pair b (ys++[r])):XJ d E K pair (ys++[r]) cs m 1 w v0 v5 v6 v7 v8 v15 v16 v17 v18:=by
 obtain⟨j,g,i⟩:=h.ti;refine Mu j.1 (th q (λf a=>?_) (λk=>eQ _ _ (cF.mp k).2) ?_ λn o k=>?_);·
  rcases bk.mp a with a|a;·exact wh (λx l=>(g x l).1.pY) f a
  ·cases ao.mp a;exact⟨r.c,Mg _ j.1.c,_,rfl,λx l=>j.1.f x (Q9 l),show 14<=15 by decide⟩
 ·refine zl ah ?_;exact aa (aB (xi (aa i (by decide)))) (by decide)
 ·exact Iw (d:=d+5) (λn o k=>Qx (d:=d+1) g (aa i (by decide)) (aeG h.up) j.1 k) k
theorem aay(h:Sg pair b (ys++[r]))(h1:(u==1)=false)(g:(u==2)=true):XJ d E K pair (ys++[r]) cs m u w v0 v5 v6 v7 v8 v15 v16 v17 v18:=by
 refine Gk h1 g (aa (xi h.le) (by decide)) (th q (λf a=>?_) (λk=>eQ _ _ (cF.mp k).2) ?_ λi c k=>?_);·
  rcases bk.mp a with a|a;·exact h.pY f a
  ·cases ao.mp a;exact h.ti.1.1.pY
 ·refine zl ah ?_;exact aa (aB (xi h.le)) (by decide)
 ·exact Iw (d:=d+5) (λi c k=>Qy (d:=d+1) h.ok h.le h.up k) k
theorem aaz(h:Sg true b (r::ys))(h1:(u==1)=false)(l:(u==2)=false)(g:(u==3)=true)(i:(w==1)=true):XJ d E K true (r::ys) cs m u w v0 v5 v6 v7 v8 v15 v16 v17 v18:=by
 refine IE h1 l g i h.iG.2 (th q (λf a=>?_) (λk=>by injection k) ?_ λn j k=>?_);·
  rcases av.mp a with rfl|a;·exact DT
  ·obtain⟨x,c,rfl⟩:=aL.mp a;exact(h.ok x c).1.pY
 ·rw[aO,aj];exact aa (aB h.le) (by decide)
 ·exact Iw (d:=d+5) (λn j k=>Qz (d:=d+1) h.ok h.le (aw (by decide) (h.code r (.head _)).1) k) k
theorem J7(h:Sg pair b (ys++[r])){k:Nat}(g:k<4)(h1:(u==1)=false)(l:(u==2)=false)(j:(u==3)=false)(o:3<u)(n:u-4=k):XJ d E K pair (ys++[r]) cs m u w v0 v5 v6 v7 v8 v15 v16 v17 v18:=by
 obtain⟨i,f,c⟩:=h.ti;refine Mv g i.1 h1 l j o n λMN MO MP=>th q (wh λx a=>?_) (λk=>eQ _ _ (cF.mp (il.mp (cF.mp k).2)).2) ?_ λt p k=>?_;·
  rcases bk.mp a with a|a;·exact(f x a).1.pY
  ·cases ao.mp a;exact AI i.1 g
 ·refine aa (xi ?_) (by decide);refine zl ah ?_;exact aa (aB c) (by decide)
 ·exact XA (d:=d) g (λx a=>h.ok x a) h.le h.up (aa (Gi (λx a=>(f x a).1) (b7 c)) (by decide)) k
theorem at5(h:Sg pair b xs){u:Nat}(c:u<8)(a:w=if pair then 1 else 0):XJ d E K pair xs cs m u w v0 v5 v6 v7 v8 v15 v16 v17 v18:=by
 obtain⟨ys,r,e⟩:∃ys r,xs=ys++[r]:=⟨xs.dropLast,xs.getLast h.ne,(List.dropLast_concat_getLast h.ne).symm⟩;refine lt8 c ?_ ?_ ?_ ?_ ?_ ?_ ?_ ?_;·exact Vu q h rfl rfl (.inl rfl) (by decide)
 ·subst e;exact aax q h
 ·subst e;exact aay q h rfl rfl
 ·clear e;cases pair with|false=>exact Vu q h rfl rfl (.inr ⟨rfl,by rw[a];rfl⟩) (by decide)|true=>cases xs with|nil=>exact absurd rfl h.ne|cons x zs=>exact aaz q h rfl rfl rfl (by rw[a];rfl)
 ·subst e;exact J7 q h (k:=0) (by decide) rfl rfl rfl (by decide) rfl
 ·subst e;exact J7 q h (k:=1) (by decide) rfl rfl rfl (by decide) rfl
 ·subst e;exact J7 q h (k:=2) (by decide) rfl rfl rfl (by decide) rfl
 ·subst e;exact J7 q h (k:=3) (by decide) rfl rfl rfl (by decide) rfl
end
theorem Gl(a:jo cs m){Q:Bool×PV->aH->Prop}(q:∀s,Q (false,.bool true) s):Wp (au (d+9) Fn.jH [.ref 0] [.cK cs m]) Q E:=by
 refine(?H:gB (by
  refine bq aC rfl rfl ?_;dsimp[aC,bx];apply aQ;dsimp;refine nP (n:=8) a (by decide) λu cs m k a=>?_;dsimp;refine nP (n:=2) a (by decide) λw cs m j a=>?_;dsimp;obtain⟨pair,e⟩:∃pair:Bool,(w:Int)=if pair then 1 else 0:=by
   refine Yb j ?_ ?_;·exact⟨false,rfl⟩
   ·exact⟨true,rfl⟩
  refine zl e ?_;refine IA (n:=1) (pair:=pair) λv5=>?_;refine IB (n:=1) a (by clear e;cases pair<;>decide) (by clear e;cases pair<;>decide) (by cases pair<;>decide) λb xs cs m v5 v7 v8 i f c a=>?_;have h:Sg pair b xs:=⟨i,f,c⟩;have:=at5 (d:=d) (E:=E) (cs:=cs) (m:=m) (K:=λg _ s=>Q (DB g) s) (v0:=.val (.ref 0)) (v5:=v5) (v6:=.val (.int b)) (v7:=v7) (v8:=v8) (v15:=.bB) (v16:=.bB) (v17:=.bB) (v18:=.bB) (λ_ s=>q s) h k rfl;unfold XJ at this;dsimp[aC]at this⊢;apply aQ;dsimp;refine Wp.of (BY (d:=d+6) (t:=[.cK cs m,.dict (jA (mv pair xs))])) ?_;dsimp;refine Wp.of (BY (d:=d+6) (t:=.cK cs m::.dict (jA (mv pair xs))::g9 2)) ?_;exact this)) gA
 intro w;delta id at w;(try dsimp-zetaHave only at w);refine(?F:gC _) _ w;exactλp _=>p
end
theorem XK{d:Nat}{is:List Int}(b:is.length<=63):Wp (R.au (d+10) Fn.Uo [.CI is] []) (λv _=>v=(false,.bool true)) noE:=by have:=XF (d:=d) b (λcs m a c h=>Gl a h) (Q:=λv _=>v=(false,.bool true)) λ_=>rfl;unfold Q.au at this;exact this
end Q
namespace R
open PySem PySem.W PySem.Calls PyProof.Rows PySem.SeqAt
theorem T4{b:cb}{c:FC}{args:List PV}{v:Bool×PV}(h0:c.lo<=args.length/\args.length<=c.np)(g:v≠(false,.none))(h:Q.Wp (yY b c args []) (λa _=>a=v) Q.noE):∃d,yX b bx c.body ⟨mx (gu c.np args),[]⟩=.ok (.ret v) d:=by
 unfold yY at h;replace h:=if_pos h0▸h;cases q:yX b bx c.body ⟨mx (gu c.np args),[]⟩with
 |ok f s=>replace h:=q▸h;clear q;cases f with|next=>exact absurd (AQ h) g|ret u=>exact⟨s,congrArg (λv=>jb.ok (Fl.ret v) s) h⟩
 |kc e s=>replace h:=q▸h;exact h.elim
 |aS=>replace h:=q▸h;exact h.elim
theorem T5{is:List Int}(b:is.length<=63):∃a,yX (au 9) bx (code Fn.Uo).body ⟨mx [.CI is],[]⟩=.ok (.ret (false,.bool true)) a:=T4 (c:=code Fn.Uo) (args:=[.CI is]) ⟨bf 1,bf 1⟩ (λh=>by cases h) (Q.XK (d:=0) b)
noncomputable def scLaw:Str:=Str.ofString "script"
def nmLaw:Nm:=Zv (code Fn.Uo).cP (code Fn.Uo).nf
theorem QT:nmLaw=[(scLaw,0),(Str.ofString "deck",1),(Str.ofString "way",2)]:=rfl
theorem T7{y:Str}(a:nmLaw.lookup y=some 0):y=scLaw:=by
 have h:=dX a;rw[QT]at h;rcases av.mp h with h|h;·exact congrArg (·.1) h
 ·rcases av.mp h with h|h;·exact nomatch congrArg (·.2) h
  ·exact nomatch congrArg (·.2) (ao.mp h)
noncomputable abbrev QU{f:jj}{a:List Str}{c:ExcName->Option ai}{d mb:Str->Option ai}{h:Heap}(p:jj)(w:se){K:Frag}(T:Top f a c d mb h)(i:K.In h):Cx:=⟨p,w,h,K,d,mb,i,T.g,T.b,T.nolimit,by obtain⟨_,_,_,e,_⟩:=T.g;exact⟨_,_,by decide,e⟩⟩
theorem QV{p v:jj}{e:List Str}{i:ExcName->Option ai}{w:se}{a:ak}{C mb:Str->Option ai}{h₁:Heap}{l:Addr}{vs:List ai}{is:List Int}{env:aI}{c:List Stmt}{z:Nat}{s:Str->Option ai}{Q:Flow->ak->Prop}{E:ai->ak->Prop}{K:Frag}(T:Top v e i C mb a.heap)(h:K.In a.heap)(H:a.heap.IsList l vs.toArray)(D:IntsAre vs is)(r:¬(63:Int)<is.length)(F:Yu a.heap a.heap.objs.size h₁ s)(B:s scLaw=some (.ref l))(A:env.globals=fU/\env.builtins=p9/\env.frame=some env.locals/\env.locals=a.heap.objs.size/\env.cells=[])(X:qA (QU p w T h) K rfl T.builtins)(t:(JD (QU p w T h) K rfl 36 (X.Pg (p:=(36,1,2)) bC)).ok=true)(n:∀d g(Y:Ctx (QU p w T h) d g 36),U0 X Y=true)(j:∀(Y:Ctx (QU p w T h) 19 (au 9) 36),(ckL (ckS Y (ckX Y 400) 400) (sc:=env.scope) (nm:=nmLaw) (code Fn.Uo).body c).ok=true)(m:(env.scope.kind==.function&&(env.scope.names.all (λp=>p.2 !=.cell&&p.2 !=.free)&&env.scope.names.lookup scLaw==some .local))=true)(q:∀s',s'.gens=a.gens->s'.os=a.os->(∀b o,a.heap.get? b=some o->s'.heap.get? b=some o)->Q (.ret (.bool true)) s'):aJ (dF p w) (VK.deeper env) (qf c env) Q E {heap:=h₁,gens:=a.gens,drawn:=a.drawn,toks:=z,os:=a.os}:=by obtain⟨k2,k3⟩:=yS m;obtain⟨k3,G⟩:=yS k3;obtain⟨I,k⟩:=T5 (is:=is) (by exact ac6 r);have Y:=Pd (Ph X t n) λf=>Pe (Ph X t n) 9 f;exact LH (S:=⟨QU p w T h,19,env.scope,nmLaw⟩) (x:=scLaw) rfl (cT.get (j Y) bx) ⟨rfl,aE rfl,aE rfl,rfl,rfl⟩ ⟨rfl,A⟩ (eq_of_beq k2) k3 (λy u=>T7 u) (eq_of_beq G) H D (by exact ac7 r) F B k q
end R
end Internal
namespace Internal.t
def tw8360292854305805493:=Nat
def tw6263630847113844087:=Nat
def tw13008472454669496736:=Nat
def tw10305048771229725655:=Nat
def tw9103451776231232439:=Nat
def tw55280735555821813:=Nat
def tw2008415760532947464:=Nat
def tw2354122296221664733:=Nat
def tw12929359634210350492:=Nat
def tw10860004544753361730:=Nat
def tw2753553612747886467:=Nat
def tw5504785995151166145:=Nat
def tw12284512302543064967:=Nat
def tw3985339078632348662:=Nat
def tw1979387083242346433:=Nat
def tw2870390083868729062:=Nat
def tw18029814675364869610:=Nat
def tw16635891693501024718:=Nat
def tw17199823108128972579:=Nat
def tw11617773845930005496:=Nat
def tw2596614499828149423:=Nat
def tw653851179344987601:=Nat
def tw10240928937832388771:=Nat
def tw966831515641535414:=Nat
def tw14174337122584683368:=Nat
def tw17412523447899875476:=Nat
def tw6273642686120567809:=Nat
def tw16356758554081979961:=Nat
def tw18077814300662996802:=Nat
def tw16225734298720409615:=Nat
def tw12453400015521765045:=Nat
def tw2560015927974196734:=Nat
def tw14949729978672836562:=Nat
def tw18007488653615180081:=Nat
def tw5751797256558785375:=Nat
def tw15371385064783346306:=Nat
def tw10939328745571507606:=Nat
def tw14903469520654778339:=Nat
def tw8268939814213925281:=Nat
def tw5586206317039947957:=Nat
def tw1180084491778799455:=Nat
def tw17383624145206292523:=Nat
def tw2657716156593943145:=Nat
def tw10268066531139141761:=Nat
def tw12812394579826744619:=Nat
def tw1317064457584818355:=Nat
def tw8367904344464561925:=Nat
def tw6819900878694202812:=Nat
def tw2135498487388809207:=Nat
def tw12212244985350395763:=Nat
def tw12120228203137460255:=Nat
def tw3843100872762187977:=Nat
def tw13234619955164310459:=Nat
def tw2824134659979971568:=Nat
def tw16541775591944463471:=Nat
def tw10810709566402991263:=Nat
def tw15425155356905319329:=Nat
def tw6380366827576173140:=Nat
def tw3157172803175680031:=Nat
def tw18254474719191495630:=Nat
def tw15256402223437939331:=Nat
def tw17500690702707496671:=Nat
def tw6862161900867750904:=Nat
def tw13054896914847201159:=Nat
def tw14315470436051197204:=Nat
def tw999012797721121358:=Nat
def tw14314495021592979102:=Nat
def tw13646230749117531423:=Nat
def tw16236868731035889702:=Nat
def tw9358050255747113180:=Nat
def tw10299460330204812715:=Nat
def tw10945223785518065068:=Nat
def tw12460414410314585905:=Nat
def tw13559884334047987945:=Nat
def tw16066528446191184515:=Nat
def tw17297637257938295421:=Nat
def tw13498403331657492702:=Nat
def tw14761156031553615396:=Nat
def tw2272745044986740974:=Nat
def tw2023688217538821827:=Nat
def tw5274952851854192909:=Nat
def tw17043317181640208107:=Nat
def tw15519768825523694595:=Nat
def tw1452208568787872149:=Nat
def tw12304437186479493150:=Nat
def tw14128998920981518128:=Nat
def tw9590550435869926953:=Nat
def tw2262126701094448599:=Nat
def tw6096402630435216902:=Nat
def tw6771858409678311872:=Nat
def tw7227741401661461254:=Nat
def tw14218713186726449439:=Nat
def tw1350106336648112980:=Nat
def tw3352867142256065841:=Nat
def tw13583752279604410724:=Nat
def tw1760285940900908761:=Nat
def tw8763262363584064192:=Nat
def tw9596997204264124131:=Nat
def tw6273594552069306175:=Nat
def tw13102862337219838380:=Nat
def tw17815087812510458503:=Nat
def tw9989161783515990356:=Nat
def tw5929431553663369454:=Nat
def tw397764129779105722:=Nat
def tw12224570880825867691:=Nat
def tw17625043697181096919:=Nat
def tw6022576623967142733:=Nat
def tw6897020341485189056:=Nat
def tw16260020286885659994:=Nat
def tw16007880136646438769:=Nat
def tw953328403091632436:=Nat
def tw1808362668502668763:=Nat
def tw8206826681207387001:=Nat
def tw8400501387242975231:=Nat
def tw14705086758723423658:=Nat
def tw14692638376683312767:=Nat
def tw13399318859291313508:=Nat
def tw4715499733402784843:=Nat
def tw16622647741589105635:=Nat
def tw12514203694837560940:=Nat
def tw9254489635555122733:=Nat
def tw10291546644821469314:=Nat
def tw17044581160454972066:=Nat
def tw5997945800068970211:=Nat
def tw16937471733631617635:=Nat
def tw484324983746776371:=Nat
def tw13977045307459140935:=Nat
def tw2942241637611486673:=Nat
def tw7818591619846303872:=Nat
def tw12828795569752469026:=Nat
def tw11353294488110841395:=Nat
def tw4739960736201924208:=Nat
def tw782557661352945275:=Nat
def tw1806454475104937134:=Nat
def tw15907214151806660125:=Nat
def tw2082219199791253601:=Nat
def tw1608703124032576092:=Nat
def tw6674045705096864731:=Nat
def tw13781682977870381006:=Nat
def tw15552690215681373366:=Nat
def tw6685581174166494750:=Nat
def tw13811385921403103805:=Nat
def tw12599195269206861670:=Nat
def tw7761000096712488422:=Nat
def tw16149925771759262619:=Nat
def tw7842886010974392068:=Nat
def tw17013260891755038949:=Nat
def tw8761403611058756112:=Nat
def tw1161403230188437780:=Nat
def tw4401199416784874895:=Nat
def tw17293340817748757948:=Nat
def tw7190802649033370804:=Nat
def tw11874719218839361959:=Nat
def tw5664967262583561676:=Nat
def tw7665249283927145313:=Nat
def tw6862767397047832993:=Nat
def tw1503008177849542003:=Nat
def tw16961008341481941158:=Nat
def tw8430369445839360794:=Nat
def tw2464609672579148784:=Nat
def tw18293822224624405936:=Nat
def tw7914530051490399447:=Nat
def tw6758418492732331072:=Nat
def tw2256329049111011907:=Nat
def tw3395095837885734466:=Nat
def tw8187673817205294471:=Nat
def tw104105494404378914:=Nat
def tw3611159465956339600:=Nat
def tw7791468606403055765:=Nat
def tw14572777463100937428:=Nat
def tw14159134404526552436:=Nat
def tw14648628027817739103:=Nat
def tw11118267724220805832:=Nat
def tw15651592847975596161:=Nat
def tw12860713482270283800:=Nat
def tw8694679693025061033:=Nat
def tw13564130069374265924:=Nat
def tw12873106716897938035:=Nat
def tw17472053160852398352:=Nat
def tw14406210198553196487:=Nat
def tw17740906809588461640:=Nat
def tw6740176182781842234:=Nat
def tw13025897786561896249:=Nat
def tw13551223932338577616:=Nat
def tw11421955101812888738:=Nat
def tw14040193613192943105:=Nat
def tw12713551955895208322:=Nat
def tw16967254250652136003:=Nat
def tw5994691447836568763:=Nat
def tw3666333208240583101:=Nat
def tw8397381783963756528:=Nat
def tw17827675145282169735:=Nat
def tw3714303434008382360:=Nat
def tw18091469039088216804:=Nat
def tw14612226082550172700:=Nat
def tw3999571959446220998:=Nat
def tw3998390877013615203:=Nat
def tw17297331020234197112:=Nat
def tw142018332399642733:=Nat
def tw12353246426685559099:=Nat
def tw11252366403993405325:=Nat
def tw6446759578555921375:=Nat
def tw12524887720643236943:=Nat
def tw12373137916354374660:=Nat
def tw14618044019482345228:=Nat
def tw18091662285628842837:=Nat
def tw2916881876868874636:=Nat
def tw6277165141571814914:=Nat
def tw3683650484796860623:=Nat
def tw1464545785636046687:=Nat
def tw8814477014801692233:=Nat
def tw16574742767009517439:=Nat
def tw4999615730277447204:=Nat
def tw15701554434543490646:=Nat
def tw8661161748793197725:=Nat
def tw4819231989283154569:=Nat
def tw7876095899985796830:=Nat
def tw7356676434237243039:=Nat
def tw1727709768054145586:=Nat
def tw2290556897460835747:=Nat
def tw884776816087478605:=Nat
def tw1052814569379714612:=Nat
def tw9127118017661218450:=Nat
def tw2186087852955844961:=Nat
def tw3426775797784834538:=Nat
def tw6644265248981600865:=Nat
def tw10156174835395521722:=Nat
def tw4248470140792829014:=Nat
def tw8747869525542715946:=Nat
def tw6449792589959584652:=Nat
def tw9648213909226456066:=Nat
def tw7090690755042680879:=Nat
def tw2968914877663678732:=Nat
def tw17925034782952376715:=Nat
def tw15857379078330124236:=Nat
def tw16501661220626260195:=Nat
def tw3810444646503099094:=Nat
def tw1497605969055564162:=Nat
def tw958913996081430353:=Nat
def tw7996449971816263511:=Nat
def tw17997501388619062528:=Nat
def tw14493586313770183592:=Nat
def tw11741886743652782495:=Nat
def tw1725639307715259740:=Nat
def tw9681064358250080010:=Nat
def tw3504396019786043628:=Nat
def tw16062530726124465992:=Nat
def tw18125617852153940801:=Nat
def tw1084104534359644575:=Nat
def tw3566057042361041442:=Nat
def tw14776184852262775765:=Nat
def tw12420767100874101140:=Nat
def tw9887550072768075977:=Nat
def tw4090422908722265421:=Nat
def tw17451748533595758231:=Nat
def tw15417351515028393293:=Nat
def tw12333826948870234033:=Nat
def tw13060117687409226076:=Nat
def tw3499415928193213956:=Nat
def tw3387586468098266173:=Nat
def tw8608151065394911844:=Nat
def tw14857616508511222374:=Nat
def tw918856414680168438:=Nat
def tw7007891892195041546:=Nat
def tw3370305985458341146:=Nat
def tw15988678302342548981:=Nat
def tw8310544147193458391:=Nat
def tw6957661233681549200:=Nat
def tw18387697136816035285:=Nat
def tw15192453307340364525:=Nat
def tw9737692650736041964:=Nat
def tw14190715577391977226:=Nat
def tw10165993053112864774:=Nat
def tw12327265863572900611:=Nat
def tw9909713931118393007:=Nat
def tw8117311578226833021:=Nat
def tw809577653571442161:=Nat
def tw466199981029618508:=Nat
def tw4588479720207452414:=Nat
def tw3439459660168978368:=Nat
def tw2510724526553245913:=Nat
def tw1960561623345224679:=Nat
def tw16759883935087120793:=Nat
def tw13438931251104894925:=Nat
def tw9628697424850740095:=Nat
def tw3055230636779273869:=Nat
def tw9866861151404975688:=Nat
def tw8454744256510503578:=Nat
def tw12178306242778498311:=Nat
def tw16703247421915204961:=Nat
def tw7372303245113840367:=Nat
def tw7066216577093143954:=Nat
def tw15151529293120589099:=Nat
def tw8160757551209624224:=Nat
def tw3466617880904631348:=Nat
def tw5917835724930061462:=Nat
def tw5111203527108436790:=Nat
def tw17901923317034598609:=Nat
def tw277072576384446766:=Nat
def tw12273951179882519296:=Nat
def tw5981162936226425393:=Nat
def tw5301880379804584316:=Nat
def tw3107480029472515112:=Nat
def tw2002710910656724452:=Nat
def tw18301662044531725314:=Nat
def tw16182537329402922342:=Nat
def tw15317462127757906695:=Nat
def tw13625559849218274056:=Nat
def tw12572209519603181689:=Nat
def tw9671305094237052753:=Nat
def tw9422616941009575505:=Nat
def tw8328158337801538467:=Nat
def tw7866598627019577348:=Nat
def tw7442025427775701779:=Nat
def tw7256951243792205126:=Nat
def tw7086503106853858720:=Nat
def tw5793159170867876774:=Nat
def tw475709560295393013:=Nat
def tw3968419198532260499:=Nat
def tw3759099811337920162:=Nat
def tw3399186044618451683:=Nat
def tw3029564052322202052:=Nat
def tw2951757670694585167:=Nat
def tw2373478746327888331:=Nat
def tw18102776416565690846:=Nat
def tw17260232615606553510:=Nat
def tw16887731197785891501:=Nat
def tw16795801570447822504:=Nat
def tw16374311129435308512:=Nat
def tw15925532078596905944:=Nat
def tw15920818521720828637:=Nat
def tw15247493712164280901:=Nat
def tw15011256841481331363:=Nat
def tw14916589350050202470:=Nat
def tw14267691338500496110:=Nat
end Internal.t
set_option maxRecDepth 1000000
set_option maxHeartbeats 8000000
set_option Elab.async true
open PySem PySem.W PyProof.Rows
theorem Internal.t:PySem.Challenge.rw_nt0065_01.Holds:=by
 w_on;o_law;k_head;(case hw=>w_witness2);k_go0;exact Internal.R.QV (by assumption) (by assumption) (by assumption) (by assumption) (by assumption) (by assumption) rfl ⟨rfl,rfl,rfl,rfl,rfl⟩ {
  fx:=by kernel_rfl
  b0:=by intro S;kernel_rfl
  b1:=by intro a S;kernel_rfl
  b2:=by intro a b S;kernel_rfl
  b3:=by intro a b c S;kernel_rfl
  b4:=by intro a b c d S;kernel_rfl
  b5:=by intro a b c d e S;kernel_rfl
  b6:=by intro a b c d e f S;kernel_rfl
  Fo:=by kernel_rfl
  cls:=by kernel_rfl
  Zf:=by intro S rest;kernel_rfl
  UQ:=by kernel_rfl} (by kernel_rfl) (by intro d g Y;kernel_rfl) (by intro Y;kernel_rfl) (by kernel_rfl) λs' h1 j h=>⟨.inl ⟨_,_,[],rfl,λ_=>rfl,.bool true,by first|kernel_rfl|wrow_post,λ_=>⟨qa,λ_ i=>nomatch i⟩⟩,h,j,h1.trans (by assumption)⟩
theorem PySem.Challenge.cw_nt0065_01_holds : PySem.Challenge.rw_nt0065_01.Holds := by
 exact Internal.t
