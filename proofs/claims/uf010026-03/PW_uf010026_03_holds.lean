import PyProof.Rows.All
import PyProof.Walks
import Wide.All
import OpenK.AllK
import KE.KTryMore
import Wide.FinOn
import PyProof.StationsW
import PyProof.RangeIter
import PyProof.InstFacts
import KE.KDictList
import KE.KSortAsk
import KE.KSortTup
import KE.KDictOf
import PyProof.AttrMissHeap
import PyProof.Rows.TupMore
import Open.FastRun
import Open.FastT9
import Open.Line
import PySem.Challenge.RW_uf010026_03
set_option Elab.async false
set_option maxRecDepth 1000000
set_option maxHeartbeats 8000000
set_option linter.all false
set_option tactic.hygienic false
set_option genSizeOf false
set_option genInjectivity false
set_option compiler.extract_closed false
set_option bootstrap.genMatcherCode false
set_option backward.match.sparseCases false
open Option renaming none->aa,map_eq_some_iff->aZ,isSome_iff_exists->bH,bind_eq_some_iff->e8,map_some->gf,isSome_some->gH
open PySem renaming wpAny_bind->ac,Shared->ag,wpAny_pure->ai,wpAny_mono->aR,Expr->aV,wpAny_holding->bo,tupleKind->bK,wpAny_newObj_type->bL,DictEntry->bR,mainGlobals->bV,intKind->cw,wpAny_truthy_bool->cB,sysModules->cI,wpAny_dictEntries->cM,callEnvC->cQ,Around->cX,wpAny_typeNameOfWhole_keyiter->cY,cellsFrom->cZ,NameKind->c7,wpAny_field->dh,wpAny_call_entry->dq,wpAny_notOrdered_dict->dv,Program->dB,codeAny_mono->dD,wpAny_standAt->dF,wpAny_typeNameOf_keyiter->dG,Builtin->dH,rawInt->dI,wpAny_callSpecial?_slot->dJ,constantsAlone->dK,sizeLine_eq->dW,entryOfKey->d5,Stmt->eA,valueOrNone->eC,wpAny_attempt->eN,wpAny_assignInOrder_more->eQ,swappedStores->eR,pushCells_keeps->eT,wpAny_setField->fo,starEach->fp,wpAny_pyIter_list->fu,wpAny_pyIter_enum->fA,wpAny_rule->fR,wpAny_isInstance->fS,pushCells->fT,wpAny_eqBool_int->fX,wpAny_passesOwn->gg,importedModules->gt,firstArgMember->gB,sizeLine->gF,FuncData->gG,IsRangeIter->hU,PassesOwn->iq
open Option.some renaming inj->ae,injEq->hW
open List renaming mem_of_getElem?->af,length_map->aj,length_append->an,mem_cons->aA,toArray->aB,mem_singleton->aD,getD_eq_getElem?_getD->aE,size_toArray->aF,append_assoc->aG,replicate->aH,getElem?_eq_getElem->aI,mem_append->aJ,length_cons->aL,mem_append_right->aM,append_nil->aN,map_append->aQ,mem_append_left->aU,mem_map->aY,getElem?_map->a9,map_map->bc,getElem?_eq_none->be,getElem?_append_right->bj,nodup_append->bn,map_cons->bp,range->br,length_singleton->bz,not_mem_nil->bB,nodup_cons->bF,length_replicate->bQ,length->bU,take->bZ,getElem?_append_left->ce,mem_filter->cu,pairwise_map->cA,all_eq_true->cG,map_congr_left->cJ,mem_map_of_mem->cK,foldl_cons->cT,lookup_cons->cU,length_nil->c6,length_filter_le->dy,getElem?_eq_some_iff->dz,find?_cons->dA,any_eq_true->dP,getElem?_replicate->dQ,mem_flatMap->dR,mem_filterMap->d6,forIn_cons->d9,concat_eq_append->ej,ext_getElem?->eu,length_take->eJ,pairwise_cons->eZ,getElem?_cons_zero->e9,filter_cons_of_pos->fi,filter_cons_of_neg->fj,mem_range->fE,nodup_nil->fG,contains_iff_mem->fP,any_cons->fZ,getElem?_mapIdx->f7,getElem?_of_mem->gc,nil_append->gr,replicate_succ->gv,flatMap_append->gw,filter_append->gS,map_replicate->gU,map->gV,getElem?_nil->hV,length_range->ic,map_id->ie,foldl_append->ig,getElem_map->iu,getElem_mem->iw,length_drop->iA,take_length->iB,foldl->iL,filter_nil->iN
open Int renaming le_antisymm->ah,toNat_of_nonneg->ao,self_le_toNat->aK,lt_or_gt_of_ne->aX,sub_add_cancel->bl,add_sub_cancel->bM,eq_ofNat_of_zero_le->bY,toNat_natCast->b6,zero_add->cF,add_zero->cO,le_trans->de,add_assoc->dg,le_max_right->dr,fmod_eq_emod_of_nonneg->du,natCast_nonneg->dX,ofNat_le->dY,lt_of_le_of_lt->eX,le_refl->e7,sub_zero->fJ,fmod_nonneg_of_pos->fK,not_lt->fQ,neg_one_mul->ge,not_le->gA,fmod_lt_of_pos->gT,add_left_comm->gX,ofNat_lt->iI
open Nat renaming sub_add_cancel->aq,sub_le_iff_le_add'->au,le_trans->aw,le_antisymm->ax,le_refl->az,le_of_ble_eq_true->aP,lt_or_gt_of_ne->bE,eq_of_beq_eq_true->bI,lt_or_ge->bO,ne_of_lt->bP,beq->b5,zero_le->cL,lt_succ_of_lt->cP,not_lt->cR,le_of_lt->c9,le_of_eq->dE,le_add_right->dL,mul_le_mul->dU,lt_of_le_of_lt->dZ,lt_of_succ_lt_succ->d7,not_lt_zero->ef,le_succ_of_le->ew,blt_eq->ez,ne_of_gt->eG,lt_succ_self->eH,ble->eU,sub_le->eY,le_succ->fe,zero_add->fB,sub_self->fF,min_le_right->fU,succ_ne_zero->fV,succ->f6,succ_pos->gx,blt->gY,le_of_succ_le->ib,lt_irrefl->ij,succ_ne_self->ir,succ_le_succ->iv,ble_eq->iJ,add_comm->iM
open PySem.Heap renaming get?_push_of_some->ar,get?_push_size->ay,lt_size->bf,get?_update_self->bJ,size_push->cD,get?_update_other->dc,ExtBut->di,SameBut->iG
open Bool renaming and_eq_true_iff->aO,false_ne_true->aW,and_eq_true->bh,false_eq_true->cg,eq_false_iff->cN,or_eq_true_iff->c8,or_eq_true->d8,and_eq_false_iff->fO
open PySem.Builtin.Range renaming rangeSize->aT,small->cz,rangeFitsLong->gy
open Decidable renaming not_and_iff_or_not->ba,byContradiction->cb,em->iF
open Array renaming getD_eq_getD_getElem?->bq,getElem?_eq_some_iff->eB,length_toList->gu,forIn_toList->gJ,mk->iO
open PySem.Obj renaming mapSeq->bt,mapFields->cV,data_mapFields->d0,putName->ff,isFreed_of_fields->fL,mapDictKeys->gp
open PySem.Value.ref renaming inj->bx
open PySem.Value renaming none->bA,ref->bX,builtin->eh,int->iz
open PySem.Heap.SameBut renaming update->bG
open PySem.NameKind renaming free->bT,cell->dn
open PySem.Str renaming ofString->bW
open PySem.W.Fast renaming te10156331382660048174->b7,te11892475500146522536->b8,te14364793385576792824->b9,te6613529449190102663->cq,te5923862056798008813->e6
open PySem.F renaming slot_dict_keyiterator_next->cf,plainAttrs_list->dM,slot_list_getattribute->dO,args_dict_keyiterator_next_1->eM,entry_dict_keyiterator_next->eO,plainAttrs_dict->fh,slot_dict_iter->fw,slot_dict_setdefault->gq,excAttr_ValueError->gI,kt_typeCall_dict_1->gM,slot_list_insert->il,args_dict_init_2->im
open PyProof.Rows renaming seqObj->cp,mirror_perm->f8,get?_update_seq->gl,slot_tuple_getitem->gO,listUpdate_at->ik
open PySem.PyData renaming depthAll->cr,canLayAll0->cC,canLay0->dT,eqv->eV,depth->fH
open Prod.mk renaming inj->cE,injEq->fY
open Prod renaming ext->cH,fst->gR,snd->iE
open PySem.Builtin.Tuple renaming tupleExact->cW
open PySem.W renaming boot_heap->c5,kas_asc->dw,findIn->eE,cellsFrom_some->fq,kas_count->fW,kas_sort->f9,emptyDict->gz,boot_drawn->gQ,kas_place->iy,boot_toks->iC
open Ne renaming symm->dC
open PySem.Builtin.Dict renaming updateFrom->dN,showsAll->fM,entriesForEmpty->gm,selfAndRest->io,mergeDict->iH
open PySem.Txt renaming mul->d3,contains->eI
open PySem.SeqAt renaming shaped->d4
open Min renaming min->ey
open Classical renaming byContradiction->eK
open List.cons renaming inj->eS
open Nat.succ renaming inj->fm
open PySem.Builtin.Dict_items renaming ownsTuple->gh
open ForInStep renaming yield->gj
open PySem.Calls renaming Name_function_global->gE
open PySem.Builtin.Slice renaming sliceApplied->gN
open PySem.Heap.UpToSlots renaming of_keeps->ip
open PySem.IntMulOk renaming of_left->iD
open PySem.Heap.IsSliceOf renaming new->iQ
open PySem PyProof.Rows PySem.W
namespace Mine.Internal
section
theorem nM{α:Type u}{x:α}{C:Prop}(h:x∈([]:List α)):C:=nomatch h
@[elab_as_elim] theorem J1{α:Type u}{a:α}{l:List α}(x:α){G:α->Prop}(h:x∈a::l)(Y:G a)(z:x∈l->G x):G x:=(aA.mp h).elim (λe=>e▸Y) z
theorem nS{α:Type u}{x:α}{C:Prop}(h:aa=some x):C:=nomatch h
theorem nS'{α:Type u}{x:α}{C:Prop}(h:some x=aa):C:=nomatch h
theorem nF{C:Prop}(h:false=true):C:=nomatch h
theorem nT{C:Prop}(h:true=false):C:=nomatch h
section
universe i j k l m n o
section
variable {p q r s t:Prop}{E:Sort o}{f g:E}{G:E->Prop}{H:Prop}
@[elab_as_elim] theorem X0ll{d:Sort o}(Y:d){u:d}{E1:Sort o}(w1:E1){O:E1}{G:d->E1->Prop}(h:Y=u/\w1=O)(k:G u O):G Y w1:=by obtain⟨rfl,rfl⟩:=h;exact k 
@[elab_as_elim] theorem X0lll{d:Sort o}(Y:d){T:d}{E1:Sort o}(u:E1){O:E1}{E2:Sort o}(w2:E2){B:E2}{G:d->E1->E2->Prop}(h:Y=T/\u=O/\w2=B)(k:G T O B):G Y u w2:=by obtain⟨rfl,rfl,rfl⟩:=h;exact k 
@[elab_as_elim] theorem X0lp(W:E)(h:W=f/\q)(k:q->G f):G W:=by obtain⟨rfl,Y⟩:=h;exact k Y
theorem X0ppppp(h:p/\q/\r/\s/\t)(k:p->q->r->s->t->H):H:=by obtain⟨O,Y,d,B,z⟩:=h;exact k O Y d B z
end
section
variable {I:Sort i}
variable {p q r s t a b:I->Prop}{E:Sort o}{f g:I->E}{G:E->Prop}{H:Prop}
@[elab_as_elim] theorem X1l(W:E)(h:∃x,W=f x)(k:∀x,G (f x)):G W:=by obtain⟨x,rfl⟩:=h;exact k x
@[elab_as_elim] theorem X1lp(W:E)(h:∃x,W=f x/\q x)(k:∀x,q x->G (f x)):G W:=by obtain⟨x,rfl,Y⟩:=h;exact k x Y
@[elab_as_elim] theorem X1lpppppp(W:E)(h:∃x,W=f x/\q x/\r x/\s x/\t x/\a x/\b x)(k:∀x,q x->r x->s x->t x->a x->b x->G (f x)):G W:=by obtain⟨x,rfl,u,Y,B,z,T,O⟩:=h;exact k x u Y B z T O
theorem X1p(h:∃x,p x)(k:∀x,p x->H):H:=by obtain⟨x,O⟩:=h;exact k x O
@[elab_as_elim] theorem X1pl(W:E)(h:∃x,p x/\W=f x)(k:∀x,p x->G (f x)):G W:=by obtain⟨x,O,rfl⟩:=h;exact k x O
theorem X1pp(h:∃x,p x/\q x)(k:∀x,p x->q x->H):H:=by obtain⟨x,O,Y⟩:=h;exact k x O Y
theorem X1ppp(h:∃x,p x/\q x/\r x)(k:∀x,p x->q x->r x->H):H:=by obtain⟨x,O,Y,z⟩:=h;exact k x O Y z
theorem X1pppp(h:∃x,p x/\q x/\r x/\s x)(k:∀x,p x->q x->r x->s x->H):H:=by obtain⟨x,O,Y,z,B⟩:=h;exact k x O Y z B
theorem X1ppppp(h:∃x,p x/\q x/\r x/\s x/\t x)(k:∀x,p x->q x->r x->s x->t x->H):H:=by obtain⟨x,O,Y,d,B,z⟩:=h;exact k x O Y d B z
theorem X1pppppp(h:∃x,p x/\q x/\r x/\s x/\t x/\a x)(k:∀x,p x->q x->r x->s x->t x->a x->H):H:=by obtain⟨x,O,Y,U,B,z,T⟩:=h;exact k x O Y U B z T
theorem X1ppppppp(h:∃x,p x/\q x/\r x/\s x/\t x/\a x/\b x)(k:∀x,p x->q x->r x->s x->t x->a x->b x->H):H:=by obtain⟨x,U,u,Y,B,z,T,O⟩:=h;exact k x U u Y B z T O
@[elab_as_elim] theorem X1pr(W:E)(h:∃x,p x/\f x=W)(k:∀x,p x->G (f x)):G W:=by obtain⟨x,O,rfl⟩:=h;exact k x O
end
section
variable {I:Sort i}{J:Sort j}
variable {p q r s t a:I->J->Prop}{E:Sort o}{f g:I->J->E}{G:E->Prop}{H:Prop}
@[elab_as_elim] theorem X2l(W:E)(h:∃x y,W=f x y)(k:∀x y,G (f x y)):G W:=by obtain⟨x,y,rfl⟩:=h;exact k x y
@[elab_as_elim] theorem X2llp{d:Sort o}(Y:d){u:I->J->d}{E1:Sort o}(w1:E1){O:I->J->E1}{G:d->E1->Prop}(h:∃x y,Y=u x y/\w1=O x y/\r x y)(k:∀x y,r x y->G (u x y) (O x y)):G Y w1:=by obtain⟨x,y,rfl,rfl,z⟩:=h;exact k x y z
@[elab_as_elim] theorem X2lp(W:E)(h:∃x y,W=f x y/\q x y)(k:∀x y,q x y->G (f x y)):G W:=by obtain⟨x,y,rfl,Y⟩:=h;exact k x y Y
@[elab_as_elim] theorem X2lpp(W:E)(h:∃x y,W=f x y/\q x y/\r x y)(k:∀x y,q x y->r x y->G (f x y)):G W:=by obtain⟨x,y,rfl,Y,z⟩:=h;exact k x y Y z
@[elab_as_elim] theorem X2lppp(W:E)(h:∃x y,W=f x y/\q x y/\r x y/\s x y)(k:∀x y,q x y->r x y->s x y->G (f x y)):G W:=by obtain⟨x,y,rfl,Y,z,B⟩:=h;exact k x y Y z B
@[elab_as_elim] theorem X2lppppp(W:E)(h:∃x y,W=f x y/\q x y/\r x y/\s x y/\t x y/\a x y)(k:∀x y,q x y->r x y->s x y->t x y->a x y->G (f x y)):G W:=by obtain⟨x,y,rfl,u,Y,B,z,T⟩:=h;exact k x y u Y B z T
theorem X2p(h:∃x y,p x y)(k:∀x y,p x y->H):H:=by obtain⟨x,y,O⟩:=h;exact k x y O
theorem X2pp(h:∃x y,p x y/\q x y)(k:∀x y,p x y->q x y->H):H:=by obtain⟨x,y,O,Y⟩:=h;exact k x y O Y
theorem X2ppp(h:∃x y,p x y/\q x y/\r x y)(k:∀x y,p x y->q x y->r x y->H):H:=by obtain⟨x,y,O,Y,z⟩:=h;exact k x y O Y z
theorem X2pppp(h:∃x y,p x y/\q x y/\r x y/\s x y)(k:∀x y,p x y->q x y->r x y->s x y->H):H:=by obtain⟨x,y,O,Y,z,B⟩:=h;exact k x y O Y z B
theorem X2ppppp(h:∃x y,p x y/\q x y/\r x y/\s x y/\t x y)(k:∀x y,p x y->q x y->r x y->s x y->t x y->H):H:=by obtain⟨x,y,O,Y,U,B,z⟩:=h;exact k x y O Y U B z
end
section
variable {I:Sort i}{J:Sort j}{K:Sort k}
variable {p q r s t a:I->J->K->Prop}{E:Sort o}{f g:I->J->K->E}{G:E->Prop}{H:Prop}
@[elab_as_elim] theorem X3l(W:E)(h:∃x y z,W=f x y z)(k:∀x y z,G (f x y z)):G W:=by obtain⟨x,y,z,rfl⟩:=h;exact k x y z
@[elab_as_elim] theorem X3lp(W:E)(h:∃x y z,W=f x y z/\q x y z)(k:∀x y z,q x y z->G (f x y z)):G W:=by obtain⟨x,y,z,rfl,Y⟩:=h;exact k x y z Y
@[elab_as_elim] theorem X3lpp(W:E)(h:∃x y z,W=f x y z/\q x y z/\r x y z)(k:∀x y z,q x y z->r x y z->G (f x y z)):G W:=by obtain⟨x,y,z,rfl,Y,d⟩:=h;exact k x y z Y d
@[elab_as_elim] theorem X3lppp(W:E)(h:∃x y z,W=f x y z/\q x y z/\r x y z/\s x y z)(k:∀x y z,q x y z->r x y z->s x y z->G (f x y z)):G W:=by obtain⟨x,y,z,rfl,Y,U,B⟩:=h;exact k x y z Y U B
@[elab_as_elim] theorem X3lpppp(W:E)(h:∃x y z,W=f x y z/\q x y z/\r x y z/\s x y z/\t x y z)(k:∀x y z,q x y z->r x y z->s x y z->t x y z->G (f x y z)):G W:=by obtain⟨x,y,z,rfl,u,U,Y,B⟩:=h;exact k x y z u U Y B
@[elab_as_elim] theorem X3lppppp(W:E)(h:∃x y z,W=f x y z/\q x y z/\r x y z/\s x y z/\t x y z/\a x y z)(k:∀x y z,q x y z->r x y z->s x y z->t x y z->a x y z->G (f x y z)):G W:=by obtain⟨x,y,z,rfl,Y,U,B,d,T⟩:=h;exact k x y z Y U B d T
theorem X3pp(h:∃x y z,p x y z/\q x y z)(k:∀x y z,p x y z->q x y z->H):H:=by obtain⟨x,y,z,O,Y⟩:=h;exact k x y z O Y
theorem X3ppp(h:∃x y z,p x y z/\q x y z/\r x y z)(k:∀x y z,p x y z->q x y z->r x y z->H):H:=by obtain⟨x,y,z,O,Y,d⟩:=h;exact k x y z O Y d
theorem X3pppp(h:∃x y z,p x y z/\q x y z/\r x y z/\s x y z)(k:∀x y z,p x y z->q x y z->r x y z->s x y z->H):H:=by obtain⟨x,y,z,O,Y,U,B⟩:=h;exact k x y z O Y U B
theorem X3ppppp(h:∃x y z,p x y z/\q x y z/\r x y z/\s x y z/\t x y z)(k:∀x y z,p x y z->q x y z->r x y z->s x y z->t x y z->H):H:=by obtain⟨x,y,z,O,u,U,Y,B⟩:=h;exact k x y z O u U Y B
end
section
variable {I:Sort i}{J:Sort j}{K:Sort k}{L:Sort l}
variable {p q r s t a:I->J->K->L->Prop}{E:Sort o}{f g:I->J->K->L->E}{G:E->Prop}{H:Prop}
@[elab_as_elim] theorem X4l(W:E)(h:∃x y z u,W=f x y z u)(k:∀x y z u,G (f x y z u)):G W:=by obtain⟨x,y,z,u,rfl⟩:=h;exact k x y z u
@[elab_as_elim] theorem X4lpp(W:E)(h:∃x y z u,W=f x y z u/\q x y z u/\r x y z u)(k:∀x y z u,q x y z u->r x y z u->G (f x y z u)):G W:=by obtain⟨x,y,z,u,rfl,Y,U⟩:=h;exact k x y z u Y U
@[elab_as_elim] theorem X4lppp(W:E)(h:∃x y z u,W=f x y z u/\q x y z u/\r x y z u/\s x y z u)(k:∀x y z u,q x y z u->r x y z u->s x y z u->G (f x y z u)):G W:=by obtain⟨x,y,z,u,rfl,O,Y,B⟩:=h;exact k x y z u O Y B
@[elab_as_elim] theorem X4lpppp(W:E)(h:∃x y z u,W=f x y z u/\q x y z u/\r x y z u/\s x y z u/\t x y z u)(k:∀x y z u,q x y z u->r x y z u->s x y z u->t x y z u->G (f x y z u)):G W:=by obtain⟨x,y,z,u,rfl,Y,U,B,d⟩:=h;exact k x y z u Y U B d
@[elab_as_elim] theorem X4lppppp(W:E)(h:∃x y z u,W=f x y z u/\q x y z u/\r x y z u/\s x y z u/\t x y z u/\a x y z u)(k:∀x y z u,q x y z u->r x y z u->s x y z u->t x y z u->a x y z u->G (f x y z u)):G W:=by obtain⟨x,y,z,u,rfl,U,O,Y,B,T⟩:=h;exact k x y z u U O Y B T
theorem X4p(h:∃x y z u,p x y z u)(k:∀x y z u,p x y z u->H):H:=by obtain⟨x,y,z,u,O⟩:=h;exact k x y z u O
theorem X4pp(h:∃x y z u,p x y z u/\q x y z u)(k:∀x y z u,p x y z u->q x y z u->H):H:=by obtain⟨x,y,z,u,O,Y⟩:=h;exact k x y z u O Y
theorem X4ppp(h:∃x y z u,p x y z u/\q x y z u/\r x y z u)(k:∀x y z u,p x y z u->q x y z u->r x y z u->H):H:=by obtain⟨x,y,z,u,O,Y,U⟩:=h;exact k x y z u O Y U
theorem X4pppp(h:∃x y z u,p x y z u/\q x y z u/\r x y z u/\s x y z u)(k:∀x y z u,p x y z u->q x y z u->r x y z u->s x y z u->H):H:=by obtain⟨x,y,z,u,U,O,Y,B⟩:=h;exact k x y z u U O Y B
end
section
variable {I:Sort i}{J:Sort j}{K:Sort k}{L:Sort l}{M:Sort m}
variable {p q r s t a:I->J->K->L->M->Prop}{E:Sort o}{f g:I->J->K->L->M->E}{G:E->Prop}{H:Prop}
@[elab_as_elim] theorem X5lp(W:E)(h:∃x y z u v,W=f x y z u v/\q x y z u v)(k:∀x y z u v,q x y z u v->G (f x y z u v)):G W:=by obtain⟨x,y,z,u,v,rfl,Y⟩:=h;exact k x y z u v Y
@[elab_as_elim] theorem X5lppp(W:E)(h:∃x y z u v,W=f x y z u v/\q x y z u v/\r x y z u v/\s x y z u v)(k:∀x y z u v,q x y z u v->r x y z u v->s x y z u v->G (f x y z u v)):G W:=by obtain⟨x,y,z,u,v,rfl,O,Y,B⟩:=h;exact k x y z u v O Y B
@[elab_as_elim] theorem X5lpppp(W:E)(h:∃x y z u v,W=f x y z u v/\q x y z u v/\r x y z u v/\s x y z u v/\t x y z u v)(k:∀x y z u v,q x y z u v->r x y z u v->s x y z u v->t x y z u v->G (f x y z u v)):G W:=by obtain⟨x,y,z,u,v,rfl,Y,U,B,d⟩:=h;exact k x y z u v Y U B d
theorem X5ppp(h:∃x y z u v,p x y z u v/\q x y z u v/\r x y z u v)(k:∀x y z u v,p x y z u v->q x y z u v->r x y z u v->H):H:=by obtain⟨x,y,z,u,v,O,Y,U⟩:=h;exact k x y z u v O Y U
theorem X5pppp(h:∃x y z u v,p x y z u v/\q x y z u v/\r x y z u v/\s x y z u v)(k:∀x y z u v,p x y z u v->q x y z u v->r x y z u v->s x y z u v->H):H:=by obtain⟨x,y,z,u,v,U,O,Y,B⟩:=h;exact k x y z u v U O Y B
theorem X5pppppp(h:∃x y z u v,p x y z u v/\q x y z u v/\r x y z u v/\s x y z u v/\t x y z u v/\a x y z u v)(k:∀x y z u v,p x y z u v->q x y z u v->r x y z u v->s x y z u v->t x y z u v->a x y z u v->H):H:=by obtain⟨x,y,z,u,v,d,U,O,Y,B,T⟩:=h;exact k x y z u v d U O Y B T
end
section
variable {I:Sort i}{J:Sort j}{K:Sort k}{L:Sort l}{M:Sort m}{N:Sort n}
variable {p q r s t a:I->J->K->L->M->N->Prop}{E:Sort o}{f g:I->J->K->L->M->N->E}{G:E->Prop}{H:Prop}
@[elab_as_elim] theorem X6lpppp(W:E)(h:∃x y z u v w,W=f x y z u v w/\q x y z u v w/\r x y z u v w/\s x y z u v w/\t x y z u v w)(k:∀x y z u v w,q x y z u v w->r x y z u v w->s x y z u v w->t x y z u v w->G (f x y z u v w)):G W:=by obtain⟨x,y,z,u,v,w,rfl,Y,U,B,d⟩:=h;exact k x y z u v w Y U B d
theorem X6p(h:∃x y z u v w,p x y z u v w)(k:∀x y z u v w,p x y z u v w->H):H:=by obtain⟨x,y,z,u,v,w,O⟩:=h;exact k x y z u v w O
theorem X6ppppp(h:∃x y z u v w,p x y z u v w/\q x y z u v w/\r x y z u v w/\s x y z u v w/\t x y z u v w)(k:∀x y z u v w,p x y z u v w->q x y z u v w->r x y z u v w->s x y z u v w->t x y z u v w->H):H:=by obtain⟨x,y,z,u,v,w,O,Y,U,B,d⟩:=h;exact k x y z u v w O Y U B d
theorem X6pppppp(h:∃x y z u v w,p x y z u v w/\q x y z u v w/\r x y z u v w/\s x y z u v w/\t x y z u v w/\a x y z u v w)(k:∀x y z u v w,p x y z u v w->q x y z u v w->r x y z u v w->s x y z u v w->t x y z u v w->a x y z u v w->H):H:=by obtain⟨x,y,z,u,v,w,d,U,O,Y,B,T⟩:=h;exact k x y z u v w d U O Y B T
end
end
theorem Aq{U:Prop}{p1:Prop}{G:Prop}(h:U/\p1)(k:U->p1->G):G:=by
 obtain⟨O,Y⟩:=h;exact k O Y
theorem Bm{U:Prop}{p1:Prop}{p2:Prop}{G:Prop}(h:U/\p1/\p2)(k:U->p1->p2->G):G:=by
 obtain⟨O,Y,z⟩:=h;exact k O Y z
theorem Bt{U:Prop}{p1:Prop}{p2:Prop}{u:Prop}{G:Prop}(h:U/\p1/\p2/\u)(k:U->p1->p2->u->G):G:=by
 obtain⟨O,Y,z,B⟩:=h;exact k O Y z B
theorem GP{U:Prop}{p1:Prop}{p2:Prop}{u:Prop}{z:Prop}{T:Prop}{B:Prop}{G:Prop}(h:U/\p1/\p2/\u/\z/\T/\B)(k:U->p1->p2->u->z->T->B->G):G:=by
 obtain⟨h0,h1,h2,Y,d,y,O⟩:=h;exact k h0 h1 h2 Y d y O
set_option genCtorIdx false in
inductive La where
 |v (i:Nat)
 |k (z:Int)
 |c (a:La)
 |A (a b:La)
 |S (a b:La)
 |N (a:La)
 |M (z:Int) (a:La)
 |U (a:La) (z:Int)
noncomputable abbrev La.ctorIdx(x:La):Nat:=@La.casesOn (λ_=>Nat) x (λ_=>0) (λ_=>1) (λ_=>2) (λ_ _=>3) (λ_ _=>4) (λ_=>5) (λ_ _=>6) (λ_ _=>7)
noncomputable def gt0{α:Type}(d:α):List α->Nat->α
 |[],_=>d
 |x::_,0=>x
 |_::r,n+1=>gt0 d r n
noncomputable def La.n(ns:List Nat):La->Nat
 |.v i=>gt0 0 ns i
 |.k z=>z.toNat
 |.A a b=>a.n ns+b.n ns
 |.M z a=>z.toNat * a.n ns
 |.U a z=>a.n ns * z.toNat
 |_=>0
noncomputable def La.i(ns:List Nat)(is:List Int):La->Int
 |.v i=>gt0 0 is i
 |.k z=>z
 |.c a=>(a.n ns:Nat)
 |.A a b=>a.i ns is+b.i ns is
 |.S a b=>a.i ns is - b.i ns is
 |.N a=>-(a.i ns is)
 |.M z a=>z * a.i ns is
 |.U a z=>a.i ns is * z
structure Lp where
 k:Int
 n:List Int
 i:List Int
noncomputable def C7:List Int->List Int->Int
 |c::r,x::s=>c * x+C7 r s
 |_,_=>0
noncomputable def addL:List Int->List Int->List Int
 |[],b=>b
 |x::r,[]=>x::r
 |x::r,y::s=>(x+y)::addL r s
noncomputable def mulL(z:Int):List Int->List Int
 |[]=>[]
 |x::r=>z * x::mulL z r
noncomputable def one:Nat->List Int
 |0=>[1]
 |n+1=>0::one n
noncomputable def JU:List Nat->List Int
 |[]=>[]
 |x::r=>(x:Int)::JU r
noncomputable def Lp.ev(ns:List Nat)(is:List Int)(p:Lp):Int:=p.k+(C7 p.n (JU ns)+C7 p.i is)
noncomputable def Lp.add(p q:Lp):Lp:=⟨p.k+q.k,addL p.n q.n,addL p.i q.i⟩
noncomputable def Lp.mul(z:Int)(p:Lp):Lp:=⟨z * p.k,mulL z p.n,mulL z p.i⟩
theorem HH:∀a b l,C7 (addL a b) l=C7 a l+C7 b l
 |[],b,l=>(cF _).symm
 |x::r,[],l=>(cO _).symm
 |x::r,y::s,[]=>rfl
 |x::r,y::s,u::l=>by
  show (x+y) * u+C7 (addL r s) l=(x * u+C7 r l)+(y * u+C7 s l);rw[HH r s l,Int.add_mul,dg,dg,gX (y * u)]
theorem HG(z:Int):∀a l,C7 (mulL z a) l=z * C7 a l
 |[],l=>(Int.mul_zero _).symm
 |x::r,[]=>(Int.mul_zero _).symm
 |x::r,u::l=>by
  show z * x * u+C7 (mulL z r) l=z * (x * u+C7 r l);rw[HG z r l,Int.mul_add,Int.mul_assoc]
theorem HF:∀i l,C7 (one i) l=gt0 0 l i
 |0,[]=>rfl
 |_+1,[]=>rfl
 |0,u::l=>by show 1 * u+0=u;rw[Int.one_mul,cO]
 |i+1,u::l=>by show 0 * u+C7 (one i) l=gt0 0 l i;rw[HF i l,Int.zero_mul,cF]
theorem LP:∀l i,gt0 0 (JU l) i=((gt0 0 l i:Nat):Int)
 |[],_=>rfl
 |_::_,0=>rfl
 |_::r,i+1=>LP r i
theorem Lp.ev_add(ns is)(p q:Lp):Lp.ev ns is (p.add q)=p.ev ns is+q.ev ns is:=by
 show (p.k+q.k)+(C7 (addL p.n q.n) _+C7 (addL p.i q.i) _)=(p.k+(_+_))+(q.k+(_+_));rw[HH,HH];generalize C7 p.n (JU ns)=a;generalize C7 p.i is=b;generalize C7 q.n (JU ns)=c;generalize C7 q.i is=d;rw[dg,dg p.k,gX (a+b),dg a c,gX c b,dg a b]
theorem Lp.ev_mul(ns is z)(p:Lp):Lp.ev ns is (Lp.mul z p)=z * p.ev ns is:=by
 show z * p.k+(C7 (mulL z p.n) _+C7 (mulL z p.i) _)=z * (p.k+(_+_));rw[HG,HG,Int.mul_add,Int.mul_add]
noncomputable def La.pn:La->Lp
 |.v i=>⟨0,one i,[]⟩
 |.k z=>⟨z.toNat,[],[]⟩
 |.A a b=>a.pn.add b.pn
 |.M z a=>Lp.mul z.toNat a.pn
 |.U a z=>Lp.mul z.toNat a.pn
 |_=>⟨0,[],[]⟩
noncomputable def La.p:La->Lp
 |.v i=>⟨0,[],one i⟩
 |.k z=>⟨z,[],[]⟩
 |.c a=>a.pn
 |.A a b=>a.p.add b.p
 |.S a b=>a.p.add (Lp.mul (-1) b.p)
 |.N a=>Lp.mul (-1) a.p
 |.M z a=>Lp.mul z a.p
 |.U a z=>Lp.mul z a.p
theorem ev_k(ns is z):Lp.ev ns is ⟨z,[],[]⟩=z:=cO _
theorem La.pn_ok(ns is):∀t:La,((t.n ns:Nat):Int)=Lp.ev ns is t.pn
 |.v i=>by show _=0+(C7 (one i) _+0);rw[HF,LP,cF,cO];rfl
 |.k z=>(ev_k _ _ _).symm
 |.A a b=>by show ((a.n ns+b.n ns:Nat):Int)=Lp.ev ns is (a.pn.add b.pn);rw[Lp.ev_add,<- pn_ok ns is a,<- pn_ok ns is b];rfl
 |.M z a=>by show ((z.toNat * a.n ns:Nat):Int)=Lp.ev ns is (Lp.mul z.toNat a.pn);rw[Lp.ev_mul,<- pn_ok ns is a];rfl
 |.U a z=>by show ((a.n ns * z.toNat:Nat):Int)=Lp.ev ns is (Lp.mul z.toNat a.pn);rw[Lp.ev_mul,<- pn_ok ns is a,Nat.mul_comm];rfl
 |.c _|.S _ _|.N _=>rfl
theorem La.p_ok(ns is):∀t:La,t.i ns is=Lp.ev ns is t.p
 |.v i=>by show _=0+(0+C7 (one i) _);rw[HF,cF,cF];rfl
 |.k z=>(ev_k _ _ _).symm
 |.c a=>a.pn_ok ns is
 |.A a b=>by show a.i ns is+b.i ns is=Lp.ev ns is (a.p.add b.p);rw[Lp.ev_add,<- p_ok ns is a,<- p_ok ns is b]
 |.S a b=>by show a.i ns is - b.i ns is=Lp.ev ns is (a.p.add (Lp.mul (-1) b.p));rw[Lp.ev_add,Lp.ev_mul,<- p_ok ns is a,<- p_ok ns is b,ge];rfl
 |.N a=>by show -(a.i ns is)=Lp.ev ns is (Lp.mul (-1) a.p);rw[Lp.ev_mul,<- p_ok ns is a,ge]
 |.M z a=>by show z * a.i ns is=Lp.ev ns is (Lp.mul z a.p);rw[Lp.ev_mul,<- p_ok ns is a]
 |.U a z=>by show a.i ns is * z=Lp.ev ns is (Lp.mul z a.p);rw[Lp.ev_mul,<- p_ok ns is a,Int.mul_comm]
set_option genCtorIdx false in
inductive Lc where
 |B (k:Nat) (a b:La)
 |C (k:Nat) (a b:La)
 |D (k:Int) (a b:La)
 |F (k:Nat) (a b:La)
 |G (k:Nat) (a b:La)
 |H (k:Int) (a b:La)
 |I (k:Nat) (a b:La)
 |J (k:Nat) (a b:La)
 |K (k:Nat) (a b:La)
 |L (k:Nat) (a b:La)
 |no
noncomputable abbrev Lc.ctorIdx(x:Lc):Nat:=@Lc.casesOn (λ_=>Nat) x (λ_ _ _=>0) (λ_ _ _=>1) (λ_ _ _=>2) (λ_ _ _=>3) (λ_ _ _=>4) (λ_ _ _=>5) (λ_ _ _=>6) (λ_ _ _=>7) (λ_ _ _=>8) (λ_ _ _=>9) 10
def Lc.den(ns:List Nat)(is:List Int):Lc->Prop
 |.B _ a b=>a.n ns<=b.n ns
 |.C _ a b=>a.n ns<b.n ns
 |.D _ a b=>a.n ns=b.n ns
 |.F _ a b=>a.i ns is<=b.i ns is
 |.G _ a b=>a.i ns is<b.i ns is
 |.H _ a b=>a.i ns is=b.i ns is
 |.I _ a b=>¬(a.n ns<=b.n ns)
 |.J _ a b=>¬(a.n ns<b.n ns)
 |.K _ a b=>¬(a.i ns is<=b.i ns is)
 |.L _ a b=>¬(a.i ns is<b.i ns is)
 |.no=>False
noncomputable def Lp.df(k d:Int)(a b:Lp):Lp:=Lp.mul k (b.add (Lp.mul (-1) (a.add ⟨d,[],[]⟩)))
noncomputable def Lc.p:Lc->Lp
 |.B k a b=>Lp.df k 0 a.pn b.pn
 |.C k a b=>Lp.df k 1 a.pn b.pn
 |.D k a b=>Lp.df k 0 a.pn b.pn
 |.F k a b=>Lp.df k 0 a.p b.p
 |.G k a b=>Lp.df k 1 a.p b.p
 |.H k a b=>Lp.df k 0 a.p b.p
 |.I k a b=>Lp.df k 1 b.pn a.pn
 |.J k a b=>Lp.df k 0 b.pn a.pn
 |.K k a b=>Lp.df k 1 b.p a.p
 |.L k a b=>Lp.df k 0 b.p a.p
 |.no=>⟨0,[],[]⟩
noncomputable def Lc.nt:Lc->Lc
 |.B k a b=>.C k b a
 |.C k a b=>.B k b a
 |.F k a b=>.G k b a
 |.G k a b=>.F k b a
 |.I k a b=>.B k a b
 |.J k a b=>.C k a b
 |.K k a b=>.F k a b
 |.L k a b=>.G k a b
 |_=>.D 0 (.k 0) (.k 0)
theorem Gy{ns is}{k:Nat}{d:Int}{a b:Lp}(h:a.ev ns is+d<=b.ev ns is):0<=(Lp.df k d a b).ev ns is:=by
 unfold Lp.df;rw[Lp.ev_mul,Lp.ev_add,Lp.ev_mul,Lp.ev_add,ev_k,ge];exact Int.mul_nonneg (dX k) (Int.sub_nonneg_of_le h)
theorem df_eq{ns is}{k:Int}{a b:Lp}(h:a.ev ns is=b.ev ns is):0<=(Lp.df k 0 a b).ev ns is:=by
 unfold Lp.df;rw[Lp.ev_mul,Lp.ev_add,Lp.ev_mul,Lp.ev_add,ev_k,ge,cO,h,Int.add_right_neg,Int.mul_zero];exact e7 _
theorem Lc.ok(ns is):∀c:Lc,c.den ns is->0<=c.p.ev ns is
 |.B k a b,h=>Gy (by rw[cO,<- La.pn_ok,<- La.pn_ok];exact dY.mpr h)
 |.C k a b,h=>Gy (by rw[<- La.pn_ok,<- La.pn_ok];exact dY.mpr h)
 |.D k a b,h=>df_eq (by rw[<- La.pn_ok,<- La.pn_ok];exact congrArg _ h)
 |.F k a b,h=>Gy (by rwa [cO,<- La.p_ok,<- La.p_ok])
 |.G k a b,h=>Gy (by rwa [<- La.p_ok,<- La.p_ok])
 |.H k a b,h=>df_eq (by rwa [<- La.p_ok,<- La.p_ok])
 |.I k a b,h=>Gy (by rw[<- La.pn_ok,<- La.pn_ok];exact dY.mpr (Nat.lt_of_not_le h))
 |.J k a b,h=>Gy (by rw[cO,<- La.pn_ok,<- La.pn_ok];exact dY.mpr (Nat.le_of_not_lt h))
 |.K k a b,h=>Gy (by rw[<- La.p_ok,<- La.p_ok];exact Int.lt_of_not_ge h)
 |.L k a b,h=>Gy (by rw[cO,<- La.p_ok,<- La.p_ok];exact fQ.mp h)
 |.no,h=>h.elim
theorem Lc.nt_ok(ns is):∀c:Lc,c.nt.den ns is\/c.den ns is
 |.B _ a b=>bO (b.n ns) (a.n ns)
 |.C _ a b=>(bO (a.n ns) (b.n ns)).symm
 |.F _ a b=>Int.lt_or_le (b.i ns is) (a.i ns is)
 |.G _ a b=>(Int.lt_or_le (a.i ns is) (b.i ns is)).symm
 |.I _ a b=>iF (a.n ns<=b.n ns)
 |.J _ a b=>iF (a.n ns<b.n ns)
 |.K _ a b=>iF (a.i ns is<=b.i ns is)
 |.L _ a b=>iF (a.i ns is<b.i ns is)
 |.D _ _ _|.H _ _ _|.no=>.inl rfl
noncomputable def tot:List Lc->Lp
 |[]=>⟨0,[],[]⟩
 |c::r=>c.p.add (tot r)
noncomputable def np:Int->Bool
 |.ofNat 0=>true
 |.ofNat _=>false
 |.negSucc _=>true
noncomputable def nz:Int->Bool
 |.ofNat 0=>true
 |_=>false
noncomputable def ng:Int->Bool
 |.ofNat _=>false
 |.negSucc _=>true
noncomputable def Lp.bad(p:Lp):Bool:=ng p.k && (p.n.all np && p.i.all nz)
def dAll(ns:List Nat)(is:List Int)(P:Prop):List Lc->Prop
 |[]=>P
 |c::r=>c.den ns is->dAll ns is P r
theorem ands{a b:Bool}(h:(a && b)=true):a=true/\b=true:=by
 cases a
 .exact nF h
 .exact⟨rfl,h⟩
theorem np_le{z:Int}(h:np z=true):z<=0:=by
 cases z with
 |ofNat n=>cases n with|zero=>exact e7 _|succ n=>exact nF h
 |negSucc n=>exact Int.negSucc_le_zero n
theorem nz_eq{z:Int}(h:nz z=true):z=0:=by
 cases z with
 |ofNat n=>cases n with|zero=>rfl|succ n=>exact nF h
 |negSucc n=>exact nF h
theorem ng_lt{z:Int}(h:ng z=true):z<0:=by
 cases z with|ofNat n=>exact nF h|negSucc n=>exact Int.negSucc_lt_zero n
theorem np_all:∀{l:List Int},l.all np=true->∀ns,C7 l (JU ns)<=0
 |[],_,_=>e7 _
 |z::r,_,[]=>e7 _
 |z::r,h,n::s=>by
  have h:=ands h;exact Int.add_nonpos (Int.mul_nonpos_of_nonpos_of_nonneg (np_le h.1) (dX n)) (np_all h.2 s)
theorem nz_all:∀{l:List Int},l.all nz=true->∀is,C7 l is=0
 |[],_,_=>rfl
 |z::r,_,[]=>rfl
 |z::r,h,n::s=>by
  have h:=ands h;show z * n+C7 r s=0;rw[nz_eq h.1,nz_all h.2 s,Int.zero_mul];rfl
theorem bad_lt{p:Lp}(h:p.bad=true)(ns is):p.ev ns is<0:=by
 have Y:=ands h;have z:=ands Y.2;have e:=np_all z.1 ns;unfold Lp.ev;rw[nz_all z.2 is,cO];exact Int.add_neg_of_neg_of_nonpos (ng_lt Y.1) e
theorem dAll_of{ns is}{P:Prop}:∀(U:List Lc),(0<=(tot U).ev ns is->P)->dAll ns is P U
 |[],h=>h (e7 _)
 |c::r,h=>λd=>dAll_of r λy=>h (by
  show 0<=(c.p.add (tot r)).ev ns is;rw[Lp.ev_add];exact Int.add_nonneg (c.ok ns is d) y)
abbrev K0:La:=.k 0
abbrev K1:La:=.k 1
abbrev FR:La:=.k 100
abbrev AL:La:=.k 1000
abbrev Ja:La:=.k 10000
abbrev AC:La:=.k 1000000
abbrev Cb:La:=.k 10000000
abbrev K13:La:=.k 13
abbrev K14:La:=.k 14
abbrev K15:La:=.k 15
abbrev A6:La:=.k 16777216
abbrev K17:La:=.k 17
abbrev K18:La:=.k 18
abbrev K2:La:=.k 2
abbrev K28:La:=.k 28
abbrev K29:La:=.k 29
abbrev K3:La:=.k 3
abbrev K30:La:=.k 30
abbrev K36:La:=.k 36
abbrev K4:La:=.k 4
abbrev K42:La:=.k 42
abbrev K5:La:=.k 5
abbrev K6:La:=.k 6
abbrev K61:La:=.k 61
abbrev K63:La:=.k 63
abbrev K64:La:=.k 64
abbrev K7:La:=.k 7
abbrev K8:La:=.k 8
abbrev GU:La:=.k 900
abbrev BX:La:=.k 9000
abbrev C6:La:=.k 92233720368547758
abbrev Co:La:=.k 0x8000000000000000
abbrev GS:La:=.k 9900
abbrev Km1:La:=.k (-1)
abbrev Km100:La:=.k (-100)
abbrev Bp:La:=.k (-1000000)
abbrev Cm:La:=.k (-10000000)
abbrev Ca:La:=.k (-0x8000000000000000)
abbrev V0:La:=.v 0
abbrev V1:La:=.v 1
abbrev V2:La:=.v 2
abbrev V3:La:=.v 3
abbrev V4:La:=.v 4
abbrev V5:La:=.v 5
abbrev V6:La:=.v 6
abbrev Lc.b(x y:La):Lc:=.B 1 x y
abbrev Lc.c(x y:La):Lc:=.C 1 x y
abbrev Lc.d(x y:La):Lc:=.D 1 x y
abbrev Lc.f(x y:La):Lc:=.F 1 x y
abbrev Lc.g(x y:La):Lc:=.G 1 x y
abbrev Lc.h(x y:La):Lc:=.H 1 x y
abbrev Lc.i(x y:La):Lc:=.I 1 x y
abbrev Lc.j(x y:La):Lc:=.J 1 x y
abbrev Lc.k(x y:La):Lc:=.K 1 x y
abbrev Lc.l(x y:La):Lc:=.L 1 x y
theorem lin(ns:List Nat)(is:List Int)(g:Lc)(cs:List Lc)(h:((g.nt.p).add (tot cs)).bad=true):dAll ns is (g.den ns is) cs :=
 dAll_of cs λhs=>(g.nt_ok ns is).elim (λd=>(gA.mpr (bad_lt h ns is) (by rw[Lp.ev_add];exact Int.add_nonneg (Lc.ok ns is _ d) hs)).elim) id
theorem sub_sp(a b:Nat):(b<=a/\a - b+b=a)\/(a<b/\a - b=0) :=
 (bO a b).symm.imp (λh=>⟨h,aq h⟩) λh=>⟨h,Nat.sub_eq_zero_of_le (c9 h)⟩
theorem HY(z:Int):(0<=z/\(z.toNat:Int)=z)\/(z<0/\z.toNat=0) :=
 (Int.lt_or_le z 0).symm.imp (λh=>⟨h,ao h⟩) λh=>⟨h,Int.toNat_of_nonpos (Int.le_of_lt h)⟩
theorem Lg(a b:Nat):max a b=a\/max a b=b:=(Nat.le_total b a).imp Nat.max_eq_left Nat.max_eq_right
theorem Hi(a b:Nat):min a b=a\/min a b=b:=(Nat.le_total a b).imp Nat.min_eq_left Nat.min_eq_right
theorem CA(a b:Int):max a b=a\/max a b=b:=(Int.le_total b a).imp Int.max_eq_left Int.max_eq_right
end
section
noncomputable def isF:Data->Bool
 |.fields _=>true
 |_=>false
theorem nDf{C:Prop}(k:isF d=false)(h:d=.fields xs):C:=by rw[h]at k;exact nomatch k
noncomputable def JS(B:Nat):List Nat->Nat
 |[]=>0
 |c::l=>JS B l * B+(c+1)
theorem Mj(U:c+1<B)(y:d+1<B)(h:a * B+(c+1)=b * B+(d+1)):c=d/\a=b:=by
 have u:(a * B+(c+1)) % B=c+1:=by rw[Nat.mul_comm,Nat.mul_add_mod,Nat.mod_eq_of_lt U]
 have e2:(b * B+(d+1)) % B=d+1:=by rw[Nat.mul_comm,Nat.mul_add_mod,Nat.mod_eq_of_lt y]
 rw[h,e2]at u;have z:d=c:=fm u;clear u;subst z;have Y:0<B:=dZ (cL _) U;exact⟨rfl,Nat.eq_of_mul_eq_mul_right Y (Nat.add_right_cancel h)⟩
theorem codeB_inj:∀(a b:List Nat),(∀c∈a,c+1<B)->(∀c∈b,c+1<B)->JS B a=JS B b->a=b
 |[],[],_,_,_=>rfl
 |[],c::l,_,_,h=>by simp[JS]at h
 |c::l,[],_,_,h=>by simp[JS]at h
 |c::l,d::k,ha,hb,h=>by
  refine Aq (Mj (ha c (.head _)) (hb d (.head _)) h) λY z=>?_;rw[Y,codeB_inj l k (λx u=>ha x (.tail _ u)) (λx u=>hb x (.tail _ u)) z]
noncomputable def codeL(l:List Nat):Nat:=JS 2097152 l
noncomputable def Le(l:List Nat):Bool:=l.all λc=>gY (c+1) 2097152
theorem Mu(a b:List Nat)(ha:Le a=true)(z:Le b=true)(h:codeL a=codeL b):a=b :=
 codeB_inj a b (λc d=>by have:=cG.mp ha c d;exact ez.mp this) (λc d=>by have:=cG.mp z c d;exact ez.mp this) h
noncomputable def code(x:Str):Nat:=if Le x.cps.toList then codeL x.cps.toList else 0
theorem code_inj(h:code x=code y)(u:code x≠0):x=y:=by
 unfold code at h u
 by_cases a:Le x.cps.toList=true
 .rw[if_pos a]at h u
  by_cases b:Le y.cps.toList=true
  .rw[if_pos b]at h
   have:=Mu _ _ a b h
   obtain⟨⟨T⟩⟩:=x;obtain⟨⟨O⟩⟩:=y;simp only at this;rw[this]
  .rw[if_neg b]at h;exact absurd h u
 .rw[if_neg a]at u;exact absurd rfl u
noncomputable def ixN:List Nat->Nat->Option Nat
 |[],_=>none
 |d::l,c=>if b5 c d then some 0 else (ixN l c).map (·+1)
theorem Hs:∀{l:List Nat}{c i:Nat},ixN l c=some i->l[i]?=some c
 |[],_,_,h=>by exact nS h
 |d::l,c,i,h=>by
  unfold ixN at h
  by_cases e:b5 c d=true
  .rw[if_pos e]at h;obtain rfl:=ae h;simp[bI e]
  .rw[if_neg e]at h
   cases q:ixN l c with
   |none=>rw[q]at h;exact nS h
   |some j=>rw[q]at h;obtain rfl:=ae h;simpa using Hs q
noncomputable def ixS(tb:List Nat)(x:Str):Option Nat:=if code x=0 then none else ixN tb (code x)
theorem BQ(d:ixS tb x=some i)(u:ixS tb y=some i):x=y:=by
 unfold ixS at d u
 by_cases a:code x=0
 .rw[if_pos a]at d;exact nS d
 .by_cases b:code y=0
  .rw[if_pos b]at u;exact nS u
  .rw[if_neg a]at d
   rw[if_neg b]at u;have Y:=Hs d;have z:=Hs u;rw[Y]at z;exact code_inj (ae z) a
noncomputable def GT:List Nat:=[488183376642157,0xcc0006400037800188000ea00074000378001a8000e80006a,514571674583146,0x368001c0000e000063,0x66000368001c4000ec00075,0x3a8001d0000d40006d,505775594143860,0x3a800190000d400065,0x66000340001bc000c400073,0x660003a800188000e600066000370001d8000de00066,0xca000660003a8001cc000e000074,483785363685492,510173602906210,488183385030766,532163833364590,479387298300002,536561907138658,0xe600070000398001cc0008c000660003b0001b4000c400057,0xe600070000398001cc0008c00073000380001c0000da00047,0x398001c0000e00006d00023800194000c400043,0xca000660003a8001cc000c400051,0x65000330001b4000e000049,0xda0006d00033000110000e00004f,0x68000378001a8000f40006200026800194000c400043,0x340001bc000d40007a00031000134000e00004f,0x740003a8001a4000d00006a00033000124000e00004f,0xde000730003b000154000e00004f,0x1d4000f2000660002a800194000c400043,0x48000278001400009a000600002a800150000a00004e,0x73000380001c0000da00047,0x330001b4000e0000690003c000180000e80006a,0x1d4000e0000710003a000180000e80006a,0x338001c0000c00007300033000194000e600070,0x1b0000e60006200032800180000e80006a,0x1c0000ea0006000039800188000cc0006f,0x1b8000e00007300033800180000ca00062000330001cc000e200074,0x3a0001e0000e00007300030000198000e600062,0x194000de00076000380001cc000c000074000368001b4000cc00064,0x33000190000cc0006a00038800180000e80006a,0x19c000e0000600003a0001cc000cc0006f0003a8001cc000c400071,0x7a00031800180000d00006f000350001e8000c40006d,0x1a0000de0006a0003d000188000da00060000328001b4000e000075,0xde0007000030000194000cc0006d,0x75000398001c0000d200074000300001cc000e000060000328001a8000c40006d,0x338001c0000c000074000328001bc000c400069,0x338001c0000c00007400033000194000d400074,0x39800198000de0007300038000190000c0000750003a0001cc000d400067,0xf400063000300001d0000ea00069000340001a8000cc00069,0xce00070000300001d0000ea00069000340001a8000cc00069,0x1d0000e600066000318001b8000ec0006f00030000198000e600062,0xe800075000348001a0000d40006600034800180000e80006a,0x1b8000e00007300033800180000d00006f000350001e8000c40006d,0xd00006f000350001bc000e6000760003a800180000e80006a,0x1a0000de0006a000378001cc000ec00075000300001d0000e600066000378001cc000e000064,0x1d4000c400060000378001cc000ec00075,0x338001c0000c000074000378001cc000ec00075,0x7500031000180000ca00066000378001cc000ec00075,0x1d4000e60006200038800188000c000074000378001cc000ec00075,0xe2000700003a800180000e80006a,0x1cc000cc0006f000398001c0000c8000600003a8001e4000cc0006f,0x1bc000cc000660003c0001d4000cc00063000300001e8000c400078,0x338001c0000c000073000330001e0000e00006d,0x338001c0000c000073000330001c4000e200076,0x6f000398001d8000ea000600003a8001e4000cc0006f,0x1a0000de0006a0003d000188000da000600003a8001d0000c40006d,0x340001bc000d40007a000310001b4000c0000750003a000188000cc0006d,0x1a0000de0006a0003d000188000da000600003a8001d0000cc0007500031000198000e600068,0x1e8000c600060000378001a0000d400074,0x1e8000c600060000368001b4000cc00064,0xea00079000330001d4000c00006f0003c0001c0000d200074,0x3d00018c000c000073000380001c0000da00067,0x750003c800198000ea0006000032800188000cc00073,0x3a800188000c00006d00036800198000c8000600003c000188000da00060,0xca000660003c8001a8000dc000600003c000188000da00060,0x3a0001e0000e00007300030000194000cc0006f000398001d8000ea000600003c000188000da00060,0x3d00018c000c0000740003c0001c0000e6000600003c000188000da00060,0x740003c0001c0000e6000600003d0001bc000c4000600003c000188000da00060,0xe80006d00036800198000c8000600003c000188000da00060,0xe80006c00039800188000dc000600003c000188000da00060,0xcc0006f000380001b4000c4000600003c000188000da00060,0xe80006800037800188000d2000600003c000188000da00060,0x330001d8000ca000600003c000188000da00060,0xd00006f000380001cc000f0000600003c000188000da00060,0x7500037800198000c6000600003c000188000da00060,0x36800188000e80007600033800198000e6000600003c000188000da00060,0x1d4000c40006d00033800180000e80007300035000188000e2000600003c000188000da00060,0x6f000398001d8000ea000600003c000188000da00060,0x3a0001cc000d40006200038800180000de00078000310001cc000ca000600003c000188000da00060,0x7a00031800180000e600070000380001b4000ce000600003c000188000da00060,0xe600066000328001cc000e0000600003c000188000da00060,0x65000368001c0000ea000600003c000188000da00060,0xea00074000398001a8000ce000600003c000188000da00060,0x194000cc0006500037800188000d2000600003c000188000da00060,0x328001a8000c40006d000300001d0000d4000600003c000188000da00060,0x75000398001c0000d200074000300001d0000d4000600003c000188000da00060,0xe800065000368001c0000d2000600003c000188000da00060,0xd2000750003b0001cc000ea000600003c000188000da00060,0x3a0001cc000cc0006f000398001c0000c8000600003c000188000da00060,0xe600066000378001bc000d4000600003c000188000da00060,0x198000ca0006a0003a000198000c6000600003c000188000da00060,0x1d4000e80006a00036800180000cc0006d000380001a4000f0000600003c000188000da00060,0xca00066000360001d0000c4000600003c000188000da00060,0x1d0000ca0006f000310001d4000e8000600003c000188000da00060,0x32800198000e80007600033800198000e6000600003c000188000da00060,0x71000330001d4000e8000600003c000188000da00060,0x3a0001cc000cc00063000370001d8000de000600003c000188000da00060,0x6600037000188000e8000600003c000188000da00060,0x32800198000d00006f000310001a4000c8000600003c000188000da00060,0x6c00032000188000c6000600003c000188000da00060,0xe80006f000398001d8000ea000600003c000188000da00060,0x3a000198000d00006f000310001a4000c8000600003c000188000da00060,0x3a8001d8000e000060000378001d8000e6000600003c000188000da00060,0xea00073000380001a4000e8000600003c000188000da00060,0x750003c800198000ea000600003c000188000da00060,0x6500031000198000e6000600003c000188000da00060,0x1d0000f00007000039800180000da0006d000310001b8000e8000600003c000188000da00060,0x368001b4000c4000600003c000188000da00060,0x32800198000d20006400031000198000e6000600003c000188000da00060,0xea0007400031000198000da000600003c000188000da00060,527765786853485,0x6d00036800188000f000060]
noncomputable def AT:List Nat:=[0xca0006f000330001c4000e200062,496979490635889,0xea00073000330001d0000de0006a,0x7300031000198000da00064,0xca0006f000330001d4000f200066,0x198000e800073000330001dc000cc00073,514571655708776,0xea0006d0003b000188000ce00066000328001d4000cc00074,0x378001a8000e00006b,0x75000350001b4000e200074,0x198000c800062000368001c4000cc00073,0x740003a8001e4000cc00075,488183414390896,0xca0006f0003b0001c0000e600062,0x3a0001e0000e000073,510173600809065,0x74000368001b4000cc00064,0xcc00065000350001d0000cc00063,0x1d0000e600066000378001cc000e000064,0x73000330001bc000de0006a]
set_option genCtorIdx false in
inductive E where
 |none
 |bool (b:Bool)
 |int (i:Int)
 |str (s:Str)
 |v (i:Nat)
 |g (i:Nat)
 |tup (es:List E)
 |list (es:List E)
 |dict (ks vs:List E)
 |bin (op:Operator) (l r:E)
 |neg (x:E)
 |not (x:E)
 |and (es:List E)
 |or (es:List E)
 |cmp (op:CmpOp) (l r:E)
 |cmp2 (o1 o2:CmpOp) (a b c:E)
 |ite (c a b:E)
 |sub (o i:E)
 |slice (o lo hi st:E)
 |attr (o:E) (n:Nat)
 |call (f:E) (args:List E)
 |sorted (x f:E)
 |meth (o:E) (n:Nat) (args:List E)
 |comp (elt:E) (x:Nat) (src:E) (c:List E)
 |mu (l:Nat) (e:E)
noncomputable abbrev E.ctorIdx(x:E):Nat:=@E.casesOn (λ_=>Nat) x 0 (λ_=>1) (λ_=>2) (λ_=>3) (λ_=>4) (λ_=>5) (λ_=>6) (λ_=>7) (λ_ _=>8) (λ_ _ _=>9) (λ_=>10) (λ_=>11) (λ_=>12) (λ_=>13) (λ_ _ _=>14) (λ_ _ _ _ _=>15) (λ_ _ _=>16) (λ_ _=>17) (λ_ _ _ _=>18) (λ_ _=>19) (λ_ _=>20) (λ_ _=>21) (λ_ _ _=>22) (λ_ _ _ _=>23) (λ_ _=>24)
set_option genCtorIdx false in
inductive Pat where
 |v (i:Nat)
 |tup (ps:List Pat)
noncomputable abbrev Pat.ctorIdx(x:Pat):Nat:=@Pat.casesOn (λ_=>Nat) x (λ_=>0) (λ_=>1)
set_option genCtorIdx false in
inductive S where
 |assign (p:Pat) (e:E)
 |setattr (o:E) (n:Nat) (e:E)
 |setitem (o i e:E)
 |expr (e:E)
 |ret (e:E)
 |ite (c:E) (a b:List S)
 |for_ (p:Pat) (e:E) (body:List S)
 |while_ (c:E) (body:List S)
 |raise (e:E)
 |try_ (body:List S) (cls:E) (x:Option Nat) (h:List S)
 |pass
noncomputable abbrev S.ctorIdx(x:S):Nat:=@S.casesOn (λ_=>Nat) x (λ_ _=>0) (λ_ _ _=>1) (λ_ _ _=>2) (λ_=>3) (λ_=>4) (λ_ _ _=>5) (λ_ _ _=>6) (λ_ _=>7) (λ_=>8) (λ_ _ _ _=>9) 10
noncomputable def okName(x:Str):Bool:=!(b5 (code x) 0x60000300001a0000ec0006300033000194000c000060) && !(b5 (code x) 0x60000300001d4000c80006a000328001d0000e80006200036800190000c000060)
theorem A9(h:okName x=true):(x == ("__debug__":Str))=false:=by
 cases q:x == ("__debug__":Str)with
 |false=>rfl
 |true =>
  rw[eq_of_beq q]at h
  have:okName ("__debug__":Str)=false:=by decide +kernel
  rw[this]at h;exact nF h
theorem Ld(h:okName x=true):(x == ("__classdict__":Str))=false:=by
 cases q:x == ("__classdict__":Str)with
 |false=>rfl
 |true =>
  rw[eq_of_beq q]at h
  have:okName ("__classdict__":Str)=false:=by decide +kernel
  rw[this]at h;exact nF h
noncomputable def relab(sc names:List (Str×c7)):List (Str×c7) :=
 names.map λ(n,k)=>if (k == .free && sc.lookup n == some .cell) then (n,.cell) else (n,k)
noncomputable def Be:aV->Bool
 |.Starred ..=>false
 |_=>true
noncomputable def DC:aV->Bool
 |.Call (.Name _ _) [] [] _=>false
 |_=>true
noncomputable def BP:aV->Bool
 |.Slice ..=>false
 |_=>true
noncomputable def Bf:aV->Bool
 |.Set ..=>false
 |_=>true
noncomputable def DR(tb:List Nat)(sc:List (Str×c7))(x:Str)(p:Str×c7):Bool:=match p.2 with
 |.local|.cell=>(ixS tb p.1).isNone || ixS tb p.1 == ixS tb x
 |.free=>sc.lookup p.1 == some .cell
 |.globalImplicit=>true
 |.globalExplicit=>false
end
section
abbrev Al:=Int×Int
set_option genCtorIdx false in
set_option genInjectivity true in
inductive AV where
 |none
 |bool (b:Bool)
 |int (i:Int)
 |str (s:Str)
 |tup (l:List AV)
 |list (l:List AV)
 |dict (l:List (Al×AV))
 |inst (fs:List (Str×AV))
 |loc (a:Addr) (i:Nat)
 |exc (c:Nat)
 |range (a b c:Int)
 |nums (l:List Int)
 |cls (c:Nat)
noncomputable abbrev AV.ctorIdx(x:AV):Nat:=@AV.casesOn (λ_=>Nat) x 0 (λ_=>1) (λ_=>2) (λ_=>3) (λ_=>4) (λ_=>5) (λ_=>6) (λ_=>7) (λ_ _=>8) (λ_=>9) (λ_ _ _=>10) (λ_=>11) (λ_=>12)
set_option genCtorIdx false in
inductive L4 where
 |list (l:List AV)
 |dict (l:List (Al×AV))
 |inst (dx:Addr)
 |attrs (fs:List (Str×AV))
noncomputable abbrev L4.ctorIdx(x:L4):Nat:=@L4.casesOn (λ_=>Nat) x (λ_=>0) (λ_=>1) (λ_=>2) (λ_=>3)
theorem Ak(q:x=aa)(e:x=some o):False:=by rw[q]at e;exact nS e
theorem AF(h:o.bind f=some b):∃a,o=some a/\f a=some b:=by
 cases o with|none=>exact nS h|some a=>exact⟨a,rfl,h⟩
noncomputable def one?{α:Type}:List α->Option α
 |[]=>aa
 |a::r=>(match r with
  |[]=>some a
  |_::_=>aa)
noncomputable def two?{α:Type}:List α->Option (α×α)
 |[]=>aa
 |a::r=>(one? r).bind λb=>some (a,b)
theorem one?_out(h:one? l=some a):l=[a]:=by
 cases l with
 |nil=>exact nS h
 |cons b r =>
  cases r with
  |nil=>obtain rfl:=ae h;rfl
  |cons _ _=>exact nS h
theorem two?_out(h:two? l=some p):l=[p.1,p.2]:=by
 cases l with
 |nil=>exact nS h
 |cons a r =>
  refine X1pp (AF h) λb Y z=>?_;obtain rfl:=ae z;rw[one?_out Y]
noncomputable def AV.int?:AV->Option Int
 |.int x=>some x
 |_=>aa
noncomputable def AV.tup?:AV->Option (List AV)
 |.tup l=>some l
 |_=>aa
theorem AV.int?_out{a:AV}{x:Int}(h:a.int?=some x):a=.int x:=by
 cases a with
 |int y=>obtain rfl:=ae h;rfl
 |_=>exact(Ak rfl h).elim
theorem AV.tup?_out{a:AV}{l:List AV}(h:a.tup?=some l):a=.tup l:=by
 cases a with
 |tup y=>obtain rfl:=ae h;rfl
 |_=>exact(Ak rfl h).elim
noncomputable def L4.list?:L4->Option (List AV)
 |.list l=>some l
 |_=>aa
noncomputable def L4.dict?:L4->Option (List (Al×AV))
 |.dict l=>some l
 |_=>aa
noncomputable def L4.inst?:L4->Option Addr
 |.inst d=>some d
 |_=>aa
noncomputable def L4.attrs?:L4->Option (List (Str×AV))
 |.attrs l=>some l
 |_=>aa
theorem L4.list?_out{o:L4}{l:List AV}(h:o.list?=some l):o=.list l:=by
 cases o with
 |list y=>obtain rfl:=ae h;rfl
 |_=>exact(Ak rfl h).elim
theorem L4.dict?_out{o:L4}{l:List (Al×AV)}(h:o.dict?=some l):o=.dict l:=by
 cases o with
 |dict y=>obtain rfl:=ae h;rfl
 |_=>exact(Ak rfl h).elim
theorem L4.inst?_out{o:L4}{d:Addr}(h:o.inst?=some d):o=.inst d:=by
 cases o with
 |inst y=>obtain rfl:=ae h;rfl
 |_=>exact(Ak rfl h).elim
theorem L4.attrs?_out{o:L4}{l:List (Str×AV)}(h:o.attrs?=some l):o=.attrs l:=by
 cases o with
 |attrs y=>obtain rfl:=ae h;rfl
 |_=>exact(Ak rfl h).elim
noncomputable def int2?(a b:AV):Option Al:=a.int?.bind λx=>b.int?.bind λy=>some (x,y)
noncomputable def spot?(a:AV):Option Al:=a.tup?.bind λl=>(two? l).bind λp=>int2? p.1 p.2
theorem int2?_out(h:int2? a b=some k):a=.int k.1/\b=.int k.2:=by
 refine X1pp (AF h) λx Y h=>X1pp (AF h) λy z h=>?_;obtain rfl:=ae h;exact⟨AV.int?_out Y,AV.int?_out z⟩
theorem spot?_out{a:AV}{k:Al}(h:spot? a=some k):a=.tup [.int k.1,.int k.2]:=by
 refine X1pp (AF h) λl Y h=>X1pp (AF h) λp z h=>Aq (int2?_out h) λu e2=>?_;rw[AV.tup?_out Y,two?_out z,u,e2]
abbrev E0:=Addr->Option L4
def Dom(V:E0)(a:Addr):Prop:=V a≠aa
noncomputable def E0.set(V:E0)(a:Addr)(o:L4):E0:=λb=>if b=a then some o else V b
theorem E0.set_self(V:E0)(a:Addr)(o:L4):(V.set a o) a=some o:=if_pos rfl
theorem E0.set_ne(V:E0)(o:L4)(h:b≠a):(V.set a o) b=V b:=if_neg h
noncomputable def Bc(k:Al):Int:=reduceHash (Builtin.Tuple.tupleHashOf [hashInt k.1,hashInt k.2])
noncomputable abbrev Bz(vs:Array Value)(n:Nat):Obj:={ cls:=.type "tuple",data:=.seq vs n }
noncomputable abbrev AE(vs:Array Value)(n:Nat):Obj:={ cls:=.type "list",data:=.seq vs n }
noncomputable abbrev H8(a b c:Int)(t u v:Tok):Obj:={ cls:=.type "range",data:=.fields #[.int a t,.int b u,.int c v] }
noncomputable abbrev AW(es:Array bR)(n:Nat):Obj:={ cls:=.type "dict",data:=.dict es n }
noncomputable abbrev Dp(C:Value)(dx:Addr):Obj:={ cls:=C,dict:=some dx,data:=.plain }
abbrev B4:Nat:=29
variable {cv:Nat->Value}
mutual
inductive Rep(cv:Nat->Value)(h:Heap)(D:Addr->Prop):AV->Value->Prop
 |none:Rep cv h D .none .none
 |bool (b:Bool):Rep cv h D (.bool b) (.bool b)
 |int (i:Int)(t:Tok):Rep cv h D (.int i) (.int i t)
 |str (s:Str)(t:Tok):Rep cv h D (.str s) (.str s t)
 |tup {l:List AV}{a:Addr}{vs:List Value}{n:Nat}:h.get? a=some (Bz vs.toArray n)->¬D a->RepL cv h D l vs->Rep cv h D (.tup l) (.ref a)
 |list {l:List AV}{a:Addr}{vs:List Value}{n:Nat}:h.get? a=some (AE vs.toArray n)->¬D a->RepL cv h D l vs->Rep cv h D (.list l) (.ref a)
 |dict {l:List (Al×AV)}{a:Addr}{es:List bR}{n:Nat}:h.get? a=some (AW es.toArray n)->¬D a->(a == cI)=false->(l.map (·.1)).Nodup->RepD cv h D l es->Rep cv h D (.dict l) (.ref a)
 |inst {fs:List (Str×AV)}{a dx:Addr}{es:List bR}{n:Nat}:h.get? a=some (Dp (cv B4) dx)->(∃C,cv B4=.ref C)->h.get? dx=some (AW es.toArray n)->¬D a->¬D dx->RepF cv h D fs es->Rep cv h D (.inst fs) (.ref a)
 |loc (a:Addr)(i:Nat):Rep cv h D (.loc a i) (.ref a)
 |exc {c:Nat}{a:Addr}{o:Obj}:h.get? a=some o->o.cls=cv c->((∃vs,o.data=.fields vs)/\o.dict=aa)->¬D a->(∃C,cv c=.ref C)->Rep cv h D (.exc c) (.ref a)
 |range {a b c:Int}{r:Addr}{t u v:Tok}:h.get? r=some (H8 a b c t u v)->¬D r->Rep cv h D (.range a b c) (.ref r)
 |cls (c:Nat):Rep cv h D (.cls c) (cv c)
 |nums {l:List Int}{a:Addr}{o:Obj}{vs:List Value}{n:Nat}:h.get? a=some o->o.cls=.type "list"->o.data=.seq vs.toArray n->¬D a->(vs.length=l.length/\∀(i:Nat)(x:Int),l[i]?=some x->∃t,vs[i]?=some (.int x t))->Rep cv h D (.nums l) (.ref a)
inductive RepL(cv:Nat->Value)(h:Heap)(D:Addr->Prop):List AV->List Value->Prop
 |nil:RepL cv h D [] []
 |cons {x:AV}{v:Value}{l:List AV}{vs:List Value}:Rep cv h D x v->RepL cv h D l vs->RepL cv h D (x::l) (v::vs)
inductive RepD(cv:Nat->Value)(h:Heap)(D:Addr->Prop):List (Al×AV)->List bR->Prop
 |nil:RepD cv h D [] []
 |cons {k:Al}{x:AV}{l:List (Al×AV)}{t:Addr}{tx ty:Tok}{n:Nat}{v:Value}{es:List bR} :
   h.get? t=some (Bz #[.int k.1 tx,.int k.2 ty] n)->¬D t->Rep cv h D x v->RepD cv h D l es->RepD cv h D ((k,x)::l) (⟨Bc k,.ref t,v⟩::es)
inductive RepF(cv:Nat->Value)(h:Heap)(D:Addr->Prop):List (Str×AV)->List bR->Prop
 |nil:RepF cv h D [] []
 |cons {n:Str}{x:AV}{l:List (Str×AV)}{hsh:Int}{t:Tok}{v:Value}{es:List bR} :
   Rep cv h D x v->RepF cv h D l es->RepF cv h D ((n,x)::l) (⟨hsh,.str n t,v⟩::es)
end
structure Ext(D:Addr->Prop)(h h':Heap):Prop where
 obj:∀b o,h.get? b=some o->¬D b->h'.get? b=some o
theorem Ext.refl(D:Addr->Prop)(h:Heap):Ext D h h:=⟨λZ Z e Z=>e⟩
theorem Ext.of_keeps(k:∀b o,h.get? b=some o->h'.get? b=some o):Ext D h h':=⟨λb o e Z=>k b o e⟩
theorem Ext.of_but(k:∀b o,¬D b->h.get? b=some o->h'.get? b=some o):Ext D h h':=⟨λb o e d=>k b o d e⟩
theorem Ext.trans(x:Ext D h h')(y:Ext D' h' h'')(T:∀b,D' b->D b\/h.get? b=aa):Ext D h h'' :=
 ⟨λb o e d=>y.obj b o (x.obj b o e d) λz=>(T b z).elim d λq=>Ak q e⟩
def RepV(cv:Nat->Value)(h:Heap)(D:Addr->Prop)(a:AV)(v:Value):Prop:=match a with
 |.none=>v=.none
 |.bool b=>v=.bool b
 |.int i=>∃t,v=.int i t
 |.str s=>∃t,v=.str s t
 |.tup l=>∃a vs n,v=.ref a/\h.get? a=some (Bz (aB vs) n)/\¬D a/\RepL cv h D l vs
 |.list l=>∃a vs n,v=.ref a/\h.get? a=some (AE (aB vs) n)/\¬D a/\RepL cv h D l vs
 |.dict l=>∃a es n,v=.ref a/\h.get? a=some (AW (aB es) n)/\¬D a/\(a == cI)=false/\(l.map (·.1)).Nodup/\RepD cv h D l es
 |.inst fs=>∃a dx es n,v=.ref a/\h.get? a=some (Dp (cv B4) dx)/\(∃C,cv B4=.ref C)/\h.get? dx=some (AW (aB es) n)/\¬D a/\¬D dx/\RepF cv h D fs es
 |.loc a _=>v=.ref a
 |.exc c=>∃a o,v=.ref a/\h.get? a=some o/\o.cls=cv c/\((∃vs,o.data=.fields vs)/\o.dict=aa)/\¬D a/\(∃C,cv c=.ref C)
 |.range a b c=>∃r t u w,v=.ref r/\h.get? r=some (H8 a b c t u w)/\¬D r
 |.cls c=>v=cv c
 |.nums l=>∃a o vs n,v=.ref a/\h.get? a=some o/\o.cls=.type "list"/\o.data=.seq (aB vs) n/\¬D a/\(vs.length=l.length/\∀(i:Nat)(x:Int),l[i]?=some x->∃t,vs[i]?=some (.int x t))
theorem Rep.inv(r:Rep cv h D a v):RepV cv h D a v:=by
 induction r using Rep.casesOn with|none=>rfl|bool b=>rfl|int i t=>exact⟨t,rfl⟩|str s t=>exact⟨t,rfl⟩|tup a b c=>exact⟨_,_,_,rfl,a,b,c⟩|list a b c=>exact⟨_,_,_,rfl,a,b,c⟩|dict a b c d e=>exact⟨_,_,_,rfl,a,b,c,d,e⟩|inst a b c d e f=>exact⟨_,_,_,_,rfl,a,b,c,d,e,f⟩|loc a i=>rfl|exc a b c d e=>exact⟨_,_,rfl,a,b,c,d,e⟩|range a b=>exact⟨_,_,_,_,rfl,a,b⟩|cls c=>rfl|nums a b c d e=>exact⟨_,_,_,_,rfl,a,b,c,d,e⟩
def RepLV(cv:Nat->Value)(h:Heap)(D:Addr->Prop)(l:List AV)(vs:List Value):Prop:=match l with
 |[]=>vs=[]
 |x::l=>∃v r,vs=v::r/\Rep cv h D x v/\RepL cv h D l r
theorem RepL.inv(r:RepL cv h D l vs):RepLV cv h D l vs:=by
 induction r using RepL.casesOn with|nil=>rfl|cons a b=>exact⟨_,_,rfl,a,b⟩
def RepDV(cv:Nat->Value)(h:Heap)(D:Addr->Prop)(l:List (Al×AV))(es:List bR):Prop:=match l with
 |[]=>es=[]
 |p::l=>∃t tx ty n v r,es=⟨Bc p.1,.ref t,v⟩::r/\h.get? t=some (Bz #[.int p.1.1 tx,.int p.1.2 ty] n)/\¬D t/\Rep cv h D p.2 v/\RepD cv h D l r
theorem RepD.inv(r:RepD cv h D l es):RepDV cv h D l es:=by
 induction r using RepD.casesOn with|nil=>rfl|cons a b c d=>exact⟨_,_,_,_,_,_,rfl,a,b,c,d⟩
def RepFV(cv:Nat->Value)(h:Heap)(D:Addr->Prop)(l:List (Str×AV))(es:List bR):Prop:=match l with
 |[]=>es=[]
 |p::l=>∃hsh t v r,es=⟨hsh,.str p.1 t,v⟩::r/\Rep cv h D p.2 v/\RepF cv h D l r
theorem RepF.inv(r:RepF cv h D l es):RepFV cv h D l es:=by
 induction r using RepF.casesOn with|nil=>rfl|cons a b=>exact⟨_,_,_,_,rfl,a,b⟩
def Dl(o:Obj):Prop:=(∃T,o.cls=.type T/\T ≠ "frame"/\T ≠ "range")/\∃vs,o.data=.fields vs
theorem CM(y:∀vs,o.data≠.fields vs):¬Dl o:=λq=>q.2.elim y
theorem Ck:¬Dl (Bz vs n):=CM λZ h=>by exact nDf rfl h
theorem IA:¬Dl (AE vs n):=CM λZ h=>by exact nDf rfl h
theorem DG:¬Dl (AW vs n):=CM λZ h=>by exact nDf rfl h
theorem IB:¬Dl (Dp C dx):=CM λZ h=>by exact nDf rfl h
theorem Iy:¬Dl (H8 a b c t u v):=λq=>by
 obtain⟨⟨T,z,_,O⟩,_⟩:=q;exact O (Value.type.inj z).symm
theorem IC(c:o.cls=v)(n:∃C,v=.ref C):¬Dl o:=λq=>by
 obtain⟨⟨T,z,_⟩,_⟩:=q;refine X1p n λC B=>?_;rw[z,B]at c;cases c
theorem Iz(f:o.data=.seq vs n):¬Dl o:=CM λZ h=>by rw[f]at h;exact nDf rfl h
section
variable {D D':Addr->Prop}{h h':Heap}(k:∀b o,h.get? b=some o->¬Dl o->¬D b->h'.get? b=some o/\¬D' b)
include k
theorem Rep.turn(r:Rep cv h D av v):Rep cv h' D' av v :=
 Rep.rec (motive_1:=λa v Z=>Rep cv h' D' a v) (motive_2:=λl vs Z=>RepL cv h' D' l vs) (motive_3:=λl es Z=>RepD cv h' D' l es) (motive_4:=λl es Z=>RepF cv h' D' l es)
  .none .bool .int .str (λe d Z r=>.tup (k _ _ e Ck d).1 (k _ _ e Ck d).2 r) (λe d Z r=>.list (k _ _ e IA d).1 (k _ _ e IA d).2 r) (λe d u n Z r=>.dict (k _ _ e DG d).1 (k _ _ e DG d).2 u n r)
  (λe nf f d U Z r=>.inst (k _ _ e IB d).1 nf (k _ _ f DG U).1 (k _ _ e IB d).2 (k _ _ f DG U).2 r) .loc (λe c f d n=>.exc (k _ _ e (IC c n) d).1 c f (k _ _ e (IC c n) d).2 n)
  (λe d=>.range (k _ _ e Iy d).1 (k _ _ e Iy d).2) .cls (λe c f d r=>.nums (k _ _ e (Iz f) d).1 c f (k _ _ e (Iz f) d).2 r)
  .nil (λZ Z r rs=>.cons r rs) .nil (λe d Z Z r rs=>.cons (k _ _ e Ck d).1 (k _ _ e Ck d).2 r rs) .nil (λZ Z r rs=>.cons r rs) r
theorem RepL.turn(r:RepL cv h D av v):RepL cv h' D' av v:=by
 induction av generalizing v with|nil=>rw[show v=[] from r.inv];exact .nil|cons x l y=>refine X2ppp r.inv λu z e a b=>?_;rw[e];exact .cons (a.turn k) (y b)
theorem RepD.turn(r:RepD cv h D av v):RepD cv h' D' av v:=by
 induction av generalizing v with|nil=>rw[show v=[] from r.inv];exact .nil|cons x l y=>refine X6ppppp r.inv λt B T n u z e a b c d=>?_;rw[e];exact .cons (k _ _ a Ck b).1 (k _ _ a Ck b).2 (c.turn k) (y d)
theorem RepF.turn(r:RepF cv h D av v):RepF cv h' D' av v:=by
 induction av generalizing v with|nil=>rw[show v=[] from r.inv];exact .nil|cons x l y=>refine X4ppp r.inv λt u z d e a b=>?_;rw[e];exact .cons (a.turn k) (y b)
end
theorem Ext.turn{D D':Addr->Prop}{h h':Heap}(x:Ext D h h')(T:∀b,D' b->D b\/h.get? b=aa)(b:Addr)(o:Obj)(e:h.get? b=some o)(Z:¬Dl o)(d:¬D b):h'.get? b=some o/\¬D' b :=
 ⟨x.obj b o e d,λq=>(T b q).elim d λq=>Ak q e⟩
theorem Rep.ext(x:Ext D h h')(T:∀b,D' b->D b\/h.get? b=aa)(r:Rep cv h D av v):Rep cv h' D' av v:=r.turn (x.turn T)
theorem RepL.ext(x:Ext D h h')(T:∀b,D' b->D b\/h.get? b=aa)(r:RepL cv h D av v):RepL cv h' D' av v:=r.turn (x.turn T)
theorem RepD.ext(x:Ext D h h')(T:∀b,D' b->D b\/h.get? b=aa)(r:RepD cv h D av v):RepD cv h' D' av v:=r.turn (x.turn T)
theorem RepF.ext(x:Ext D h h')(T:∀b,D' b->D b\/h.get? b=aa)(r:RepF cv h D av v):RepF cv h' D' av v:=r.turn (x.turn T)
inductive M5(cv:Nat->Value)(h:Heap)(D:Addr->Prop):L4->Addr->Prop
 |list {l:List AV}{a:Addr}{vs:List Value}{n:Nat}:h.get? a=some (AE vs.toArray n)->RepL cv h D l vs->M5 cv h D (.list l) a
 |dict {l:List (Al×AV)}{a:Addr}{es:List bR}{n:Nat}:h.get? a=some (AW es.toArray n)->(a == cI)=false->(l.map (·.1)).Nodup->RepD cv h D l es->M5 cv h D (.dict l) a
 |inst {dx a:Addr}:h.get? a=some (Dp (cv B4) dx)->(∃C,cv B4=.ref C)->M5 cv h D (.inst dx) a
 |attrs {fs:List (Str×AV)}{a:Addr}{es:List bR}{n:Nat}:h.get? a=some (AW es.toArray n)->RepF cv h D fs es->M5 cv h D (.attrs fs) a
def RepOV(cv:Nat->Value)(h:Heap)(D:Addr->Prop)(o:L4)(a:Addr):Prop:=match o with
 |.list l=>∃vs n,h.get? a=some (AE (aB vs) n)/\RepL cv h D l vs
 |.dict l=>∃es n,h.get? a=some (AW (aB es) n)/\(a == cI)=false/\(l.map (·.1)).Nodup/\RepD cv h D l es
 |.inst dx=>h.get? a=some (Dp (cv B4) dx)/\(∃C,cv B4=.ref C)
 |.attrs fs=>∃es n,h.get? a=some (AW (aB es) n)/\RepF cv h D fs es
theorem M5.inv(r:M5 cv h D o a):RepOV cv h D o a:=by
 induction r with|list a b=>exact⟨_,_,a,b⟩|dict a b c d=>exact⟨_,_,a,b,c,d⟩|inst a b=>exact⟨a,b⟩|attrs a b=>exact⟨_,_,a,b⟩
theorem M5.there(r:M5 cv h D o a):∃ob,h.get? a=some ob/\ob.cls≠.type "frame":=by
 induction r with|list e _=>exact⟨_,e,by show Value.type "list"≠.type "frame";decide⟩|dict e _ _ _=>exact⟨_,e,by show Value.type "dict"≠.type "frame";decide⟩|inst e nf=>exact⟨_,e,by refine X1p nf λC q=>?_;show cv B4≠_;rw[q];exact nofun⟩|attrs e _=>exact⟨_,e,by show Value.type "dict"≠.type "frame";decide⟩
structure Sta where
 prog:dB
 w:World
 cv:Nat->Value
 g:Heap
 K:W.Frag
 X:K.In g
 gens:Array GenState
 drawn:Drawn
 os:OsState
 mg:Str->Option Value
 mb:Str->Option Value
 ng:g.Ns bV mg
 nb:g.Ns builtinsNs mb
 lim:g.NoLimit
 sm:∃o,g.get? cI=some o
 hx:Option Addr
 hxo:∀x,hx=some x->∃o vs,g.get? x=some o/\o.data=.fields vs/\vs[2]?=some bA
theorem Ext.mono(x:Ext D h h')(k:∀a,D a->D' a):Ext D' h h':=⟨λb o e d=>x.obj b o e λq=>d (k b q)⟩
def DN(N:Addr->Prop)(V:E0)(a:Addr):Prop:=Dom V a\/N a
def Own(env:Env)(a:Addr):Prop:=a=env.locals\/∃x,env.cells.lookup x=some a
abbrev LocAt(cv:Nat->Value)(h:Heap)(D:Addr->Prop)(mc cm:Str->Option Value)(cells:List (Str×Addr))(k:Option c7)(x:Str)(av:AV):Prop:=match k with
 |some .local=>∃v,mc x=some v/\Rep cv h D av v
 |some .cell|some .free=>∃v c,cells.lookup x=some c/\cm x=some v/\Rep cv h D av v
 |_=>True
theorem LocAt.map(l:LocAt cv h D mc cm cells k x av)(r:∀{v},Rep cv h D av v->Rep cv h' D' av v)(Y:∀v,mc x=some v->mc' x=some v)(z:∀v,cm x=some v->cm' x=some v):LocAt cv h' D' mc' cm' cells k x av:=by
 cases k with
 |none=>exact trivial
 |some k =>
  cases k with|«local»=>refine X1pp l λv a b=>?_;exact⟨v,Y v a,r b⟩|cell=>refine X2ppp l λv c a b d=>?_;exact⟨v,c,a,z v b,r d⟩|free=>refine X2ppp l λv c a b d=>?_;exact⟨v,c,a,z v b,r d⟩|_=>exact trivial
inductive Loc(cv:Nat->Value)(g:Heap)(tb:List Nat)(env:Env)(m:Nat->Option AV)(N:Addr->Prop)(V:E0)(h:Heap):Prop
 |mk (mc cm:Str->Option Value) (ns:h.Ns env.locals mc) (cell:∀x c,env.cells.lookup x=some c->h.IsCell c (cm x)) (own:∀a,Own env a->¬Dom V a/\g.get? a=aa)
  (apart:∀x y c,env.cells.lookup x=some c->env.cells.lookup y=some c->x=y) (cl:∀x c,env.cells.lookup x=some c->c≠env.locals)
  (names:∀x i av,ixS tb x=some i->m i=some av->LocAt cv h (DN N V) mc cm env.cells (env.kindOf x) x av):Loc cv g tb env m N V h
structure H2(P O:Addr->Prop)(V:E0)(s:ag)(V':E0)(s':ag):Prop where
 ext:Ext (λa=>Dom V a\/O a\/P a) s.heap s'.heap
 frm:∀b o,s.heap.get? b=some o->P b->¬O b->¬Dom V b->∃o',s'.heap.get? b=some o'/\o'.cls=o.cls/\o'.data=o.data/\o'.dict=o.dict
 dom:∀b,Dom V' b->Dom V b\/s.heap.get? b=aa
 there:∀b o,s.heap.get? b=some o->∃o',s'.heap.get? b=some o'
abbrev noO:Addr->Prop:=λZ=>False
theorem H2.there'(x:H2 P O V s V' s')(e:s.heap.get? b=some o)(d:¬Dom V b)(U:¬O b):∃o',s'.heap.get? b=some o'/\o'.cls=o.cls/\o'.data=o.data/\o'.dict=o.dict:=by
 by_cases f:P b
 .exact x.frm b o e f U d
 .exact⟨o,x.ext.obj b o e λq=>q.elim d λq=>q.elim U f,rfl,rfl,rfl⟩
theorem H2.of_keeps(k:∀b o,s.heap.get? b=some o->s'.heap.get? b=some o)(d:∀b,Dom V' b->Dom V b\/s.heap.get? b=aa):H2 P O V s V' s' :=
 ⟨Ext.of_keeps k,λb o e Z Z Z=>⟨o,k b o e,rfl,rfl,rfl⟩,d,λb o e=>⟨o,k b o e⟩⟩
theorem H2.of_but(k:∀b o,¬Dom V b->¬O b->s.heap.get? b=some o->s'.heap.get? b=some o)(d:∀b,Dom V' b->Dom V b\/s.heap.get? b=aa)
  (t:∀b o,s.heap.get? b=some o->∃o',s'.heap.get? b=some o'):H2 P O V s V' s' :=
 ⟨Ext.of_but λb o q e=>k b o (λz=>q (.inl z)) (λz=>q (.inr (.inl z))) e,λb o e Z n dd=>⟨o,k b o dd n e,rfl,rfl,rfl⟩,d,t⟩
theorem H2.over(z:H2 P O AJ Aj V s)(k:∀a,(∃o,Aj.heap.get? a=some o)->∀o,s.heap.get? a=some o->s'.heap.get? a=some o):H2 P O AJ Aj V s' :=
 ⟨⟨λa o e d=>k a ⟨o,e⟩ o (z.ext.obj a o e d)⟩,λa o e d f g=>by
  exact X1pp (z.frm a o e d f g) λu y r=>⟨u,k a ⟨o,e⟩ u y,r⟩,z.dom,λa o e=>by
  exact X1p (z.there a o e) λu y=>⟨u,k a ⟨o,e⟩ u y⟩⟩
theorem H2.refl(P O:Addr->Prop)(V:E0)(s:ag):H2 P O V s V s:=H2.of_keeps (λZ Z e=>e) λZ h=>.inl h
theorem H2.toks(P O:Addr->Prop)(V:E0)(s:ag)(t:Nat):H2 P O V s V { s with toks:=t }:=H2.of_keeps (λZ Z e=>e) λZ h=>.inl h
theorem H2.new(x:H2 P O V s Aa Ad)(e:Ad.heap.get? b=aa):s.heap.get? b=aa:=by
 cases q:s.heap.get? b with|none=>rfl|some o=>refine X1p (x.there b o q) λu y=>?_;rw[e]at y;exact nS y
theorem H2.ndom(x:H2 P O V s Aa Ad)(e:s.heap.get? b=some o)(d:¬Dom V b):¬Dom Aa b:=λq=>(x.dom b q).elim d λz=>Ak z e
theorem H2.trans(x:H2 P O V s Aa Ad)(y:H2 P O Aa Ad Ab Ai):H2 P O V s Ab Ai :=
 ⟨x.ext.trans y.ext λb h=>h.elim (λh=>(x.dom b h).imp .inl id) λh=>.inl (.inr h),λb o e n ho d=>by
   exact X1pppp (x.frm b o e n ho d) λu z c' d' i'=>X1pppp (y.frm b u z n ho (x.ndom e d)) λT U c'' B Y=>⟨T,U,c''.trans c',B.trans d',Y.trans i'⟩,
  λb h=>(y.dom b h).elim (x.dom b) λq=>.inr (x.new q),
  λb o e=>by refine X1p (x.there b o e) λu z=>?_;exact y.there b u z⟩
theorem H2.mono(x:H2 P O V s Aa Ad)(k:∀a,O a->O' a):H2 P O' V s Aa Ad :=
 ⟨x.ext.mono λa h=>h.imp id λh=>h.imp (k a) id,λb o e n U d=>x.frm b o e n (λq=>U (k b q)) d,x.dom,x.there⟩
theorem H2.wide(x:H2 P O V s Aa Ad)(k:∀a,P a->P' a):H2 P' O V s Aa Ad :=
 ⟨x.ext.mono λa h=>h.imp id λh=>h.imp id (k a),λb o e Z U d=>x.there' e d U,x.dom,x.there⟩
theorem H2.narrow(x:H2 P' O V s Aa Ad)(k:∀a,P' a->P a\/s.heap.get? a=aa):H2 P O V s Aa Ad :=
 ⟨⟨λb o e d=>x.ext.obj b o e λq=>q.elim (λq=>d (.inl q)) λq=>q.elim (λq=>d (.inr (.inl q))) λq=>(k b q).elim (λq=>d (.inr (.inr q))) λq=>Ak q e⟩,λb o e Z U d=>x.there' e d U,x.dom,x.there⟩
theorem H2.out(x:H2 P noO V s Aa Ad)(y:H2 P O Aa Ad Ab Ai)(hO:∀a,O a->s.heap.get? a=aa):H2 P noO V s Ab Ai :=
 ⟨x.ext.trans y.ext λb h=>h.elim (λh=>(x.dom b h).imp .inl id) λh=>h.elim (λh=>.inr (hO b h)) λh=>.inl (.inr (.inr h)),λb o e n Z d=>by
   refine X1pppp (x.frm b o e n id d) λo' B c' d' i'=>?_;obtain⟨T,U,z,u,Y⟩:=y.there' B (x.ndom e d) λq=>by rw[hO b q]at e;exact nS e
   exact⟨T,U,z.trans c',u.trans d',Y.trans i'⟩,
  λb h=>(y.dom b h).elim (x.dom b) λq=>.inr (x.new q),
  λb o e=>by refine X1p (x.there b o e) λo' B=>?_;exact y.there b o' B⟩
theorem Rep.step(x:H2 P O V s V' s')(y:∀a,O a->N a)(d:∀a,P a->N a)(r:Rep cv s.heap (DN N V) av v):Rep cv s'.heap (DN N V') av v :=
 r.ext (x.ext.mono λa h=>h.imp id λh=>h.elim (y a) (d a)) λb h=>h.elim (λh=>(x.dom b h).imp .inl id) λh=>.inl (.inr h)
theorem RepL.step(x:H2 P O V s V' s')(y:∀a,O a->N a)(d:∀a,P a->N a)(r:RepL cv s.heap (DN N V) av v):RepL cv s'.heap (DN N V') av v :=
 r.ext (x.ext.mono λa h=>h.imp id λh=>h.elim (y a) (d a)) λb h=>h.elim (λh=>(x.dom b h).imp .inl id) λh=>.inl (.inr h)
theorem RepD.step(x:H2 P O V s V' s')(y:∀a,O a->N a)(d:∀a,P a->N a)(r:RepD cv s.heap (DN N V) av v):RepD cv s'.heap (DN N V') av v :=
 r.ext (x.ext.mono λa h=>h.imp id λh=>h.elim (y a) (d a)) λb h=>h.elim (λh=>(x.dom b h).imp .inl id) λh=>.inl (.inr h)
theorem Rep.less(r:Rep cv h D av v)(k:∀a,D' a->D a):Rep cv h D' av v:=r.ext (Ext.refl _ _) λb h=>.inl (k b h)
theorem RepL.less(r:RepL cv h D av v)(k:∀a,D' a->D a):RepL cv h D' av v:=r.ext (Ext.refl _ _) λb h=>.inl (k b h)
structure Inv(S:Sta)(N:Addr->Prop)(V:E0)(s:ag):Prop where
 keep:∀b o,S.g.get? b=some o->s.heap.get? b=some o
 gens:s.gens=S.gens
 drawn:s.drawn=S.drawn
 os:s.os=S.os
 σg:∀a,Dom V a->S.g.get? a=aa
 σN:∀a,Dom V a->¬N a
 Nin:∀a,N a->∃o,s.heap.get? a=some o/\∀vs,o.data≠.fields vs
 rep:∀a o,V a=some o->M5 S.cv s.heap (DN N V) o a
structure St(S:Sta)(tb:List Nat)(env:Env)(N P:Addr->Prop)(b:E0×ag)(m:Nat->Option AV)(V:E0)(s:ag):Prop where
 inv:Inv S N V s
 loc:Loc S.cv S.g tb env m N V s.heap
 frm:H2 P noO b.1 b.2 V s
 pN:∀a,P a->N a
 new:∀a,Own env a->b.2.heap.get? a=aa
 own:∀a,Own env a->N a
 gb:∀a,b.2.heap.get? a=aa->S.g.get? a=aa
end
section
noncomputable section
abbrev Nms:=List (Str×c7)
structure IsV(tb:List Nat)(sc:Nms)(x:Str)(i:Nat):Prop where
 ok:okName x=true
 kind:sc.lookup x=some .local\/sc.lookup x=some .cell\/sc.lookup x=some .free
 ix:ixS tb x=some i
structure IsG(sc:Nms)(x:Str)(i:Nat):Prop where
 ok:okName x=true
 kind:sc.lookup x=some .globalImplicit
 ix:ixS GT x=some i
def CO(C:aV->Prop)(pe:Option aV)(e:E):Prop:=(pe=aa/\e=.none)\/∃x,pe=some x/\C x
mutual
noncomputable def E.st:E->E
 |.tup es=>.tup (E.stL es)
 |.list es=>.list (E.stL es)
 |.dict ks vs=>.dict (E.stL ks) (E.stL vs)
 |.bin op l r=>.bin op l.st r.st
 |.neg x=>.neg x.st
 |.not x=>.not x.st
 |.and es=>.and (E.stL es)
 |.or es=>.or (E.stL es)
 |.cmp op l r=>.cmp op l.st r.st
 |.cmp2 o1 o2 a b c=>.cmp2 o1 o2 a.st b.st c.st
 |.ite c a b=>.ite c.st a.st b.st
 |.sub o i=>.sub o.st i.st
 |.slice o lo hi st=>.slice o.st lo.st hi.st st.st
 |.call f args=>.call f (E.stL args)
 |.sorted x f=>.sorted x.st f.st
 |.meth o n args=>.meth o.st n (E.stL args)
 |.comp elt x src cs=>.comp elt.st x src.st (E.stL cs)
 |.mu _ e=>e.st
 |e=>e
noncomputable def E.stL:List E->List E
 |[]=>[]
 |e::r=>e.st::E.stL r
end
mutual
noncomputable def stS:Internal.S->Internal.S
 |.assign p e=>.assign p e.st
 |.setattr o n e=>.setattr o.st n e.st
 |.setitem o i e=>.setitem o.st i.st e.st
 |.expr e=>.expr e.st
 |.ret e=>.ret e.st
 |.ite c a b=>.ite c.st (G5 a) (G5 b)
 |.for_ p e body=>.for_ p e.st (G5 body)
 |.while_ c body=>.while_ c.st (G5 body)
 |.raise e=>.raise e.st
 |.try_ b c x h=>.try_ (G5 b) c.st x (G5 h)
 |.pass=>.pass
noncomputable def G5:List Internal.S->List Internal.S
 |[]=>[]
 |s::r=>stS s::G5 r
end
noncomputable def Bo:aV->Nat
 |.ListComp ..=>1
 |.SetComp ..=>1
 |.DictComp ..=>1
 |.Tuple ..=>2
 |.UnaryOp op _ _=>(match op with
  |.Not=>3
  |_=>0)
 |.BoolOp ..=>3
 |.Compare ..=>3
 |.IfExp ..=>3
 |_=>0
noncomputable def kd:E->Nat
 |.comp ..=>1
 |.tup ..=>2
 |.not ..=>3
 |.and ..=>3
 |.or ..=>3
 |.cmp ..=>3
 |.cmp2 ..=>3
 |.ite ..=>3
 |.mu _ e=>kd e
 |_=>0
mutual
def CEb(tb:List Nat):Nms->aV->E->Prop
 |sc,pe,.none=>∃k p,pe=.Constant .none k p
 |sc,pe,.bool b=>∃k p,pe=.Constant (.bool b) k p
 |sc,pe,.int i=>∃k p,pe=.Constant (.int i) k p
 |sc,pe,.str s=>∃k p,pe=.Constant (.str s) k p
 |sc,pe,.v i=>∃x p,pe=.Name x p/\IsV tb sc x i
 |sc,pe,.g i=>∃x p,pe=.Name x p/\IsG sc x i
 |sc,pe,.tup es'=>∃es k p,pe=.Tuple es k p/\CEbs tb sc es es'
 |sc,pe,.list es'=>∃es p,pe=.List es p/\CEbs tb sc es es'
 |sc,pe,.dict ks' vs'=>∃ks vs p,pe=.Dict ks vs p/\CKbs tb sc ks ks'/\CEbs tb sc vs vs'
 |sc,pe,.bin op l' r'=>∃l r p,pe=.BinOp l op r p/\(Bo l=kd l'/\CEb tb sc l l')/\(Bo r=kd r'/\CEb tb sc r r')
 |sc,pe,.neg x'=>∃x p,pe=.UnaryOp .USub x p/\(Bo x=kd x'/\CEb tb sc x x')
 |sc,pe,.not x'=>∃x p,pe=.UnaryOp .Not x p/\(Bo x=kd x'/\CEb tb sc x x')
 |sc,pe,.and es'=>∃es p,pe=.BoolOp .And es p/\CEbs tb sc es es'
 |sc,pe,.or es'=>∃es p,pe=.BoolOp .Or es p/\CEbs tb sc es es'
 |sc,pe,.cmp op l' r'=>∃l r p,pe=.Compare l [op] [r] p/\Bf r=true/\(Bo l=kd l'/\CEb tb sc l l')/\(Bo r=kd r'/\CEb tb sc r r')
 |sc,pe,.cmp2 o1 o2 a' b' c'=>∃a b c p,pe=.Compare a [o1,o2] [b,c] p/\Bf b=true/\Bf c=true/\(Bo a=kd a'/\CEb tb sc a a')/\(Bo b=kd b'/\CEb tb sc b b')/\(Bo c=kd c'/\CEb tb sc c c')
 |sc,pe,.ite c' a' b'=>∃c a b p,pe=.IfExp c a b p/\(Bo c=kd c'/\CEb tb sc c c')/\(Bo a=kd a'/\CEb tb sc a a')/\(Bo b=kd b'/\CEb tb sc b b')
 |sc,pe,.slice o' lo' hi' st'=>∃o lo hi st p q,pe=.Subscript o (.Slice lo hi st q) p/\(Bo o=kd o'/\CEb tb sc o o')/\CO (λx=>(Bo x=kd lo'/\CEb tb sc x lo')) lo lo'/\CO (λx=>(Bo x=kd hi'/\CEb tb sc x hi')) hi hi'/\CO (λx=>(Bo x=kd st'/\CEb tb sc x st')) st st'
 |sc,pe,.sub o' i'=>∃o i p,pe=.Subscript o i p/\BP i=true/\(Bo o=kd o'/\CEb tb sc o o')/\(Bo i=kd i'/\CEb tb sc i i')
 |sc,pe,.attr (.v i) k=>∃x q a p,pe=.Attribute (.Name x q) a p/\IsV tb sc x i/\ixS AT a=some k
 |sc,pe,.attr _ _=>False
 |sc,pe,.meth o' k args'=>∃o a ap args p,pe=.Call (.Attribute o a ap) args [] p/\DC o=true/\ap.endLine=p.line/\args.length<29/\(Bo o=kd o'/\CEb tb sc o o')/\ixS AT a=some k/\CEbs tb sc args args'
 |sc,pe,.call (.g i) args'=>∃x q args p,pe=.Call (.Name x q) args [] p/\args.length<29/\IsG sc x i/\CEbs tb sc args args'
 |sc,pe,.call _ _=>False
 |sc,pe,.sorted a' f'=>∃a f kp p q,∃x key:Str,pe=.Call (.Name x q) [a] [⟨some key,f,kp⟩] p/\x = "sorted"/\key = "key"/\sc.lookup x=some .globalImplicit/\Be a=true/\(Bo a=kd a'/\CEb tb sc a a')/\(Bo f=kd f'/\CEb tb sc f f')
 |sc,pe,.comp elt' i src' cs'=>∃elt x xp src cs scope p,pe=.ListComp elt [⟨.Name x xp,src,cs,0⟩] scope p/\scope.kind=.function/\(scope.names.lookup x=some .local\/scope.names.lookup x=some .cell)/\Bf src=true /\
   okName x=true/\(∀q∈scope.names,DR tb sc x q=true/\scope.names.lookup q.1=some q.2)/\(Bo src=kd src'/\CEb tb sc src src')/\ixS tb x=some i/\CEbs tb (relab sc scope.names) cs cs'/\(Bo elt=kd elt'/\CEb tb (relab sc scope.names) elt elt')
 |_,_,.mu _ _=>False
def CEbs(tb:List Nat):Nms->List aV->List E->Prop
 |_,pe,[]=>pe=[]
 |sc,pe,e'::r'=>∃e r,pe=e::r/\Be e=true/\(Bo e=kd e'/\CEb tb sc e e')/\CEbs tb sc r r'
def CKbs(tb:List Nat):Nms->List (Option aV)->List E->Prop
 |_,pe,[]=>pe=[]
 |sc,pe,e'::r'=>∃e r,pe=some e::r/\(Bo e=kd e'/\CEb tb sc e e')/\CKbs tb sc r r'
end
def CEU(tb:List Nat)(sc:Nms)(pe:aV)(e:E):Prop:=Bo pe=kd e/\CEb tb sc pe e
theorem CEU.none:CEU tb sc (.Constant .none k p) .none:=⟨rfl,_,_,rfl⟩
theorem CEU.bool:CEU tb sc (.Constant (.bool b) k p) (.bool b):=⟨rfl,_,_,rfl⟩
theorem CEU.int:CEU tb sc (.Constant (.int i) k p) (.int i):=⟨rfl,_,_,rfl⟩
theorem CEU.str:CEU tb sc (.Constant (.str s) k p) (.str s):=⟨rfl,_,_,rfl⟩
theorem CEU.v(u:IsV tb sc x i):CEU tb sc (.Name x p) (.v i):=⟨rfl,_,_,rfl,u⟩
theorem CEU.g(u:IsG sc x i):CEU tb sc (.Name x p) (.g i):=⟨rfl,_,_,rfl,u⟩
theorem CEU.tup(u:CEbs tb sc es es'):CEU tb sc (.Tuple es k p) (.tup es'):=⟨rfl,_,_,_,rfl,u⟩
theorem CEU.list(u:CEbs tb sc es es'):CEU tb sc (.List es p) (.list es'):=⟨rfl,_,_,rfl,u⟩
theorem CEU.dict(u:CKbs tb sc ks ks')(a1:CEbs tb sc vs vs'):CEU tb sc (.Dict ks vs p) (.dict ks' vs'):=⟨rfl,_,_,_,rfl,u,a1⟩
theorem CEU.bin(u:CEU tb sc l l')(a1:CEU tb sc r r'):CEU tb sc (.BinOp l op r p) (.bin op l' r'):=⟨rfl,_,_,_,rfl,u,a1⟩
theorem CEU.neg(u:CEU tb sc x x'):CEU tb sc (.UnaryOp .USub x p) (.neg x'):=⟨rfl,_,_,rfl,u⟩
theorem CEU.not(u:CEU tb sc x x'):CEU tb sc (.UnaryOp .Not x p) (.not x'):=⟨rfl,_,_,rfl,u⟩
theorem CEU.and(u:CEbs tb sc es es'):CEU tb sc (.BoolOp .And es p) (.and es'):=⟨rfl,_,_,rfl,u⟩
theorem CEU.or(u:CEbs tb sc es es'):CEU tb sc (.BoolOp .Or es p) (.or es'):=⟨rfl,_,_,rfl,u⟩
theorem CEU.cmp(u:Bf r=true)(a1:CEU tb sc l l')(z:CEU tb sc r r'):CEU tb sc (.Compare l [op] [r] p) (.cmp op l' r'):=⟨rfl,_,_,_,rfl,u,a1,z⟩
theorem CEU.cmp2(u:Bf b=true)(a1:Bf c=true)(z:CEU tb sc a a')(B:CEU tb sc b b')(a4:CEU tb sc c c'):CEU tb sc (.Compare a [o1,o2] [b,c] p) (.cmp2 o1 o2 a' b' c'):=⟨rfl,_,_,_,_,rfl,u,a1,z,B,a4⟩
theorem CEU.ite(u:CEU tb sc c c')(a1:CEU tb sc a a')(z:CEU tb sc b b'):CEU tb sc (.IfExp c a b p) (.ite c' a' b'):=⟨rfl,_,_,_,_,rfl,u,a1,z⟩
theorem CEU.slice{sc o o' lo lo' hi hi' st st' p q}(u:CEU tb sc o o')(a1:CO (λx=>CEU tb sc x lo') lo lo')(z:CO (λx=>CEU tb sc x hi') hi hi')(B:CO (λx=>CEU tb sc x st') st st'):CEU tb sc (.Subscript o (.Slice lo hi st q) p) (.slice o' lo' hi' st'):=⟨rfl,_,_,_,_,_,_,rfl,u,a1,z,B⟩
theorem CEU.sub(u:BP i=true)(a1:CEU tb sc o o')(z:CEU tb sc i i'):CEU tb sc (.Subscript o i p) (.sub o' i'):=⟨rfl,_,_,_,rfl,u,a1,z⟩
theorem CEU.attr(u:IsV tb sc x i)(a1:ixS AT a=some k):CEU tb sc (.Attribute (.Name x q) a p) (.attr (.v i) k):=⟨rfl,_,_,_,_,rfl,u,a1⟩
theorem CEU.meth(u:DC o=true)(a1:ap.endLine=p.line)(z:args.length<29)(B:CEU tb sc o o')(a4:ixS AT a=some k)(T:CEbs tb sc args args'):CEU tb sc (.Call (.Attribute o a ap) args [] p) (.meth o' k args'):=⟨rfl,_,_,_,_,_,rfl,u,a1,z,B,a4,T⟩
theorem CEU.callg(u:args.length<29)(a1:IsG sc x i)(z:CEbs tb sc args args'):CEU tb sc (.Call (.Name x q) args [] p) (.call (.g i) args'):=⟨rfl,_,_,_,_,rfl,u,a1,z⟩
theorem CEU.sorted{x key:Str}(u:x = "sorted")(a1:key = "key")(z:sc.lookup x=some .globalImplicit)(B:Be a=true)(a4:CEU tb sc a a')(T:CEU tb sc f f'):CEU tb sc (.Call (.Name x q) [a] [⟨some key,f,kp⟩] p) (.sorted a' f'):=⟨rfl,_,_,_,_,_,_,_,rfl,u,a1,z,B,a4,T⟩
theorem CEU.comp(u:scope.kind=.function)(a1:(scope.names.lookup x=some .local\/scope.names.lookup x=some .cell))(z:Bf src=true)(B:okName x=true)(a4:(∀q∈scope.names,DR tb sc x q=true/\scope.names.lookup q.1=some q.2))(T:CEU tb sc src src')(U:ixS tb x=some i)(Y:CEbs tb (relab sc scope.names) cs cs')(a8:CEU tb (relab sc scope.names) elt elt'):CEU tb sc (.ListComp elt [⟨.Name x xp,src,cs,0⟩] scope p) (.comp elt' i src' cs'):=⟨rfl,_,_,_,_,_,_,_,rfl,u,a1,z,B,a4,T,U,Y,a8⟩
theorem CEbs.nil:CEbs tb sc [] []:=rfl
theorem CEbs.cons(a:Be e=true)(b:CEU tb sc e e')(c:CEbs tb sc r r'):CEbs tb sc (e::r) (e'::r'):=⟨_,_,rfl,a,b,c⟩
theorem CKbs.nil:CKbs tb sc [] []:=rfl
theorem CKbs.cons(a:CEU tb sc e e')(b:CKbs tb sc r r'):CKbs tb sc (some e::r) (e'::r'):=⟨_,_,rfl,a,b⟩
theorem CO.no:CO C aa .none:=.inl ⟨rfl,rfl⟩
theorem CO.yes(a:C e):CO C (some e) e':=.inr ⟨_,rfl,a⟩
def CE(tb:List Nat)(sc:Nms)(pe:aV)(e:E):Prop:=CEU tb sc pe e.st
def CEs(tb:List Nat)(sc:Nms)(pe:List aV)(es:List E):Prop:=CEbs tb sc pe (E.stL es)
def CKs(tb:List Nat)(sc:Nms)(pe:List (Option aV))(es:List E):Prop:=CKbs tb sc pe (E.stL es)
theorem CEs.cons(a:Be e=true)(b:CE tb sc e e')(c:CEs tb sc r r'):CEs tb sc (e::r) (e'::r'):=⟨_,_,rfl,a,b,c⟩
theorem ite_some[Decidable c](h:(if c then x else aa)=some y):c/\x=some y:=by
 by_cases q:c
 .rw[if_pos q]at h;exact⟨q,h⟩
 .rw[if_neg q]at h;exact nS h
mutual
def CP(tb:List Nat)(sc:Nms):aV->Pat->Prop
 |pe,.v i=>∃x p,pe=.Name x p/\sc.lookup x≠some .free/\IsV tb sc x i
 |pe,.tup es'=>∃es k p,pe=.Tuple es k p/\CPs tb sc es es'
def CPs(tb:List Nat)(sc:Nms):List aV->List Pat->Prop
 |pe,[]=>pe=[]
 |pe,e'::r'=>∃e r,pe=e::r/\Be e=true/\CP tb sc e e'/\CPs tb sc r r'
end
theorem CP.v(a:sc.lookup x≠some .free)(b:IsV tb sc x i):CP tb sc (.Name x p) (.v i):=⟨_,_,rfl,a,b⟩
theorem CP.tup(a:CPs tb sc es es'):CP tb sc (.Tuple es k p) (.tup es'):=⟨_,_,_,rfl,a⟩
theorem CPs.nil:CPs tb sc [] []:=rfl
theorem CPs.cons(a:Be e=true)(b:CP tb sc e e')(c:CPs tb sc r r'):CPs tb sc (e::r) (e'::r'):=⟨_,_,rfl,a,b,c⟩
mutual
def CSb(tb:List Nat)(sc:Nms):eA->S->Prop
 |ps,.setitem o' i' e'=>∃o i e p q,ps=.Assign [.Subscript o i q] e p/\BP i=true/\CEU tb sc o o'/\CEU tb sc i i'/\CEU tb sc e e'
 |ps,.setattr o' k e'=>∃o a e p q,ps=.Assign [.Attribute o a q] e p/\CEU tb sc o o'/\ixS AT a=some k/\CEU tb sc e e'
 |ps,.assign t' e'=>∃t e p,ps=.Assign [t] e p/\CP tb sc t t'/\CEU tb sc e e'
 |ps,.expr e'=>∃e p,ps=.Expr e p/\CEU tb sc e e'
 |ps,.ret e'=>∃e p,ps=.Return (some e) p/\CEU tb sc e e'
 |ps,.ite c' a' b'=>∃c a b p,ps=.If c a b p/\CEU tb sc c c'/\CSbs tb sc a a'/\CSbs tb sc b b'
 |ps,.for_ t' e' b'=>∃t e b p,ps=.For t e b [] p/\Bf e=true/\CP tb sc t t'/\CEU tb sc e e'/\CSbs tb sc b b'
 |ps,.while_ c' b'=>∃c b p,ps=.While c b [] p/\CEU tb sc c c'/\CSbs tb sc b b'
 |ps,.raise e'=>∃e p,ps=.Raise (some e) none p/\CEU tb sc e e'
 |ps,.try_ b' t' none h'=>∃b t h q p,ps=.Try b [.ExceptHandler (some t) none h q] [] [] p/\CSbs tb sc b b'/\CEU tb sc t t'/\CSbs tb sc h h'
 |ps,.try_ b' t' (some i) h'=>∃b t h q p x,ps=.Try b [.ExceptHandler (some t) (some x) h q] [] [] p/\CSbs tb sc b b'/\CEU tb sc t t'/\sc.lookup x≠some .free/\IsV tb sc x i/\CSbs tb sc h h'
 |ps,.pass=>∃p,ps=.Pass p
def CSbs(tb:List Nat)(sc:Nms):List eA->List S->Prop
 |ps,[]=>ps=[]
 |ps,e'::r'=>∃e r,ps=e::r/\CSb tb sc e e'/\CSbs tb sc r r'
end
theorem CSb.setitem(u:BP i=true)(a1:CEU tb sc o o')(z:CEU tb sc i i')(B:CEU tb sc e e'):CSb tb sc (.Assign [.Subscript o i q] e p) (.setitem o' i' e'):=⟨_,_,_,_,_,rfl,u,a1,z,B⟩
theorem CSb.setattr(u:CEU tb sc o o')(a1:ixS AT a=some k)(z:CEU tb sc e e'):CSb tb sc (.Assign [.Attribute o a q] e p) (.setattr o' k e'):=⟨_,_,_,_,_,rfl,u,a1,z⟩
theorem CSb.assign(u:CP tb sc t t')(a1:CEU tb sc e e'):CSb tb sc (.Assign [t] e p) (.assign t' e'):=⟨_,_,_,rfl,u,a1⟩
theorem CSb.expr(u:CEU tb sc e e'):CSb tb sc (.Expr e p) (.expr e'):=⟨_,_,rfl,u⟩
theorem CSb.ret(u:CEU tb sc e e'):CSb tb sc (.Return (some e) p) (.ret e'):=⟨_,_,rfl,u⟩
theorem CSb.ite(u:CEU tb sc c c')(a1:CSbs tb sc a a')(z:CSbs tb sc b b'):CSb tb sc (.If c a b p) (.ite c' a' b'):=⟨_,_,_,_,rfl,u,a1,z⟩
theorem CSb.for_(u:Bf e=true)(a1:CP tb sc t t')(z:CEU tb sc e e')(B:CSbs tb sc b b'):CSb tb sc (.For t e b [] p) (.for_ t' e' b'):=⟨_,_,_,_,rfl,u,a1,z,B⟩
theorem CSb.while_(u:CEU tb sc c c')(a1:CSbs tb sc b b'):CSb tb sc (.While c b [] p) (.while_ c' b'):=⟨_,_,_,rfl,u,a1⟩
theorem CSb.raise(u:CEU tb sc e e'):CSb tb sc (.Raise (some e) none p) (.raise e'):=⟨_,_,rfl,u⟩
theorem CSb.try0(u:CSbs tb sc b b')(a1:CEU tb sc t t')(z:CSbs tb sc h h'):CSb tb sc (.Try b [.ExceptHandler (some t) none h q] [] [] p) (.try_ b' t' none h'):=⟨_,_,_,_,_,rfl,u,a1,z⟩
theorem CSb.try1(u:CSbs tb sc b b')(a1:CEU tb sc t t')(z:sc.lookup x≠some .free)(B:IsV tb sc x i)(a4:CSbs tb sc h h'):CSb tb sc (.Try b [.ExceptHandler (some t) (some x) h q] [] [] p) (.try_ b' t' (some i) h'):=⟨_,_,_,_,_,_,rfl,u,a1,z,B,a4⟩
theorem CSb.pass:CSb tb sc (.Pass p) .pass:=⟨_,rfl⟩
theorem CSbs.nil:CSbs tb sc [] []:=rfl
theorem CSbs.cons(a:CSb tb sc e e')(b:CSbs tb sc r r'):CSbs tb sc (e::r) (e'::r'):=⟨_,_,rfl,a,b⟩
def CS(tb:List Nat)(sc:Nms)(ps:eA)(s:S):Prop:=CSb tb sc ps (stS s)
def CSs(tb:List Nat)(sc:Nms)(ps:List eA)(ss:List S):Prop:=CSbs tb sc ps (G5 ss)
theorem CE.inv(h:CE tb sc pe e):CEb tb sc pe e.st:=h.2
theorem CEU.inv(h:CEU tb sc pe e):CEb tb sc pe e:=h.2
theorem CEbs.inv(h:CEbs tb sc pe es):CEbs tb sc pe es:=h
theorem CEbs.inv_nil(h:CEbs tb sc pe []):pe=[]:=h
theorem CSbs.inv(h:CSbs tb sc ps ss):CSbs tb sc ps ss:=h
noncomputable def E.un:E->E
 |.mu _ e=>e
 |e=>e
theorem CE.un(h:CE tb sc pe e):CE tb sc pe e.un:=by
 cases e<;>exact h
theorem CEs.inv_nil(h:CEs tb sc pe []):pe=[]:=h
theorem CEs.inv(h:CEs tb sc pe (e'::r')):∃e r,pe=e::r/\Be e=true/\CE tb sc e e'/\CEs tb sc r r':=h
theorem CKs.inv(h:CKs tb sc pe es):CKbs tb sc pe (E.stL es):=h
theorem CO.inv(h:CO C pe e):(pe=aa/\e=.none)\/∃x,pe=some x/\C x:=h
theorem CP.inv(h:CP tb sc pe e):CP tb sc pe e:=h
theorem CPs.inv_nil(h:CPs tb sc pe []):pe=[]:=h
theorem CPs.inv(h:CPs tb sc pe (e'::r')):∃e r,pe=e::r/\Be e=true/\CP tb sc e e'/\CPs tb sc r r':=h
theorem CS.inv(h:CS tb sc ps s):CSb tb sc ps (stS s):=h
theorem CSs.inv_nil(h:CSs tb sc pe []):pe=[]:=h
theorem CSs.inv(h:CSs tb sc pe (e'::r')):∃e r,pe=e::r/\CS tb sc e e'/\CSs tb sc r r':=h
noncomputable def MA(tb:List Nat)(sc:Nms)(x:Str):Option ((Σ' i,IsV tb sc x i) ⊕' (Σ' i,IsG sc x i)) :=
 if ok:okName x=true then match q:sc.lookup x with
 |some .local=>match e:ixS tb x with
  |some i=>some (.inl ⟨i,ok,.inl q,e⟩)
  |none=>none
 |some .cell=>match e:ixS tb x with
  |some i=>some (.inl ⟨i,ok,.inr (.inl q),e⟩)
  |none=>none
 |some .free=>match e:ixS tb x with
  |some i=>some (.inl ⟨i,ok,.inr (.inr q),e⟩)
  |none=>none
 |some .globalImplicit=>match e:ixS GT x with
  |some i=>some (.inr ⟨i,ok,q,e⟩)
  |none=>none
 |_=>none
 else none
noncomputable def cAt(a:Str):Option {k:Nat // ixS AT a=some k}:=match ixS AT a with
 |some k=>some ⟨k,rfl⟩
 |none=>none
noncomputable def cIx(tb:List Nat)(a:Str):Option {k:Nat // ixS tb a=some k}:=match ixS tb a with
 |some k=>some ⟨k,rfl⟩
 |none=>none
noncomputable def okScope(tb:List Nat)(sc:Nms)(x:Str)(src:aV)(scope:Scope):Bool:=scope.kind == .function && ((scope.names.lookup x == some .local || scope.names.lookup x == some .cell) && (Bf src && (okName x && scope.names.all λp=>DR tb sc x p && scope.names.lookup p.1 == some p.2)))
theorem okScope.of(h:okScope tb sc x src scope=true):scope.kind=.function/\(scope.names.lookup x=some .local\/scope.names.lookup x=some .cell)/\Bf src=true/\okName x=true/\(∀q∈scope.names,DR tb sc x q=true/\scope.names.lookup q.1=some q.2):=by
 simp only[okScope,bh,beq_iff_eq,d8,cG]at h;exact h
abbrev RE(tb:List Nat):=((sc:Nms)->(pe:aV)->Option {e:E // CEU tb sc pe e})×((sc:Nms)->(pe:List aV)->Option {e:List E // CEbs tb sc pe e})×((sc:Nms)->(pe:List (Option aV))->Option {e:List E // CKbs tb sc pe e})×((sc:Nms)->(pe:Option aV)->Option {e:E // CO (λx=>CEU tb sc x e) pe e})
noncomputable def rE1(tb:List Nat)(rr:RE tb)(sc:Nms)(pe:aV):Option {e:E // CEU tb sc pe e}:=match pe with
  |.Constant c _ _=>(match c with
   |.none=>some ⟨.none,.none⟩
   |.bool b=>some ⟨.bool b,.bool⟩
   |.int i=>some ⟨.int i,.int⟩
   |.str s=>some ⟨.str s,.str⟩
   |_=>none)
  |.Name x _=>(match MA tb sc x with
   |some (.inl i)=>some ⟨.v i.1,.v i.2⟩
   |some (.inr i)=>some ⟨.g i.1,.g i.2⟩
   |none=>none)
  |.Tuple es _ _=>(rr.2.1 sc es).map λa=>⟨.tup a.1,.tup a.2⟩
  |.List es _=>(rr.2.1 sc es).map λa=>⟨.list a.1,.list a.2⟩
  |.Dict ks vs _=>(rr.2.2.1 sc ks).bind λa=>(rr.2.1 sc vs).map λb=>⟨.dict a.1 b.1,.dict a.2 b.2⟩
  |.BinOp l op r _=>(rr.1 sc l).bind λa=>(rr.1 sc r).map λb=>⟨.bin op a.1 b.1,.bin a.2 b.2⟩
  |.UnaryOp op x _=>(match op with
   |.USub=>(rr.1 sc x).map λa=>⟨.neg a.1,.neg a.2⟩
   |.Not=>(rr.1 sc x).map λa=>⟨.not a.1,.not a.2⟩
   |_=>none)
  |.BoolOp op es _=>(match op with
   |.And=>(rr.2.1 sc es).map λa=>⟨.and a.1,.and a.2⟩
   |.Or=>(rr.2.1 sc es).map λa=>⟨.or a.1,.or a.2⟩)
  |.Compare l os rs _=>(match os,rs with
   |[op],[r]=>if q:Bf r=true then (rr.1 sc l).bind λa=>(rr.1 sc r).map λb=>⟨.cmp op a.1 b.1,.cmp q a.2 b.2⟩ else none
   |[o1,o2],[b,c]=>if q:Bf b=true then (if q':Bf c=true then (rr.1 sc l).bind λx=>(rr.1 sc b).bind λy=>(rr.1 sc c).map λz=>⟨.cmp2 o1 o2 x.1 y.1 z.1,.cmp2 q q' x.2 y.2 z.2⟩ else none) else none
   |_,_=>none)
  |.IfExp c a b _=>(rr.1 sc c).bind λx=>(rr.1 sc a).bind λy=>(rr.1 sc b).map λz=>⟨.ite x.1 y.1 z.1,.ite x.2 y.2 z.2⟩
  |.Subscript o i _=>(match i with
   |.Slice lo hi st _=>(rr.1 sc o).bind λx=>(rr.2.2.2 sc lo).bind λy=>(rr.2.2.2 sc hi).bind λz=>(rr.2.2.2 sc st).map λu=>⟨.slice x.1 y.1 z.1 u.1,.slice x.2 y.2 z.2 u.2⟩
   |i=>if q:BP i=true then (rr.1 sc o).bind λx=>(rr.1 sc i).map λy=>⟨.sub x.1 y.1,.sub q x.2 y.2⟩ else none)
  |.Attribute o a _=>(match o with
   |.Name x _=>(match MA tb sc x with
    |some (.inl i)=>(cAt a).map λk=>⟨.attr (.v i.1) k.1,.attr i.2 k.2⟩
    |_=>none)
   |_=>none)
  |.Call f args kw p=>(match f,kw with
   |.Attribute o a ap,[]=>if q:DC o=true then (if q':ap.endLine=p.line then (if q'':args.length<29 then (rr.1 sc o).bind λx=>(cAt a).bind λk=>(rr.2.1 sc args).map λy=>⟨.meth x.1 k.1 y.1,.meth q q' q'' x.2 k.2 y.2⟩ else none) else none) else none
   |.Name x _,[]=>if q:args.length<29 then (match MA tb sc x with
    |some (.inr i)=>(rr.2.1 sc args).map λy=>⟨.call (.g i.1) y.1,.callg q i.2 y.2⟩
    |_=>none) else none
   |.Name x _,[⟨some k,g,_⟩]=>(match args with
    |[a]=>if q:x = "sorted"/\k = "key"/\sc.lookup x=some .globalImplicit/\Be a=true then (rr.1 sc a).bind λy=>(rr.1 sc g).map λz=>⟨.sorted y.1 z.1,.sorted q.1 q.2.1 q.2.2.1 q.2.2.2 y.2 z.2⟩ else none
    |_=>none)
   |_,_=>none)
  |.ListComp elt gens scope _=>(match gens with
   |[⟨.Name x _,src,cs,0⟩]=>if q:okScope tb sc x src scope=true then
     (rr.1 sc src).bind λy=>(cIx tb x).bind λi=>(rr.2.1 (relab sc scope.names) cs).bind λz=>(rr.1 (relab sc scope.names) elt).map λu=>⟨.comp u.1 i.1 y.1 z.1,.comp (okScope.of q).1 (okScope.of q).2.1 (okScope.of q).2.2.1 (okScope.of q).2.2.2.1 (okScope.of q).2.2.2.2 y.2 i.2 z.2 u.2⟩
    else none
   |_=>none)
  |_=>none
noncomputable def rEs1(tb:List Nat)(rr:RE tb)(sc:Nms)(pe:List aV):Option {e:List E // CEbs tb sc pe e}:=match pe with
 |[]=>some ⟨[],.nil⟩
 |e::r=>if q:Be e=true then (rr.1 sc e).bind λa=>(rr.2.1 sc r).map λb=>⟨a.1::b.1,.cons q a.2 b.2⟩ else none
noncomputable def rKs1(tb:List Nat)(rr:RE tb)(sc:Nms)(pe:List (Option aV)):Option {e:List E // CKbs tb sc pe e}:=match pe with
 |[]=>some ⟨[],.nil⟩
 |e::r=>(match e with
  |some e=>(rr.1 sc e).bind λa=>(rr.2.2.1 sc r).map λb=>⟨a.1::b.1,.cons a.2 b.2⟩
  |none=>none)
noncomputable def rO1(tb:List Nat)(rr:RE tb)(sc:Nms)(pe:Option aV):Option {e:E // CO (λx=>CEU tb sc x e) pe e}:=match pe with
 |none=>some ⟨.none,.no⟩
 |some e=>(rr.1 sc e).map λa=>⟨a.1,.yes a.2⟩
noncomputable def rE(tb:List Nat)(n:Nat):RE tb:=Nat.rec (motive:=λZ=>RE tb) ⟨λZ Z=>none,λZ Z=>none,λZ Z=>none,λZ Z=>none⟩ (λZ r=>⟨rE1 tb r,rEs1 tb r,rKs1 tb r,rO1 tb r⟩) n
abbrev RP(tb:List Nat):=((sc:Nms)->(pe:aV)->Option {e:Pat // CP tb sc pe e})×((sc:Nms)->(pe:List aV)->Option {e:List Pat // CPs tb sc pe e})
noncomputable def rP1(tb:List Nat)(rr:RP tb)(sc:Nms)(pe:aV):Option {e:Pat // CP tb sc pe e}:=match pe with
  |.Name x _=>if q:sc.lookup x=some .free then none else (match MA tb sc x with
   |some (.inl i)=>some ⟨.v i.1,.v q i.2⟩
   |_=>none)
  |.Tuple es _ _=>(rr.2 sc es).map λa=>⟨.tup a.1,.tup a.2⟩
  |_=>none
noncomputable def rPs1(tb:List Nat)(rr:RP tb)(sc:Nms)(pe:List aV):Option {e:List Pat // CPs tb sc pe e}:=match pe with
 |[]=>some ⟨[],.nil⟩
 |e::r=>if q:Be e=true then (rr.1 sc e).bind λa=>(rr.2 sc r).map λb=>⟨a.1::b.1,.cons q a.2 b.2⟩ else none
noncomputable def rP(tb:List Nat)(n:Nat):RP tb:=Nat.rec (motive:=λZ=>RP tb) ⟨λZ Z=>none,λZ Z=>none⟩ (λZ r=>⟨rP1 tb r,rPs1 tb r⟩) n
abbrev RS(tb:List Nat):=((sc:Nms)->(ps:eA)->Option {s:S // CSb tb sc ps s})×((sc:Nms)->(ps:List eA)->Option {s:List S // CSbs tb sc ps s})
noncomputable def rS1(tb:List Nat)(n:Nat)(rr:RS tb)(sc:Nms)(ps:eA):Option {s:S // CSb tb sc ps s}:=match ps with
  |.Assign ts e _=>(match ts with
   |[t]=>(match t with
    |.Subscript o i _=>if q:BP i=true then ((rE tb n).1 sc o).bind λx=>((rE tb n).1 sc i).bind λy=>((rE tb n).1 sc e).map λz=>⟨.setitem x.1 y.1 z.1,.setitem q x.2 y.2 z.2⟩ else none
    |.Attribute o a _=>((rE tb n).1 sc o).bind λx=>(cAt a).bind λk=>((rE tb n).1 sc e).map λz=>⟨.setattr x.1 k.1 z.1,.setattr x.2 k.2 z.2⟩
    |t=>((rP tb n).1 sc t).bind λx=>((rE tb n).1 sc e).map λz=>⟨.assign x.1 z.1,.assign x.2 z.2⟩)
   |_=>none)
  |.Expr e _=>((rE tb n).1 sc e).map λa=>⟨.expr a.1,.expr a.2⟩
  |.Return (some e) _=>((rE tb n).1 sc e).map λa=>⟨.ret a.1,.ret a.2⟩
  |.If c a b _=>((rE tb n).1 sc c).bind λx=>(rr.2 sc a).bind λy=>(rr.2 sc b).map λz=>⟨.ite x.1 y.1 z.1,.ite x.2 y.2 z.2⟩
  |.For t e b [] _=>if q:Bf e=true then ((rP tb n).1 sc t).bind λx=>((rE tb n).1 sc e).bind λy=>(rr.2 sc b).map λz=>⟨.for_ x.1 y.1 z.1,.for_ q x.2 y.2 z.2⟩ else none
  |.While c b [] _=>((rE tb n).1 sc c).bind λx=>(rr.2 sc b).map λy=>⟨.while_ x.1 y.1,.while_ x.2 y.2⟩
  |.Raise (some e) none _=>((rE tb n).1 sc e).map λa=>⟨.raise a.1,.raise a.2⟩
  |.Try b [.ExceptHandler (some t) nm h _] [] [] _=>(rr.2 sc b).bind λx=>((rE tb n).1 sc t).bind λy=>(rr.2 sc h).bind λz=>(match nm with
   |none=>some ⟨.try_ x.1 y.1 none z.1,.try0 x.2 y.2 z.2⟩
   |some v=>if q:sc.lookup v=some .free then none else (match MA tb sc v with
    |some (.inl i)=>some ⟨.try_ x.1 y.1 (some i.1) z.1,.try1 x.2 y.2 q i.2 z.2⟩
    |_=>none))
  |.Pass _=>some ⟨.pass,.pass⟩
  |_=>none
noncomputable def rSs1(tb:List Nat)(rr:RS tb)(sc:Nms)(ps:List eA):Option {s:List S // CSbs tb sc ps s}:=match ps with
 |[]=>some ⟨[],.nil⟩
 |e::r=>(rr.1 sc e).bind λa=>(rr.2 sc r).map λb=>⟨a.1::b.1,.cons a.2 b.2⟩
noncomputable def rS(tb:List Nat)(n:Nat):RS tb:=Nat.rec (motive:=λZ=>RS tb) ⟨λZ Z=>none,λZ Z=>none⟩ (λn r=>⟨rS1 tb n r,rSs1 tb r⟩) n
noncomputable def cSs(tb:List Nat)(n:Nat):(sc:Nms)->(ps:List eA)->Option {s:List S // CSbs tb sc ps s}:=(rS tb n).2
theorem Mz(h:(cSs tb n sc pe).map (·.1)=some e):CSbs tb sc pe e:=by
 exact X1pr e (aZ.mp h) λx Z=>x.2
end
end
section
def TrY(h base:Heap)(e:Addr)(cls fl:Value):Prop :=
 ∃oe vs T oT ts,h.get? e=some oe/\oe.cls=cls/\oe.data=.fields vs/\(vs[2]?=some .none/\oe.dict=aa)/\vs[1]?=some (.ref T)/\base.get? T=aa/\T≠e/\h.get? T=some oT/\oT.data=.fields ts/\ts[3]?=some fl
structure FlyY(base:Heap)(l:List Env)(e:Addr)(cls fl:Value)(h:Heap):Prop where
 stays:base.StaysIn h
 new:base.get? e=aa
 frames:h.FunFrames base l
 tr:TrY h base e cls fl
theorem Obj.dict_mapF(o:Obj)(f:Array Value->Array Value):(cV f o).dict=o.dict:=by
 unfold cV;split<;>rfl
section
variable {M:Model}{A:cX}{E:Value->ag->Prop}{s:ag}
theorem entryY 
  (hfr:A.frames=some (env::outer)) (hl:s.heap.FunFrames base (env::outer)) (hf:env.frame=some L)
  (he:s.heap.get? e=some oe) (hkb:base.StaysIn s.heap) (hen:base.get? e=aa) (hd:oe.data=.fields vs) (h2':vs[2]?=some .none/\oe.dict=aa)
  (h:∀h',FlyY base (env::outer) e oe.cls (dI L) h'->s.heap.UpToSlots h'->Q () { s with heap:=h' }) :
  wpAny M A (do let a <- frameOf env;let u <- entryPlaceOf L hadNext;let b <- EntryCells.newEntry head a .none (dI L) .none u;setField (.ref e) 1 b) Q E s:=by
 have h2:=h2'.1;have Y:1<vs.size:=Nat.lt_of_succ_lt (eB.mp h2).1;have T:e∉(env::outer).filterMap (·.frame):=λhm=>by
  refine Aq (hl.mem hm) λZ Z0=>X1pp Z0 λo ho O=>?_;rw[he]at ho;injection ho with ho;subst ho;exact O vs hd
 refine ac (wpAny_frameOf_fun hfr hl hf λAc Af=>(ac (wpAny_entryPlaceOf λu B=>?_)));unfold EntryCells.newEntry newFields;refine ac (bL ?_ (B.sizeOk5 _ _ _ _ _));generalize htb:({ cls:=.type "traceback",dict:=aa,data:=.fields ([head,.ref L,.none,dI L,.none]++(if u.isEmpty then aH 6 bA else u)).toArray }:Obj)=tb;have tbd:tb.data=.fields ([head,.ref L,.none,dI L,.none]++(if u.isEmpty then aH 6 bA else u)).toArray:=by rw[<- htb]
 have he₁:Ac.get? e=some oe:=(Af.2.1 e T).trans he;have kb₁:base.StaysIn Ac:=λb o U=>(Af.2.1 b λhm=>by rw[(hl.mem hm).1]at U;exact nS U).trans (hkb b o U)
 have he₂:=ar (h:=Ac) tb he₁;refine fo he₂ hd Y (h _ ?_ ?_)
 all_goals
  have hTe:Ac.objs.size≠e:=eG (bf he₁);have hd₃:=d0 hd (·.setIfInBounds 1 (bX Ac.objs.size));have he₃:=bJ (cV (·.setIfInBounds 1 (bX Ac.objs.size))) he₂ (fL hd₃);have y:∀b o,b≠e->Ac.get? b=some o->((Ac.push tb).update e (cV (·.setIfInBounds 1 (bX Ac.objs.size)))).get? b=some o:=λb o hbe z=>by
   rw[dc _ _ (dC hbe)];exact ar _ z
  have d:∀b o,s.heap.get? b=some o->(∀vs,o.data≠.fields vs)->b≠e:=λb o z O q=>by
   rw[q,he]at z;injection z with z;subst z;exact O vs hd
 .refine⟨λb o U=>y b o (λq=>by rw[q,hen]at U;exact nS U) (kb₁ b o U),hen,hl.of_keeps λb o z O=>?_,?_⟩
  .exact X1p (Af.2.2 b o z) λsl hs=>⟨_,y b _ (d b o z O) hs,rfl⟩
  .have hT₃:=(dc (Ac.push tb) (cV (·.setIfInBounds 1 (bX Ac.objs.size))) (dC hTe)).trans (ay Ac (by rw[<- htb];rfl))
   refine⟨_,_,Ac.objs.size,_,_,he₃,Obj.cls_mapFields _ _,hd₃,⟨by rwa [Array.getElem?_setIfInBounds_ne (by decide)],(Obj.dict_mapF _ _).trans h2'.2⟩,by simp[Y],kb₁.fresh,hTe,hT₃,tbd,?_⟩
   first|(simp;done)|(rcases B with rfl|⟨_,_,_,_,_,_,_,rfl⟩<;>simp)
 .exact λb o z O=>X1p (Af.2.2 b o z) λsl hs=>⟨sl,y b _ (d b o z O) hs⟩
theorem JD 
  (d:A.frames=some (env::outer)) (Y:s.heap.FunFrames base (env::outer)) (O:env.frame=some L)
  (y:s.heap.get? e=some oe) (z:base.StaysIn s.heap) (u:base.get? e=aa) (B:oe.data=.fields vs) (U:vs[1]?=some .none) (T:vs[2]?=some .none/\oe.dict=aa)
  (h:∀h',FlyY base (env::outer) e oe.cls (dI L) h'->s.heap.UpToSlots h'->Q () { s with heap:=h' }):wpAny M A (noteFrame (.ref e) env) Q E s:=by
 unfold noteFrame;simp only[O];refine ac (dh y B U ?_);rw[if_neg (by decide)]
 exact entryY d Y O y z u B T h
theorem F9 
  (hfr:A.frames=some (env::outer)) (hf:env.frame=some L) (x:FlyY base (env::outer) e cls .none s.heap)
  (h:∀h',FlyY base (env::outer) e cls (dI L) h'->s.heap.UpToSlots h'->Q () { s with heap:=h' }):wpAny M A (noteFrame (.ref e) env) Q E s:=by
 obtain⟨Y,hen,hl,oe,vs,T,oT,ts,he,rfl,hd,h2,h1,B,hTe,hT,y,h3⟩:=x;unfold noteFrame;simp only[hf];refine ac (dh he hd h1 ?_);rw[if_pos (show (bX T != bA)=true from by simp)]
 refine ac (dh hT y h3 ?_);rw[if_neg (show ¬((bA == dI L)=true) from by simp[dI])]
 refine ac (fo hT y (eB.mp h3).1 ?_);have u:∀b,b≠T->(s.heap.update T (cV (·.setIfInBounds 3 bA))).get? b=s.heap.get? b:=λb z=>dc _ _ (dC z);have d:∀b o,s.heap.get? b=some o->(∀vs,o.data≠.fields vs)->b≠T:=λb o z O q=>by
  rw[q,hT]at z;injection z with z;subst z;exact O ts y
 refine entryY hfr (hl.of_keeps λb o z O=>⟨o,(u b (d b o z O)).trans z,rfl⟩) hf ((u e (dC hTe)).trans he)
  (λb o U=>(u b λq=>by rw[q,B]at U;exact nS U).trans (Y b o U)) hen hd h2
  λh' x1 x2=>h h' x1 λb o z O=>x2 b o ((u b (d b o z O)).trans z) O
theorem Fz(x:FlyY base l e cls fl s.heap)
  (h:∀h',FlyY base l e cls .none h'->s.heap.UpToSlots h'->Q () { s with heap:=h' }):wpAny M A (setFlight (.ref e) aa) Q E s:=by
 obtain⟨hkb,hen,hl,oe,vs,T,oT,ts,he,hcls,hd,h2,h1,B,hTe,hT,y,h3⟩:=x;have Y:3<ts.size:=(eB.mp h3).1;have u:∀b,b≠T->(s.heap.update T (cV (·.setIfInBounds 3 ((aa:Option Addr).elim bA λf=>dI f)))).get? b=s.heap.get? b :=
  λb z=>dc _ _ (dC z)
 have d:∀b o,s.heap.get? b=some o->(∀vs,o.data≠.fields vs)->b≠T:=λb o z O q=>by
  rw[q,hT]at z;injection z with z;subst z;exact O ts y
 unfold setFlight;refine ac (dh he hd h1 ?_);rw[if_pos (show (bX T != bA)=true from by simp)]
 refine fo hT y Y (h _ ⟨λb o U=>(u b λq=>by rw[q,B]at U;exact nS U).trans (hkb b o U),hen,
  hl.of_keeps λb o z O=>⟨o,(u b (d b o z O)).trans z,rfl⟩,?_⟩ λb o z O=>⟨o.slots,(u b (d b o z O)).trans z⟩)
 exact⟨oe,vs,T,_,_,(u e (dC hTe)).trans he,hcls,hd,h2,h1,B,hTe,bJ _ hT (fL (d0 y _)),d0 y _,by simp[Y]⟩
theorem FlyY.rest(x:FlyY base (env::outer) e cls fl h):FlyY base outer e cls fl h:=⟨x.stays,x.new,x.frames.2.2,x.tr⟩
theorem JI 
  (d:A.frames=some (env::outer)) (hf:env.frame=some L) (z:base.StaysIn h) (hl:h.FunFrames base (env::outer)) (u:Heap.MadeExcOf h s.heap e cls args)
  (hQ:∀h',FlyY base outer e cls .none h'->h.UpToSlots h'->Q () { s with heap:=h' }):wpAny M A (leaving env (.ref e)) Q E s:=by
 refine X1ppp u.there λt he T ht=>?_;have fresh:∀b,h.get? b=aa->base.get? b=aa:=λb Y=>by
  cases hq:base.get? b with|none=>rfl|some y=>have:=z b y hq;rw[Y]at this;exact nS this
 unfold leaving;exact ac (JD d (hl.of_keeps λb o Y Z=>⟨o,u.keeps b o Y,rfl⟩) hf he (λb o Y=>u.keeps b o (z b o Y)) (fresh e u.new) rfl rfl ⟨rfl,rfl⟩ λh' x1 B=>(Fz x1 λO x2 U=>hQ O x2.rest (((ip u.keeps).trans B).trans U)))
theorem Lu 
  (d:A.frames=some (env::outer)) (y:env.frame=some L) (x:FlyY base (env::outer) e cls .none s.heap)
  (z:∀h',FlyY base outer e cls .none h'->s.heap.UpToSlots h'->Q () { s with heap:=h' }):wpAny M A (leaving env (.ref e)) Q E s:=by
 unfold leaving;exact ac (F9 d y x λh' x1 B=>(Fz x1 λO x2 U=>z O x2.rest (B.trans U)))
end
end
section
theorem FD:entryFor table "proto.unchain"=some dH.«proto.unchain»:=entryFor_of_tree (by kernel_rfl)
section
variable {prog:dB}{w:World}{A:cX}{E:Value->ag->Prop}{s:ag}
theorem Jt(hh:A.handled=some (.ref x))(ne:x≠e)(U:s.heap.get? x=some o)(d:o.data=.fields vs)(z:vs[2]?=some .none)
  (y:s.heap.get? e=some oe) (Y:oe.data=.fields ws) (hz:2<ws.size) (h:E (.ref e) { s with heap:=s.heap.update e (cV (·.setIfInBounds 2 (.ref x))) }):wpAny (model prog w) A (raiseNew (.ref e):Sem α) Q E s:=by
 unfold raiseNew;refine ac (wpAny_handled ?_);rw[hh];dsimp only;have q:(bX x != bX e)=true:=by simp[ne]
 rw[if_pos q];refine ac (bo (wpAny_runValue (codeAny_builtin FD ?_)));unfold dH.«proto.unchain»;refine ac (dh U d z ?_);rw[if_pos (show ((bA == bA)=true) from by decide)]
 refine ac (ai (ai ?_));unfold updateField;refine ac (ac (wpAny_load y ?_));rw[Y];dsimp only;rw[if_pos hz];exact wpAny_update y (wpAny_throw h)
theorem KH{y left step:Int}{Q:Option Value->ag->Prop}{z:Option Addr}(hh:A.handled=z.map bX)(d:∀x,z=some x->∃o vs,s.heap.get? x=some o/\o.data=.fields vs/\vs[2]?=some bA)
  (u:hU s.heap it y left step) (Y:left<=0) (O:∀h',di it s.heap h'->Q aa { s with heap:=h' }):wpAny (model prog w) A (pyNext (.ref it)) Q E s:=by
 cases z with
 |none=>exact wpAny_pyNext_range_end hh u Y O
 |some x =>
 refine X2ppp (d x rfl) λo vs U hd h2=>?_;have B:s.TypeIs (.ref it) "range_iterator":=⟨_,u,rfl⟩;unfold pyNext
 refine ac (eN (dJ (name:=bW "__next__") B F.slot_range_iterator_next
  (dq F.slot_range_iterator_next B F.entry_range_iterator_next ?_ (F.args_range_iterator_next_1 _))))
 show wpAny _ _ (field (.ref it) 0 >>= _) _ _ s;refine ac (dh u rfl (x:=dI y) rfl ?_);show wpAny _ _ (field (.ref it) 1 >>= _) _ _ s;refine ac (dh u rfl (x:=dI left) rfl ?_);show wpAny _ _ (field (.ref it) 2 >>= _) _ _ s;refine ac (dh u rfl (x:=dI step) rfl ?_);show wpAny _ _ (if left<=0 then _ else _) _ _ s;rw[if_pos Y];refine ac (fR (ac ?_));show wpAny _ _ (newExc (.type "StopIteration") [] >>= _) _ _ _;refine ac ?_;simp only[newExc,newTuple];refine ac (bL ?_ (by size_fits))
 refine ac (m:=gB _ _) (wpAny_of_eq (a:=bA) (by first|rfl|(simp only[gB];rfl)) (bL ?_ (by size_fits)))
 have lx:x<s.heap.objs.size:=bf U;refine Jt (x:=x) (o:=o) (vs:=vs) (hh:=hh) ?_ (ar _ (ar _ U)) hd h2 (ay _ rfl) rfl (aP rfl) ?_
 .rw[cD];exact bP (cP lx)
 refine ac (fS (T := "StopIteration") (b:=true) ⟨_,bJ _ (ay _ rfl) rfl,rfl⟩ isSubtype_stop (ai (O _ λb ob ne e=>?_)));have lb:b<s.heap.objs.size:=bf e;rw[dc _ _ (by rw[cD];exact eG (cP lb))]
 exact ar _ (ar _ e)
end
end
section
open PySem PyProof.Rows
structure Room(S:Sta)(N:Addr->Prop)(k:Nat)(A:cX):Prop where
 hh:A.handled=S.hx.map bX
 fr:∃l,A.frames=some l/\∀e∈l,e.scope.kind≠.module/\∃L,e.frame=some L/\N L/\S.g.get? L=aa
 dp:A.depth+2 * k<900
 un:A.units+20 * k<9000
theorem Room.quiet{S:Sta}{N:Addr->Prop}{k:Nat}{A:cX}(r:Room S N k A)(hq:S.hx=aa):A.handled=aa:=r.hh.trans (by rw[hq];rfl)
theorem Room.wide{S:Sta}{N d:Addr->Prop}{k:Nat}{A:cX}(r:Room S N k A)(h:∀a,N a->d a):Room S d k A :=
 ⟨r.hh,(by refine X1pp r.fr λl e q=>?_;exact⟨l,e,λev y=>by refine Aq (q ev y) λO u=>?_;refine X1ppp u λL Y B z=>?_;exact⟨O,L,Y,h L B,z⟩⟩),r.dp,r.un⟩
structure Fx(S:Sta) where
 A:cX
 tb:List Nat
 env:Env
 b:E0×ag
 N:Addr->Prop
 k:Nat
 room:Room S N k A
 fk:env.scope.kind=.function
 fg:env.globals=bV
 fb:env.builtins=builtinsNs
 fc:∀x,env.kindOf x=some .cell->∃c,env.cells.lookup x=some c
variable {S:Sta}
def Frm(A:cX)(a:Addr):Prop:=∃l,A.frames=some l/\∃e∈l,e.frame=some a
abbrev Fx.P(F:Fx S):Addr->Prop:=Frm F.A
abbrev Fx.St(F:Fx S):=Internal.St S F.tb F.env F.N F.P F.b
abbrev Fx.D(F:Fx S)(V:E0):Addr->Prop:=DN F.N V
abbrev Fx.O(F:Fx S):Addr->Prop:=Own F.env
noncomputable abbrev Fx.sc(F:Fx S):Nms:=F.env.scope.names
inductive PW(F:Fx S)(m:Nat->Option AV)(V:E0)(s:ag){α:Type}(P:α->E0->ag->Prop)(a:α)(s':ag):Prop
 |mk (V':E0)(st:H2 F.P F.O V s V' s')(h:F.St m V' s')(p:P a V' s'):PW F m V s P a s'
inductive PV(F:Fx S)(Q:AV->E0->Prop)(v:Value)(V':E0)(s':ag):Prop
 |mk (av:AV)(r:Rep S.cv s'.heap (F.D V') av v)(q:Q av V'):PV F Q v V' s'
inductive PVs(F:Fx S)(Q:List AV->E0->Prop)(vs:List Value)(V':E0)(s':ag):Prop
 |mk (avs:List AV)(r:RepL S.cv s'.heap (F.D V') avs vs)(q:Q avs V'):PVs F Q vs V' s'
def W(F:Fx S)(m:Nat->Option AV)(V:E0)(s:ag){α:Type}(t:Sem α)(P:α->E0->ag->Prop)(X:Value->ag->Prop):Prop :=
 wpAny (model S.prog S.w) F.A t (PW F m V s P) X s
abbrev VT(F:Fx S)(m:Nat->Option AV)(V:E0)(s:ag)(t:Sem Value)(Q:AV->E0->Prop)(X:Value->ag->Prop):Prop :=
 W F m V s t (PV F Q) X
section
variable {F:Fx S}{m:Nat->Option AV}{V:E0}{s:ag}{α β:Type}{X:Value->ag->Prop}
theorem W.mono(h:W F m V s t P X)(k:∀a V' s',H2 F.P F.O V s V' s'->F.St m V' s'->P a V' s'->P' a V' s'):W F m V s t P' X :=
 aR h (λa s' ⟨V',st,h1,h2⟩=>⟨V',st,h1,k a V' s' st h1 h2⟩) λZ Z e=>e
theorem W.out(h:W F m V s t P X)(k:∀a V' s',H2 F.P F.O V s V' s'->F.St m V' s'->P a V' s'->Q a s'):wpAny (model S.prog S.w) F.A t Q X s :=
 aR h (λa s' ⟨V',st,h1,h2⟩=>k a V' s' st h1 h2) λZ Z e=>e
theorem W.later(h:W F m V s t P X)(st:H2 F.P F.O AJ Aj V s):wpAny (model S.prog S.w) F.A t (PW F m AJ Aj P) X s :=
 aR h (λ_ _ ⟨V',st',h1,h2⟩=>⟨V',st.trans st',h1,h2⟩) λZ Z e=>e
end
def ET(F:Fx S)(m:Nat->Option AV)(V:E0)(e:E)(Q:AV->E0->Prop)(X:Value->ag->Prop):Prop :=
 ∀pe,CE F.tb F.sc pe e->∀s,F.St m V s->VT F m V s (eval pe F.env) Q X
def TT(F:Fx S)(m:Nat->Option AV)(V:E0)(e:E)(Q:Bool->E0->Prop)(X:Value->ag->Prop):Prop :=
 ∀pe,CE F.tb F.sc pe e->∀s,F.St m V s->W F m V s (isTrue pe F.env (eval pe F.env)) (λb V' Z=>Q b V') X
def EsT(F:Fx S)(m:Nat->Option AV)(V:E0)(es:List E)(Q:List AV->E0->Prop)(X:Value->ag->Prop):Prop :=
 ∀pes pos,CEs F.tb F.sc pes es->∀s,F.St m V s ->
  W F m V s (spliced (backTo pos (fp pes F.env))) (PVs F Q) X
section
variable {tb:List Nat}{env:Env}{N P:Addr->Prop}{b:E0×ag}{m:Nat->Option AV}{V V':E0}{s s':ag}
theorem Inv.tok(x:Inv S N V s)(t:Nat):Inv S N V { s with toks:=t }:=⟨x.keep,x.gens,x.drawn,x.os,x.σg,x.σN,x.Nin,x.rep⟩
theorem St.tok(x:Internal.St S tb env N P b m V s)(t:Nat):Internal.St S tb env N P b m V { s with toks:=t }:=⟨x.inv.tok t,x.loc,⟨x.frm.ext,x.frm.frm,x.frm.dom,x.frm.there⟩,x.pN,x.new,x.own,x.gb⟩
theorem M5.ext(x:Ext D h h')(T:∀b,D' b->D b\/h.get? b=aa)(r:M5 cv h D o a)(k:∀ob,h.get? a=some ob->h'.get? a=some ob):M5 cv h' D' o a:=by
 induction r with|list e r=>exact .list (k _ e) (r.ext x T)|dict e u n r=>exact .dict (k _ e) u n (r.ext x T)|inst e n=>exact .inst (k _ e) n|attrs e r=>exact .attrs (k _ e) (r.ext x T)
theorem Inv.dom_there(x:Inv S N V s)(d:Dom V a):∃ob,s.heap.get? a=some ob:=by
 cases e:V a with|none=>exact absurd e d|some o=>refine X1pp ((x.rep a o e).there) λob h Z=>?_;exact⟨ob,h⟩
theorem Inv.not_dom(x:Inv S N V s)(e:s.heap.get? a=aa):¬Dom V a:=λd=>by refine X1p (x.dom_there d) λy h=>?_;rw[e]at h;exact nS h
theorem Inv.not_D(x:Inv S N V s)(e:s.heap.get? a=aa):¬DN N V a:=λd=>d.elim (x.not_dom e) λd=>by refine X1pp (x.Nin a d) λy h Z=>?_;rw[e]at h;exact nS h
theorem Inv.not_g(x:Inv S N V s)(e:s.heap.get? a=aa):S.g.get? a=aa:=by
 cases q:S.g.get? a with|none=>rfl|some o=>have:=x.keep a o q;rw[e]at this;exact nS this
theorem Inv.not_sm(x:Inv S N V s)(e:s.heap.get? a=aa):(a == cI)=false:=by
 cases q:a == cI with
 |false=>rfl
 |true =>
  refine X1p S.sm λo h=>?_
  have:=x.keep _ _ h
  rw[<- eq_of_beq q,e]at this;exact nS this
theorem Loc.step(l:Loc cv g tb env m N V s.heap)(x:H2 P' noO V s V' s')(hP:∀a,P' a->N a):Loc cv g tb env m N V' s'.heap:=by
 obtain⟨mc,cm,n,c,o,ap,cl,r⟩:=l;have B:∀a,Own env a->∃ob,s.heap.get? a=some ob:=by
  intro a ha
  rcases ha with rfl|⟨y,u⟩
  .refine X3pp n λob Z Z e Z=>?_;exact⟨ob,e⟩
  .refine X1pp (c y a u) λob e Z=>?_;exact⟨ob,e⟩
 have U:s'.heap.Ns env.locals mc:=by
  exact X3ppp n λob es ep e z q=>X1pppp (x.there' e (o _ (.inl rfl)).1 id) λT O Z d' Z=>⟨T,es,ep,O,d'.trans z,q⟩
 refine⟨mc,cm,U,λy cc u=>?_,λa ha=>⟨λd=>?_,(o a ha).2⟩,ap,cl,λy i av hi hm=>?_⟩
 .exact X1pp (c y cc u) λob e z=>X1pppp (x.there' e (o _ (.inr ⟨y,u⟩)).1 id) λT O Z d' Z=>⟨T,O,d'.trans z⟩
 .rcases x.dom a d with q|q
  .exact(o a ha).1 q
  .refine X1p (B a ha) λob e=>?_;rw[q]at e;exact nS e
 .exact LocAt.map (r y i av hi hm) (λh2=>h2.step x (λZ h=>h.elim) hP) (λZ Y=>Y) (λZ Y=>Y)
theorem Loc.weak(l:Loc cv g tb env m N V h)(T:∀i av,m' i=some av->m i=some av):Loc cv g tb env m' N V h:=by
 obtain⟨u,U,n,c,o,Y,cl,r⟩:=l;exact⟨u,U,n,c,o,Y,cl,λx i av hi h=>r x i av hi (T i av h)⟩
theorem St.to(x:Internal.St S tb env N P b m V s)(st:H2 P' noO V s V' s')(i:Inv S N V' s')(d:∀a,P' a->P a):Internal.St S tb env N P b m V' s':=⟨i,x.loc.step st (λa h=>x.pN a (d a h)),x.frm.trans (st.wide d),x.pN,x.new,x.own,x.gb⟩
theorem Inv.grow(x:Inv S N V s)(k:∀a o,s.heap.get? a=some o->h'.get? a=some o)(tk:Nat):Inv S N V { s with heap:=h',toks:=tk }/\H2 noO noO V s V { s with heap:=h',toks:=tk }:=by
 have st:H2 noO noO V s V { s with heap:=h',toks:=tk }:=H2.of_keeps k λZ h=>.inl h
 exact⟨⟨λa o e=>k a o (x.keep a o e),x.gens,x.drawn,x.os,x.σg,x.σN,λa h=>by refine X1pp (x.Nin a h) λo e f=>?_;exact⟨o,k a o e,f⟩,λa o e=>(x.rep a o e).ext (Ext.of_keeps k) (λZ h=>.inl h) (k a)⟩,st⟩
theorem St.grow(x:Internal.St S tb env N P b m V s)(k:∀a o,s.heap.get? a=some o->h'.get? a=some o)(tk:Nat):Internal.St S tb env N P b m V { s with heap:=h',toks:=tk }/\H2 noO noO V s V { s with heap:=h',toks:=tk }:=by
 exact Aq (x.inv.grow k tk) λi st=>⟨x.to st i (λZ h=>h.elim),st⟩
theorem A5(h:Dom (V.set a o) c):c=a\/Dom V c:=by
 by_cases e:c=a
 .exact .inl e
 .right;unfold Dom E0.set at h;rw[if_neg e]at h;exact h
theorem Inv.new(x:Inv S N V s)(k:∀a o,s.heap.get? a=some o->h'.get? a=some o)(tk:Nat)(ha:s.heap.get? a=aa) 
  (r:M5 S.cv h' (DN N (V.set a o)) o a):Inv S N (V.set a o) { s with heap:=h',toks:=tk }/\H2 noO noO V s (V.set a o) { s with heap:=h',toks:=tk }:=by
 have st:H2 noO noO V s (V.set a o) { s with heap:=h',toks:=tk }:=H2.of_keeps k λc h=>(A5 h).elim (λq=>.inr (q▸ha)) .inl
 refine⟨⟨λa o e=>k a o (x.keep a o e),x.gens,x.drawn,x.os,λc h=>(st.dom c h).elim (x.σg c) x.not_g,λc h=>(A5 h).elim (λq n=>?_) (x.σN c),λa h=>?_,λc z e=>?_⟩,st⟩
 .clear r st h;subst q;refine X1pp (x.Nin c n) λy e Z=>?_;rw[ha]at e;exact nS e
 .refine X1pp (x.Nin a h) λo e f=>?_;exact⟨o,k a o e,f⟩
 .by_cases q:c=a
  .clear ha st;subst q;rw[E0.set_self]at e;obtain rfl:=ae e;exact r
  .rw[E0.set_ne _ _ q]at e
   exact(x.rep c z e).ext (Ext.of_keeps k) (λd h=>h.elim (λh=>(A5 h).elim (λq=>.inr (q▸ha)) λq=>.inl (.inl q)) λh=>.inl (.inr h)) (k c)
theorem St.new'(x:Internal.St S tb env N P b m V s)(k:∀a o,s.heap.get? a=some o->h'.get? a=some o)(tk:Nat)(ha:s.heap.get? a=aa) 
  (r:M5 S.cv h' (DN N (V.set a o)) o a):Internal.St S tb env N P b m (V.set a o) { s with heap:=h',toks:=tk }/\H2 noO noO V s (V.set a o) { s with heap:=h',toks:=tk }:=by
 exact Aq (x.inv.new k tk ha r) λi st=>⟨x.to st i (λZ h=>h.elim),st⟩
theorem Inv.upd(x:Inv S N V s)(y:Dom V a)(k:∀c o,c≠a->s.heap.get? c=some o->h'.get? c=some o)(tk:Nat) 
  (r:M5 S.cv h' (DN N (V.set a o)) o a):Inv S N (V.set a o) { s with heap:=h',toks:=tk }/\H2 noO noO V s (V.set a o) { s with heap:=h',toks:=tk }:=by
 have dd:∀c,Dom (V.set a o) c->Dom V c:=λc h=>(A5 h).elim (λq=>q▸y) id;have U:Ext (DN N V) s.heap h':=Ext.of_but λc z d e=>k c z (λq=>d (q▸.inl y)) e;have st:H2 noO noO V s (V.set a o) { s with heap:=h',toks:=tk }:=H2.of_but (λc z d Z e=>k c z (λq=>d (q▸y)) e) (λc h=>.inl (dd c h)) (λc z e=>by
  by_cases q:c=a
  .clear y k dd;subst q;refine X1pp r.there λY h Z=>?_;exact⟨Y,h⟩
  .exact⟨z,k c z q e⟩)
 refine⟨⟨λc z e=>k c z (λq=>?_) (x.keep c z e),x.gens,x.drawn,x.os,λc h=>x.σg c (dd c h),λc h=>x.σN c (dd c h),λc h=>?_,λc z e=>?_⟩,st⟩
 .clear k r dd st;subst q;rw[x.σg c y]at e;exact nS e
 .refine X1pp (x.Nin c h) λo e f=>?_;exact⟨o,k c o (λq=>x.σN a y (q▸h)) e,f⟩
 .by_cases q:c=a
  .clear y k dd st;subst q;rw[E0.set_self]at e;obtain rfl:=ae e;exact r
  .rw[E0.set_ne _ _ q]at e
   exact(x.rep c z e).ext U (λd h=>.inl (h.imp (dd d) id)) (k c · q)
theorem St.upd(x:Internal.St S tb env N P b m V s)(y:Dom V a)(k:∀c o,c≠a->s.heap.get? c=some o->h'.get? c=some o)(tk:Nat) 
  (r:M5 S.cv h' (DN N (V.set a o)) o a):Internal.St S tb env N P b m (V.set a o) { s with heap:=h',toks:=tk }/\H2 noO noO V s (V.set a o) { s with heap:=h',toks:=tk }:=by
 exact Aq (x.inv.upd y k tk r) λi st=>⟨x.to st i (λZ h=>h.elim),st⟩
theorem Inv.drop(x:Inv S N V s)(h:∀a o,V' a=some o->V a=some o):Inv S N V' s/\H2 noO noO V s V' s:=by
 have dd:∀a,Dom V' a->Dom V a:=λa d=>by
  cases e:V' a with|none=>exact absurd e d|some o=>unfold Dom;rw[h a o e];simp
 have st:H2 noO noO V s V' s:=H2.of_keeps (λZ Z e=>e) λa d=>.inl (dd a d);exact⟨⟨x.keep,x.gens,x.drawn,x.os,λa d=>x.σg a (dd a d),λa d=>x.σN a (dd a d),x.Nin,λa o e=>(x.rep a o (h a o e)).ext (Ext.refl _ _) (λb h=>.inl (h.imp (dd b) id)) λZ q=>q⟩,st⟩
theorem St.drop(x:Internal.St S tb env N P b m V s)(h:∀a o,V' a=some o->V a=some o):Internal.St S tb env N P b m V' s/\H2 noO noO V s V' s:=by
 exact Aq (x.inv.drop h) λi st=>⟨x.to st i (λZ h=>h.elim),st⟩
theorem St.weak(x:Internal.St S tb env N P b m V s)(h:∀i av,m' i=some av->m i=some av):Internal.St S tb env N P b m' V s:=⟨x.inv,x.loc.weak h,x.frm,x.pN,x.new,x.own,x.gb⟩
end
theorem H2.any(x:H2 noO noO V s V' s'):H2 P O V s V' s':=(x.mono λZ h=>h.elim).wide λZ h=>h.elim
def Fresh(V:E0)(o:L4)(fz:AV)(Q:AV->E0->Prop):Prop:=Q fz V\/∃i,∀a,¬Dom V a->Q (.loc a i) (V.set a o)
section
variable {F:Fx S}{m:Nat->Option AV}{V:E0}{X:Value->ag->Prop}{s:ag}{Q:AV->E0->Prop}
theorem Rep.st(r:Rep S.cv s.heap (F.D V) av v)(x:H2 F.P F.O V s V' s')(h:F.St m V' s'):Rep S.cv s'.heap (F.D V') av v:=Internal.Rep.step x h.own h.pN r
theorem RepL.st(r:RepL S.cv s.heap (F.D V) av v)(x:H2 F.P F.O V s V' s')(h:F.St m V' s'):RepL S.cv s'.heap (F.D V') av v:=Internal.RepL.step x h.own h.pN r
theorem now(hs:F.St m V s)(r:Rep S.cv s.heap (F.D V) av v)(q:Q av V) :
  PW F m V s (PV F Q) v s:=⟨V,H2.refl _ _ _ _,hs,av,r,q⟩
theorem Bk(t:Nat)(hs:F.St m V s)(r:Rep S.cv s.heap (F.D V) av v)(q:Q av V) :
  PW F m V s (PV F Q) v { s with toks:=t }:=⟨V,H2.toks _ _ _ _ _,hs.tok t,av,r,q⟩
theorem Ku(ha:s.heap.get? a=aa):∀b,DN N (V.set a o) b->DN N V b\/s.heap.get? b=aa :=
 λZ h=>h.elim (λh=>(A5 h).elim (λq=>.inr (q▸ha)) λq=>.inl (.inl q)) λh=>.inl (.inr h)
theorem Bw(hs:F.St m V s)(k:∀b o,s.heap.get? b=some o->h'.get? b=some o)(ha:s.heap.get? a=aa)
  (e:h'.get? a=some (AE vs.toArray n)) (r:RepL S.cv s.heap (F.D V) l vs) (q:Fresh V (.list l) (.list l) Q) :
  PW F m V s (PV F Q) (.ref a) { s with heap:=h',toks:=tk }:=by
 rcases q with q|⟨i,q⟩
 .exact Aq (hs.grow k tk) λY st=>⟨V,st.any,Y,_,.list e (hs.inv.not_D ha) (r.st st.any Y),q⟩
 .exact Aq (hs.new' k tk ha (o:=.list l) (.list e (r.ext (Ext.of_keeps k) (Ku ha)))) λY st=>⟨_,st.any,Y,_,.loc a i,q a (hs.inv.not_dom ha)⟩
theorem Dg(hs:F.St m V s)(k:∀b o,s.heap.get? b=some o->h'.get? b=some o)(ha:s.heap.get? a=aa)
  (e:h'.get? a=some (AW es.toArray n)) (y:(l.map (·.1)).Nodup) (r:RepD S.cv s.heap (F.D V) l es) (q:Fresh V (.dict l) (.dict l) Q) :
  PW F m V s (PV F Q) (.ref a) { s with heap:=h',toks:=tk }:=by
 rcases q with q|⟨i,q⟩
 .exact Aq (hs.grow k tk) λY st=>⟨V,st.any,Y,_,.dict e (hs.inv.not_D ha) (hs.inv.not_sm ha) y (r.step st.any Y.own Y.pN),q⟩
 .exact Aq (hs.new' k tk ha (o:=.dict l) (.dict e (hs.inv.not_sm ha) y (r.ext (Ext.of_keeps k) (Ku ha)))) λY st=>⟨_,st.any,Y,_,.loc a i,q a (hs.inv.not_dom ha)⟩
theorem AA(h:Heap):h.get? h.objs.size=aa:=by
 cases q:h.get? h.objs.size with|none=>rfl|some o=>exact absurd (bf q) (ij _)
theorem Az(h:Heap)(o:Obj):∀b ob,h.get? b=some ob->(h.push o).get? b=some ob:=λZ Z e=>ar o e
theorem Gb(hs:F.St m V s)(k:∀b o,s.heap.get? b=some o->h'.get? b=some o)(ha:s.heap.get? a=aa)
  (e:h'.get? a=some (Bz vs.toArray n)) (r:RepL S.cv s.heap (F.D V) l vs) (q:Q (.tup l) V) :
  PW F m V s (PV F Q) (.ref a) { s with heap:=h',toks:=tk }:=by
 exact Aq (hs.grow k tk) λY st=>⟨V,st.any,Y,_,.tup e (hs.inv.not_D ha) (r.st st.any Y),q⟩
end
end
section
open PySem PyProof.Rows
variable {S:Sta}
section
variable {F:Fx S}{m:Nat->Option AV}{V:E0}{X:Value->ag->Prop}{Q:AV->E0->Prop}
theorem ET.mono(h:ET F m V e Q X)(k:∀a V,Q a V->Q' a V):ET F m V e Q' X :=
 λpe d s hs=>(h pe d s hs).mono λ_ _ _ _ _ ⟨av,r,q⟩=>⟨av,r,k _ _ q⟩
theorem TT.mono{Q z:Bool->E0->Prop}(h:TT F m V e Q X)(k:∀a V,Q a V->z a V):TT F m V e z X :=
 λpe d s hs=>(h pe d s hs).mono λZ Z Z Z Z q=>k _ _ q
theorem ET.none(h:Q .none V):ET F m V .none Q X:=by
 intro pe d s hs;refine X2l pe d.inv λZ Z=>?_;exact wpAny_Constant_none (now hs .none h)
theorem ET.bool(h:Q (.bool b) V):ET F m V (.bool b) Q X:=by
 intro pe d s hs;refine X2l pe d.inv λZ Z=>?_;exact wpAny_Constant_bool (now hs (.bool b) h)
theorem ET.int(h:Q (.int i) V):ET F m V (.int i) Q X:=by
 intro pe d s hs;refine X2l pe d.inv λZ Z=>?_;exact wpAny_Constant_int (Bk _ hs (.int i _) h)
theorem ET.str(h:Q (.str x) V):ET F m V (.str x) Q X:=by
 intro pe d s hs;refine X2l pe d.inv λZ Z=>?_;exact wpAny_Constant_str (Bk _ hs (.str x _) h)
theorem load_v(u:IsV F.tb F.sc x i)(y:m i=some av)(hs:F.St m V s)(h:∀v,Rep S.cv s.heap (F.D V) av v->Q' v s)
  : wpAny (model S.prog S.w) F.A (loadName F.env x) Q' X s:=by
 obtain⟨B,U,n,c,_,d,_,r⟩:=hs.loc
 have:=r x i av u.ix y
 have kd:F.env.kindOf x=F.sc.lookup x:=rfl
 rcases u.kind with q|q|q
 .rw[kd,q]at this
  exact X1pp this λv Y z=>wpAny_loadName_local F.fk (kd.trans q) n Y (h v z)
 .rw[kd,q]at this
  refine X2ppp this λv T O Y z=>?_
  have:=c x T O
  rw[Y]at this;exact wpAny_loadName_cell F.fk (kd.trans q) O this (h v z)
 .rw[kd,q]at this
  refine X2ppp this λv T O Y z=>?_
  have:=c x T O
  rw[Y]at this;exact wpAny_loadName_free F.fk (kd.trans q) O this (h v z) (Ld u.ok)
theorem ET.v(T:m i=some av)(h:Q av V):ET F m V (.v i) Q X:=by
 exact λpe d s hs=>X2lp pe d.inv λZ Z u=>wpAny_Name (load_v u T hs λv r=>now hs r h) (A9 u.ok)
structure Glob(S:Sta)(i:Nat)(v:Value):Prop where
 at_:∀x,ixS GT x=some i->S.mg x=some v\/(S.mg x=aa/\S.mb x=some v)
theorem Do(u:IsG F.sc x i)(T:Glob S i v)(hs:F.St m V s)(h:Q' v s):wpAny (model S.prog S.w) A (eval (.Name x pos) F.env) Q' X s:=by
 have ng:s.heap.Ns F.env.globals S.mg:=by rw[F.fg];exact S.ng.keeps hs.inv.keep
 have nb:s.heap.Ns F.env.builtins S.mb:=by rw[F.fb];exact S.nb.keeps hs.inv.keep
 rcases T.at_ x u.ix with q|⟨q,d⟩
 .exact gE F.fk u.kind (Calls.loadGlobal_global ng q h) (A9 u.ok)
 .exact gE F.fk u.kind (Calls.loadGlobal_builtin ng q nb d h) (A9 u.ok)
theorem ET.g_int(d:Glob S i (.int n t))(h:Q (.int n) V):ET F m V (.g i) Q X:=by
 exact λpe y s hs=>X2lp pe y.inv λZ Z u=>Do u d hs (now hs (.int n t) h)
theorem EsT.nil{Q:List AV->E0->Prop}(h:Q [] V):EsT F m V [] Q X:=by
 intro B pos d s hs;obtain rfl:=d.inv_nil;exact wpAny_items_nil ⟨V,H2.refl _ _ _ _,hs,[],.nil,h⟩
theorem AX(h:Be e=true):fp (e::r) env=(false,eval e env)::fp r env:=by
 cases e<;>first|rfl|exact nF h
theorem EsT.cons{Q:List AV->E0->Prop}(h:ET F m V e (λa Aa=>EsT F m Aa r (λas z=>Q (a::as) z) X) X):EsT F m V (e::r) Q X:=by
 refine λB pos hc s hs=>X2lppp B hc.inv λZ Z d T y=>wpAny_items_cons ((h _ T s hs).out ?_) (AX d);intro va Aa Ad Ah Ac u;obtain⟨a,Y,AO⟩:=u;refine(AO _ _ y Ad Ac).out ?_;intro vs z Ai O U u;obtain⟨as,rs,Bq⟩:=u;exact⟨z,Ah.trans O,U,a::as,.cons (Y.st O U) rs,Bq⟩
theorem RepL.length(r:RepL cv h D l vs):vs.length=l.length:=by
 induction l generalizing vs with|nil=>rw[show vs=[] from r.inv];rfl|cons x l y=>refine X2lpp vs r.inv λv z Z b=>?_;exact congrArg f6 (y b)
abbrev big:Nat:=1000000
theorem AZ(h:n<=big):n<=gF:=by unfold big at h;rw[dW];exact lin [n] [] (.b V0 A6) [.b V0 AC] rfl h
theorem ET.tup(h:EsT F m V es (λl V'=>l.length<=big/\Q (.tup l) V') X):ET F m V (.tup es) Q X:=by
 refine λpe d s hs=>X3lp pe d.inv λZ Z Z y=>wpAny_Tuple ((h _ _ y s hs).out ?_);intro vs Aa Ad T Y u;obtain⟨l,r,hz,q⟩:=u;refine⟨AZ (by rwa [r.length]),?_⟩
 obtain⟨V',st,z,O⟩:=Gb (tk:=Ad.toks) Y (Az _ _) (AA _) (ay _ rfl) r q;exact⟨V',T.trans st,z,O⟩
theorem ET.list(h:EsT F m V es (λl V'=>l.length<=big/\Fresh V' (.list l) (.list l) Q) X):ET F m V (.list es) Q X:=by
 refine λpe d s hs=>X2lp pe d.inv λZ Z y=>wpAny_List ((h _ _ y s hs).out ?_);intro vs Aa Ad T Y u;obtain⟨l,r,hz,q⟩:=u;refine⟨AZ (by rwa [r.length]),?_⟩
 obtain⟨V',st,z,O⟩:=Bw (tk:=Ad.toks) Y (Az _ _) (AA _) (ay _ rfl) r q;exact⟨V',T.trans st,z,O⟩
def BT(F:Fx S)(m:Nat->Option AV)(V:E0)(op:Operator)(a b:AV)(Q:AV->E0->Prop)(X:Value->ag->Prop):Prop :=
 ∀va vb s,F.St m V s->Rep S.cv s.heap (F.D V) a va->Rep S.cv s.heap (F.D V) b vb->VT F m V s (binaryOp op va vb) Q X
def KT(F:Fx S)(m:Nat->Option AV)(V:E0)(op:CmpOp)(a b:AV)(Q:Bool->E0->Prop)(X:Value->ag->Prop):Prop :=
 ∀va vb s,F.St m V s->Rep S.cv s.heap (F.D V) a va->Rep S.cv s.heap (F.D V) b vb->W F m V s (compareOp op va vb) (λv V' Z=>∃c,v=.bool c/\Q c V') X
theorem ET.bin(h:ET F m V l (λa Aa=>ET F m Aa r (λb z=>BT F m z op a b Q X) X) X):ET F m V (.bin op l r) Q X:=by
 refine λpe hc s hs=>X3lpp pe hc.inv λZ Z Z hl d=>wpAny_BinOp ((h _ hl s hs).out ?_);intro Y Aa Ad Ah Ac u;obtain⟨a,B,AO⟩:=u;refine(AO _ d Ad Ac).out ?_;intro y z Ai O U u;obtain⟨b,T,Bq⟩:=u;exact(Bq Y y Ai U (B.st O U) T).later (Ah.trans O)
theorem BT.add(h:Q (.int (a+b)) V):BT F m V .Add (.int a) (.int b) Q X:=by
 intro Y y s hs u T;refine X1l Y u.inv λZ=>?_;refine X1l y T.inv λZ=>?_;exact add_int (Bk _ hs (.int _ _) h)
theorem BT.sub(h:Q (.int (a - b)) V):BT F m V .Sub (.int a) (.int b) Q X:=by
 intro Y y s hs u T;refine X1l Y u.inv λZ=>?_;refine X1l y T.inv λZ=>?_;exact sub_int (Bk _ hs (.int _ _) h)
theorem BT.mul(O:IntMulOk a b)(h:Q (.int (a * b)) V):BT F m V .Mult (.int a) (.int b) Q X:=by
 intro Y y s hs u T;refine X1l Y u.inv λZ=>?_;refine X1l y T.inv λZ=>?_;exact mul_int (Bk _ hs (.int _ _) h) O
theorem BT.mod(z:b≠0)(h:Q (.int (a.fmod b)) V):BT F m V .Mod (.int a) (.int b) Q X:=by
 intro Y y s hs u T;refine X1l Y u.inv λZ=>?_;refine X1l y T.inv λZ=>?_;exact mod_int z (Bk _ hs (.int _ _) h)
theorem BT.div(z:b≠0)(U:b.natAbs<1073741824)(h:Q (.int (a.fdiv b)) V):BT F m V .FloorDiv (.int a) (.int b) Q X:=by
 intro Y y s hs u T;refine X1l Y u.inv λZ=>?_;refine X1l y T.inv λZ=>?_;exact floordiv_int z (Bk _ hs (.int _ _) h) (.inl (PyProof.noPylong_small U))
theorem BT.addStr(hz:a.length+b.length<=big)(h:Q (.str (a++b)) V):BT F m V .Add (.str a) (.str b) Q X:=by
 intro Y y s hs u T;refine X1l Y u.inv λZ=>?_;refine X1l y T.inv λZ=>?_;exact add_str (λd tk=>Bk tk hs (.str _ _) h) (AZ hz)
theorem BT.mulStr(U:MulOk a n)(h:Q (.str (d3 a n)) V):BT F m V .Mult (.str a) (.int n) Q X:=by
 intro Y y s hs u T;refine X1l Y u.inv λZ=>?_;refine X1l y T.inv λZ=>?_;exact SB.mul U (λd tk=>Bk tk hs (.str _ _) h)
end
end
section
open PySem PyProof.Rows
variable {S:Sta}
noncomputable def dl(V:E0):AV->Option (List AV)
 |.list l=>some l
 |.loc a _=>(V a).bind L4.list?
 |_=>aa
noncomputable def dd(V:E0):AV->Option (List (Al×AV))
 |.dict l=>some l
 |.loc a _=>(V a).bind L4.dict?
 |_=>aa
theorem dl_list(V:E0)(l:List AV):dl V (.list l)=some l:=rfl
theorem BU(h:V a=some (.list l)):dl V (.loc a i)=some l:=by show (V a).bind _=_;rw[h];rfl
theorem B7(h:V a=some (.dict l)):dd V (.loc a i)=some l:=by show (V a).bind _=_;rw[h];rfl
section
variable {N:Addr->Prop}{V:E0}{s:ag}
theorem Rep.lst(r:Rep S.cv s.heap (DN N V) a v)(hs:Inv S N V s)(h:dl V a=some l) :
  ∃ad vs n,v=.ref ad/\s.heap.get? ad=some (AE (aB vs) n)/\RepL S.cv s.heap (DN N V) l vs:=by
 cases a with
 |list l'=>refine X3pppp r.inv λa b c e f Z r=>?_;exact⟨a,b,c,e,f,ae h▸r⟩
 |loc ad z =>
  refine X1pp (AF (show (V ad).bind L4.list?=some l from h)) λo e h=>?_
  obtain rfl:=L4.list?_out h;exact X2pp ((hs.rep ad _ e).inv) λvs n g q=>⟨ad,vs,n,r.inv,g,q⟩
 |_=>exact(Ak rfl h).elim
theorem Rep.dct(r:Rep S.cv s.heap (DN N V) a v)(hs:Inv S N V s)(h:dd V a=some l) :
  ∃ad es n,v=.ref ad/\s.heap.get? ad=some (AW (aB es) n)/\(ad == cI)=false/\(l.map (·.1)).Nodup/\RepD S.cv s.heap (DN N V) l es:=by
 cases a with
 |dict l'=>refine X3pppp r.inv λa b c e f Z r=>?_;exact⟨a,b,c,e,f,ae h▸r⟩
 |loc ad z =>
  refine X1pp (AF (show (V ad).bind L4.dict?=some l from h)) λo e h=>?_
  obtain rfl:=L4.dict?_out h;exact X2pp ((hs.rep ad _ e).inv) λvs n g q=>⟨ad,vs,n,r.inv,g,q⟩
 |_=>exact(Ak rfl h).elim
end
mutual
noncomputable def G0:AV->Option PyData
 |.none=>some .none
 |.bool b=>some (.bool b)
 |.int i=>some (.int i)
 |.str s=>some (.str s)
 |.tup l=>(DI l).map .tuple
 |.list l=>(DI l).map .list
 |.dict _=>aa
 |.inst _=>aa
 |.loc _ _=>aa
 |.exc _=>aa
 |.range _ _ _=>aa
 |.nums _=>aa
 |.cls _=>aa
noncomputable def DI:List AV->Option (List PyData)
 |[]=>some []
 |x::l=>(G0 x).bind λd=>(DI l).map λds=>d::ds
end
theorem Fi(e:some d=some d')(r:∃as,Reads h v d as):∃as,Reads h v d' as:=ae e▸r
theorem KF(e:some []=some ds):∃as,ReadsAll h [] ds as:=ae e▸⟨_,.nil⟩
theorem Rep.reads(r:Rep cv h D a v):∀{d:PyData},G0 a=some d->∃as,Reads h v d as :=
 Rep.rec (motive_1:=λa v Z=>∀{d:PyData},G0 a=some d->∃as,Reads h v d as) (motive_2:=λl vs Z=>∀{U:List PyData},DI l=some U->∃as,ReadsAll h vs U as) (motive_3:=λZ Z Z=>True) (motive_4:=λZ Z Z=>True)
  (λe=>Fi e ⟨_,.none⟩) (λb Z e=>Fi e ⟨_,.bool b⟩) (λi t Z e=>Fi e ⟨_,.int i t⟩) (λx t Z e=>Fi e ⟨_,.str x t⟩)
  (λg Z Z y Z e=>by
   refine X1pp (aZ.mp e) λU u Z0=>?_;clear e;subst Z0;obtain⟨as,q⟩:=y u;exact⟨as,.tuple g rfl rfl q⟩)
  (λg Z Z y Z e=>by
   refine X1pp (aZ.mp e) λU u O=>?_;clear e;subst O;obtain⟨as,q⟩:=y u;exact⟨_,.list g rfl rfl q⟩)
  (λZ Z Z Z Z Z Z e=>(Ak rfl e).elim) (λZ Z Z Z Z Z Z Z e=>(Ak rfl e).elim) (λZ Z Z e=>(Ak rfl e).elim) (λZ Z Z Z Z Z e=>(Ak rfl e).elim) (λZ Z Z e=>(Ak rfl e).elim) (λZ Z e=>(Ak rfl e).elim) (λZ Z Z Z Z Z e=>(Ak rfl e).elim)
  (λe=>KF e)
  (λZ Z T z Z e=>by
   refine X1pp (e8.mp e) λd u e=>X1pp (aZ.mp e) λU e2 B=>?_;clear e;subst B;exact X1p (T u) λas q=>X1p (z e2) λbs Y=>⟨_,.cons q Y⟩)
  trivial (λZ Z Z Z Z Z=>trivial) trivial (λZ Z Z Z=>trivial) r
theorem RepL.reads(r:RepL cv h D l vs)(e:DI l=some U):∃as,ReadsAll h vs U as:=by
 induction l generalizing vs U with
 |nil=>rw[show vs=[] from r.inv];exact KF e
 |cons x l y =>
  exact X2lpp vs r.inv λv z a b=>X1pp (e8.mp e) λd u e=>X1pr U (aZ.mp e) λU e2=>X1p (a.reads u) λas q=>X1p (y b e2) λbs T=>⟨_,.cons q T⟩
noncomputable def B0(V:E0)(a:AV):Option PyData:=match a with
 |.loc _ _=>(dl V a).bind λl=>(DI l).map .list
 |a=>G0 a
theorem Rep.readsS(r:Rep S.cv s.heap (DN N V) a v)(hs:Inv S N V s)(h:B0 V a=some d):∃as,Reads s.heap v d as:=by
 cases a with
 |loc ad O =>
  simp only[B0,e8,aZ]at h;exact X1pp h λl Y u=>X1pr d u λT z=>X3lpp v (r.lst hs Y) λad vs n e U=>X1p (U.reads z) λas q=>⟨_,.list e rfl rfl (by simpa using q)⟩
 |_=>exact r.reads h
theorem RepL.app(B:RepL cv h D l vs)(O:RepL cv h D k ws):RepL cv h D (l++k) (vs++ws):=by
 induction l generalizing vs with
 |nil=>rw[show vs=[] from B.inv];exact O
 |cons v l y=>obtain⟨u,z,rfl,a,b⟩:=B.inv;exact .cons a (y b)
section
variable {F:Fx S}{m:Nat->Option AV}{V:E0}{X:Value->ag->Prop}{Q:AV->E0->Prop}
theorem BT.addList(ha:dl V a=some l)(hb:dl V b=some k)(hz:l.length+k.length<=big)(h:Fresh V (.list (l++k)) (.list (l++k)) Q):BT F m V .Add a b Q X:=by
 refine λT z s hs B O=>X3lpp T (B.lst hs.inv ha) λad vs n e U=>X3lpp z (O.lst hs.inv hb) λbd ws u e2 Y=>?_;have y:vs.toArray.size+ws.toArray.size<=gF:=by
  have h1:=U.length;have h2:=Y.length;simp only[aF];exact AZ (lin [l.length,k.length,big,vs.length,ws.length] [] (.b (.A V3 V4) V2) [.b (.A V0 V1) V2,.d V3 V0,.d V4 V1] rfl hz h1 h2)
 refine concat_meets ⟨_,e,rfl⟩ ⟨_,e2,rfl⟩ noFill_list_add seq_list_add PySem.F.slot_list_add PySem.F.entry_list_add (PySem.F.args_list_add_2 _ _) (list_addW ad bd vs.toArray ws.toArray n u aa aa #[] #[] y) ⟨e,e2,?_⟩;have q:vs.toArray++ws.toArray=(vs++ws).toArray:=by simp
 rw[q];exact Bw (tk:=s.toks) hs (Az _ _) (AA _) (ay _ rfl) (U.app Y) h
theorem KT.intEq{Q:Bool->E0->Prop}(h:Q (a == b) V):KT F m V .Eq (.int a) (.int b) Q X:=by
 intro Y y s hs u T;refine X1l Y u.inv λZ=>?_;refine X1l y T.inv λZ=>?_;exact eq_int ⟨V,H2.refl _ _ _ _,hs,_,rfl,h⟩
theorem KT.intNe{Q:Bool->E0->Prop}(h:Q (a != b) V):KT F m V .NotEq (.int a) (.int b) Q X:=by
 intro Y y s hs u T;refine X1l Y u.inv λZ=>?_;refine X1l y T.inv λZ=>?_;exact ne_int ⟨V,H2.refl _ _ _ _,hs,_,rfl,h⟩
theorem KT.intLt{Q:Bool->E0->Prop}(h:Q (decide (a<b)) V):KT F m V .Lt (.int a) (.int b) Q X:=by
 intro Y y s hs u T;refine X1l Y u.inv λZ=>?_;refine X1l y T.inv λZ=>?_;exact lt_int ⟨V,H2.refl _ _ _ _,hs,_,rfl,h⟩
theorem KT.intLe{Q:Bool->E0->Prop}(h:Q (decide (a<=b)) V):KT F m V .LtE (.int a) (.int b) Q X:=by
 intro Y y s hs u T;refine X1l Y u.inv λZ=>?_;refine X1l y T.inv λZ=>?_;exact le_int ⟨V,H2.refl _ _ _ _,hs,_,rfl,h⟩
theorem KT.intGt{Q:Bool->E0->Prop}(h:Q (decide (b<a)) V):KT F m V .Gt (.int a) (.int b) Q X:=by
 intro Y y s hs u T;refine X1l Y u.inv λZ=>?_;refine X1l y T.inv λZ=>?_;exact gt_int ⟨V,H2.refl _ _ _ _,hs,_,rfl,h⟩
theorem KT.eq{Q:Bool->E0->Prop}(ha:B0 V a=some da)(B:B0 V b=some db)(y:d4 da=true)(z:d4 db=true)(h:Q (eV da db) V):KT F m V .Eq a b Q X:=by
 exact λU d s hs Y T=>X1p (Y.readsS hs.inv ha) λas Y=>X1p (T.readsS hs.inv B) λbs T=>eq_dataH Y T y z (by have:=F.room.un;unfold cLine;exact lin [F.A.units,F.k] [] (.c (.A V0 K64) GS) [.c (.A V0 (.M 20 V1)) BX] rfl this) ⟨V,H2.refl _ _ _ _,hs,_,rfl,h⟩
theorem KT.ne{Q:Bool->E0->Prop}(ha:B0 V a=some da)(B:B0 V b=some db)(y:d4 da=true)(z:d4 db=true)(h:Q (!PyData.eqv da db) V):KT F m V .NotEq a b Q X:=by
 exact λU d s hs Y T=>X1p (Y.readsS hs.inv ha) λas Y=>X1p (T.readsS hs.inv B) λbs T=>ne_dataH Y T y z (by have:=F.room.un;unfold cLine;exact lin [F.A.units,F.k] [] (.c (.A V0 K64) GS) [.c (.A V0 (.M 20 V1)) BX] rfl this) ⟨V,H2.refl _ _ _ _,hs,_,rfl,h⟩
noncomputable def key(k:Al):List Int:=[k.1,k.2]
class inductive XsOf(cv:Nat->Value)(h:Heap)(D:Addr->Prop):List (Al×AV)->List (List Int×Addr×Value)->Prop
 |nil:XsOf cv h D [] []
 |cons {k:Al}{x:AV}{l:List (Al×AV)}{t:Addr}{tx ty:Tok}{n:Nat}{v:Value}{xs:List (List Int×Addr×Value)} :
   h.get? t=some (Bz #[.int k.1 tx,.int k.2 ty] n)->¬D t->Rep cv h D x v->XsOf cv h D l xs->XsOf cv h D ((k,x)::l) ((key k,t,v)::xs)
theorem Es(e:h.get? t=some (Bz #[.int k.1 tx,.int k.2 ty] n)):IsTupleKey (cw S.prog S.w) h (key k) t :=
 ⟨_,_,n,e,rfl,rfl,.cons (by simp[cw,Value.isInt]) (.cons (by simp[cw,Value.isInt]) .nil)⟩
theorem RepD.xs(r:RepD cv h D l es):∃xs,XsOf cv h D l xs/\es=xs.map (d5 (bK (cw S.prog S.w))):=by
 induction l generalizing es with
 |nil=>exact⟨[],.nil,r.inv⟩
 |cons p l y =>
  refine X6lpppp es r.inv λt B T n v r e d q rs=>?_;obtain⟨xs,Y,z⟩:=y rs;exact⟨_,.cons e d q Y,by rw[z];rfl⟩
theorem XsOf.repD(r:XsOf cv h D l xs):RepD cv h D l (xs.map (d5 (bK (cw S.prog S.w)))):=by
 induction r with|nil=>exact .nil|cons e d r _ y=>exact .cons e d r y
theorem Hr(h:key a=key b):a=b:=by
 obtain⟨a1,d⟩:=a;obtain⟨z,B⟩:=b;simp only[key,List.cons.injEq,and_true]at h;rw[h.1,h.2]
theorem XsOf.keys(r:XsOf cv h D l xs):xs.map (·.1)=l.map λp=>key p.1:=by
 induction r with|nil=>rfl|cons _ _ _ _ y=>rw[bp,bp,y]
theorem EG{l:List (Al×AV)}(h:(l.map (·.1)).Nodup):(l.map λp=>key p.1).Nodup:=by
 have:(l.map λp=>key p.1)=(l.map (·.1)).map key:=by rw[bc];rfl
 rw[this];exact cA.mpr (h.imp λd q=>d (Hr q))
theorem XsOf.is(r:XsOf cv h D l xs):∀x∈xs,(bK (cw S.prog S.w)).is h x.1 x.2.1:=by
 induction r with|nil=>exact λZ u=>absurd u bB|cons e _ _ _ y=>exact λx u=>(aA.mp u).elim (λq=>q▸Es e) (y x)
theorem Gv(x:XsOf cv h D l xs)(y:(l.map (·.1)).Nodup)
  (e:h.get? d=some (AW (xs.map (d5 (bK (cw S.prog S.w)))).toArray n)):h.DictOfH (bK (cw S.prog S.w)) d xs :=
 ⟨_,_,n,e,⟨rfl,rfl,rfl⟩,rfl,by simp,x.is,by rw[x.keys];exact EG y⟩
noncomputable def By(l:List (Al×AV))(k:Al):Option AV:=(l.find? λp=>decide (p.1=k)).map (·.2)
theorem XsOf.at_(k:Al)(r:XsOf cv h D l xs) :
  match By l k,atKey xs (key k)with
  |some av,some p=>Rep cv h D av p.2
  |aa,aa=>True
  |_,_=>False:=by
 induction r with
 |nil=>exact trivial
 | @cons k' x l t _ _ _ v xs e d r rs y =>
  unfold By atKey at y ⊢
  by_cases q:k'=k
  .clear y;subst q;simp only[dA,decide_true,gf];exact r
  .have O:¬key k'=key k:=λz=>q (Hr z)
   simp only[dA,decide_eq_false q,decide_eq_false O];exact y
noncomputable abbrev sp(k:Al):AV:=.tup [.int k.1,.int k.2]
theorem Rep.spot(r:Rep cv h D (sp k) v):∃t B T n,v=.ref t/\h.get? t=some (Bz #[.int k.1 B,.int k.2 T] n)/\¬D t:=by
 obtain⟨t,vs,n,rfl,e,d,r⟩:=r.inv;obtain⟨v,us,rfl,Y,U⟩:=r.inv;refine X2ppp U.inv λu ws Z0 y O=>?_;clear r U;subst Z0;obtain rfl:=O.inv;refine X1p Y.inv λB z=>?_;clear Y r;subst z;obtain⟨T,rfl⟩:=y.inv;exact⟨_,_,_,_,rfl,e,d⟩
theorem Cf(F:Fx S):(bK (cw S.prog S.w)).room F.A.in1:=by
 show F.A.in1.units<cLine
 have:=F.room.un;unfold cLine;simp;exact lin [F.A.units,F.k] [] (.c (.A V0 K1) GS) [.c (.A V0 (.M 20 V1)) BX] rfl this
theorem room_0(F:Fx S):(bK (cw S.prog S.w)).room F.A:=by
 show F.A.units<cLine
 have:=F.room.un;unfold cLine;exact lin [F.A.units,F.k] [] (.c V0 GS) [.c (.A V0 (.M 20 V1)) BX] rfl this
theorem KT.inDict{Q:Bool->E0->Prop}(hb:dd V b=some l)(h:Q (By l k).isSome V):KT F m V .In (sp k) b Q X:=by
 refine λY y s hs O T=>X4lpp Y O.spot λt tx ty n e d=>X3lpppp y (T.dct hs.inv hb) λad es n' e' z B U=>X1pp (RepD.xs (S:=S) U) λxs u Z0=>?_;clear U;subst Z0;have q:=u.at_ k;refine wpAny_in_heap (Cf F) (Es e) z (Gv u B e') ⟨V,H2.toks _ _ _ _ _,hs.tok _,_,rfl,?_⟩
 have:(atKey xs (key k)).isSome=(By l k).isSome:=by
  revert q
  cases By l k<;>cases atKey xs (key k)<;>simp
 rwa [this]
theorem Fr(h:Bf r=true):behindInMarks op r=false:=by
 cases r<;>first|rfl|exact nF h
theorem ET.cmp(h:ET F m V l (λa Aa=>ET F m Aa r (λb z=>KT F m z op a b (λc B=>Q (.bool c) B) X) X) X):ET F m V (.cmp op l r) Q X:=by
 refine λpe hc s hs=>X3lppp pe hc.inv λZ Z Z hn hl hr=>wpAny_Compare1 ((h _ hl s hs).out ?_) (Fr hn);intro Y Aa Ad Ah Ac u;obtain⟨a,d,AO⟩:=u;refine(AO _ hr Ad Ac).out ?_;intro y z Ai O U u;obtain⟨b,T,Bq⟩:=u;refine(Bq Y y Ai U (d.st O U) T).out ?_;intro v B BC AU AG u;obtain⟨c,rfl,Ju⟩:=u;exact⟨B,(Ah.trans O).trans AU,AG,_,.bool c,Ju⟩
theorem TT.cmp{Q:Bool->E0->Prop}(h:ET F m V l (λa Aa=>ET F m Aa r (λb z=>KT F m z op a b Q X) X) X):TT F m V (.cmp op l r) Q X:=by
 refine λpe hc s hs=>X3lppp pe hc.inv λZ Z Z hn hl d=>wpAny_isTrue_Compare1 ((h _ hl s hs).out ?_) (Fr hn);intro Y Aa Ad Ah Ac u;obtain⟨a,B,AO⟩:=u;refine(AO _ d Ad Ac).out ?_;intro y z Ai O U u;obtain⟨b,T,Bq⟩:=u;refine(Bq Y y Ai U (B.st O U) T).out ?_;intro v Ar BC AU AG u;obtain⟨c,rfl,Ju⟩:=u;exact cB ⟨Ar,(Ah.trans O).trans AU,AG,Ju⟩
end
end
section
set_option backward.match.sparseCases true
open PySem PyProof.Rows
variable {S:Sta}
section
variable {F:Fx S}{m:Nat->Option AV}{V:E0}{X:Value->ag->Prop}{Q:AV->E0->Prop}
theorem ET.neg(h:ET F m V x (λa Aa=>∃i,a=.int i/\Q (.int (-i)) Aa) X):ET F m V (.neg x) Q X:=by
 refine λpe d s hs=>X2lp pe d.inv λZ Z U=>wpAny_UnaryOp ((h _ U s hs).out ?_);intro Y Aa Ad T z u;obtain⟨a,y,i,rfl,B⟩:=u;refine X1l Y y.inv λZ=>?_;obtain⟨V',st,r,O⟩:=Bk (Ad.toks+1) z (.int (-i) Ad.toks) B;exact neg_int ⟨V',T.trans st,r,O⟩
theorem ET.not(h:ET F m V x (λa Aa=>∃b,a=.bool b/\Q (.bool (!b)) Aa) X):ET F m V (.not x) Q X:=by
 refine λpe U s hs=>X2lp pe U.inv λZ Z d=>wpAny_UnaryOp ((h _ d s hs).out ?_);intro O Aa Ad T y u;obtain⟨a,Y,b,rfl,B⟩:=u;obtain rfl:=Y.inv;exact not_of (cB ⟨Aa,T,y,_,.bool _,B⟩)
theorem TT.not{Q:Bool->E0->Prop}(h:TT F m V x (λb Aa=>Q (!b) Aa) X):TT F m V (.not x) Q X:=by
 exact λpe d s hs=>X2lp pe d.inv λZ Z u=>wpAny_isTrue_Not ((h _ u s hs).out λZ V' Z st Y q=>⟨V',st,Y,q⟩)
noncomputable def KN(e:E):Bool:=!(b5 (kd e.st) 3)
noncomputable def Ib(e:E):Bool:=KN e.un
theorem Jv(d:Ib e=true)(hc:CE tb sc pe e):isTrue pe env (eval pe env)=(do let v <- eval pe env;standAt pe.pos;holding [v] (truthy v)):=by
 replace hc:=hc.un;unfold Ib at d;generalize e.un=e at hc d;replace hc:=hc.1;unfold KN at d;rw[<- hc]at d
 cases pe with
 |UnaryOp op x p=>cases op<;>first|rfl|exact(aW d).elim
 |_=>first|rfl|exact(aW d).elim
theorem TT.val{Q:Bool->E0->Prop}(y:Ib e=true)(h:ET F m V e (λa Aa=>∃b,a=.bool b/\Q b Aa) X):TT F m V e Q X:=by
 refine λpe d s hs=>wpAny_isTrue_value ((h _ d s hs).out ?_) (Jv y d);intro U Aa Ad T z u;obtain⟨a,Y,b,rfl,B⟩:=u;obtain rfl:=Y.inv;exact cB ⟨Aa,T,z,B⟩
def AndT(F:Fx S)(m:Nat->Option AV)(X:Value->ag->Prop)(Q:Bool->E0->Prop):List E->E0->Prop
 |[],V=>Q true V
 |e::r,V=>TT F m V e (λb Aa=>if b then AndT F m X Q r Aa else Q false Aa) X
def OrT(F:Fx S)(m:Nat->Option AV)(X:Value->ag->Prop)(Q:Bool->E0->Prop):List E->E0->Prop
 |[],V=>Q false V
 |e::r,V=>TT F m V e (λb Aa=>if b then Q true Aa else OrT F m X Q r Aa) X
theorem HO{Q:Bool->E0->Prop}{es:List E}:∀{B:List aV}{V:E0}{s:ag},CEs F.tb F.sc B es->AndT F m X Q es V->F.St m V s ->
  W F m V s (allTrue .And B F.env) (λb V' Z=>Q b V') X:=by
 induction es with
 |nil =>
  intro B V s d h hs;obtain rfl:=d.inv_nil;exact wpAny_allTrue_And_nil ⟨V,H2.refl _ _ _ _,hs,h⟩
 |cons e r y =>
  intro B V s d h hs;refine X2lppp B d.inv λZ Z Z z O=>wpAny_allTrue_And_cons ((h _ z s hs).out ?_)
  rintro b Aa Ad T Y U
  cases b with|true=>exact(y O U Y).later T|false=>exact⟨Aa,T,Y,U⟩
theorem JY{Q:Bool->E0->Prop}{es:List E}:∀{B:List aV}{V:E0}{s:ag},CEs F.tb F.sc B es->OrT F m X Q es V->F.St m V s ->
  W F m V s (allTrue .Or B F.env) (λb V' Z=>Q b V') X:=by
 induction es with
 |nil =>
  intro B V s d h hs;obtain rfl:=d.inv_nil;exact wpAny_allTrue_Or_nil ⟨V,H2.refl _ _ _ _,hs,h⟩
 |cons e r y =>
  intro B V s d h hs;refine X2lppp B d.inv λZ Z Z z O=>wpAny_allTrue_Or_cons ((h _ z s hs).out ?_)
  rintro b Aa Ad T Y U
  cases b with|false=>exact(y O U Y).later T|true=>exact⟨Aa,T,Y,U⟩
theorem TT.and{Q:Bool->E0->Prop}(h:AndT F m X Q es V):TT F m V (.and es) Q X:=by
 exact λpe d s hs=>X2lp pe d.inv λZ Z u=>wpAny_isTrue_BoolOp (HO u h hs)
theorem TT.or{Q:Bool->E0->Prop}(h:OrT F m X Q es V):TT F m V (.or es) Q X:=by
 exact λpe d s hs=>X2lp pe d.inv λZ Z u=>wpAny_isTrue_BoolOp (JY u h hs)
def AndV(F:Fx S)(m:Nat->Option AV)(X:Value->ag->Prop)(Q:AV->E0->Prop):List E->E0->Prop
 |[],_=>False
 |[e],V=>ET F m V e Q X
 |e::r,V=>ET F m V e (λa Aa=>∃b,a=.bool b/\if b then AndV F m X Q r Aa else Q (.bool false) Aa) X
def OrV(F:Fx S)(m:Nat->Option AV)(X:Value->ag->Prop)(Q:AV->E0->Prop):List E->E0->Prop
 |[],_=>False
 |[e],V=>ET F m V e Q X
 |e::r,V=>ET F m V e (λa Aa=>∃b,a=.bool b/\if b then Q (.bool true) Aa else OrV F m X Q r Aa) X
theorem Dx(pos:Pos)(op:BoolOp)(x y:Sem Value)(r:List (Sem Value)):boolOp pos op (x::y::r)=(do
  let v <- x
  standAt pos
  let t <- holding [v] (truthy v)
  match op,t with
  |.And,false|.Or,true=>pure v
  |_,_=>boolOp pos op (y::r)):=rfl
theorem JW:∀{B:List aV}{V:E0}{s:ag},CEs F.tb F.sc B es->AndV F m X Q es V->F.St m V s ->
  VT F m V s (boolOp pos .And (evalEach B F.env)) Q X:=by
 induction es with
 |nil=>intro B V s Y h hs;exact h.elim
 |cons e r ih =>
 intro B V s Y h hs;refine X2lppp B Y.inv λZ Z Z d y=>?_
 cases r with
 |nil=>obtain rfl:=y.inv_nil;exact h _ d s hs
 |cons e' r =>
  have u:=y;refine X2pp u.inv λZ Z Z0 Z=>?_;subst Z0;show VT F m V s (boolOp pos .And (eval _ F.env::eval _ F.env::evalEach _ F.env)) Q X;rw[Dx];refine ac ((h _ d s hs).out ?_);intro va Aa Ad T O z;obtain⟨a,ra,b,rfl,U⟩:=z;obtain rfl:=ra.inv;refine ac (dF (ac (bo (cB ?_))))
  cases b with|true=>exact(ih y U O).later T|false=>exact ai ⟨Aa,T,O,_,.bool _,U⟩
theorem MB:∀{B:List aV}{V:E0}{s:ag},CEs F.tb F.sc B es->OrV F m X Q es V->F.St m V s ->
  VT F m V s (boolOp pos .Or (evalEach B F.env)) Q X:=by
 induction es with
 |nil=>intro B V s Y h hs;exact h.elim
 |cons e r ih =>
 intro B V s Y h hs;refine X2lppp B Y.inv λZ Z Z d y=>?_
 cases r with
 |nil=>obtain rfl:=y.inv_nil;exact h _ d s hs
 |cons e' r =>
  have u:=y;refine X2pp u.inv λZ Z Z0 Z=>?_;subst Z0;show VT F m V s (boolOp pos .Or (eval _ F.env::eval _ F.env::evalEach _ F.env)) Q X;rw[Dx];refine ac ((h _ d s hs).out ?_);intro va Aa Ad T O z;obtain⟨a,ra,b,rfl,U⟩:=z;obtain rfl:=ra.inv;refine ac (dF (ac (bo (cB ?_))))
  cases b with|false=>exact(ih y U O).later T|true=>exact ai ⟨Aa,T,O,_,.bool _,U⟩
theorem ET.and(h:AndV F m X Q es V):ET F m V (.and es) Q X:=by
 exact λpe d s hs=>X2lp pe d.inv λZ Z u=>JW u h hs
theorem ET.or(h:OrV F m X Q es V):ET F m V (.or es) Q X:=by
 exact λpe d s hs=>X2lp pe d.inv λZ Z u=>MB u h hs
theorem ET.ite(h:TT F m V c (λt Aa=>if t then ET F m Aa a Q X else ET F m Aa b Q X) X):ET F m V (.ite c a b) Q X:=by
 intro pe d s hs;have y:=d.inv;clear d;refine X4lppp pe y λZ Z Z Z d ha z=>wpAny_IfExp ((h _ d s hs).out ?_)
 rintro t Aa Ad T Y B
 cases t with|true=>exact(B _ ha Ad Y).later T|false=>exact(B _ z Ad Y).later T
theorem wp_rel{Q:Unit->ag->Prop}(h:Q () s):wpAny (model S.prog S.w) A (release vs ks) Q X s:=λΓ p _=>by
 rwa [Sem.wp_release]
theorem TT.cmp2{Q:Bool->E0->Prop}
  (h:ET F m V a (λx Aa=>ET F m Aa b (λy Ab=>KT F m Ab o1 x y (λt B=>if t then ET F m B c (λz Cp=>KT F m Cp o2 y z Q X) X else Q false B) X) X) X) :
  TT F m V (.cmp2 o1 o2 a b c) Q X:=by
 refine λpe hc s hs=>X4lppppp pe hc.inv λY d pc pos hn1 T ha hb hcc=>?_
 have he:isTrue (.Compare Y [o1,o2] [d,pc] pos) F.env (eval (.Compare Y [o1,o2] [d,pc] pos) F.env) =
  (do testChain pos (<- eval Y F.env) [o1,o2] (markedEach [o1,o2] [d,pc] [eval d F.env,eval pc F.env])):=rfl
 show wpAny _ _ (isTrue _ _ _) _ _ _;rw[he];have hme:markedEach [o1,o2] [d,pc] [eval d F.env,eval pc F.env]=[eval d F.env,eval pc F.env]:=by
  have h2:=markedBehindIn_of_false (t:=eval pc F.env) (Fr (op:=o2) T);simp only[markedEach,h2]
 rw[hme];refine ac ((h _ ha s hs).out ?_);intro va Aa Ad Ah Ac u;obtain⟨x,rx,AO⟩:=u;refine ac (bo ((AO _ hb Ad Ac).out ?_));intro vb Ab Ai Ao Ag u;obtain⟨y,ry,Bq⟩:=u;refine ac (dF (ac (bo ((Bq va vb Ai Ag (rx.st Ao Ag) ry).out ?_))));refine λv B BC AU AG u=>X1lp v u λt Ju=>ac (m:=release _ _) (wp_rel (ac (bo (cB ?_))))
 cases t with
 |false=>exact ai ⟨B,(Ah.trans Ao).trans AU,AG,Ju⟩
 |true =>
  refine ac (bo ((Ju _ hcc BC AG).out ?_));intro vc Cp BB BS Bu u;obtain⟨z,rz,O⟩:=u;refine ac (dF (ac (m:=operate _ _) (wpAny_operating ((O vb vc BB Bu ((ry.st AU AG).st BS Bu) rz).out ?_))));exact λv Ev FW Ex Fu u=>X1lp v u λt U=>bo (cB ⟨Ev,(((Ah.trans Ao).trans AU).trans BS).trans Ex,Fu,U⟩)
end
end
section
open PySem PyProof.Rows
variable {S:Sta}
section
variable {F:Fx S}{m:Nat->Option AV}{V:E0}{X:Value->ag->Prop}{Q:AV->E0->Prop}
def IT(F:Fx S)(m:Nat->Option AV)(V:E0)(a k:AV)(Q:AV->E0->Prop)(X:Value->ag->Prop):Prop :=
 ∀va vk s,F.St m V s->Rep S.cv s.heap (F.D V) a va->Rep S.cv s.heap (F.D V) k vk ->
  ∃T id,s.TypeIs va T/\typeLookup (.type T) "__getitem__"=pure (some (.builtin id))/\VT F m V s (getItem va vk) Q X
theorem C8(h:BP i=true):subscripted i false o k=operate [o,k] (getItem o k):=by
 cases i<;>first|rfl|exact nF h
theorem ET.sub(h:ET F m V o (λa Aa=>ET F m Aa i (λk z=>IT F m z a k Q X) X) X):ET F m V (.sub o i) Q X:=by
 refine λpe hc s hs=>X3lppp pe hc.inv λZ Z Z hn ho hi=>Subscript_ ((h _ ho s hs).out ?_);intro Y Aa Ad Ah Ac u;obtain⟨a,d,AO⟩:=u;refine(AO _ hi Ad Ac).out ?_;intro y z Ai O U u;obtain⟨k,B,Bq⟩:=u;exact X2ppp (Bq Y y Ai U (d.st O U) B) λT id hT hl hg=>tail_any hT hl (hg.later (Ah.trans O)) (C8 hn)
theorem RepL.get{k:Nat}{x:AV}(r:RepL cv h D l vs)(e:l[k]?=some x):∃v,vs[k]?=some v/\Rep cv h D x v:=by
 induction l generalizing vs k with
 |nil=>exact(Ak hV e).elim
 |cons y l Y =>
  obtain⟨v,z,rfl,a,b⟩:=r.inv
  cases k with|zero=>exact⟨v,rfl,ae e▸a⟩|succ k=>exact Y (vs:=z) (k:=k) b e
theorem lt_63{i:Int}(h:i<1000000):i<2 ^ 63:=Int.lt_trans h (by decide)
theorem seqIx{i:Int}{n:Nat}(O:0<=i)(Y:i<n):seqIndex? i n=some i.toNat:=by
 unfold seqIndex?;have z:¬i<0:=by exact lin [] [i] (.l V0 K0) [.f K0 V0] rfl O
 simp only[z,if_false];rw[if_pos (by simp;exact⟨lin [] [i] (.f K0 V0) [.f K0 V0] rfl O,lin [n] [i] (.g V0 (.c V0)) [.g V0 (.c V0)] rfl Y⟩)]
theorem IT.list{i:Int}{x:AV}(ha:dl V a=some l)(h0:0<=i)(h1:i<1000000)(d:l[i.toNat]?=some x)(h:Q x V):IT F m V a (.int i) Q X:=by
 refine λT y s hs z u=>X3lpp T (z.lst hs.inv ha) λad vs n e U=>X1l y u.inv λZ=>X1pp (U.get d) λv B O=>?_;have Y:s.heap.IsList ad vs.toArray:=⟨_,e,rfl,n,rfl⟩;exact⟨_,_,Y.typeIs,slot_list_getitem.lookup,wpAny_getItem_list Y h0 (lt_63 h1) (by simpa using B) (now hs O h)⟩
theorem IT.nums{i x:Int}(h0:0<=i)(O:i<1000000)(u:l[i.toNat]?=some x)(h:Q (.int x) V):IT F m V (.nums l) (.int i) Q X:=by
 intro U y s hs T z
 .refine X4lppppp U T.inv λa o vs n e c f d r=>X1l y z.inv λZ=>X1p (r.2 _ _ u) λt B=>?_
  have Y:s.heap.IsList a vs.toArray:=⟨o,e,c,n,f⟩;exact⟨_,_,Y.typeIs,slot_list_getitem.lookup,wpAny_getItem_list Y h0 (lt_63 O) (by simpa using B) (now hs (.int _ _) h)⟩
theorem IT.tup{i:Int}{x:AV}(O:0<=i)(h1:i<1000000)(hx:l[i.toNat]?=some x)(h:Q x V):IT F m V (.tup l) (.int i) Q X:=by
 intro U y s hs u T
 .refine X3lppp U u.inv λad vs n e d r=>X1l y T.inv λZ=>?_
  obtain⟨v,B,z⟩:=r.get hx;have ht:IsTup s.heap ad vs.toArray:=⟨_,e,rfl,n,rfl⟩;have Y:i.toNat<vs.length:=by
   rcases bO i.toNat vs.length with q|q
   .exact q
   .rw[be q]at B;exact nS B
  have lo:-(2:Int) ^ 63<=i:=de (by decide) O
  refine⟨_,_,⟨_,e,rfl⟩,PyProof.Rows.slot_tuple_getitem.lookup,getItem_tuple ht lo (lt_63 h1) (j:=i.toNat) ?_ (by simpa using B) (now hs z h)⟩
  rw[aF];exact seqIx O (lin [i.toNat,vs.length] [i] (.g V0 (.c V1)) [.c V0 V1,.f V0 (.c V0)] rfl Y (aK i))
theorem IT.str{i:Int}{c:Nat}(O:0<=i)(U:i<1000000)(u:x.cps[i.toNat]?=some c)(h:Q (.str ⟨#[c]⟩) V):IT F m V (.str x) (.int i) Q X:=by
 refine λd y s hs T B=>X1l d T.inv λZ=>X1l y B.inv λZ=>⟨_,_,typeIs_str _ _ _,PySem.F.slot_str_getitem.lookup,P.getItem_str (c:=c) ?_ ?_ (Bk _ hs (.str _ _) h)⟩
 .have:i<2 ^ 63:=lt_63 U
  simp only[Bool.or_eq_false_iff,decide_eq_false_iff_not];exact⟨fQ.mpr (de (by decide) O),gA.mpr this⟩
 .have Y:i.toNat<x.cps.size:=by
   rcases bO i.toNat x.cps.size with q|q
   .exact q
   .rw[Array.getElem?_eq_none q]at u;exact nS u
  rw[seqIx O (show i<(x.length:Int) from by have:x.length=x.cps.size:=rfl;exact lin [i.toNat,x.cps.size,x.length] [i] (.g V0 (.c V2)) [.c V0 V1,.D (-1) V2 V1,.f V0 (.c V0)] rfl Y this (aK i))]
  exact u
theorem IT.dict(ha:dd V a=some l)(hx:By l k=some x)(h:Q x V):IT F m V a (sp k) Q X:=by
 refine λY O s hs z T=>X4lpp O T.spot λt tx ty n e d=>X3lpppp Y (z.dct hs.inv ha) λad es n' u sm y U=>X1pp (RepD.xs (S:=S) U) λxs B Z0=>?_;clear U;subst Z0;have q:=B.at_ k;rw[hx]at q
 cases hp:atKey xs (key k)with
 |none=>rw[hp]at q;exact q.elim
 |some p =>
  rw[hp]at q;exact⟨_,_,(Gv (S:=S) B y u).typeIs,PySem.slot_dict_getitem.lookup,wpAny_getItem_heap (Cf F) (Es e) (Gv B y u) hp (Bk _ hs q h)⟩
theorem optE(h:ET F m V e Q X)(d:CO (λx=>CEU F.tb F.sc x e.st) pe e.st)(hs:F.St m V s):VT F m V s (eC (evalOpt pe F.env)) Q X:=by
 rcases d.inv with⟨rfl,z⟩|⟨x,rfl,y⟩
 .exact h (.Constant .none 0 default) (show CEU F.tb F.sc _ e.st by rw[z];exact .none) s hs
 .exact h _ y s hs
theorem RepL.take(k:Nat)(r:RepL cv h D l vs):RepL cv h D (l.take k) (vs.take k):=by
 induction l generalizing vs k with
 |nil=>rw[show vs=[] from r.inv,List.take_nil,List.take_nil];exact .nil
 |cons y l u =>
  obtain⟨v,z,rfl,a,b⟩:=r.inv
  cases k with|zero=>exact .nil|succ k=>exact .cons a (u k b)
theorem RepL.drop(k:Nat)(r:RepL cv h D l vs):RepL cv h D (l.drop k) (vs.drop k):=by
 induction l generalizing vs k with
 |nil=>rw[show vs=[] from r.inv,List.drop_nil,List.drop_nil];exact .nil
 |cons y l u =>
  cases k with|zero=>exact r|succ k=>refine X2lpp vs r.inv λv z a b=>?_;exact u k b
noncomputable def cut(l:List AV):AV->AV->Option (List AV)
 |.none,.none=>some l
 |.none,.int b=>if 0<=b then some (l.take b.toNat) else some (l.take (l.length - (-b).toNat))
 |.int a,.none=>if 0<=a then some (l.drop a.toNat) else aa
 |_,_=>aa
noncomputable def cutS(x:Str):AV->AV->Option Str
 |.none,.none=>some (Txt.slice x none none)
 |.none,.int b=>some (Txt.slice x none (some b))
 |.int a,.none=>some (Txt.slice x (some a) none)
 |.int a,.int b=>some (Txt.slice x (some a) (some b))
 |_,_=>aa
end
end
section
variable {S:Sta}
def M3(S:Sta)(f:Value):Prop:=∀h,(∀b o,S.g.get? b=some o->h.get? b=some o)->∃k,(k=Keeper.frame\/k=Keeper.machine\/k=Keeper.boundFrame)/\Looks (model S.prog S.w) h (keeperOf f) k
theorem M3.builtin(U:String):M3 S (.builtin U):=λZ Z=>⟨.machine,.inr (.inl rfl),Looks.of_pure rfl⟩
theorem M3.type(U:String):M3 S (.type U):=λZ Z=>⟨.machine,.inr (.inl rfl),Looks.of_pure rfl⟩
theorem M3.own(h:keepIn S.K f=true):M3 S f:=λZ k=>keeps_K h _ (S.X.keeps k)
section
variable {F:Fx S}{m:Nat->Option AV}{V:E0}{X:Value->ag->Prop}{Q:AV->E0->Prop}
def CT(F:Fx S)(m:Nat->Option AV)(V:E0)(f:Value)(avs:List AV)(Q:AV->E0->Prop)(X:Value->ag->Prop):Prop :=
 ∀vals s,F.St m V s->RepL S.cv s.heap (F.D V) avs vals->VT F m V s (call f vals) Q X
theorem Hh(d:CEs F.tb F.sc pes es):(backTo pos (fp pes F.env)).any (·.1)=false:=by
 induction es generalizing pes with
 |nil=>obtain rfl:=d.inv_nil;rfl
 |cons e es y=>refine X2lppp pes d.inv λZ Z O Z z=>?_;rw[AX O];exact y z
theorem CY(d:CEs F.tb F.sc pes (e::es))(B:M3 S f)(h:EsT F m V (e::es) P X)(hs:F.St m V s)
  (hq:∀vals y V' s',H2 F.P F.O V s V' s'->F.St m V' s'->RepL S.cv s'.heap (F.D V') y vals->P y V'->wpAny (model S.prog S.w) F.A (call f (first++vals)) Q' X s') :
  wpAny (model S.prog S.w) F.A (callWith pos f first (backTo pos (fp pes F.env)) []) Q' X s:=by
 refine callWith_of (P:=λh=>∀b o,S.g.get? b=some o->h.get? b=some o) (by rw[Hh d];rfl) B ?_
 have h':=h _ pos d s hs;refine X2pppp d.inv λZ Z z T he U=>?_;clear d;subst z;rw[AX T]at h' ⊢;refine Calls.evalArgs_plain (W.out h' ?_);intro vals V' s' st Y u;obtain⟨y,r,p⟩:=u;exact⟨Y.inv.keep,hq vals y V' s' st Y r p⟩
theorem EP(B:M3 S f)(hs:F.St m V s)(hq:wpAny (model S.prog S.w) F.A (call f (first++[])) Q' X s) :
  wpAny (model S.prog S.w) F.A (callWith pos f first (backTo pos (fp [] F.env)) []) Q' X s :=
 callWith_of (P:=λh=>∀b o,S.g.get? b=some o->h.get? b=some o) rfl B (evalArgs_nil3 ⟨hs.inv.keep,hq⟩)
theorem ET.callg(d:Glob S i fv)(B:M3 S fv)(h:EsT F m V (e::es) (λy Aa=>CT F m Aa fv y Q X) X):ET F m V (.call (.g i) (e::es)) Q X:=by
 refine λpe U s hs=>X4lppp pe U.inv λZ Z Z Z Z u ha=>Call_ (Do u d hs (CY ha B h hs ?_));exact λvals y V' s' st Y r p=>(p vals s' Y r).later st
theorem RepL.one(r:RepL cv h D [a] vs):∃v,vs=[v]/\Rep cv h D a v:=by
 refine X2lpp vs r.inv λv z B d=>?_;obtain rfl:=d.inv;exact⟨_,rfl,B⟩
theorem RepL.two(r:RepL cv h D [a,b] vs):∃v u,vs=[v,u]/\Rep cv h D a v/\Rep cv h D b u:=by
 exact X2lpp vs r.inv λv z B d=>X1lp z d.one λu O=>⟨_,_,rfl,B,O⟩
theorem GN(h:n<=big):¬(n:Int) >= 2 ^ 63:=by
 have:(n:Int)<=1000000:=by unfold big at h;exact lin [n] [] (.f (.c V0) AC) [.b V0 AC] rfl h
 exact gA.mpr (eX this (by decide))
theorem CT.lenList(ha:dl V a=some l)(hz:l.length<=big)(h:Q (.int l.length) V):CT F m V (.builtin "len") [a] Q X:=by
 refine λvals s hs r=>X1lp vals r.one λv Y=>X3lpp v (Y.lst hs.inv ha) λad vs n e U=>?_;have O:s.heap.IsList ad vs.toArray:=⟨_,e,rfl,n,rfl⟩;refine Calls.call_len_list O (by rw[aF,U.length];exact gA.mp (GN hz)) ?_
 rw[aF,U.length];exact Bk _ hs (.int _ _) h
theorem CT.lenInts(hz:l.length<=big)(h:Q (.int l.length) V):CT F m V (.builtin "len") [.nums l] Q X:=by
 refine λvals s hs r=>X1lp vals r.one λv Y=>?_
 .refine X4lppppp v Y.inv λa o vs n e c f d B=>?_
  have O:s.heap.IsList a vs.toArray:=⟨o,e,c,n,f⟩;refine Calls.call_len_list O (by rw[aF,B.1];exact gA.mp (GN hz)) ?_
  rw[aF,B.1];exact Bk _ hs (.int _ _) h
theorem CT.lenStr(hz:x.length<=big)(h:Q (.int x.length) V):CT F m V (.builtin "len") [.str x] Q X:=by
 exact λvals s hs r=>X1lp vals r.one λv Y=>X1l v Y.inv λZ=>P.len_str (GN hz) (Bk _ hs (.int _ _) h)
end
end
section
variable {S:Sta}
abbrev L1:=Nat->Option AV
noncomputable def L1.set(m:L1)(i:Nat)(v:AV):L1:=λj=>if j=i then some v else m j
set_option genCtorIdx false in
inductive Fl where
 |next
 |ret (v:AV)
noncomputable abbrev Fl.ctorIdx(x:Fl):Nat:=@Fl.casesOn (λ_=>Nat) x 0 (λ_=>1)
def FlR(cv:Nat->Value)(h:Heap)(D:Addr->Prop):Flow->Fl->Prop
 |.next,.next=>True
 |.ret v,.ret a=>Rep cv h D a v
 |_,_=>False
inductive PS(F:Fx S)(V:E0)(s:ag)(K:Fl->L1->E0->Prop)(f:Flow)(s':ag):Prop
 |mk (fl:Fl)(m':L1)(V':E0)(st:H2 F.P F.O V s V' s')(h:F.St m' V' s')(r:FlR S.cv s'.heap (F.D V') f fl)(k:K fl m' V'):PS F V s K f s'
inductive PP(F:Fx S)(V:E0)(s:ag)(K:L1->E0->Prop)(s':ag):Prop
 |mk (m':L1)(V':E0)(st:H2 F.P F.O V s V' s')(h:F.St m' V' s')(k:K m' V'):PP F V s K s'
def WS(F:Fx S)(V:E0)(s:ag)(t:Sem Flow)(K:Fl->L1->E0->Prop)(X:Value->ag->Prop):Prop :=
 wpAny (model S.prog S.w) F.A t (PS F V s K) X s
def ST(F:Fx S)(m:L1)(V:E0)(st:Internal.S)(K:Fl->L1->E0->Prop)(X:Value->ag->Prop):Prop :=
 ∀ps,CS F.tb F.sc ps st->∀s,F.St m V s->WS F V s (exec ps F.env) K X
def SsT(F:Fx S)(m:L1)(V:E0)(ss:List Internal.S)(K:Fl->L1->E0->Prop)(X:Value->ag->Prop):Prop :=
 ∀ps,CSs F.tb F.sc ps ss->∀s,F.St m V s->WS F V s (execs ps F.env) K X
section
variable {F:Fx S}{m:L1}{V:E0}{X:Value->ag->Prop}{K K':Fl->L1->E0->Prop}
theorem WS.mono(h:WS F V s t K X)(k:∀f m V,K f m V->K' f m V):WS F V s t K' X :=
 aR h (λ_ _ ⟨fl,m',V',st,h1,h2,h3⟩=>⟨fl,m',V',st,h1,h2,k _ _ _ h3⟩) λZ Z e=>e
theorem WS.later(h:WS F V s t K X)(st:H2 F.P F.O AJ Aj V s) :
  wpAny (model S.prog S.w) F.A t (PS F AJ Aj K) X s :=
 aR h (λ_ _ ⟨fl,m',V',st',h1,h2,h3⟩=>⟨fl,m',V',st.trans st',h1,h2,h3⟩) λZ Z e=>e
theorem ST.mono{st:Internal.S}(h:ST F m V st K X)(k:∀f m V,K f m V->K' f m V):ST F m V st K' X:=λps d s hs=>(h ps d s hs).mono k
theorem SsT.mono(h:SsT F m V ss K X)(k:∀f m V,K f m V->K' f m V):SsT F m V ss K' X:=λps d s hs=>(h ps d s hs).mono k
theorem SsT.weak(h:SsT F m' V' ss K X)(T:∀i av,m' i=some av->m i=some av)(O:∀a o,V' a=some o->V a=some o):SsT F m V ss K X:=by
 exact λps d s hs=>Aq ((hs.weak T).drop O) λY st=>(h ps d s Y).later st.any
set_option tactic.hygienic true in
theorem SsT.nil(h:K .next m V):SsT F m V [] K X:=by
 intro ps d s hs;obtain rfl:=d.inv_nil;exact wpAny_execs_nil ⟨.next,m,V,H2.refl _ _ _ _,hs,trivial,h⟩
theorem SsT.cons{st:Internal.S}{r:List Internal.S}(h:ST F m V st (λfl Ap Aa=>match fl with|.next=>SsT F Ap Aa r K X|.ret v=>K (.ret v) Ap Aa) X):SsT F m V (st::r) K X:=by
 refine λps d s hs=>X2lpp ps d.inv λZ Z z B=>wpAny_execs_cons (aR (h _ z s hs) ?_ λZ Z e=>e);intro f Ad T;obtain⟨fl,Ap,Aa,y,Y,O,q⟩:=T
 cases fl with
 |next =>
  cases f with
  |next=>exact(q _ B Ad Y).later y
  |_=>exact O.elim
 |ret v =>
  cases f with|ret u=>exact⟨.ret v,Ap,Aa,y,Y,O,q⟩|_=>exact O.elim
set_option tactic.hygienic true in
theorem ST.pass(h:K .next m V):ST F m V .pass K X:=by
 exact λps d s hs=>X1l ps d.inv λZ=>wpAny_Pass ⟨.next,m,V,H2.refl _ _ _ _,hs,trivial,h⟩
theorem ST.ret(h:ET F m V e (λa Aa=>K (.ret a) m Aa) X):ST F m V (.ret e) K X:=by
 refine λps d s hs=>X2lp ps d.inv λZ Z y=>wpAny_Return_some ((h _ y s hs).out ?_);intro v Aa Ad T z u;obtain⟨a,Y,q⟩:=u;exact⟨.ret a,m,Aa,T,z,Y,q⟩
theorem ST.ite(h:TT F m V c (λt Aa=>if t then SsT F m Aa a K X else SsT F m Aa b K X) X):ST F m V (.ite c a b) K X:=by
 intro ps d s hs;have y:=d.inv;clear d;refine X4lppp ps y λZ Z Z Z d ha z=>wpAny_If ((h _ d s hs).out ?_)
 rintro t Aa Ad T Y B
 cases t with|true=>exact(B _ ha Ad Y).later T|false=>exact(B _ z Ad Y).later T
theorem St.own_turn(hs:Internal.St S tb env N P b m V s)(Y:Own env L)
  (B:∀c o,c≠L->s.heap.get? c=some o->h'.get? c=some o) (hL:∃o,h'.get? L=some o) (hl:Loc S.cv S.g tb env m' N V h') :
  H2 P (Own env) V s V { s with heap:=h',toks:=tk }/\Internal.St S tb env N P b m' V { s with heap:=h',toks:=tk }:=by
 have there:∀c o,s.heap.get? c=some o->∃O,h'.get? c=some O:=λc o e=>by
  by_cases q:c=L
  .clear Y B;subst q;exact hL
  .exact⟨o,B c o q e⟩
 have st:H2 P (Own env) V s V { s with heap:=h',toks:=tk }:=H2.of_but (λc o Z n e=>B c o (λq=>n (q▸Y)) e) (λZ h=>.inl h) there
 have own:=hs.loc;obtain⟨_,_,_,_,o,_,_,_⟩:=own;have e0:Ext (DN N V) s.heap h':=Ext.of_but λc u d e=>B c u (λq=>d (.inr (q▸hs.own L Y))) e;refine⟨st,⟨λc u e=>B c u (λq=>?_) (hs.inv.keep c u e),hs.inv.gens,hs.inv.drawn,hs.inv.os,hs.inv.σg,hs.inv.σN,λc h=>?_,λc u e=>?_⟩,hl,hs.frm.out st hs.new,hs.pN,hs.new,hs.own,hs.gb⟩
 .clear B hL;subst q;rw[(o c Y).2]at e;exact nS e
 .refine X1pp (hs.inv.Nin c h) λU e f=>?_
  by_cases q:c=L
  .obtain⟨mc,cm,n,cc,_⟩:=hl
   clear B hL;subst q
   rcases Y with rfl|⟨y,hy⟩
   .refine X3ppp n λO Z Z T d' Z=>?_;exact⟨O,T,λvs z=>by rw[d']at z;exact nDf rfl z⟩
   .refine X1pp (cc y _ hy) λO T d'=>?_;exact⟨O,T,λvs z=>by rw[d']at z;exact nDf rfl z⟩
  .exact⟨U,B c U q e,f⟩
 .exact(hs.inv.rep c u e).ext e0 (λZ h=>.inl h) λU T=>B c U (λq=>(o L Y).1 (by rw[<- q];unfold Dom;rw[e];simp)) T
theorem BM(hf:F.sc.lookup x≠some .free)(hx:IsV F.tb F.sc x i)(hs:F.St m V s)(r:Rep S.cv s.heap (F.D V) av v)
  (h:∀s',H2 F.P F.O V s V s'->F.St (L1.set m i av) V s'->Q' () s'):wpAny (model S.prog S.w) F.A (storeName F.env x v) Q' X s:=by
 obtain⟨mc,cm,n,c,o,ap,cl,rr⟩:=hs.loc;have kd:∀y,F.env.kindOf y=F.sc.lookup y:=λZ=>rfl;have u:∀{y:Str}{j:Nat}{bv:AV},ixS F.tb y=some j->(L1.set m i av) j=some bv->(y=x/\bv=av)\/(y≠x/\m j=some bv):=by
  intro y j bv hj hm;unfold L1.set at hm
  by_cases q:j=i
  .clear h;subst q
   rw[if_pos rfl]at hm;exact .inl ⟨BQ hj hx.ix,(ae hm).symm⟩
  .rw[if_neg q]at hm
   refine .inr ⟨λe=>?_,hm⟩;clear hf;subst e;rw[hx.ix]at hj;exact q (ae hj).symm
 rcases hx.kind with q|q|q
 .refine wpAny_storeName_local ((kd x).trans q) n (λh' hn hsb=>?_) (by rw[F.fk];rfl)
  have hk:∀U oc,U≠F.env.locals->s.heap.get? U=some oc->h'.get? U=some oc:=λU oc ne e=>hsb.extBut U oc ne e;have hL:∃oo,h'.get? F.env.locals=some oo:=by refine X3pp hn λoo Z Z e Z=>?_;exact⟨oo,e⟩
  have e0:Ext (F.D V) s.heap h':=Ext.of_but λU oc d e=>hk U oc (λq=>d (.inr (q▸hs.own _ (.inl rfl)))) e;have Y:Loc S.cv S.g F.tb F.env (L1.set m i av) F.N V h':=by
   refine⟨_,cm,hn,λy U hy=>?_,o,ap,cl,λy j bv hj hm=>?_⟩
   .exact X1pp (c y U hy) λob e hd=>⟨ob,hk U ob (cl y U hy) e,hd⟩
   .rcases u hj hm with⟨rfl,rfl⟩|⟨ne,hm'⟩
    .rw[kd,q]
     exact⟨v,if_pos rfl,r.ext e0 λZ h=>.inl h⟩
    .exact LocAt.map (rr y j bv hj hm') (λh2=>h2.ext e0 λZ h=>.inl h) (λZ B=>(if_neg ne).trans B) (λZ B=>B)
  exact Aq (St.own_turn (tk:=s.toks+1) hs (.inl rfl) hk hL Y) λst B=>h _ st B
 .have hc:=F.fc x ((kd x).trans q)
  .refine X1p hc λU T=>wpAny_storeName_cell F.fk ((kd x).trans q) T (c x U T) (λh' hv hsb=>?_)
   have hk:∀d od,d≠U->s.heap.get? d=some od->h'.get? d=some od:=λd od ne e=>hsb.extBut d od ne e;have hL:∃oo,h'.get? U=some oo:=by refine X1pp hv λoo e Z=>?_;exact⟨oo,e⟩
   have e0:Ext (F.D V) s.heap h':=Ext.of_but λd od dd e=>hk d od (λq=>dd (.inr (q▸hs.own _ (.inr ⟨x,T⟩)))) e;have Y:Loc S.cv S.g F.tb F.env (L1.set m i av) F.N V h':=by
    refine⟨mc,λy=>if y=x then some v else cm y,n.sameBut hsb (dC (cl x U T)),λy d hy=>?_,o,ap,cl,λy j bv hj hm=>?_⟩
    .by_cases e:y=x
     .clear hf hx u q hc;subst e;rw[T]at hy;obtain rfl:=ae hy;simp only[if_true];exact hv
     .simp only[if_neg e]
      exact X1pp (c y d hy) λob eo hd=>⟨ob,hk d ob (λz=>e (ap y x d hy (z▸T))) eo,hd⟩
    .rcases u hj hm with⟨rfl,rfl⟩|⟨ne,hm'⟩
     .rw[kd,q]
      exact⟨v,U,T,if_pos rfl,r.ext e0 λZ h=>.inl h⟩
     .exact LocAt.map (rr y j bv hj hm') (λh2=>h2.ext e0 λZ h=>.inl h) (λZ B=>B) (λZ B=>(if_neg ne).trans B)
   exact Aq (St.own_turn (tk:=s.toks) hs (.inr ⟨x,T⟩) hk hL Y) λst B=>h _ st B
 .exact absurd q hf
def PT(F:Fx S)(m:L1)(V:E0)(p:Pat)(a:AV)(K:L1->E0->Prop)(X:Value->ag->Prop):Prop :=
 ∀pe,CP F.tb F.sc pe p->∀v s,F.St m V s->Rep S.cv s.heap (F.D V) a v ->
  wpAny (model S.prog S.w) F.A (assign pe F.env v) (λZ=>PP F V s K) X s
theorem PT.v{K:L1->E0->Prop}(h:K (L1.set m i a) V):PT F m V (.v i) a K X:=by
 exact λpe d v s hs r=>X2lpp pe d.inv λZ Z O u=>wpAny_assign_Name (BM O u hs r λs' st Y=>⟨_,V,st,Y,h⟩)
noncomputable def DD(e:E):Bool:=!(b5 (kd e.st) 1)
noncomputable def Lf(e:E):Bool:=!(b5 (kd e.st) 2)
noncomputable def AI(e:E):Bool:=DD e.un
noncomputable def Ga(e:E):Bool:=Lf e.un
theorem Cd(hc:CE tb sc pe e)(h:AI e=true):swapsWith pe (some t) line env=pure false:=by
 replace hc:=hc.un;unfold AI at h;generalize e.un=e at hc h;replace hc:=hc.1;unfold DD at h;rw[<- hc]at h
 cases pe<;>first|rfl|exact(aW h).elim
theorem ST.assign(O:AI e=true)(h:ET F m V e (λa Aa=>K .next (L1.set m i a) Aa) X):ST F m V (.assign (.v i) e) K X:=by
 refine λps T s hs=>X3lpp ps T.inv λZ Z Z d y=>X2ppp d.inv λZ Z z U B=>?_;subst z;refine wpAny_Assign_Name ((h _ y s hs).out ?_) (Cd y O);intro v Aa Ad Ah Ac u;obtain⟨a,Y,q⟩:=u;exact BM U B Ac Y λAi Ao Ag=>⟨.next,_,Aa,Ah.trans Ao,Ag,trivial,q⟩
theorem Jf(hc:CE tb sc pe e)(h:AI e=true):swapsWith pe none line env=pure false:=by
 replace hc:=hc.un;unfold AI at h;generalize e.un=e at hc h;replace hc:=hc.1;unfold DD at h;rw[<- hc]at h
 cases pe<;>first|rfl|exact(aW h).elim
set_option tactic.hygienic true in
theorem let_go(h:Q' .next s):wpAny (model S.prog S.w) A (dropValue pe pos v) Q' X s:=by
 exact wpAny_dropValue h
set_option tactic.hygienic true in
theorem ST.expr(O:AI e=true)(h:ET F m V e (λZ Aa=>K .next m Aa) X):ST F m V (.expr e) K X:=by
 refine λps d s hs=>X2lp ps d.inv λpe pos y=>?_;have hi:interactive F.env=false:=by unfold interactive;rw[F.fk];rfl
 show wpAny _ _ (exec (.Expr pe pos) F.env) _ _ _;rw[exec_Expr (hi:=hi) (hs:=Jf y O)];refine ac (dF (ac ((h _ y s hs).out ?_)));intro v Aa Ad T Y u;obtain⟨a,B,q⟩:=u;exact let_go ⟨.next,m,Aa,T,Y,trivial,q⟩
end
end
section
variable {S:Sta}
structure As where
 tb:List Nat
 n:Nat
 body:List Internal.S
structure FnEx(S:Sta)(f:Addr)(c:As)(o:Obj)(fd:gG)(body:List Stmt)(names:List Str):Prop where
 ho:S.g.get? f=some o
 hd:o.data=.func fd
 hb:fd.body=.stmts body
 hcl:fd.closure=[]
 hg:fd.globals=bV
 hbl:fd.builtins=builtinsNs
 hk:fd.scope.kind=.function
 hco:fd.scope.isCoroutine=false
 hgen:fd.scope.isGenerator=false
 hcd:S.g.CodeRec fd.code fd.qualname
 hnl:names.length=c.n
 hbind:∀vals:List Value,vals.length=c.n->bindArgs fd ⟨vals,[]⟩=pure (names.zip vals)
 hnm:∀j x,names[j]?=some x->ixS c.tb x=some j/\(fd.scope.names.lookup x=some .local\/fd.scope.names.lookup x=some .cell)
 hnd:((cZ 0 fd.scope.names []).map (·.1)).Nodup
 hcs:CSs c.tb fd.scope.names body c.body
structure IsFn(S:Sta)(f:Addr)(c:As):Prop where
 ex:∃(o:Obj)(fd:gG)(body:List Stmt)(names:List Str),FnEx S f c o fd body names
def View(S:Sta)(N:Addr->Prop)(v:AV)(V:E0)(v':AV)(V':E0):Prop :=
 ∀s u,Inv S N V s->Rep S.cv s.heap (DN N V) v u->Inv S N V' s/\H2 noO noO V s V' s/\Rep S.cv s.heap (DN N V') v' u
abbrev KX:=Nat->E0->Prop
abbrev noX:KX:=λZ Z=>False
def GV(l:List Env)(b:Addr):Prop:=∃e∈l,e.frame=some b
structure Off(S:Sta)(A:cX)(e:Addr)(c:Nat)(Aj s':ag):Prop where
 fly:∃base l,A.frames=some l/\FlyY base l e (S.cv c) .none s'.heap/\∀b o,Aj.heap.get? b=some o->¬GV l b->base.get? b=some o
 up:Aj.heap.UpToSlots s'.heap
 rest:s'.gens=Aj.gens/\s'.drawn=Aj.drawn/\s'.os=Aj.os
noncomputable def Sta.grow(S:Sta)(g':Heap)(k:∀b o,S.g.get? b=some o->g'.get? b=some o)(x:Addr)(hx:∃o vs,g'.get? x=some o/\o.data=.fields vs/\vs[2]?=some bA):Sta :=
 { S with g:=g',X:=S.X.keeps k,ng:=S.ng.keeps k,nb:=S.nb.keeps k,lim:=S.lim.keeps k,sm:=(by refine X1p S.sm λo e=>?_;exact⟨o,k _ _ e⟩),hx:=some x,hxo:=λy e=>by obtain rfl:=ae e;exact hx }
inductive PCv(S:Sta)(N:Addr->Prop)(A:cX)(V:E0)(s:ag)(Q:AV->E0->Prop)(v:Value)(s':ag):Prop
 |mk (av:AV)(V':E0)(st:H2 (Frm A) noO V s V' s')(i:Inv S N V' s')(r:Rep S.cv s'.heap (DN N V') av v)(q:Q av V'):PCv S N A V s Q v s'
inductive PCe(S:Sta)(N:Addr->Prop)(A:cX)(V:E0)(s:ag)(X:KX)(e:Value)(s':ag):Prop
 |mk (ea:Addr)(c:Nat)(V':E0)(Aj:ag)(he:e=.ref ea)(o:Off S A ea c Aj s')(st:H2 (Frm A) noO V s V' Aj)(i:Inv S N V' Aj)(x:X c V'):PCe S N A V s X e s'
def M1(S:Sta)(k:Nat)(f:Value)(avs:List AV)(V:E0)(Q:AV->E0->Prop)(X:KX):Prop :=
 ∀(N:Addr->Prop)(A:cX) vals s,Room S N k A->Inv S N V s->RepL S.cv s.heap (DN N V) avs vals ->
  codeAny (model S.prog S.w) A (.call f ⟨vals,[]⟩) (λr s'=>match r with
   |.ok (.ret v)=>PCv S N A V s Q v s'
   |.ok _=>False
   |.error e=>PCe S N A V s X e s') s
theorem M1.mono(h:M1 S k f avs V Q X)(q:∀a V,Q a V->Q' a V)(x:∀c V,X c V->X' c V):M1 S k f avs V Q' X' :=
 λN A vals s y hi U=>dD (h N A vals s y hi U) λr s' z=>by
  cases r with
  |error e=>obtain⟨ea,c,V',Aj,Y,O,B,u,T⟩:=z;exact⟨ea,c,V',Aj,Y,O,B,u,x _ _ T⟩
  |ok fl =>
   cases fl with
   |ret v=>obtain⟨av,V',a,b,c,d⟩:=z;exact⟨av,V',a,b,c,q _ _ d⟩
   |_=>exact z
inductive XF(F:Fx S)(m:Nat->Option AV)(X:KX)(e:Value)(s':ag):Prop
 |mk (ea:Addr)(c:Nat)(V':E0)(Aj:ag)(he:e=.ref ea)(o:Off S F.A ea c Aj s')(h:F.St m V' Aj)(x:X c V'):XF F m X e s'
inductive XR(F:Fx S)(X:KX)(e:Value)(s':ag):Prop
 |mk (ea:Addr) (c:Nat) (V':E0) (Aj:ag) (m':L1) (he:e=.ref ea) (h:F.St m' V' Aj) (x:X c V')
  (o:Off S F.A ea c Aj s'\/∃args,Heap.MadeExcOf Aj.heap s'.heap ea (S.cv c) args/\s'.gens=Aj.gens/\s'.drawn=Aj.drawn/\s'.os=Aj.os):XR F X e s'
theorem XF.up(h:XF F m X e s'):XR F X e s':=by
 obtain⟨T,c,V',Aj,Y,d,B,z⟩:=h;exact⟨T,c,V',Aj,m,Y,B,z,.inl d⟩
section
variable {F:Fx S}{m:Nat->Option AV}{V:E0}{Q:AV->E0->Prop}
theorem CT.own(h:M1 S k f avs V Q X)(z:k<=F.k):CT F m V f avs Q (XF F m X):=by
 intro vals s hs U;have room:Room S F.N k F.A:=⟨F.room.hh,F.room.fr,by have:=F.room.dp;exact lin [k,F.k,F.A.depth] [] (.c (.A V2 (.M 2 V0)) GU) [.B 2 V0 V1,.c (.A V2 (.M 2 V1)) GU] rfl z this,by have:=F.room.un;exact lin [k,F.k,F.A.units] [] (.c (.A V2 (.M 20 V0)) BX) [.B 20 V0 V1,.c (.A V2 (.M 20 V1)) BX] rfl z this⟩
 refine wpAny_call (dD (h F.N F.A vals s room hs.inv U) λr s' x=>?_)
 cases r with
 |error e =>
  obtain⟨d,c,V',Aj,O,y,Y,u,T⟩:=x;exact⟨d,c,V',Aj,O,y,hs.to Y u (λZ h=>h),T⟩
 |ok fl =>
  cases fl with
  |ret v =>
   obtain⟨av,V',st,i,r,q⟩:=x;exact⟨V',st.mono (λZ h=>h.elim),hs.to st i (λZ h=>h),av,r,q⟩
  |_=>exact x
end
structure Top(F:Fx S):Prop where
 top:∃l,F.A.frames=some (F.env::l)
 frame:F.env.frame=some F.env.locals
theorem Dr{h base:Heap}:∀{l:List Env},(∀e∈l,e.scope.kind≠.module/\∃L o,e.frame=some L/\base.get? L=aa/\h.get? L=some o/\∀vs,o.data≠.fields vs)->h.FunFrames base l
 |[],_=>trivial
 |e::l,k=>⟨(k e (.head _)).1,(k e (.head _)).2,Dr λe y=>k e (.tail _ y)⟩
theorem H2.hide(x:H2 P noO V s V' Aj)(z:s.heap.get? L=aa):H2 P noO V s V' { Aj with heap:=Aj.heap.hide L }:=by
 have ne:∀{b o},s.heap.get? b=some o->b≠L:=λe q=>by rw[q,z]at e;exact nS e
 have y:∀{b o},b≠L->Aj.heap.get? b=some o->(Aj.heap.hide L).get? b=some o:=λn e=>(Heap.hide_ne _ n).trans e;refine⟨⟨λb o e d=>y (ne e) (x.ext.obj b o e d)⟩,λb o e p U d=>?_,x.dom,λb o e=>?_⟩
 .refine X1pp (x.frm b o e p U d) λu O r=>?_;exact⟨u,y (ne e) O,r⟩
 .refine X1p (x.there b o e) λu O=>?_;exact⟨u,y (ne e) O⟩
theorem Inv.hide(x:Inv S N' V Aj)(hN:∀a,N a->N' a)(O:N' L)(T:¬N L)(U:S.g.get? L=aa):Inv S N V { Aj with heap:=Aj.heap.hide L }:=by
 have y:∀{b o},b≠L->Aj.heap.get? b=some o->(Aj.heap.hide L).get? b=some o:=λn e=>(Heap.hide_ne _ n).trans e;exact⟨λb o e=>y (λq=>by rw[q,U]at e;exact nS e) (x.keep b o e),x.gens,x.drawn,x.os,x.σg,λa d q=>x.σN a d (hN a q),λa q=>(X1pp (x.Nin a (hN a q)) λo e nf=>⟨o,y (λz=>T (z▸q)) e,nf⟩),λa o e=>((x.rep a o e).ext (⟨λb Y eb d=>y (λz=>d (.inr (z▸O))) eb⟩:Ext (DN N' V) Aj.heap (Aj.heap.hide L)) (λb q=>.inl (q.imp id (hN b))) λY u=>y (λz=>x.σN a (by unfold Dom;rw[e];simp) (z▸O)) u)⟩
theorem Lv{F:Fx S}{A:cX}{N:Addr->Prop}{X:KX}{e:Value}{s s':ag}{V:E0}{l:List Env}{E:Value->ag->Prop}(hA:F.A.frames=some (F.env::l))(hl:A.frames=some l)(d:F.env.frame=some F.env.locals)
  (hN:F.N=λa=>N a\/Own F.env a) (hb:F.b=(V,s)) (hPn:∀a,F.P a->Frm A a\/s.heap.get? a=aa) (z:∀a,N a->∃o,s.heap.get? a=some o) (x:XR F X e s') :
  wpAny (model S.prog S.w) F.A (leaving F.env e) (λZ=>PCe S N A V s X e) E s':=by
 obtain⟨ea,c,V',Aj,m',rfl,st,hX,O⟩:=x;have sL:s.heap.get? F.env.locals=aa:=by have:=st.new _ (.inl rfl);rw[hb]at this;exact this
 have NL:F.N F.env.locals:=st.own _ (.inl rfl);have nL:¬N F.env.locals:=λq=>by refine X1p (z _ q) λo e=>?_;rw[sL]at e;exact nS e
 have gL:S.g.get? F.env.locals=aa:=st.gb _ (by rwa [hb])
 have stp:H2 (Frm A) noO V s V' { Aj with heap:=Aj.heap.hide F.env.locals }:=by
  have f:=st.frm;rw[hb]at f;exact(H2.narrow f hPn).hide sL
 have inv:Inv S N V' { Aj with heap:=Aj.heap.hide F.env.locals }:=st.inv.hide (λa q=>by rw[hN];exact .inl q) NL nL gL
 have B:(Aj.heap.hide F.env.locals).UpToSlots Aj.heap:=ip λb o e=>Heap.of_hide e;have u:∀{b o},(Aj.heap.hide F.env.locals).get? b=some o->b≠F.env.locals:=λe q=>by rw[q,Heap.hide_self]at e;exact nS e
 rcases O with⟨⟨base,l',el,hf,U⟩,up,hr⟩|⟨args,hm,hr⟩
 .rw[hA]at el;obtain rfl:=ae el
  refine Lu hA d hf λh' y T=>⟨ea,c,V',{ Aj with heap:=Aj.heap.hide F.env.locals },rfl,⟨⟨base,l,hl,y,λb o e nf=>U b o (Heap.of_hide e) ?_⟩,(B.trans up).trans T,hr⟩,stp,inv,hX⟩
  refine λhR1=>X1pp hR1 λev Y q=>?_
  rcases aA.mp Y with rfl|Y
  .rw[d]at q;exact u e (ae q).symm
  .exact nf ⟨ev,Y,q⟩
 .refine X1pp F.room.fr λl2 el2 hl2=>?_
  rw[hA]at el2;obtain rfl:=ae el2;refine JI (base:=hideAll Aj.heap ((F.env::l).filterMap (·.frame))) hA d (λb o e=>of_hideAll _ e) (Dr λev Y=>?_) hm λh' y T=>⟨ea,c,V',{ Aj with heap:=Aj.heap.hide F.env.locals },rfl,⟨⟨_,l,hl,y,λb o e nf=>hideAll_get _ (Heap.of_hide e) ?_⟩,B.trans T,hr⟩,stp,inv,hX⟩
  .exact Aq (hl2 ev Y) λh1 Z0=>X1ppp Z0 λL h2 h3 Z=>X1pp (st.inv.Nin L h3) λo h4 h5=>⟨h1,L,o,h2,hideAll_none _ (d6.mpr ⟨ev,Y,h2⟩),h4,h5⟩
  .refine λq=>X1pp (d6.mp q) λev Y q=>?_
   rcases aA.mp Y with rfl|Y
   .rw[d]at q;exact u e (ae q).symm
   .exact nf ⟨ev,Y,q⟩
noncomputable def En(avs:List AV):L1:=λi=>avs[i]?
theorem J4{names:List Str}{vals:List Value}{x:Str}{v:Value}(h:(x,v)∈names.zip vals):∃j:Nat,names[j]?=some x/\vals[j]?=some v:=by
 obtain⟨j,z,e⟩:=List.mem_iff_getElem.mp h;refine⟨j,?_,?_⟩<;>simp only[List.getElem_zip,fY]at e<;>simp only[List.length_zip]at z
 .rw[aI (by omega),e.1]
 .rw[aI (by omega),e.2]
theorem bindL_at{U:Str->Option c7}:∀{names:List Str}{vals:List Value}(m:Str->Option Value){j:Nat}{x:Str}{v:Value},names.Nodup->names[j]?=some x->vals[j]?=some v->U x=some .local->bindL U (names.zip vals) m x=some v:=by
 intro names
 induction names with
 |nil=>intro vals m j x v _ h;simp at h
 |cons n r O =>
  intro vals m j x v y Y B T
  cases vals with
  |nil=>simp at B
  |cons u us =>
   simp only[List.zip_cons_cons,bindL];rw[bF]at y
   cases j with
   |zero =>
    simp only[e9,hW]at Y B;subst Y B;rw[if_pos T]
    have:∀(l:List (Str×Value))(m:Str->Option Value),(∀p∈l,p.1≠n)->bindL U l m n=m n:=by
     intro l
     induction l with
     |nil=>intro m _;rfl
     |cons p l O =>
      intro m d;obtain⟨a,b⟩:=p;simp only[bindL];rw[O _ λq hq=>d q (.tail _ hq)]
      split
      .exact if_neg λe=>d (a,b) (.head _) e.symm
      .rfl
    rw[this _ _ λp d e=>y.1 (by refine X1pp (J4 (x:=p.1) (v:=p.2) d) λj z Z=>?_;rw[e]at z;exact af z)]
    exact if_pos rfl
   |succ j=>exact O _ y.2 (by simpa using Y) (by simpa using B) T
theorem bindC_at{U:Str->Option c7}:∀{names:List Str}{vals:List Value}(m:Str->Option Value){j:Nat}{x:Str}{v:Value},names.Nodup->names[j]?=some x->vals[j]?=some v->U x≠some .local->bindC U (names.zip vals) m x=some v:=by
 intro names
 induction names with
 |nil=>intro vals m j x v _ h;simp at h
 |cons n r O =>
  intro vals m j x v y Y B T
  cases vals with
  |nil=>simp at B
  |cons u us =>
   simp only[List.zip_cons_cons,bindC];rw[bF]at y
   cases j with
   |zero =>
    simp only[e9,hW]at Y B;subst Y B;rw[if_neg T]
    have:∀(l:List (Str×Value))(m:Str->Option Value),(∀p∈l,p.1≠n)->bindC U l m n=m n:=by
     intro l
     induction l with
     |nil=>intro m _;rfl
     |cons p l O =>
      intro m d;obtain⟨a,b⟩:=p;simp only[bindC];rw[O _ λq hq=>d q (.tail _ hq)]
      split
      .rfl
      .exact if_neg λe=>d (a,b) (.head _) e.symm
    rw[this _ _ λp d e=>y.1 (by refine X1pp (J4 (x:=p.1) (v:=p.2) d) λj z Z=>?_;rw[e]at z;exact af z)]
    exact if_pos rfl
   |succ j=>exact O _ y.2 (by simpa using Y) (by simpa using B) T
def RetK(S:Sta)(Q:AV->E0->Prop):Fl->L1->E0->Prop:=λfl Z V=>∀N:Addr->Prop,∃v' V',View S N (match fl with|.ret v=>v|.next=>.none) V v' V'/\Q v' V'
inductive PB(F:Fx S)(Q:AV->E0->Prop)(f:Flow)(s':ag):Prop
 |mk (fl:Fl)(m':L1)(V':E0)(h:F.St m' V' s')(r:FlR S.cv s'.heap (F.D V') f fl)(k:RetK S Q fl m' V'):PB F Q f s'
theorem M1.body0{k:Nat}{f:Addr}{c:As}{avs:List AV}{V:E0}{Q:AV->E0->Prop}{X:KX}(hf:IsFn S f c)(hn:avs.length=c.n)
  (h:∀(F:Fx S),F.k=k->Top F->∀Y:Value->ag->Prop,(∀e s,XR F X e s->Y e s)->iq (model S.prog S.w) F.A F.env Y->∀ps,CSs F.tb F.sc ps c.body->∀s,F.St (En avs) V s->wpAny (model S.prog S.w) F.A (execs ps F.env) (PB F Q) Y s):M1 S (k+1) (.ref f) avs V Q X:=by
 refine λN A vals s O hi rl=>X4p hf.ex λo fd body names Z4=>?_;obtain⟨ho,hd,hb,hcl,hg,hbl,hk,hco,hgen,hcd,hnl,hbind,hnm,hnd,hcs⟩:=Z4;have hlen:vals.length=c.n:=rl.length.trans hn;have hkind:∀x∈names.zip vals,fd.scope.names.lookup x.1=some .local\/(fd.scope.names.lookup x.1=some .cell/\((cZ (s.heap.objs.size+1) fd.scope.names []).lookup x.1).isSome=true):=by
  intro hR1 hx;obtain⟨x,v⟩:=hR1;refine X1pp (J4 hx) λj h1 Z=>?_
  rcases(hnm j x h1).2 with q|q
  .exact .inl q
  .exact .inr ⟨q,fq _ _ _ (.inl q)⟩
 refine codeAny_call_cells (fd:=fd) (body:=body) (binds:=names.zip vals) (by have:=O.dp;unfold recursionLimit;exact lin [A.depth,k] [] (.c V0 AL) [.c (.A V0 (.M 2 (.A V1 K1))) GU] rfl this) (hi.keep _ _ ho) hd (S.lim.keeps hi.keep) (hcd.keeps hi.keep) hb (hbind vals hlen) hcl hkind (λAd B=>(X2pp B.done λAc tk Af hkeep=>?_)) hco hgen hk
 have envL:(cQ fd s.heap.objs.size f).locals=s.heap.objs.size:=rfl;have U:∀a,s.heap.objs.size<=a->s.heap.get? a=aa:=λa ha=>by
  cases q:s.heap.get? a with|none=>rfl|some o=>exact absurd (bf q) (cR.mpr ha)
 have T:∀a,Own (cQ fd s.heap.objs.size f) a->s.heap.get? a=aa:=by
  rintro a (rfl|⟨x,hx⟩)
  .exact U _ (az _)
  .exact U _ (c9 (B.above x a (mem_of_lookup hx)))
 have hnod:names.Nodup:=by
  rw[List.nodup_iff_pairwise_ne,List.pairwise_iff_getElem];intro i j hi hj hij e;have h1:=(hnm i _ (aI hi)).1;have h2:=(hnm j _ (aI hj)).1;rw[e,h2]at h1
  have:=ae h1
  exact lin [i,j] [] .no [.c V0 V1,.d V1 V0] rfl hij this
 have er:Ext (DN N V) s.heap Ad.heap:=Ext.of_keeps (by rwa [Af])
 have room':Room S (λa=>N a\/Own (cQ fd s.heap.objs.size f) a) k (A.deeper (cQ fd s.heap.objs.size f)):=by
  refine⟨O.hh,?_,?_,?_⟩
  .refine X1pp O.fr λl el hl=>⟨cQ fd s.heap.objs.size f::l,?_,?_⟩
   .show (A.frames.map (cQ fd s.heap.objs.size f::·))=_;rw[el];rfl
   .intro e he
    rcases aA.mp he with rfl|he
    .exact⟨by show fd.scope.kind≠_;rw[hk];simp,s.heap.objs.size,rfl,.inr (.inl rfl),hi.not_g (U _ (az _))⟩
    .refine Aq (hl e he) λh1 Z0=>X1ppp Z0 λL h2 h3 h4=>?_;exact⟨h1,L,h2,.inl h3,h4⟩
  .have:=O.dp;show A.depth+1+2 * k<900;exact lin [A.depth,k] [] (.c (.A (.A V0 K1) (.M 2 V1)) GU) [.c (.A V0 (.M 2 (.A V1 K1))) GU] rfl this
  .have:=O.un;show A.units+3+20 * k<9000;exact lin [A.units,k] [] (.c (.A (.A V0 K3) (.M 20 V1)) BX) [.c (.A V0 (.M 20 (.A V1 K1))) BX] rfl this
 have fc':∀x,(cQ fd s.heap.objs.size f).kindOf x=some .cell->∃c,(cQ fd s.heap.objs.size f).cells.lookup x=some c:=λx hx =>
  bH.mp (fq (x:=x) fd.scope.names (s.heap.objs.size+1) [] (.inl hx))
 have hPn:∀a,Frm (A.deeper (cQ fd s.heap.objs.size f)) a->Frm A a\/s.heap.get? a=aa:=by
  refine λa hR1=>X1pp hR1 λl el Z1=>X1pp Z1 λe he hf=>X1pp O.fr λl' el' Z=>?_
  have:l=cQ fd s.heap.objs.size f::l':=by
   have q:A.frames.map (cQ fd s.heap.objs.size f::·)=some l:=el;rw[el']at q;exact(ae q).symm
  clear el Z1;subst this
  rcases aA.mp he with rfl|he
  .exact .inr (by have q:some s.heap.objs.size=some a:=hf;obtain rfl:=ae q;exact U _ (az _))
  .exact .inl ⟨l',el',e,he,hf⟩
 have hPN:∀a,Frm (A.deeper (cQ fd s.heap.objs.size f)) a->N a\/Own (cQ fd s.heap.objs.size f) a:=by
  refine λa hR1=>X1pp hR1 λl el Z2=>X1pp Z2 λe he hf=>X1pp room'.fr λl2 el2 h2=>?_;rw[el2]at el;obtain rfl:=ae el;refine Aq (h2 e he) λZ Z3=>X1ppp Z3 λL h3 h4 Z=>?_;rw[hf]at h3;obtain rfl:=ae h3;exact h4
 let Fc:Fx S:=⟨A.deeper (cQ fd s.heap.objs.size f),c.tb,cQ fd s.heap.objs.size f,(V,s),(λa=>N a\/Own (cQ fd s.heap.objs.size f) a),k,room',hk,hg,hbl,fc'⟩
 have hD:∀b,DN Fc.N V b->DN N V b\/s.heap.get? b=aa:=λb hb=>hb.elim (λq=>.inl (.inl q)) λq=>q.elim (λq=>.inl (.inr q)) λq=>.inr (T b q);have st:Fc.St (En avs) V Ad:=by
  refine⟨⟨?_,?_,?_,?_,hi.σg,(λa d q=>q.elim (hi.σN a d) λq=>by refine X1p (hi.dom_there d) λob e=>?_;rw[T a q]at e;exact nS e),λa q=>?_,λa oa e=>(hi.rep a oa e).ext er hD (by rw[Af];exact hkeep a)⟩,
   ⟨_,_,B.toInCall.ns,B.cell,λa ha=>⟨hi.not_dom (T a ha),hi.not_g (T a ha)⟩,λx y cc h1 h2=>name_of_addr B.apart (mem_of_lookup h1) (mem_of_lookup h2),λx cc h1=>eG (B.above x cc (mem_of_lookup h1)),λx i av hx hm=>?_⟩,
   H2.of_keeps (by rwa [Af]) (λZ h=>.inl h),hPN,T,λa ha=>.inr ha,λa e=>hi.not_g e⟩
  .rw[Af];exact λb ob e=>hkeep b ob (hi.keep b ob e)
  .rw[Af];exact hi.gens
  .rw[Af];exact hi.drawn
  .rw[Af];exact hi.os
  .rcases q with q|rfl|⟨x,hx⟩
   .refine X1pp (hi.Nin a q) λob e nf=>?_;rw[Af];exact⟨ob,hkeep a ob e,nf⟩
   .refine X3ppp B.toInCall.ns λob Z Z e dd Z=>?_;exact⟨ob,e,λvs z=>by rw[dd]at z;exact nDf rfl z⟩
   .refine X1pp (B.cell x a hx) λob e dd=>?_;exact⟨ob,e,λvs z=>by rw[dd]at z;exact nDf rfl z⟩
  .refine X1pp (rl.get hm) λv hv rv=>?_
   have hin':i<names.length:=by
    have:i<vals.length:=by
     rcases bO i vals.length with q|q
     .exact q
     .rw[be q]at hv;exact nS hv
    exact lin [names.length,c.n,vals.length,i] [] (.c V3 V0) [.D (-1) V0 V1,.d V2 V1,.c V3 V2] rfl hnl hlen this
   have hxi:=aI hin';have hxx:names[i]=x:=BQ (hnm i _ hxi).1 hx;rw[hxx]at hxi;have rv':Rep S.cv Ad.heap (DN Fc.N V) av v:=rv.ext er hD;have kd:(cQ fd s.heap.objs.size f).kindOf x=fd.scope.names.lookup x:=rfl
   rcases(hnm i x hxi).2 with q|q
   .show LocAt _ _ _ _ _ _ ((cQ fd s.heap.objs.size f).kindOf x) _ _
    rw[kd,q];exact⟨v,bindL_at _ hnod hxi hv (kd.trans q),rv'⟩
   .show LocAt _ _ _ _ _ _ ((cQ fd s.heap.objs.size f).kindOf x) _ _
    rw[kd,q];exact X1p (bH.mp (fq (x:=x) fd.scope.names (s.heap.objs.size+1) [] (.inl q))) λcc hcc=>⟨v,cc,hcc,bindC_at _ hnod hxi hv (by rw[kd,q];simp),rv'⟩
 refine X1pp O.fr λlf elf Z=>?_;have top:Fc.A.frames=some (Fc.env::lf):=by show (A.frames.map (cQ fd s.heap.objs.size f::·))=_;rw[elf];rfl
 have hbody:=h Fc rfl ⟨⟨lf,top⟩,rfl⟩;have hcs':CSs Fc.tb Fc.sc body c.body:=hcs;refine aR (hbody _ (λe s' hx=>Lv (N:=N) top elf rfl rfl rfl hPn (λa q=>by refine X1pp (hi.Nin a q) λo e Z=>?_;exact⟨o,e⟩) hx) PassesOwn.leaving _ hcs' Ad st) (λfl s' hq=>?_) λe s' hx=>hx
 obtain⟨fl',m',V',h',hfr,hret⟩:=hq;refine X2pp (hret N) λv' V'' hview hQ=>?_
 have hi':Inv S N V' s':=⟨h'.inv.keep,h'.inv.gens,h'.inv.drawn,h'.inv.os,h'.inv.σg,λa d q=>h'.inv.σN a d (.inl q),λa q=>h'.inv.Nin a (.inl q),
  λa oa e=>(h'.inv.rep a oa e).ext (Ext.refl _ _) (λb q=>.inl (q.imp id .inl)) λZ q=>q⟩
 have fin:∀u,Rep S.cv s'.heap (DN Fc.N V') (match fl' with|.ret v=>v|.next=>.none) u->PCv S N A V s Q u s':=by
  exact λu ru=>Bm (hview s' u hi' (ru.less λa q=>q.imp id .inl)) λi2 st2 r2=>⟨v',V'',(H2.narrow h'.frm hPn).trans st2.any,i2,r2,hQ⟩
 cases fl' with
 |next =>
  cases fl with
  |next=>exact fin .none .none
  |_=>exact hfr.elim
 |ret v =>
  cases fl with|ret u=>exact fin u hfr|_=>exact hfr.elim
theorem M1.body{k:Nat}{f:Addr}{c:As}{y:List AV}{V:E0}{Q:AV->E0->Prop}(T:IsFn S f c)(O:y.length=c.n)
  (h:∀(F:Fx S),F.k=k->Top F->∀Y:Value->ag->Prop,(∀e s,XR F X e s->Y e s)->iq (model S.prog S.w) F.A F.env Y->SsT F (En y) V c.body (RetK S Q) Y):M1 S (k+1) (.ref f) y V Q X :=
 M1.body0 T O λF U ht Y z B ps d s hs=>aR (h F U ht Y z B ps d s hs) (λ_ _ ⟨fl,m',V',_,h1,h2,h3⟩=>⟨fl,m',V',h1,h2,h3⟩) λZ Z e=>e
end
section
variable {S:Sta}
def Its(h:Heap)(W:Addr->Prop):Prop:=∀a,W a->∃o,h.get? a=some o/\Dl o
theorem Its.seq{W:Addr->Prop}(x:Its h W){a:Addr}{o:Obj}(e:h.get? a=some o)(u:∀vs,o.data≠.fields vs):¬W a:=λq=>by
 refine X1ppp (x a q) λz y Z d=>X1p d λvs B=>?_;rw[e]at y;obtain rfl:=ae y;exact u vs B
theorem Its.turn{h h':Heap}{D W:Addr->Prop}(it:Its h W)(k:∀b o,¬W b->h.get? b=some o->h'.get? b=some o)(b:Addr)(o:Obj)(e:h.get? b=some o)(y:¬Dl o)(d:¬D b):h'.get? b=some o/\¬D b :=
 ⟨k b o (λq=>by refine X1pp (it b q) λz u h'=>?_;exact y (ae (u.symm.trans e)▸h')) e,d⟩
section
variable {cv:Nat->Value}{h h':Heap}{D W:Addr->Prop}
theorem Rep.it(it:Its h W)(k:∀b o,¬W b->h.get? b=some o->h'.get? b=some o){v:Value}(r:Rep cv h D av v):Rep cv h' D av v :=
 r.turn (it.turn k)
theorem RepL.it(it:Its h W)(k:∀b o,¬W b->h.get? b=some o->h'.get? b=some o){v:List Value}(r:RepL cv h D av v):RepL cv h' D av v :=
 r.turn (it.turn k)
theorem RepD.it(it:Its h W)(k:∀b o,¬W b->h.get? b=some o->h'.get? b=some o){v:List bR}(r:RepD cv h D av v):RepD cv h' D av v :=
 r.turn (it.turn k)
theorem RepF.it(it:Its h W)(k:∀b o,¬W b->h.get? b=some o->h'.get? b=some o){v:List bR}(r:RepF cv h D av v):RepF cv h' D av v :=
 r.turn (it.turn k)
theorem M5.it(it:Its h W)(k:∀b o,¬W b->h.get? b=some o->h'.get? b=some o)(r:M5 cv h D o a):M5 cv h' D o a:=by
 induction r with|list e r=>exact .list (k _ _ (it.seq e (by intro _ h;exact nDf rfl h)) e) (r.it it k)|dict e u n r=>exact .dict (k _ _ (it.seq e (by intro _ h;exact nDf rfl h)) e) u n (r.it it k)|inst e n=>exact .inst (k _ _ (it.seq e (by intro _ h;exact nDf rfl h)) e) n|attrs e r=>exact .attrs (k _ _ (it.seq e (by intro _ h;exact nDf rfl h)) e) (r.it it k)
end
structure ItStep(W:Addr->Prop)(s s':ag):Prop where
 keep:∀b o,¬W b->s.heap.get? b=some o->s'.heap.get? b=some o
 rest:s'.gens=s.gens/\s'.drawn=s.drawn/\s'.os=s.os
theorem St.it{N P W:Addr->Prop}{b:E0×ag}{m:L1}{V:E0}{s s':ag}(hs:Internal.St S tb env N P b m V s)(it:Its s.heap W)
  (new:∀a,W a->b.2.heap.get? a=aa) (hN:∀a,W a->¬N a) (st:ItStep W s s'):Internal.St S tb env N P b m V s':=by
 obtain⟨B,cm,n,c,O,ap,cl,r⟩:=hs.loc;have T:∀a,Own env a->¬W a:=by
  rintro a (rfl|⟨x,u⟩)
  .refine X3ppp n λo es ep e d Z=>?_;exact it.seq e (by rw[d];intro _ h;exact nDf rfl h)
  .refine X1pp (c x a u) λo e d=>?_;exact it.seq e (by rw[d];intro _ h;exact nDf rfl h)
 refine⟨⟨λa o e=>st.keep a o (λq=>by rw[hs.gb a (new a q)]at e;exact nS e) (hs.inv.keep a o e),st.rest.1.trans hs.inv.gens,st.rest.2.1.trans hs.inv.drawn,st.rest.2.2.trans hs.inv.os,hs.inv.σg,hs.inv.σN,λa h=>?_,λa o e=>(hs.inv.rep a o e).it it st.keep⟩,?_,?_,hs.pN,hs.new,hs.own,hs.gb⟩
 .refine X1pp (hs.inv.Nin a h) λo e nf=>?_;exact⟨o,st.keep a o (λq=>hN a q h) e,nf⟩
 .refine⟨B,cm,?_,λx cc u=>?_,O,ap,cl,λx i av u U=>?_⟩
  .refine X3pp n λo es ep e d=>?_;exact⟨o,es,ep,st.keep _ _ (T _ (.inl rfl)) e,d⟩
  .refine X1pp (c x cc u) λo e d=>?_;exact⟨o,st.keep _ _ (T _ (.inr ⟨x,u⟩)) e,d⟩
  .exact LocAt.map (r x i av u U) (λy=>y.it it st.keep) (λZ Y=>Y) (λZ Y=>Y)
 .exact hs.frm.over λc e o=>st.keep c o λz=>e.elim λo e=>Ak (new c z) e
structure Walk(F:Fx S)(I:Addr)(items:List AV)(t:aV)(W:Addr->Prop)(J:Nat->E0->ag->Prop)(ok:E0->E0->Prop):Prop where
 its:∀i V s,J i V s->Its s.heap W
 stays:∀i m m' V s V' s' (O:Addr->Prop),(∀a,O a->F.N a)->(∀a,W a->¬F.N a)->J i V s->F.St m V s->H2 F.P O V s V' s'->F.St m' V' s'->ok V V'->J i V' s'
 next:∀i x m V s (GQ:ag->Prop) (Q:Value->ag->Prop) (X:Value->ag->Prop),items[i]?=some x->F.St m V s->J i V s ->
  (∀v Ai,ItStep W s Ai->Rep S.cv Ai.heap (F.D V) x v->J (i+1) V Ai->Q v Ai) ->
  wpAny (model S.prog S.w) F.A (pyNext (.ref I)) (λr Ad=>match r with
   |none=>GQ Ad
   |some v=>wpAny (model S.prog S.w) F.A (letOwnedTupleGo t (.ref I) v) (λZ Ai=>Q v Ai) X Ad) X s
 self:∀i V s (Q:Value->ag->Prop) (X:Value->ag->Prop),J i V s->Q (.ref I) s->wpAny (model S.prog S.w) F.A (pyIter (.ref I)) Q X s
 done:∀m V s (Q:Option Value->ag->Prop) (X:Value->ag->Prop),F.St m V s->J items.length V s->(∀Ad,ItStep W s Ad->Q none Ad)->wpAny (model S.prog S.w) F.A (pyNext (.ref I)) Q X s
set_option tactic.hygienic true in
def MP(F:Fx S)(p:Pat)(body:List Internal.S)(ok:E0->E0->Prop)(K:Fl->L1->E0->Prop)(X:Value->ag->Prop):List AV->L1->E0->Prop
 |[],m,V=>K .next m V
 |x::r,m,V=>PT F m V p x (λAp Aa=>SsT F Ap Aa body (λfl At Ab=>match fl with
   |.next=>ok V Ab/\MP F p body ok K X r At Ab
   |.ret v=>K (.ret v) At Ab) X) X
section
variable {F:Fx S}{V:E0}{X:Value->ag->Prop}{K:Fl->L1->E0->Prop}
inductive FInv(F:Fx S)(p:Pat)(body:List Internal.S)(ok:E0->E0->Prop)(K:Fl->L1->E0->Prop)(X:Value->ag->Prop)(items:List AV)(J:Nat->E0->ag->Prop)(AJ:E0)(Aj:ag)(n:Nat)(s':ag):Prop
 |mk (i:Nat)(m':L1)(V':E0)(hn:n+i=items.length+1)(hi:i<=items.length)(st:H2 F.P F.O AJ Aj V' s')(h:F.St m' V' s')(hJ:J i V' s')(l:MP F p body ok K X (items.drop i) m' V'):FInv F p body ok K X items J AJ Aj n s'
set_option tactic.hygienic true in
theorem forLoopT{W:Addr->Prop}{J:Nat->E0->ag->Prop}{ok:E0->E0->Prop}{p:Pat}{body:List Internal.S}{pb:List Stmt}{m:L1}{Aj s:ag}{AJ:E0}
  (Wk:Walk F I items t W J ok) (hX:iq (model S.prog S.w) F.A F.env X) (hp:CP F.tb F.sc t p) (hb:CSs F.tb F.sc pb body) (new:∀a,W a->Aj.heap.get? a=aa)
  (st:H2 F.P F.O AJ Aj V s) (hs:F.St m V s) (bN:∀a,W a->F.b.2.heap.get? a=aa) (hN:∀a,W a->¬F.N a) (hJ:J 0 V s) (h:MP F p body ok K X items m V) :
  codeAny (model S.prog S.w) F.A (.forLoop t (.ref I) pb [] F.env) (λr s'=>match r with
   |.ok f=>PS F AJ Aj K f s'
   |.error e=>cameBackBy (model S.prog S.w) F.A F.env X e s') s:=by
 refine codeAny_forLoop_any (FInv F p body ok K X items J AJ Aj) ?_ (items.length+1) ⟨0,m,V,rfl,cL _,st,hs,hJ,h⟩;intro n Ad T;obtain⟨i,Ap,Aa,hn,hi,Ah,Ac,DZ,hl⟩:=T;have its:=Wk.its i Aa Ad DZ;have stp:∀{Ai:ag},ItStep W Ad Ai->H2 F.P F.O AJ Aj Aa Ai:=λq=>Ah.over λc e o=>q.keep c o λz=>e.elim λo e=>Ak (new c z) e
 by_cases Y:i<items.length
 .obtain⟨x,hx⟩:∃x,items[i]?=some x:=⟨_,aI Y⟩
  have hd:items.drop i=x::items.drop (i+1):=by
   rw[List.drop_eq_getElem_cons Y];rw[aI Y]at hx;obtain rfl:=ae hx;rfl
  rw[hd]at hl;refine Wk.next i x Ap Aa Ad _ _ _ hx Ac DZ λv Ai y rv IF=>?_;have Ag:F.St Ap Aa Ai:=Ac.it its bN hN y;refine gg hX (aR (hl t hp v Ai Ag rv) ?_ λZ Z e=>e);intro _ BC T;obtain⟨m₃,Ar,AU,AG,hq⟩:=T;refine gg hX (aR (hq pb hb BC AG) ?_ λZ Z e=>e);intro f BB T;obtain⟨fl,U,Cp,BS,Bu,hf,B⟩:=T;have st':=((stp y).trans AU).trans BS
  cases fl with
  |next =>
   cases f with
   |next=>exact⟨n - 1,lin [n - 1,n] [] (.c V0 V1) [.d (.A V0 K1) V1] rfl (aq (lin [n,i,items.length] [] (.b K1 V0) [.D (-1) (.A V0 V1) (.A V2 K1),.c V1 V2] rfl hn Y)),i+1,U,Cp,ax (lin [n,i,items.length,n - 1] [] (.b (.A V3 (.A V1 K1)) (.A V2 K1)) [.d (.A V0 V1) (.A V2 K1),.d (.A V3 K1) V0] rfl hn (aq (lin [n,i,items.length] [] (.b K1 V0) [.D (-1) (.A V0 V1) (.A V2 K1),.c V1 V2] rfl hn Y))) (lin [n,i,items.length,n - 1] [] (.b (.A V2 K1) (.A V3 (.A V1 K1))) [.D (-1) (.A V0 V1) (.A V2 K1),.b V0 (.A K1 V3)] rfl hn (au.mp (az ((n) - (1))))),Y,st',Bu,Wk.stays _ _ _ _ _ _ _ F.O Ag.own hN IF Ag (AU.trans BS) Bu B.1,B.2⟩
   |_=>exact hf.elim
  |ret v =>
   cases f with|ret u=>exact⟨.ret v,U,Cp,st',Bu,hf,B⟩|_=>exact hf.elim
 .have hi':i=items.length:=by exact ax (lin [i,items.length] [] (.b V0 V1) [.b V0 V1] rfl hi) (lin [i,items.length] [] (.b V1 V0) [.j V0 V1] rfl Y)
  clear hn hi Y;subst hi';rw[List.drop_length]at hl;exact Wk.done Ap Aa Ad _ _ Ac DZ λAi y=>wpAny_execs_nil ⟨.next,Ap,Aa,stp y,Ac.it its bN hN y,trivial,hl⟩
end
end
section
set_option backward.match.sparseCases true
variable {S:Sta}
set_option tactic.hygienic true in
theorem Bh(U:s.heap.get? I=some o)(d:o.cls=.type T)
  (O:["enumerate", "zip", "dict_itemiterator", "dict_reverseitemiterator", "odict_iterator", "itertools.zip_longest", "itertools.pairwise"].contains T=false) (h:Q () s) :
  wpAny (model S.prog S.w) A (letOwnedTupleGo t (.ref I) v) Q X s:=by
 have u:wpAny (model S.prog S.w) A (do
  let (.ref r,.ref a):=((bX I,v):Value×Value)|return
  let o <- load r
  match o.cls,o.data with
  |.type n,.fields vs =>
   if ["enumerate", "zip", "dict_itemiterator", "dict_reverseitemiterator", "odict_iterator", "itertools.zip_longest", "itertools.pairwise"].contains n && vs[0]? == some (dI a) then
    rule "for.unpacks-the-owned-tuple"
    updateField r 0 .none
  |_,_=>pure ()) Q X s:=by
  cases v with
  |ref a =>
   refine ac (wpAny_load U ?_);rw[d]
   split
   .rename_i n vs y B
    cases y
    rw[O,Bool.false_and,if_neg aW];exact ai h
   .exact ai h
  |_=>exact ai h
 cases t<;>first|exact u|exact ai h
theorem Its.notDom{N W:Addr->Prop}{V:E0}{s:ag}(x:Its s.heap W)(hi:Inv S N V s){a:Addr}(q:W a):¬Dom V a:=λd=>by
 cases e:V a with
 |none=>exact d e
 |some o =>
  cases hi.rep a o e with|list e _=>exact x.seq e (by intro _ h;exact nDf rfl h) q|dict e _ _ _=>exact x.seq e (by intro _ h;exact nDf rfl h) q|inst e _=>exact x.seq e (by intro _ h;exact nDf rfl h) q|attrs e _=>exact x.seq e (by intro _ h;exact nDf rfl h) q
section
variable {F:Fx S}{m m':L1}{V V':E0}{s s':ag}{X:Value->ag->Prop}{Q:AV->E0->Prop}
theorem Its.notOwn{W:Addr->Prop}(x:Its s.heap W)(hs:F.St m V s){a:Addr}(q:W a):¬F.O a:=by
 obtain⟨U,z,n,c,_⟩:=hs.loc
 rintro (rfl|⟨y,u⟩)
 .refine X3ppp n λo es ep e d Z=>?_;exact x.seq e (by rw[d];intro _ h;exact nDf rfl h) q
 .refine X1pp (c y a u) λo e d=>?_;exact x.seq e (by rw[d];intro _ h;exact nDf rfl h) q
theorem Its.still{O W:Addr->Prop}(x:Its s.heap W)(hs:F.St m V s)(y:∀a,O a->F.N a)(hN:∀a,W a->¬F.N a)(st:H2 F.P O V s V' s'){a:Addr}(q:W a){o:Obj}(e:s.heap.get? a=some o):s'.heap.get? a=some o :=
 st.ext.obj a o e (λd=>d.elim (x.notDom hs.inv q) λz=>hN a q (z.elim (y a) (hs.pN a)))
def Moves(F:Fx S)(V:E0)(Ad:ag)(J:Fx S->Nat->E0->ag->Prop):Prop :=
 ∀(A0:Fx S)(Ab:E0)(Ai:ag),(∀b o,Ad.heap.get? b=some o->Ai.heap.get? b=some o)->(∀b,A0.D Ab b->F.D V b\/Ad.heap.get? b=aa)->(∀b o,V b=some o->Ab b=some o)->J A0 0 Ab Ai
theorem Moves.here{J:Fx S->Nat->E0->ag->Prop}(h:Moves F V s J):J F 0 V s:=h F V s (λZ Z e=>e) (λZ d=>.inl d) λZ Z e=>e
inductive PIter(F:Fx S)(V:E0)(s:ag)(items:List AV)(ok:E0->E0->Prop)(t:aV)(it:Value)(Ad:ag):Prop
 |mk (I:Addr) (W:Addr->Prop) (J:Fx S->Nat->E0->ag->Prop) (hit:it=.ref I) (wk:∀A0:Fx S,Walk A0 I items t W (J A0) ok) (kp:∀b o,s.heap.get? b=some o->Ad.heap.get? b=some o) (hs:∃h' tk,Ad={ s with heap:=h',toks:=tk })
  (nw:∀a,W a->s.heap.get? a=aa) (mv:Moves F V Ad J):PIter F V s items ok t it Ad
def M6(F:Fx S)(V:E0)(a:AV)(items:List AV)(ok:E0->E0->Prop):Prop :=
 ∀m va s t (X:Value->ag->Prop),F.St m V s->Rep S.cv s.heap (F.D V) a va->wpAny (model S.prog S.w) F.A (pyIter va) (PIter F V s items ok t) X s
def okL(a:AV)(V V':E0):Prop:=match a with
 |.loc ad _=>V' ad=V ad
 |_=>True
theorem okL_dl(h:dl V a=some l)(o:okL a V V'):dl V' a=some l:=by
 cases a with|loc ad z=>exact(congrArg (·.bind L4.list?) (show V' ad=V ad from o)).trans h|_=>exact h
theorem M6.list(hq:S.hx=aa){a:AV}{l:List AV}(h:dl V a=some l):M6 F V a l (okL a):=by
 refine λm va s t X hs ra=>X3ppp (ra.lst hs.inv h) λad vs n Z0 e rl=>?_;subst Z0;have hL:s.heap.IsList ad vs.toArray:=⟨_,e,rfl,n,rfl⟩;refine fu hL ⟨s.heap.objs.size,(·=s.heap.objs.size),λA0 i V' s'=>s'.heap.IsListIter s.heap.objs.size ad i/\Rep S.cv s'.heap (A0.D V') a (.ref ad)/\dl V' a=some l,rfl,?_,Az _ _,⟨_,_,rfl⟩,λb q=>by rw[q];exact AA _,?_⟩
 .have y:∀i (s':ag),s'.heap.IsListIter s.heap.objs.size ad i->Its s'.heap (·=s.heap.objs.size):=by
   refine λi s' hR1 b hR2=>X1ppp hR1 λo e c d=>?_;subst hR2;exact⟨o,e,⟨_,c,by decide⟩,_,d⟩
  refine λA0=>⟨λi V' s' U=>y i s' U.1,λi Ap At Aa Ad Ab Ai O hO hN U Ac st Ag o=>⟨?_,U.2.1.step st hO Ac.pN,okL_dl U.2.2 o⟩,λi x Ap Aa Ad GQ Q X hx Ac U hQ=>?_,λi Aa Ad Q X U hQ=>wpAny_pyIter_listiter U.1 hQ,λAp Aa Ad Q X Ac U hQ=>?_⟩
  .have z:=y i Ad U.1
   exact X1ppp U.1 λo e c d=>⟨o,z.still Ac hO hN st rfl e,c,d⟩
  .refine Bm U λB u hl=>X3ppp (u.lst Ac.inv hl) λad' ws n' e1 e' Y=>?_
   obtain rfl:=bx e1;refine X1pp (Y.get hx) λv hv rv=>?_;have z:=y i Ad B;refine wpAny_pyNext_list_item B (items:=ws.toArray) ⟨_,e',rfl,n',rfl⟩ (x:=v) (by simpa using hv) λh' T hsb=>?_
   have ist:ItStep (·=s.heap.objs.size) Ad { Ad with heap:=h' }:=⟨λb o q e=>hsb.extBut b o q e,rfl,rfl,rfl⟩
   refine X1ppp (id T) λo eo co Z=>Bh eo co (by decide) (hQ v _ ist (rv.it z ist.keep) ⟨T,u.it z ist.keep,hl⟩)
  .refine Bm U λB u hl=>X3ppp (u.lst Ac.inv hl) λad' ws n' e1 e' Y=>?_
   obtain rfl:=bx e1;exact wpAny_pyNext_list_end (A0.room.quiet hq) B (items:=ws.toArray) ⟨_,e',rfl,n',rfl⟩ (by simp[Y.length]) λh' he=>hQ _ ⟨λb o q e=>he b o q e,rfl,rfl,rfl⟩
 .refine λA0 Ab Ai kp hD ks=>⟨⟨_,kp _ _ (ay _ rfl),rfl,rfl⟩,?_,?_⟩
  .exact Aq (hs.grow (Az s.heap { cls:=.type "list_iterator",data:=.fields #[.ref ad,.int 0 0] }) s.toks) λh1 st=>(ra.st st.any h1).ext (Ext.of_keeps kp) hD
  .cases a with
   |loc ad' ii =>
    exact X1pp (AF (show (V ad').bind L4.list?=some l from h)) λo e' h'=>(congrArg (·.bind L4.list?) (ks _ _ e')).trans h'
   |_=>exact h
noncomputable def A1(a c:Int)(n:Nat):List AV:=(br n).map λi:Nat=>AV.int (a+c * (i:Int))
end
end
section
variable {S:Sta}
section
variable {A:cX}{E:Value->ag->Prop}{s:ag}
def DictE(h:Heap)(d:Addr)(es:Array bR)(ep:Nat):Prop:=h.get? d=some (AW es ep)
theorem DictE.typeIs(x:DictE s.heap d es ep):s.TypeIs (.ref d) "dict":=⟨_,x,rfl⟩
theorem IW(y:(d == cI)=false)(T:DictE s.heap d es ep)
  (u:Q (.ref s.heap.objs.size) { s with heap:=s.heap.push { cls:=.type "dict_keyiterator",data:=.fields #[.ref d,.int 0 0,.int es.size 0,.int ep 0] } }) :
  wpAny (model S.prog S.w) A (pyIter (.ref d)) Q E s:=by
 have z:=T.typeIs;refine wpAny_pyIter_slot z fw (dq fw z PySem.F.entry_dict_iter ?_ (PySem.F.args_dict_iter_1 _));unfold dH.«dict.__iter__»;refine ac ?_;unfold Builtin.Dict.dictSlotNone;refine ac (dv z ?_);show wpAny _ _ (pure (bX d)) _ _ s;refine ai ?_;show wpAny _ _ (fM d >>= _) _ _ s;unfold fM;rw[if_neg (by rw[y];exact aW)]
 refine ac (ai (ac (cM T rfl (ac (wpAny_dictEpoch T rfl (ac (bL (ai ⟨_,rfl, "dict_keyiterator",_,⟨_,ay _ rfl,rfl⟩,cf.lookup,?_⟩))))))))
 simpa[dI]using u
theorem IV(u:s.heap.IsKeyIter it d i es.size ep)
  (z:DictE s.heap d es ep) (B:es[i]?=some e)
  (hQ:∀h',h'.IsKeyIter it d (i+1) es.size ep->iG it s.heap h'->Q (some e.key) { s with heap:=h' }) :
  wpAny (model S.prog S.w) A (pyNext (.ref it)) Q E s:=by
 refine X1ppp (id u) λo U O Y=>?_;unfold pyNext
 refine ac (eN (dJ (name:=bW "__next__") u.typeIs cf
  (dq cf u.typeIs eO ?_ (eM _))))
 refine ac (ai (ac (ac ?_)))
 first|refine ac (cY u.typeIs (ai ?_))|refine ac (dG u.typeIs (ai ?_))
 refine ac (wpAny_fieldsOf U Y ?_);have y:gh "dict_keyiterator"=false:=by decide
 rw[y];show wpAny _ _ (if (bX d == bA)=true then _ else _) _ _ s;rw[if_neg (show ¬((bX d == bA)=true) from aW)]
 refine ac (ai (ac (cM z rfl ?_)));rw[if_neg (by simp)]
 refine ac (ai (ac (wpAny_dictEpoch z rfl ?_)));rw[if_neg (by simp)]
 refine ai ?_;simp only[show ¬((i:Int)<0) from by exact lin [i] [] (.l (.c V0) K0) [] rfl,if_false,b6,B]
 refine ac ?_
 first|refine ac (cY u.typeIs (ai ?_))|refine ac (dG u.typeIs (ai ?_))
 refine ac (wpAny_isOneOf_keyiter u.typeIs ?_);show wpAny _ _ (setField (.ref it) 1 (dI ((i:Int)+1)) >>= _) _ _ s;refine ac (fo U Y (by simp) ?_)
 have T:(s.heap.update it (cV (·.setIfInBounds 1 (dI ((i:Int)+1))))).IsKeyIter it d (i+1) es.size ep :=
  ⟨_,bJ _ U (fL (d0 Y _)),(Obj.cls_mapFields ..).trans O,by rw[d0 Y];simp[dI]⟩
 refine ac (bo (ac (wpAny_isOneOf_keyiter (s:={ s with heap:=s.heap.update it (cV (·.setIfInBounds 1 (dI ((i:Int)+1)))) }) T.typeIs ?_)))
 show wpAny _ _ (pure e.key) _ _ _;exact ai (ai ⟨_,rfl,ai (hQ _ T (bG ..))⟩)
theorem Mk(hh:A.handled=none)(u:s.heap.IsKeyIter it d i es.size ep)
  (B:DictE s.heap d es ep) (O:es.size<=i) (Y:∀h',di it s.heap h'->Q none { s with heap:=h' }):wpAny (model S.prog S.w) A (pyNext (.ref it)) Q E s:=by
 refine X1ppp (id u) λo U hc z=>?_;unfold pyNext
 refine ac (eN (dJ (name:=bW "__next__") u.typeIs cf
  (dq cf u.typeIs eO ?_ (eM _))))
 refine ac (ai (ac (ac ?_)))
 first|refine ac (cY u.typeIs (ai ?_))|refine ac (dG u.typeIs (ai ?_))
 refine ac (wpAny_fieldsOf U z ?_);have y:gh "dict_keyiterator"=false:=by decide
 rw[y];show wpAny _ _ (if (bX d == bA)=true then _ else _) _ _ s;rw[if_neg (show ¬((bX d == bA)=true) from aW)]
 refine ac (ai (ac (cM B rfl ?_)));rw[if_neg (by simp)]
 refine ac (ai (ac (wpAny_dictEpoch B rfl ?_)));rw[if_neg (by simp)]
 refine ai ?_;simp only[show ¬((i:Int)<0) from by exact lin [i] [] (.l (.c V0) K0) [] rfl,if_false,b6,Array.getElem?_eq_none O]
 refine ac ?_
 first|refine ac (cY u.typeIs (ai ?_))|refine ac (dG u.typeIs (ai ?_))
 show wpAny _ _ (setField (.ref it) 0 .none >>= _) _ _ s;refine ac (fo U z (by simp) ?_)
 show wpAny _ _ (newExc (.type "StopIteration") [] >>= _) _ _ _;refine ac ?_;simp only[newExc,newTuple];refine ac (bL ?_ (by size_fits))
 refine ac (m:=gB _ _) (wpAny_of_eq (a:=bA) (by first|rfl|(simp only[gB];rfl)) (bL ?_ (by size_fits)))
 simp only[raiseNew];refine ac (wpAny_handled ?_);rw[show A.in1.handled=none from hh]
 refine ac (ai (wpAny_throw ?_));refine ac (fS (T := "StopIteration") (b:=true) ⟨_,ay _ rfl,rfl⟩ isSubtype_stop ?_);exact ai (Y _ (((bG ..).extBut.push _).push _))
end
section
variable {F:Fx S}{m m':L1}{V V':E0}{s s':ag}{X:Value->ag->Prop}{Q:AV->E0->Prop}
theorem grown(hs:F.St m V s)(r:Rep S.cv s.heap (F.D V) av v):Rep S.cv (s.heap.push o) (F.D V) av v:=by
 exact Aq (hs.grow (Az s.heap o) s.toks) λY st=>r.st st.any Y
theorem M6.tup(hq:S.hx=aa):M6 F V (.tup l) l (λZ Z=>True):=by
 intro m va s t X hs ra;obtain⟨ad,vs,n,rfl,e,rl⟩:∃ad vs n,va=.ref ad/\s.heap.get? ad=some (Bz (aB vs) n)/\RepL S.cv s.heap (F.D V) l vs:=by
  refine X3pppp ra.inv λa b c e f Z r=>?_;exact⟨a,b,c,e,f,r⟩
 have hL:s.heap.IsTuple ad vs.toArray:=⟨_,e,rfl,n,rfl⟩;refine wpAny_pyIter_tuple hL ⟨s.heap.objs.size,(·=s.heap.objs.size),λA0 i V' s'=>s'.heap.IsTupleIter s.heap.objs.size ad i/\Rep S.cv s'.heap (A0.D V') (.tup l) (.ref ad),rfl,?_,Az _ _,⟨_,_,rfl⟩,λb q=>by rw[q];exact AA _,?_⟩
 .have y:∀i (s':ag),s'.heap.IsTupleIter s.heap.objs.size ad i->Its s'.heap (·=s.heap.objs.size):=by
   refine λi s' hR1 b hR2=>X1ppp hR1 λo e c d=>?_;subst hR2;exact⟨o,e,⟨_,c,by decide,by decide⟩,_,d⟩
  refine λA0=>⟨λi V' s' U=>y i s' U.1,λi Ap At Aa Ad Ab Ai O hO hN U Ac st Ag o=>⟨?_,U.2.step st hO Ac.pN⟩,λi x Ap Aa Ad GQ Q X hx Ac U hQ=>?_,λi Aa Ad Q X U hQ=>wpAny_pyIter_tupleiter U.1 hQ,λAp Aa Ad Q X Ac U hQ=>?_⟩
  .have z:=y i Ad U.1
   exact X1ppp U.1 λo e c d=>⟨o,z.still Ac hO hN st rfl e,c,d⟩
  .refine Aq U λB u=>?_
   .refine X3pppp u.inv λZ ws n' e0 e' d Y=>?_
    obtain rfl:=bx e0;refine X1pp (Y.get hx) λv hv rv=>?_;have z:=y i Ad B;refine wpAny_pyNext_tuple_item B (items:=ws.toArray) ⟨_,e',rfl,n',rfl⟩ (x:=v) (by simpa using hv) λh' T hsb=>?_
    have ist:ItStep (·=s.heap.objs.size) Ad { Ad with heap:=h' }:=⟨λb o q e=>hsb.extBut b o q e,rfl,rfl,rfl⟩
    exact X1ppp (id T) λo eo co Z=>Bh eo co (by decide) (hQ v _ ist (rv.it z ist.keep) ⟨T,u.it z ist.keep⟩)
  .refine Aq U λB u=>?_
   .refine X3pppp u.inv λZ ws n' e0 e' d Y=>?_
    obtain rfl:=bx e0;exact wpAny_pyNext_tuple_end (A0.room.quiet hq) B (items:=ws.toArray) ⟨_,e',rfl,n',rfl⟩ (by simp[Y.length]) λh' he=>hQ _ ⟨λb o q e=>he b o q e,rfl,rfl,rfl⟩
 .exact λA0 Ab Ai kp hD ks=>⟨⟨_,kp _ _ (ay _ rfl),rfl,rfl⟩,(grown hs ra).ext (Ext.of_keeps kp) hD⟩
noncomputable def Dc(x:Str):List AV:=x.cps.toList.map λc=>.str ⟨#[c]⟩
theorem M6.str(hq:S.hx=aa)(ha:x.cps.all (·<128)=true):M6 F V (.str x) (Dc x) (λZ Z=>True):=by
 refine λm va s t X hs ra=>X1l va ra.inv λtk=>wpAny_pyIter_ascii ha ⟨s.heap.objs.size,(·=s.heap.objs.size),λA0 i V' s'=>s'.heap.IsStrIter s.heap.objs.size "str_ascii_iterator" x tk i,rfl,?_,Az _ _,⟨_,_,rfl⟩,λb q=>by rw[q];exact AA _,?_⟩
 .have u:∀i (s':ag),s'.heap.IsStrIter s.heap.objs.size "str_ascii_iterator" x tk i->Its s'.heap (·=s.heap.objs.size):=by
   refine λi s' hR1 b hR2=>X1ppp hR1 λo e c d=>?_;subst hR2;exact⟨o,e,⟨_,c,by decide,by decide⟩,_,d⟩
  refine λA0=>⟨λi V' s' U=>u i s' U,λi Ap At Aa Ad Ab Ai O hO hN U Ac st Ag o=>?_,λi y Ap Aa Ad GQ Q X hx Ac U Y=>?_,λi Aa Ad Q X U Y=>wpAny_pyIter_striter_ascii U Y,λAp Aa Ad Q X Ac U Y=>?_⟩
  .have z:=u i Ad U
   exact X1ppp U λo e c d=>⟨o,z.still Ac hO hN st rfl e,c,d⟩
  .have z:=u i Ad U
   simp only[Dc,a9,aZ,Array.getElem?_toList]at hx;refine X1pp hx λc hc Z0=>?_;clear hx;subst Z0;refine wpAny_pyNext_ascii_item U (c:=c) hc λh' T hsb=>?_;have B:ItStep (·=s.heap.objs.size) Ad { Ad with heap:=h',toks:=Ad.toks+1 }:=⟨λb o q e=>hsb.extBut b o q e,rfl,rfl,rfl⟩
   exact X1ppp (id T) λo eo co Z=>Bh eo co (by decide) (Y _ _ B (.str _ _) T)
  .exact wpAny_pyNext_ascii_end (A0.room.quiet hq) U (by simp[Dc]) λh' he=>Y _ ⟨λb o q e=>he b o q e,rfl,rfl,rfl⟩
 .exact λA0 Ab Ai kp hD ks=>⟨_,kp _ _ (ay _ rfl),rfl,rfl⟩
theorem RepD.get{i:Nat}{k:Al}{x:AV}(r:RepD cv h D l es)(q:l[i]?=some (k,x)):∃e,es[i]?=some e/\Rep cv h D (sp k) e.key/\Rep cv h D x e.val:=by
 induction l generalizing es i with
 |nil=>exact(Ak hV q).elim
 |cons p l y =>
  refine X6lpppp es r.inv λt B T n v z e d a b=>?_
  cases i with
  |zero=>obtain rfl:p=(k,x):=ae q;exact⟨_,rfl,.tup (vs:=[_,_]) e d (.cons (.int _ _) (.cons (.int _ _) .nil)),a⟩
  |succ i=>exact y (es:=z) (i:=i) b q
theorem RepD.length(r:RepD cv h D l es):es.length=l.length:=by
 induction l generalizing es with|nil=>rw[show es=[] from r.inv];rfl|cons p l y=>refine X6lpppp es r.inv λt B T n v z Z Z Z b=>?_;exact congrArg f6 (y b)
theorem Rep.dctE(r:Rep S.cv s.heap (F.D V) a v)(hs:F.St m V s)(h:dd V a=some l) :
  ∃ad es n,v=.ref ad/\DictE s.heap ad (aB es) n/\(ad == cI)=false/\RepD S.cv s.heap (F.D V) l es:=by
 exact X3lpppp v (r.dct hs.inv h) λad es n e u y U=>⟨ad,es,n,rfl,e,u,U⟩
theorem M6.dict(hq:S.hx=aa){l:List (Al×AV)}:M6 F V (.dict l) (l.map λp=>sp p.1) (λZ Z=>True):=by
 refine λm va s t X hs ra=>X3lppppp va ra.inv λad es n e d sm nd rd=>?_;have hE:DictE s.heap ad es.toArray n:=e;refine IW sm hE ⟨s.heap.objs.size,(·=s.heap.objs.size),λA0 i V' s'=>s'.heap.IsKeyIter s.heap.objs.size ad i es.toArray.size n/\DictE s'.heap ad es.toArray n/\¬A0.D V' ad/\RepD S.cv s'.heap (A0.D V') l es,rfl,?_,Az _ _,⟨_,_,rfl⟩,λb q=>by rw[q];exact AA _,?_⟩
 .have its:∀i (s':ag),s'.heap.IsKeyIter s.heap.objs.size ad i es.toArray.size n->Its s'.heap (·=s.heap.objs.size):=by
   refine λi s' hR1 b hR2=>X1ppp hR1 λo e c d=>?_;subst hR2;exact⟨o,e,⟨_,c,by decide,by decide⟩,_,d⟩
  refine λA0=>⟨λi V' s' U=>its i s' U.1,λi Ap At Aa Ad Ab Ai O hO hN U Ac st Ag o=>⟨?_,?_,?_,U.2.2.2.step st hO Ac.pN⟩,λi x Ap Aa Ad GQ Q X hx Ac U hQ=>?_,λi Aa Ad Q X U hQ=>wpAny_pyIter_keyiter U.1 hQ,λAp Aa Ad Q X Ac U hQ=>?_⟩
  .have z:=its i Ad U.1
   exact X1ppp U.1 λo e c d=>⟨o,z.still Ac hO hN st rfl e,c,d⟩
  .exact st.ext.obj _ _ U.2.1 (λq=>U.2.2.1 (q.imp id λq=>q.elim (hO _) (Ac.pN _)))
  .intro q
   rcases q with q|q
   .rcases st.dom _ q with z|z
    .exact U.2.2.1 (.inl z)
    .have:=U.2.1;unfold DictE at this;rw[z]at this;exact nS this
   .exact U.2.2.1 (.inr q)
  .refine Bt U λY u nD T=>?_
   simp only[a9,aZ]at hx;obtain⟨⟨k,y⟩,hl,rfl⟩:=hx;refine X1ppp (T.get hl) λen he rk Z=>?_;have z:=its i Ad Y;refine IV Y u (e:=en) (by simpa using he) λh' hit' hsb=>?_
   have B:ItStep (·=s.heap.objs.size) Ad { Ad with heap:=h' }:=⟨λb o q e=>hsb.extBut b o q e,rfl,rfl,rfl⟩
   refine X1ppp (id hit') λo eo co Z=>Bh eo co (by decide) (hQ _ _ B (rk.it z B.keep) ⟨hit',B.keep _ _ (z.seq u (by intro _ h;exact nDf rfl h)) u,nD,T.it z B.keep⟩)
  .exact Bt U λY u nD T=>Mk (A0.room.quiet hq) Y u (by simp[T.length]) λh' he=>hQ _ ⟨λb o q e=>he b o q e,rfl,rfl,rfl⟩
 .exact λA0 Ab Ai kp hD ks=>Aq (hs.grow (Az s.heap { cls:=.type "dict_keyiterator",data:=.fields #[.ref ad,.int 0 0,.int es.toArray.size 0,.int n 0] }) s.toks) λh1 st=>⟨⟨_,kp _ _ (ay _ rfl),rfl,rfl⟩,kp _ _ (ar _ hE),(λq=>(hD _ q).elim d λz=>by rw[ar _ e]at z;exact nS' z),(rd.step st.any h1.own h1.pN).ext (Ext.of_keeps kp) hD⟩
noncomputable def Bd(a b c:Int):Nat:=(aT a b c).toNat
theorem M6.range{a b c:Int}(hsm:cz a b c=true):M6 F V (.range a b c) (A1 a c (Bd a b c)) (λZ Z=>True):=by
 refine λm va s t X hs ra=>X4lpp va ra.inv λr tk1 tk2 tk3 e d=>?_;have sz:0<=aT a b c:=by
  unfold aT
  split
  .split
   .have:0<=(b - a - 1) / c:=Int.ediv_nonneg (by omega) (by omega)
    exact lin [] [(b - a - 1) / c] (.f K0 (.A V0 K1)) [.f K0 V0] rfl this
   .exact lin [] [] (.f K0 K0) [] rfl
  .split
   .have:0<=(a - b - 1) / -c:=Int.ediv_nonneg (by omega) (by omega)
    exact lin [] [(a - b - 1) / -c] (.f K0 (.A V0 K1)) [.f K0 V0] rfl this
   .exact lin [] [] (.f K0 K0) [] rfl
 refine wpAny_pyIter_range (t:=tk1) (u:=tk2) (v:=tk3) e hsm ⟨s.heap.objs.size,(·=s.heap.objs.size),λA0 i V' s'=>hU s'.heap s.heap.objs.size (a+c * i) (aT a b c - i) c,rfl,?_,Az _ _,⟨_,_,rfl⟩,λb q=>by rw[q];exact AA _,?_⟩
 .have B:∀(i:Nat)(s':ag),hU s'.heap s.heap.objs.size (a+c * i) (aT a b c - i) c->Its s'.heap (·=s.heap.objs.size):=by
   rintro i s' e b rfl
   exact⟨_,e,⟨_,rfl,by decide,by decide⟩,_,rfl⟩
  have len:(A1 a c (Bd a b c)).length=Bd a b c:=by simp[A1]
  refine λA0=>⟨λi V' s' U=>B i s' U,λi Ap At Aa Ad Ab Ai O hO hN U Ac st Ag o=>?_,λi y Ap Aa Ad GQ Q X T Ac U hQ=>?_,λi Aa Ad Q X U hQ=>wpAny_pyIter_rangeiter U hQ,λAp Aa Ad Q X Ac U hQ=>?_⟩
  .exact(B i Ad U).still Ac hO hN st rfl U
  .have z:=B i Ad U
   simp only[A1,a9,aZ]at T;refine X1pp T λj hj Z0=>?_;clear T;subst Z0;have Y:i<Bd a b c:=by
    rcases bO i (Bd a b c)with q|q
    .exact q
    .rw[be (by simpa using q)]at hj;exact nS hj
   have:j=i:=by rw[List.getElem?_range Y]at hj;exact(ae hj).symm
   subst this;refine wpAny_pyNext_range_item U (by unfold Bd at Y;exact lin [j,(aT a b c).toNat] [aT a b c] (.g K0 (.S V0 (.c V0))) [.c V0 V1,.h (.c V1) V0] rfl Y (ao (lin [] [aT a b c] (.f K0 V0) [.f K0 V0] rfl sz))) λh' hit' hsb=>?_
   have ist:ItStep (·=s.heap.objs.size) Ad { Ad with heap:=h',toks:=Ad.toks+1 }:=⟨λb o q e=>hsb.extBut b o q e,rfl,rfl,rfl⟩
   refine Bh hit' rfl (by decide) (hQ _ _ ist (.int _ _) ?_)
   show hU h' _ _ _ _;have e1:a+c * ((j+1:Nat):Int)=a+c * j+c:=by rw[Int.natCast_add,Int.mul_add];simp[dg]
   have e2:aT a b c - ((j+1:Nat):Int)=aT a b c - j - 1:=by exact ah (lin [j] [aT a b c] (.f (.S V0 (.c (.A V0 K1))) (.S (.S V0 (.c V0)) K1)) [] rfl) (lin [j] [aT a b c] (.f (.S (.S V0 (.c V0)) K1) (.S V0 (.c (.A V0 K1)))) [] rfl)
   rwa [e1,e2]
  .refine KH A0.room.hh (λx T=>by refine X2pp (S.hxo x T) λo vs e r=>?_;exact⟨o,vs,Ac.inv.keep _ _ e,r⟩) U ?_ λh' he=>hQ _ ⟨λb o q e=>he b o q e,rfl,rfl,rfl⟩
   rw[len];unfold Bd;exact lin [(aT a b c).toNat] [aT a b c] (.f (.S V0 (.c V0)) K0) [.f V0 (.c V0)] rfl (aK (aT a b c))
 .intro A0 Ab Ai kp hD ks
  show hU _ _ _ _ _
  have:=kp _ _ <| ay s.heap (o:={ cls:=.type "range_iterator",data:=.fields #[dI a,dI (aT a b c),dI c] }) rfl
  simpa using this
theorem DU(hs:F.St m V s)(k:∀b o,s.heap.get? b=some o->h'.get? b=some o)(ha:s.heap.get? r=aa)
  (e:h'.get? r=some (H8 a b c t u v)) (q:Q (.range a b c) V) :
  PW F m V s (PV F Q) (.ref r) { s with heap:=h',toks:=tk }:=by
 exact Aq (hs.grow k tk) λY st=>⟨V,st.any,Y,_,.range e (hs.inv.not_D ha),q⟩
theorem CT.range1(h:Q (.range 0 n 1) V):CT F m V (.type "range") [.int n] Q X:=by
 exact λvals s hs r=>X1lp vals r.one λv Y=>X1l v Y.inv λZ=>call_range_1 (DU (tk:=s.toks+1+1) hs (Az _ _) (AA _) (IsRange.new ..) h)
theorem CT.range2(h:Q (.range a b 1) V):CT F m V (.type "range") [.int a,.int b] Q X:=by
 exact λvals s hs r=>X2lpp vals r.two λv u Y T=>X1l v Y.inv λZ=>X1l u T.inv λZ=>call_range_2 (DU (tk:=s.toks+1) hs (Az _ _) (AA _) (IsRange.new ..) h)
theorem CT.range3(d:c≠0)(Y:c.natAbs<1073741824)(h:Q (.range a b c) V):CT F m V (.type "range") [.int a,.int b,.int c] Q X:=by
 intro vals s hs r
 .obtain⟨_,_,rfl,u,r⟩:=r.inv
  obtain⟨_,_,rfl,T,B⟩:=r.two;refine X1p u.inv λZ z=>?_;clear u r;subst z;refine X1p T.inv λZ O=>?_;clear r T;subst O;refine X1p B.inv λZ y=>?_;subst y
  ·.exact call_range_3 d (DU (tk:=s.toks) hs (Az _ _) (AA _) (IsRange.new ..) h) (.inl (PyProof.noPylong_small Y))
end
end
section
variable {S:Sta}
section
variable {F:Fx S}{m m':L1}{V V':E0}{s s':ag}{X:Value->ag->Prop}{Q:AV->E0->Prop}{K:Fl->L1->E0->Prop}
def Tgt(p:Pat)(t:aV):Prop:=match p with
 |.tup _=>∃es k q,t=.Tuple es k q
 |_=>True
theorem CP.tgt(h:CP tb sc t p):Tgt p t:=by
 cases p with|v=>trivial|tup=>refine X3lp t h λZ Z Z Z=>?_;exact⟨_,_,_,rfl⟩
inductive PSrc(F:Fx S)(m:L1)(V:E0)(s:ag)(t:aV)(G:List AV->(E0->E0->Prop)->E0->Prop)(it:Value)(Ai:ag):Prop
 |mk (I:Addr) (items:List AV) (W:Addr->Prop) (J:Fx S->Nat->E0->ag->Prop) (ok:E0->E0->Prop) (Ab:E0) (sm:ag) (hit:it=.ref I) (wk:∀A0:Fx S,Walk A0 I items t W (J A0) ok) (st:H2 F.P F.O V s Ab sm) (hm:F.St m Ab sm)
  (st':H2 noO noO Ab sm Ab Ai) (h:F.St m Ab Ai) (nw:∀a,W a->sm.heap.get? a=aa) (mv:Moves F Ab Ai J) (g:G items ok Ab):PSrc F m V s t G it Ai
def M7(F:Fx S)(m:L1)(V:E0)(p:Pat)(e:E)(G:List AV->(E0->E0->Prop)->E0->Prop)(X:Value->ag->Prop):Prop :=
 ∀pe t,CE F.tb F.sc pe e->Tgt p t->∀s,F.St m V s ->
  wpAny (model S.prog S.w) F.A (eval pe F.env) (λx Ad=>wpAny (model S.prog S.w) F.A (pyIter x) (PSrc F m V s t G) X Ad) X s
theorem M7.val(h:ET F m V e (λa Aa=>∃items ok,M6 F Aa a items ok/\G items ok Aa) X):M7 F m V p e G X:=by
 refine λpe t B hp s hs=>(h pe B s hs).out ?_;intro v Aa Ad Ah Y u;obtain⟨a,y,items,ok,T,U⟩:=u;refine aR (T m v Ad t X Y y) ?_ λZ Z e=>e;intro it Ai u;obtain⟨I,W,J,rfl,O,d,⟨h',tk,rfl⟩,z,hJ⟩:=u;exact Aq (Y.grow d tk) λAg st=>⟨I,items,W,J,ok,Aa,Ad,rfl,O,Ah,Y,st,Ag,z,hJ,U⟩
theorem Gn(h:Bf e=true):∀x,foldedSetIterable e env x=pure x:=by
 intro x;cases e<;>first|rfl|exact nF h
theorem ST.for_(hX:iq (model S.prog S.w) F.A F.env X)(h:M7 F m V p e (λitems ok Aa=>MP F p body ok K X items m Aa) X):ST F m V (.for_ p e body) K X:=by
 refine λps hc s hs=>X4lpppp ps hc.inv λZ Z Z Z U d he hb=>wpAny_For (aR (h _ _ he d.tgt s hs) ?_ λZ Z e=>e) (Gn U);refine λx Ad Ac=>aR Ac ?_ λZ Z e=>e;intro it Ai u;obtain⟨I,items,W,J,ok,Ab,sm,rfl,O,st,hm,T,Ag,B,hJ,hl⟩:=u;have Y:∀a,W a->s.heap.get? a=aa:=λa q=>st.new (B a q);replace st:=st.trans T.any;refine dD (forLoopT (O F) hX d hb Y st Ag (λa q=>?_) (λa q n=>?_) hJ.here hl) λr s' x=>?_
 .cases z:F.b.2.heap.get? a with|none=>rfl|some o=>refine X1p (hs.frm.there a o z) λo' y=>?_;rw[Y a q]at y;exact nS y
 .refine X1pp (hs.inv.Nin a n) λo y nf=>?_;rw[Y a q]at y;exact nS y
 .cases r<;>exact x
set_option tactic.hygienic true in
theorem ST.while_(hX:iq (model S.prog S.w) F.A F.env X)(I:Nat->L1->E0->Prop)
  (turn:∀n m V,I n m V->TT F m V c (λt Aa=>if t then SsT F m Aa body (λfl At z=>match fl with
   |.next=>∃Y,Y<n/\I Y At z
   |.ret v=>K (.ret v) At z) X else K .next m Aa) X) (n:Nat) (h:I n m V):ST F m V (.while_ c body) K X:=by
 intro ps U s hs;have O:=U.inv;clear U;refine X3lpp ps O λZ Z Z U hb=>wpAny_While (codeAny_whileLoop (λn=>PP F V s (I n)) ?_ n ⟨m,V,H2.refl _ _ _ _,hs,h⟩);intro n Ad T;obtain⟨Ap,Aa,Ah,Ac,hI⟩:=T;refine gg hX ((turn n Ap Aa hI _ U Ad Ac).out ?_)
 rintro b z Ai Ao Ag q
 cases b with
 |true =>
  simp only[if_true]at q ⊢;refine gg hX (aR (q _ hb Ai Ag) ?_ λZ Z e=>e);intro f BC T;obtain⟨fl,d,Ar,AU,AG,B,q'⟩:=T;have y:=(Ah.trans Ao).trans AU
  cases fl with
  |next =>
   cases f with
   |next=>refine X1pp q' λY hn hI'=>?_;exact⟨Y,hn,d,Ar,y,AG,hI'⟩
   |_=>exact B.elim
  |ret v =>
   cases f with|ret u=>exact⟨.ret v,d,Ar,y,AG,B,q'⟩|_=>exact B.elim
 |false =>
  simp only[cg,if_false]at q ⊢;exact wpAny_execs_nil ⟨.next,Ap,z,Ah.trans Ao,Ag,trivial,q⟩
def PTs(F:Fx S)(X:Value->ag->Prop)(K:L1->E0->Prop):List Pat->List AV->L1->E0->Prop
 |[],[],m,V=>K m V
 |p::ps,a::as,m,V=>PT F m V p a (λAp Aa=>PTs F X K ps as Ap Aa) X
 |_,_,_,_=>False
theorem Gs(h:Be e=true):assignEach (e::r) env=(false,assign e env)::assignEach r env:=by
 cases e<;>first|rfl|exact nF h
theorem each_len:∀{z:List Pat}{es:List aV},CPs F.tb F.sc es z->(assignEach es F.env).length=z.length/\(assignEach es F.env).findIdx? (·.1)=none:=by
 intro z
 induction z with
 |nil=>intro es d;obtain rfl:=d.inv_nil;exact⟨rfl,rfl⟩
 |cons q z y =>
  intro es d;refine X2lppp es d.inv λZ Z B u U=>Aq (y U) λO T=>?_;rw[Gs B];refine⟨by rw[aL,aL,O],?_⟩
  rw[List.findIdx?_cons];simp[T]
theorem PTs.run{K:L1->E0->Prop}:∀{ps:List Pat}{as:List AV}{B:List aV}{vs:List Value}{m:L1}{V:E0}{s:ag} ,PTs F X K ps as m V->CPs F.tb F.sc B ps->RepL S.cv s.heap (F.D V) as vs->F.St m V s ->
  wpAny (model S.prog S.w) F.A (assignInOrder ((assignEach B F.env).map (·.2)) vs) (λZ=>PP F V s K) X s:=by
 intro ps
 induction ps with
 |nil =>
  intro as B vs m V s h d r hs;obtain rfl:=d.inv_nil
  cases as with|nil=>rw[show vs=[] from r.inv];exact wpAny_assignInOrder_none ⟨m,V,H2.refl _ _ _ _,hs,h⟩|cons=>exact h.elim
 |cons p ps y =>
  intro as B vs m V s h d r hs;refine X2lppp B d.inv λe rr hn O z=>?_;rw[Gs hn]
  cases as with
  |nil=>exact h.elim
  |cons a as =>
   .obtain⟨v,vs,rfl,U,r⟩:=r.inv
    refine eQ (aR (h e O v s hs U) ?_ λZ Z e=>e);intro _ Ad u;obtain⟨Ap,Aa,T,Y,q⟩:=u;refine aR (y q z (r.st T Y) Y) ?_ λZ Z e=>e;intro _ Ai u;obtain⟨At,Ab,Ao,Ag,Bq⟩:=u;exact⟨At,Ab,T.trans Ao,Ag,Bq⟩
theorem LR(hs:F.St m V s)(k:di s.heap.objs.size s.heap h'):F.St m V { s with heap:=h' }/\H2 F.P F.O V s V { s with heap:=h' }:=by
 exact Aq (hs.grow (h':=h') (λb o e=>k b o (bP (bf e)) e) s.toks) λY st=>⟨Y,st.any⟩
theorem PT.tup(hq:S.hx=aa){K:L1->E0->Prop}(z:ps.length=l.length)(h:PTs F X K ps l m V):PT F m V (.tup ps) (.tup l) K X:=by
 intro pe B v s hs r;have y:=B.inv;clear B;obtain⟨_,_,_,rfl,B⟩:=y
 .obtain⟨ad,vs,n,rfl,e,d,r⟩:=r.inv
  have ht:s.heap.IsTuple ad vs.toArray:=⟨_,e,rfl,n,rfl⟩;obtain⟨O,T⟩:=each_len B;refine wpAny_assign_Tuple (F.room.quiet hq) ht (by rw[O,z,aF,r.length]) T λh' k=>?_
  obtain⟨Y,st⟩:=LR hs k;refine aR (h.run B (r.st st Y) Y) ?_ λZ Z e=>e;intro _ Ai u;obtain⟨At,Ab,Ao,Ag,U⟩:=u;exact⟨At,Ab,st.trans Ao,Ag,U⟩
theorem FX(hc:CE tb sc pe e)(h:Ga e=true):eR [.Tuple ts k tp] pe env=pure none:=by
 replace hc:=hc.un;unfold Ga at h;generalize e.un=e at hc h;replace hc:=hc.1;unfold Lf at h;rw[<- hc]at h
 cases pe<;>first|rfl|exact(aW h).elim
theorem pats_len:∀{z:List Pat}{es:List aV}{tb:List Nat}{sc:Nms},CPs tb sc es z->es.length=z.length:=by
 intro z
 induction z with
 |nil=>intro es tb sc h;rw[h.inv_nil];rfl
 |cons q z y =>
  intro es tb sc h;refine X2lppp es h.inv λZ Z Z Z d=>?_;rw[aL,aL,y d]
theorem FY(h:4<=ts.length):eR [.Tuple ts k tp] pe env=pure none:=by
 have e:(!(ts.length == 2 || ts.length == 3))=true:=by
  rw[beq_eq_false_iff_ne.mpr (show ts.length≠2 by exact λz=>lin [ts.length] [] .no [.b K4 V0,.d V0 K2] rfl h z),beq_eq_false_iff_ne.mpr (show ts.length≠3 by exact λz=>lin [ts.length] [] .no [.b K4 V0,.d V0 K3] rfl h z)];rfl
 unfold eR
 cases pe with
 |Tuple vs a b =>
  dsimp only;rw[if_pos (by rw[e];rfl)]
 |_=>rfl
set_option tactic.hygienic true in
theorem ST.unpack(hn:Ga e=true\/4<=ps.length)(y:AI e=true)(h:ET F m V e (λa Aa=>PT F m Aa (.tup ps) a (λO T=>K .next O T) X) X):ST F m V (.assign (.tup ps) e) K X:=by
 refine λst hc s hs=>X3lpp st hc.inv λZ Z Z B d=>?_;have Y:=B;refine X3pp Y.inv λZ Z Z Z0 z=>?_;clear Y;subst Z0;refine Assign_Tuple ((h _ d s hs).out ?_) (by unfold swapsWithSole;exact Cd d y) (hn.elim (FX d) λq=>FY (by rwa [pats_len z]))
 intro v Aa Ad Ah Ac u;obtain⟨a,U,q⟩:=u;refine aR (q _ B v Ad Ac U) ?_ λZ Z e=>e;intro _ Ai u;obtain⟨O,T,Ao,Ag,Bq⟩:=u;exact⟨.next,O,T,Ah.trans Ao,Ag,trivial,Bq⟩
noncomputable def DW:Nat->E->Bool
 |_,.v _=>true
 |n+1,.bin _ l r=>DW n l || DW n r
 |n+1,.tup es=>es.any (DW n)
 |_,_=>false
theorem Gc:∀{n:Nat}{pe:aV}{e:E},CE tb sc pe e->DW n e=true->dK n pe=false:=by
 intro n
 induction n with
 |zero =>
  intro pe e d h
  cases e<;>first|exact(aW h).elim|skip
  exact X2lp pe d.inv λZ Z u=>A9 u.ok
 |succ n Y =>
  intro pe e d h
  cases e with
  |v =>
   exact X2lp pe d.inv λZ Z u=>A9 u.ok
  |bin op l r =>
   exact X3lpp pe d.inv λZ Z Z O U=>fO.mpr ((c8.mp h).imp (Y O) (Y U))
  |tup es =>
   refine X3lp pe d.inv λB Z Z y=>?_;change es.any (DW n)=true at h;show B.all (dK n)=false;clear d
   induction es generalizing B with
   |nil=>exact(aW h).elim
   |cons e es z =>
    have T:=y;clear y;exact X2lppp B T λZ Z hn y U=>fO.mpr ((c8.mp h).imp (Y y) λh=>z _ U h)
  |_=>exact(aW h).elim
theorem set_swap(m:L1)(a b:AV)(h:i≠j):(m.set i a).set j b=(m.set j b).set i a:=by
 funext k
 unfold L1.set
 by_cases Y:k=j
 .subst Y;simp[dC h]
 .simp[Y]
set_option tactic.hygienic true in
theorem sw2(u:env.blockKind=.function)
  (y:(dK 8 pa && dK 8 pb)=false) :
  eR [.Tuple [.Name x1 p1,.Name x2 p2] k tp] (.Tuple [pa,pb] kk p) env=pure none\/eR [.Tuple [.Name x1 p1,.Name x2 p2] k tp] (.Tuple [pa,pb] kk p) env=pure (some [x1,x2]):=by
 have U:List.all [pa,pb] (dK 8)=false:=by simpa[Bool.and_true]using y
 unfold eR;simp only[U,u];generalize hf:List.filterMap _ _=ns;have key:ns.length=2->ns=[x1,x2]:=by
  rw[<- hf];simp only[List.filterMap_cons,List.filterMap_nil]
  split<;>split<;>rename_i a b<;>(try (intro h;simp at h;done))
  rename_i z B
  intro _
  split at z<;>cases z
  split at b<;>cases b
  rfl
 clear hf;generalize List.any [pa,pb] _=b0;generalize List.all [pa,pb] (foldedForSure 8)=b1
 cases b0 with
 |true=>left;rfl
 |false =>
  cases b1 with
  |true =>
   left
   by_cases q:(ns.length != 2 || ns.eraseDups.length != ns.length)=true
   .simp only[aL,c6,q];rfl
   .simp only[aL,c6,q];rfl
  |false =>
   by_cases q:(ns.length != 2 || ns.eraseDups.length != ns.length)=true
   .left;simp only[aL,c6,q];rfl
   .right
    have:ns.length=2:=by
     simp only[d8,bne_iff_ne,ne_eq,not_or,Decidable.not_not]at q;exact q.1
    simp only[aL,c6,q];rw[key this]
    rfl
theorem unpack2(hq:S.hx=aa)(hij:i≠j)(hf1:F.sc.lookup x1≠some .free)(Y:IsV F.tb F.sc x1 i)(hf2:F.sc.lookup x2≠some .free)(u:IsV F.tb F.sc x2 j)(hs:F.St m V s)
  (ra:Rep S.cv s.heap (F.D V) (.tup [x,y]) v):wpAny (model S.prog S.w) F.A (unpackItems v 2 none) (λitems Ai =>
   wpAny (model S.prog S.w) F.A (assignInOrder [bindName F.env x2,bindName F.env x1] items.reverse) (λZ s'=>H2 F.P F.O V s V s'/\F.St ((m.set i x).set j y) V s') X Ai) X s:=by
 .refine X3lppp v ra.inv λad vs n e d r=>X2ppp r.two λz U Z0 r1 r2=>?_
  clear r;subst Z0;have ht:s.heap.IsTuple ad #[z,U]:=⟨_,e,rfl,n,rfl⟩;refine wpAny_unpackItems_tuple (items:=#[z,U]) (F.room.quiet hq) ht λh' kx=>Aq (LR hs kx) λB T=>?_;show wpAny _ _ (assignInOrder [bindName F.env x2,bindName F.env x1] [U,z]) _ _ _;refine eQ (wpAny_bindName (BM hf2 u B (r2.st T B) λAi Ao Ag=>(eQ (wpAny_bindName (BM hf1 Y Ag ((r1.st T B).st Ao Ag) λBC AU AG=>(wpAny_assignInOrder_none ⟨(T.trans Ao).trans AU,?_⟩))))));rw[set_swap _ _ _ hij];exact AG
set_option tactic.hygienic true in
theorem ST.assign2(hq:S.hx=aa)(d:i≠j)(hn:(DW 8 e1 || DW 8 e2)=true)(h:ET F m V e1 (λx Aa=>ET F m Aa e2 (λy T=>K .next ((L1.set m i x).set j y) T) X) X) :
  ST F m V (.assign (.tup [.v i,.v j]) (.tup [e1,e2])) K X:=by
 refine λst hc s hs=>X3lpp st hc.inv λZ Z Z hp he=>?_;have ev:ET F m V (.tup [e1,e2]) (λa Aa=>∃x y,a=.tup [x,y]/\K .next ((L1.set m i x).set j y) Aa) X :=
  ET.tup (EsT.cons (h.mono λx Aa q=>EsT.cons (q.mono λy T q=>EsT.nil ⟨by show 2<=big;decide,x,y,rfl,q⟩)))
 have B:=hp;refine X3pp B.inv λts k tp Z0 z=>?_;clear B;subst Z0
 ···.obtain⟨t1,_,rfl,n1,hp1,z⟩:=z.inv
     obtain⟨t2,_,rfl,n2,hp2,z⟩:=z.inv;obtain rfl:=z.inv_nil;refine X2ppp hp1.inv λx1 p1 Z1 hf1 Y=>?_;subst Z1;refine X2ppp hp2.inv λx2 p2 Z2 hf2 O=>?_;subst Z2;have hne:x1≠x2:=by
      rintro rfl
      have:=Y.ix
      rw[O.ix]at this;exact d (ae this).symm
     have he':=CE.inv he
     ··.obtain⟨pes,kk,p,rfl,U⟩:=he'
        obtain⟨pa,_,rfl,m1,ha,U⟩:=U.inv;obtain⟨pb,_,rfl,m2,hb,U⟩:=U.inv;obtain rfl:=U.inv_nil;have bk:F.env.blockKind=.function:=by unfold Env.blockKind;rw[F.fk];rfl
        have c2:(dK 8 pa && dK 8 pb)=false:=by
         simp only[d8]at hn;simp only[fO];exact hn.imp (Gc ha) (Gc hb)
        rcases sw2 (x1:=x1) (x2:=x2) (p1:=p1) (p2:=p2) (tp:=tp) (p:=p) (k:=k) (kk:=kk) bk c2 with sw|sw
        .refine Assign_Tuple ((ev _ he s hs).out ?_) (by unfold swapsWithSole;exact Cd he rfl) sw
         intro v Aa Ad Ah Ac u;obtain⟨a,ra,x,y,rfl,q⟩:=u;have pt:PT F m Aa (.tup [.v i,.v j]) (.tup [x,y]) (λAt T=>K .next At T) X:=PT.tup hq rfl (by
          show PT F m Aa (.v i) x (λAp Aa=>PT F Ap Aa (.v j) y (λAt T=>K .next At T) X) X;exact PT.v (PT.v q))
         refine aR (pt _ hp v Ad Ac ra) ?_ λZ Z e=>e;intro _ Ai u;obtain⟨At,T,Ao,Ag,Bq⟩:=u;exact⟨.next,At,T,Ah.trans Ao,Ag,trivial,Bq⟩
        .refine Assign_Tuple_swapped (names:=[x1,x2]) ((ev _ he s hs).out ?_) (by unfold swapsWithSole;exact Cd he rfl) sw
         intro v Aa Ad Ah Ac u;obtain⟨a,ra,x,y,rfl,q⟩:=u;exact aR (unpack2 hq d hf1 Y hf2 O Ac ra) (λitems Ai Ag=>(aR Ag (λZ BC AG=>⟨.next,_,Aa,Ah.trans AG.1,AG.2,trivial,q⟩) λZ Z e=>e)) λZ Z e=>e
end
end
section
variable {S:Sta}
section
variable {F:Fx S}{m m':L1}{V V':E0}{s s':ag}{X:Value->ag->Prop}{Q:AV->E0->Prop}{K:Fl->L1->E0->Prop}
noncomputable def CB(l:List AV):List AV:=l.mapIdx λi x=>.tup [.int i,x]
theorem Gp{i:Nat}{y:AV}(h:(CB l)[i]?=some y):∃x,l[i]?=some x/\y=.tup [.int i,x]:=by
 simp only[CB,f7,aZ]at h;exact X1pr y h λx u=>⟨x,u,rfl⟩
theorem Ds(l:List AV):(CB l).length=l.length:=by simp[CB]
theorem IQ(y:IsEnum h e it i old)(hi:h.get? it=some oi)(O:Dl oi):Its h (λa=>a=e\/a=it):=by
 rintro a (rfl|rfl)
 .exact⟨_,y,⟨_,rfl,by decide,by decide⟩,_,rfl⟩
 .exact⟨_,hi,O⟩
theorem HI(h:dl V a=some l)(ks:∀b o,V b=some o->Ab b=some o):dl Ab a=some l:=by
 cases a with
 |loc y z =>
  exact X1pp (AF (show (V y).bind L4.list?=some l from h)) λo O h'=>(congrArg (·.bind L4.list?) (ks _ _ O)).trans h'
 |_=>exact h
theorem Gq(hq:S.hx=aa){l:List AV}{ad e it:Addr}(hp:Tgt (.tup ps) t)(hne:e≠it) :
  Walk F e (CB l) t (λb=>b=e\/b=it) (λi V' s'=>(∃Y,IsEnum s'.heap e it i Y)/\s'.heap.IsListIter it ad i/\Rep S.cv s'.heap (F.D V') a (.ref ad)/\dl V' a=some l) (okL a):=by
 refine X3l t hp λes kk pp=>?_;have its:∀(i:Nat)(s':ag)(Y:Value),IsEnum s'.heap e it i Y->s'.heap.IsListIter it ad i->Its s'.heap (λb=>b=e\/b=it):=by
  exact λi s' Y U u=>X1ppp u λo eo c d=>IQ U eo ⟨⟨_,c,by decide,by decide⟩,_,d⟩
 refine⟨?_,?_,?_,?_,?_⟩
 .intro i V' s' u
  obtain⟨⟨Y,U⟩,T,_⟩:=u;exact its i s' Y U T
 .intro i Ap At Aa Ad Ab Ai O hO hN u B st Ag o
  obtain⟨⟨Y,U⟩,T,ra,hl⟩:=u;have z:=its i Ad Y U T;exact X1ppp T λoi ei c d=>⟨⟨Y,z.still B hO hN st (.inl rfl) U⟩,⟨oi,z.still B hO hN st (.inr rfl) ei,c,d⟩,ra.step st hO B.pN,okL_dl hl o⟩
 .intro i y Ap Aa Ad GQ Q X hxx B u hQ
  obtain⟨⟨Y,U⟩,T,ra,hl⟩:=u;refine X1pp (Gp hxx) λx hx Z0=>?_;clear hxx;subst Z0;have z:=its i Ad Y U T;refine X3ppp (ra.lst B.inv hl) λad' ws n' e1 e' rl'=>?_;obtain rfl:=bx e1;refine X1pp (rl'.get hx) λv hv rv=>wpAny_pyNext_enum_item U T (items:=ws.toArray) ⟨_,e',rfl,n',rfl⟩ (x:=v) (by simpa using hv) hne λh' ho hit' hT hz hk=>wpAny_letOwnedTupleGo_enum ho λh'' he'' hsb=>?_
  have kp:∀b o,¬(b=e\/b=it)->Ad.heap.get? b=some o->h''.get? b=some o:=λb o q eb=>hsb.extBut b o (λz=>q (.inl z)) (hk b o (λz=>q (.inl z)) (λz=>q (.inr z)) eb);have hlt:Ad.heap.objs.size≠e:=eG (bf U);have ist:ItStep (λb=>b=e\/b=it) Ad { Ad with heap:=h'',toks:=Ad.toks+1 }:=⟨kp,rfl,rfl,rfl⟩
  refine hQ _ _ ist ?_ ⟨⟨v,by simpa using he''⟩,hit'.extBut hsb.extBut (dC hne),ra.it z kp,hl⟩
  exact .tup (vs:=[_,_]) (hsb.extBut _ _ hlt hT) (B.inv.not_D (AA _)) (.cons (.int _ _) (.cons (rv.it z kp) .nil))
 .intro i Aa Ad Q X u hQ
  obtain⟨⟨Y,U⟩,_⟩:=u;exact fA U hQ
 .intro Ap Aa Ad Q X B u hQ
  obtain⟨⟨Y,U⟩,T,ra,hl⟩:=u;refine X3ppp (ra.lst B.inv hl) λad' ws n' e1 e' rl'=>?_;obtain rfl:=bx e1;refine wpAny_pyNext_enum_end (F.room.quiet hq) U T (items:=ws.toArray) ⟨_,e',rfl,n',rfl⟩ (by simp[rl'.length,Ds]) λh' hx=>hQ _ ⟨λb o q e=>hx b o (λz=>q (.inr z)) e,rfl,rfl,rfl⟩
theorem HB(hq:S.hx=aa){tk:Tok}{e it:Addr}(hp:Tgt (.tup ps) t)(hne:e≠it) :
  Walk F e (CB (Dc x)) t (λb=>b=e\/b=it) (λi V' s'=>(∃Y,IsEnum s'.heap e it i Y)/\s'.heap.IsStrIter it "str_ascii_iterator" x tk i) (λZ Z=>True):=by
 refine X3l t hp λes kk pp=>?_;have its:∀(i:Nat)(s':ag)(Y:Value),IsEnum s'.heap e it i Y->s'.heap.IsStrIter it "str_ascii_iterator" x tk i->Its s'.heap (λb=>b=e\/b=it):=by
  exact λi s' Y B T=>X1ppp T λo eo c d=>IQ B eo ⟨⟨_,c,by decide,by decide⟩,_,d⟩
 have D:Draws S.prog S.w F.A.in1 it [it] x.cps.size (λi v=>∃c u,x.cps[i]?=some c/\v=.str ⟨#[c]⟩ u) (λi h=>h.IsStrIter it "str_ascii_iterator" x tk i):=Draws.strAscii (A:=F.A.in1) (F.room.quiet hq) it x tk;refine⟨?_,?_,?_,?_,?_⟩
 .intro i V' s' T
  obtain⟨⟨Y,B⟩,U⟩:=T;exact its i s' Y B U
 .intro i Ap At Aa Ad Ab Ai O hO hN T Ac st Ag o
  obtain⟨⟨Y,B⟩,U⟩:=T;have z:=its i Ad Y B U;exact X1ppp U λoi ei c d=>⟨⟨Y,z.still Ac hO hN st (.inl rfl) B⟩,⟨oi,z.still Ac hO hN st (.inr rfl) ei,c,d⟩⟩
 .intro i y Ap Aa Ad GQ Q X hxx Ac T hQ
  obtain⟨⟨Y,B⟩,U⟩:=T;refine X1pp (Gp hxx) λu hx Z1=>?_;clear hxx;subst Z1;have z:=its i Ad Y B U;have hlt':i<x.cps.size:=by
   rcases bO i x.cps.size with q|q
   .exact q
   .rw[be (by simpa[Dc]using q)]at hx;exact nS hx
  refine wpAny_pyNext_enum_itemD D B U hlt' hne (by simpa using hne) λv h' tk' hP ho hit' hT hz hk=>wpAny_letOwnedTupleGo_enum ho λh'' he'' hsb=>?_
  have kp:∀b o,¬(b=e\/b=it)->Ad.heap.get? b=some o->h''.get? b=some o:=λb o q eb=>hsb.extBut b o (λz=>q (.inl z)) (hk b o (λz=>q (.inl z)) (λz=>q (.inr z)) eb);have hlt:Ad.heap.objs.size≠e:=eG (bf B);have ist:ItStep (λb=>b=e\/b=it) Ad { Ad with heap:=h'',toks:=tk'+1 }:=⟨kp,rfl,rfl,rfl⟩
  refine X2pp hP λc tu hc Z2=>?_;clear hP ho;subst Z2;simp only[Dc,a9,aZ,Array.getElem?_toList]at hx;refine X1pp hx λc' hc' Z0=>?_;subst Z0;rw[hc]at hc';obtain rfl:=ae hc';refine hQ _ _ ist ?_ ⟨⟨_,by simpa using he''⟩,hit'.extBut hsb.extBut (dC hne)⟩
  exact .tup (vs:=[_,_]) (hsb.extBut _ _ hlt hT) (Ac.inv.not_D (AA _)) (.cons (.int _ _) (.cons (.str _ _) .nil))
 .intro i Aa Ad Q X T hQ
  obtain⟨⟨Y,B⟩,_⟩:=T;exact fA B hQ
 .intro Ap Aa Ad Q X Ac T hQ
  obtain⟨⟨Y,B⟩,U⟩:=T;have hl:(CB (Dc x)).length=x.cps.size:=by simp[Ds,Dc]
  rw[hl]at U;exact wpAny_pyNext_enum_endD D B U λh' hx=>hQ _ ⟨λb o q e=>hx b o (λz=>q (.inr z)) e,rfl,rfl,rfl⟩
theorem M7.enum1{G:List AV->(E0->E0->Prop)->E0->Prop}(hg:Glob S gi (.type "enumerate"))
  (h':EsT F m V [e] (λB Aa=>∃a,B=[a]/\S.hx=aa/\((∃l,dl Aa a=some l/\G (CB l) (okL a) Aa)\/(∃x,a=.str x/\x.cps.all (·<128)=true/\G (CB (Dc x)) (λZ Z=>True) Aa))) X):M7 F m V (.tup ps) (.call (.g gi) [e]) G X:=by
 refine λpe t hc hp s hs=>X4lppp pe hc.inv λZ Z Z Z Z hx ha=>Call_ (Do hx hg hs (CY ha (M3.type _) h' hs ?_));refine λvals B Aa Ad Ah T r Y=>X1ppp Y λa Z0 hq q=>?_;clear Y;subst Z0;refine X1lp vals r.one λv ra=>?_;have O:∀k,Ad.heap.get? (Ad.heap.objs.size+k)=aa:=λk=>by
  cases q:Ad.heap.get? (Ad.heap.objs.size+k)with|none=>rfl|some o=>exact absurd (bf q) (cR.mpr (dL _ _))
 rcases q with⟨l,hl,hG⟩|⟨x,rfl,z,hG⟩
 .refine X3ppp (ra.lst T.inv hl) λad vs n Z1 e1 rl=>?_
  subst Z1;refine call_enumerate_list (items:=vs.toArray) ⟨_,e1,rfl,n,rfl⟩ λh2 y u hz hk=>fA y (Aq (T.grow hk Ad.toks) λAg Ao=>⟨_,_,_,_,_,Aa,Ad,rfl,λU=>Gq (F:=U) (a:=a) (ad:=ad) hq hp (ir _),Ah,T,Ao,Ag,?_,?_,hG⟩)
  case refine_2 =>
   refine λU Ab Ai d hD ks=>X1pp u λoi eo r=>⟨⟨_,d _ _ y⟩,⟨oi,d _ _ eo,r⟩,(ra.st Ao.any Ag).ext (Ext.of_keeps d) hD,HI hl ks⟩
  rintro b (rfl|rfl)
  .exact O 1
  .exact O 0
 .refine X1l v ra.inv λtk=>call_enumerate_str λh2 y u hz hk=>fA y (Aq (T.grow hk Ad.toks) λAg Ao=>?_)
  have hty:strIterType x = "str_ascii_iterator":=by unfold strIterType;rw[z];rfl
  rw[hty]at u;refine⟨_,_,_,_,_,Aa,Ad,rfl,λU=>HB (F:=U) (tk:=tk) hq hp (ir _),Ah,T,Ao,Ag,?_,?_,hG⟩
  case refine_2 =>
   exact λU Ab Ai d hD ks=>X1pp u λoi eo r=>⟨⟨_,d _ _ y⟩,⟨oi,d _ _ eo,r⟩⟩
  rintro b (rfl|rfl)
  .exact O 1
  .exact O 0
end
end
section
variable {S:Sta}
noncomputable def J3(env:Env):List (Str×c7)->List (Str×Addr)->List (Str×Addr)
 |[],acc=>acc
 |(n,k)::r,acc=>if k == .free then J3 env r ((n,(env.cells.lookup n).getD 0)::acc) else J3 env r acc
set_option tactic.hygienic true in
theorem FN:∀{names:List (Str×c7)}{acc:List (Str×Addr)},(y,c)∈J3 env names acc->((y,bT)∈names/\c=(env.cells.lookup y).getD 0)\/(y,c)∈acc
 |[],_,h=>.inr h
 |(n,k)::r,acc,h=>by
  unfold J3 at h
  split at h
  .rename_i B
   have z:k=bT:=by simpa using B
   rcases FN h with q|q
   .exact .inl ⟨.tail _ q.1,q.2⟩
   .rcases aA.mp q with e|q
    .obtain⟨rfl,rfl⟩:=cE e;clear B;subst z;exact .inl ⟨.head _,rfl⟩
    .exact .inr q
  .rcases FN h with q|q
   .exact .inl ⟨.tail _ q.1,q.2⟩
   .exact .inr q
set_option tactic.hygienic true in
theorem CW:∀{names:List (Str×c7)}{acc:List (Str×Addr)},(y,bT)∈names\/(acc.lookup y).isSome=true->((J3 env names acc).lookup y).isSome=true
 |[],_,h=>h.elim (λe=>by exact nM e) id
 |(n,k)::r,acc,h=>by
  unfold J3
  split
  .refine CW ?_
   by_cases q:(y == n)=true
   .right;rw[cU,q];rfl
   .rcases h with h|h
    .rcases aA.mp h with e|h
     .obtain⟨rfl,rfl⟩:=cE e;simp at q
     .exact .inl h
    .right;rw[cU];simpa only[q]using h
  .rename_i B
   refine CW ?_
   rcases h with h|h
   .rcases aA.mp h with e|h
    .obtain⟨rfl,rfl⟩:=cE e;simp at B
    .exact .inl h
   .exact .inr h
theorem Dj(f:Str×c7->List (Str×Addr)->Sem (ForInStep (List (Str×Addr))))
  (O:∀name kind cs,f (name,kind) cs=if kind == .free then (do let a <- cellOf env name;pure (.yield ((name,a)::cs))) else pure (.yield cs)) :
  ∀(names:List (Str×c7))(acc:List (Str×Addr)),(∀p∈names,p.2=.free->∃c,env.cells.lookup p.1=some c)->forIn names acc f=pure (J3 env names acc)
 |[],acc,_=>by rw[List.forIn_nil];rfl
 |(n,k)::r,acc,h=>by
  rw[d9,O];unfold J3
  by_cases B:(k == bT)=true
  .rw[if_pos B,if_pos B]
   refine X1p (h (n,k) (.head _) (by simpa using B)) λc Y=>?_
   have:cellOf env n=pure c:=by unfold cellOf;rw[Y]
   rw[this,Y];exact Dj f O r _ λp d=>h p (.tail _ d)
  .rw[if_neg B,if_neg B]
   exact Dj f O r _ λp d=>h p (.tail _ d)
theorem FM(h:∀p∈scope.names,p.2=.free->∃c,env.cells.lookup p.1=some c):closureFor scope env=pure (J3 env scope.names []):=by
 unfold closureFor;dsimp only;rw[Dj _ (λname U T=>by cases hkc:U == bT<;>simp[hkc]) scope.names [] h]
 rfl
set_option tactic.hygienic true in
theorem CX:∀{names:List (Str×c7)}{h:Heap}{acc:List (Str×Addr)},(y,c)∈cZ h.objs.size names acc->(y,c)∈acc\/((fT h names).IsCell c aa/\h.objs.size<=c/\(y,dn)∈names)
 |[],_,_,h=>.inl h
 |(n,k)::r,hp,acc,h=>by
  unfold cZ at h;unfold fT
  split at h
  .rename_i B
   rw[if_pos B];have hz:(hp.push { cls:=.type "cell",data:=.cell aa }).objs.size=hp.objs.size+1:=cD ..;rw[<- hz]at h
   rcases CX h with q|q
   .rcases aA.mp q with e|q
    .obtain⟨rfl,rfl⟩:=cE e
     have z:k=dn:=by simpa using B
     clear B;subst z;exact .inr ⟨⟨_,eT _ _ _ _ (ay _ rfl),rfl⟩,az _,.head _⟩
    .exact .inl q
   .exact .inr ⟨q.1,by have:=q.2.1;rw[hz]at this;exact ib this,.tail _ q.2.2⟩
  .rename_i B
   rw[if_neg B]
   rcases CX h with q|q
   .exact .inl q
   .exact .inr ⟨q.1,q.2.1,.tail _ q.2.2⟩
theorem Ed:∀{names:List (Str×c7)}{n:Nat}{acc:List (Str×Addr)},(∀p∈acc,p.2<n)->(∀p∈acc,∀q∈acc,p.2=q.2->p.1=q.1)->∀p∈cZ n names acc,∀q∈cZ n names acc,p.2=q.2->p.1=q.1
 |[],_,_,_,h2=>h2
 |(x,k)::r,n,acc,h1,h2=>by
  unfold cZ
  split
  .refine Ed (λp d=>?_) λp d q hq e=>?_
   .rcases aA.mp d with rfl|d
    .exact eH n
    .exact cP (h1 p d)
   .rcases aA.mp d with rfl|d<;>rcases aA.mp hq with rfl|hq
    .rfl
    .exact absurd e (eG (h1 q hq))
    .exact absurd e (bP (h1 p d))
    .exact h2 p d q hq e
  .exact Ed h1 h2
noncomputable def compEnv(scope:Scope)(env:Env)(cl:List (Str×Addr))(C:Addr):Env :=
 { scope:=relabel scope env,locals:=C,globals:=env.globals,cells:=cZ (C+1) scope.names cl,qual:=env.qual,func:=none,code:=env.code,frame:=env.frame,builtins:=env.builtins }
theorem Hj{E:Value->ag->Prop}{s:ag}{scope:Scope}{env:Env}{cl:List (Str×Addr)}{M:Model}{Q:Env->ag->Prop}
  (h:Q { scope:=scope,locals:=s.heap.objs.size,globals:=env.globals,cells:=cZ (s.heap.objs.size+1) scope.names cl,qual:=env.qual,func:=none,code:=env.code,frame:=env.frame,builtins:=env.builtins }
   { s with heap:=fT (s.heap.push { cls:=.type "dict",data:=.dict #[] }) scope.names }) :
  wpAny M A (newFunctionEnv scope env.globals cl [] env.qual none .none (some env)) Q E s:=by
 simp only[newFunctionEnv,gH,if_true];refine ac (wpAny_alloc ?_);refine ac (wpAny_layCells _ (λname U cells=>by cases hkc:U == dn<;>simp[hkc]) _ _ _ _ ?_)
 rw[show ({ s with heap:=s.heap.push { cls:=.type "dict",data:=.dict #[] } }:ag).heap.objs.size=s.heap.objs.size+1 from cD ..]
 exact ac (ai (ai h))
set_option tactic.hygienic true in
theorem F4(h:(y,k)∈relab sc names):(y,k)∈names\/(k=.cell/\(y,bT)∈names/\sc.lookup y=some .cell):=by
 unfold relab at h;obtain⟨⟨n,k'⟩,T,e⟩:=aY.mp h;simp only at e
 split at e
 .rename_i d
  obtain⟨rfl,rfl⟩:=cE e;simp only[bh,beq_iff_eq]at d;obtain⟨rfl,d⟩:=d;exact .inr ⟨rfl,T,d⟩
 .obtain⟨rfl,rfl⟩:=cE e;exact .inl T
theorem BE:∀{names:List (Str×c7)},names.lookup y=some k->(relab sc names).lookup y=some (if (k == .free && sc.lookup y == some .cell) then .cell else k)
 |[],h=>by exact nS h
 |(n,k')::r,h=>by
  unfold relab;rw[bp]
  by_cases q:(y == n)=true
  .rw[cU,q]at h
   obtain rfl:=ae h
   have:y=n:=by simpa using q
   clear q;subst this;simp only
   split<;>rw[cU]<;>simp
  .rw[cU]at h
   simp only[q]at h;have u:=BE (sc:=sc) (names:=r) h;simp only
   split<;>rw[cU]<;>simp only[q]<;>exact u
section
variable {F:Fx S}{m:L1}{V:E0}{s:ag}{scope:Scope}{x:Str}{i:Nat}
theorem BO(F:Fx S)(scope:Scope):(relabel scope F.env).names=relab F.sc scope.names:=by
 unfold relabel relab;simp only[F.fk,beq_self_eq_true,Bool.and_true]
 rfl
structure CompOk(F:Fx S)(scope:Scope)(x:Str)(i:Nat):Prop where
 kind:scope.kind=.function
 var:scope.names.lookup x=some .local\/scope.names.lookup x=some .cell
 ok:okName x=true
 ix:ixS F.tb x=some i
 names:∀q∈scope.names,DR F.tb F.sc x q=true/\scope.names.lookup q.1=some q.2
theorem CompOk.free(c:CompOk F scope x i)(h:(y,bT)∈scope.names):F.sc.lookup y=some .cell:=by
 have:=(c.names _ h).1
 simpa[DR]using this
theorem CompOk.own(c:CompOk F scope x i)(h:(y,k)∈scope.names)(B:k=.local\/k=.cell)(z:ixS F.tb y=some j):j=i:=by
 have:=(c.names _ h).1
 rcases B with rfl|rfl <;>
 .simp only[DR,z,c.ix,Option.isNone_some,Bool.false_or,beq_iff_eq,hW]at this
  exact this
theorem CompOk.cl(c:CompOk F scope x i):∀p∈scope.names,p.2=.free->∃a,F.env.cells.lookup p.1=some a:=by
 intro u d O;obtain⟨y,k⟩:=u;subst O;exact F.fc y (c.free d)
theorem CompOk.closure(c:CompOk F scope x i):closureFor scope F.env=pure (J3 F.env scope.names []):=FM c.cl
theorem CompOk.clCell(c:CompOk F scope x i)(h:(y,a)∈J3 F.env scope.names []):(y,bT)∈scope.names/\F.env.cells.lookup y=some a:=by
 rcases FN h with q|q
 .refine X1p (c.cl _ q.1 rfl) λd ha=>?_
  have:=q.2
  simp only at ha;rw[ha]at this;exact⟨q.1,by rwa [this]⟩
 .exact nM q
end
end
section
variable {S:Sta}
section
variable {F:Fx S}{m Ap:L1}{V Aa:E0}{s Ad:ag}{scope:Scope}{x:Str}{i:Nat}
noncomputable abbrev ccl(F:Fx S)(scope:Scope):List (Str×Addr):=J3 F.env scope.names []
noncomputable abbrev E2(F:Fx S)(scope:Scope)(C:Addr):Env:=compEnv scope F.env (ccl F scope) C
theorem Ei(C:Addr)(y:Str):(E2 F scope C).kindOf y=(relab F.sc scope.names).lookup y:=by
 show (relabel scope F.env).names.lookup y=_;rw[BO]
theorem CompOk.fc(c:CompOk F scope x i)(C:Addr):∀y,(E2 F scope C).kindOf y=some .cell->∃a,(E2 F scope C).cells.lookup y=some a:=by
 intro y u;rw[Ei]at u;refine bH.mp (fq _ _ _ ?_)
 rcases F4 (mem_of_lookup u)with q|⟨_,q,_⟩
 .exact .inl ((c.names _ q).2)
 .exact .inr (CW (.inl q))
noncomputable def Bs(c:CompOk F scope x i)(D C:Addr):Fx S :=
 ⟨F.A,F.tb,E2 F scope C,F.b,λa=>F.N a\/a=D\/Own (E2 F scope C) a,F.k,F.room.wide (λZ q=>.inl q),c.kind,F.fg,F.fb,c.fc C⟩
structure Cc(F:Fx S)(scope:Scope)(s:ag)(C:Addr):Prop where
 out:∀a,Own (E2 F scope C) a->(∃y,(y,bT)∈scope.names/\F.env.cells.lookup y=some a)\/s.heap.get? a=aa
theorem CompOk.own_out(c:CompOk F scope x i){h:Heap}(B:h.objs.size=C+1)(T:∀a,C<=a->s.heap.get? a=aa):Cc F scope s C:=by
 constructor
 rintro a (rfl|⟨y,u⟩)
 .exact .inr (T _ (az _))
 .have z:=mem_of_lookup u
  have O:(y,a)∈cZ h.objs.size scope.names (ccl F scope):=by rwa [B]
  rcases CX O with q|q
  .exact .inl ⟨y,c.clCell q⟩
  .exact .inr (T a (ib (by have:=q.2.1;rw[B]at this;exact this)))
theorem comp_in(c:CompOk F scope x i)(hs:F.St m V s) :
  let D:=s.heap.objs.size
  let Ac:=(s.heap.push (AE #[] 0)).push { cls:=.type "dict",data:=.dict #[] }
  let U:ag:={ s with heap:=fT Ac scope.names }
  (Bs c D (D+1)).St (λj=>if j=i then aa else m j) V U/\H2 noO noO V s V U/\U.heap.get? D=some (AE #[] 0)/\Cc F scope s (D+1)/\(∀b o,s.heap.get? b=some o->U.heap.get? b=some o)/\(∀b,(Bs c D (D+1)).D V b->F.D V b\/s.heap.get? b=aa)/\¬Own (E2 F scope (D+1)) D:=by
 intro D Ac U;have Z0:(s.heap.push (AE #[] 0)).objs.size=D+1:=cD ..;have hz:Ac.objs.size=D+1+1:=(cD ..).trans (by rw[Z0])
 have kp:∀b o,s.heap.get? b=some o->U.heap.get? b=some o:=λb o e=>eT _ _ _ _ (ar _ (ar _ e));have fresh:∀a,D<=a->s.heap.get? a=aa:=λa ha=>by
  cases q:s.heap.get? a with|none=>rfl|some o=>exact absurd (bf q) (cR.mpr ha)
 have cn:Cc F scope s (D+1):=c.own_out (h:=Ac) hz λa ha=>fresh a (ib ha);have gD:U.heap.get? D=some (AE #[] 0):=eT _ _ _ _ (ar _ (ay _ rfl));have gC:Ac.get? (D+1)=some { cls:=.type "dict",data:=.dict #[] }:=by rw[<- Z0];exact ay _ rfl
 refine Aq (hs.grow kp s.toks) λZ st=>?_;obtain⟨mc,cm,n,cc,ow,ap,cl,rr⟩:=hs.loc;have FO:∀{y a},F.env.cells.lookup y=some a->F.O a:=λh=>.inr ⟨_,h⟩;have hDN:∀b,DN (Bs c D (D+1)).N V b->DN F.N V b\/s.heap.get? b=aa:=by
  rintro b (q|q|q|q)
  .exact .inl (.inl q)
  .exact .inl (.inr q)
  .exact .inr (q▸fresh D (az _))
  .rcases cn.out b q with⟨y,_,u⟩|q
   .exact .inl (.inr (hs.own b (FO u)))
   .exact .inr q
 have e0:Ext (DN F.N V) s.heap U.heap:=Ext.of_keeps kp;have T:∀{y a},(E2 F scope (D+1)).cells.lookup y=some a->((y,bT)∈scope.names/\F.env.cells.lookup y=some a)\/(U.heap.IsCell a aa/\D+2<=a/\(y,dn)∈scope.names):=by
  intro y a u;have hm:(y,a)∈cZ Ac.objs.size scope.names (ccl F scope):=by rw[hz];exact mem_of_lookup u
  rcases CX hm with q|⟨q1,q2,q3⟩
  .exact .inl (c.clCell q)
  .exact .inr ⟨q1,by rw[hz]at q2;exact q2,q3⟩
 have Y:∀{y k k'},(y,k)∈scope.names->(y,k')∈scope.names->k=k':=by
  intro y k k' h1 h2;have a1:=(c.names _ h1).2;have a2:=(c.names _ h2).2;simp only at a1 a2;rw[a1]at a2;exact ae a2
 refine⟨⟨⟨?_,hs.inv.gens,hs.inv.drawn,hs.inv.os,hs.inv.σg,?_,?_,?_⟩,?_,hs.frm.trans st.any,λa q=>.inl (hs.pN a q),?_,λa q=>.inr (.inr q),hs.gb⟩,st,gD,cn,kp,hDN,?_⟩
 .exact λb o e=>kp b o (hs.inv.keep b o e)
 .rintro a d (q|q|q)
  .exact hs.inv.σN a d q
  .exact hs.inv.not_dom (q▸fresh D (az _)) d
  .rcases cn.out a q with⟨y,_,u⟩|q
   .exact hs.inv.σN a d (hs.own a (FO u))
   .exact hs.inv.not_dom q d
 .rintro a (q|q|q|⟨y,u⟩)
  .refine X1pp (hs.inv.Nin a q) λo e nf=>?_;exact⟨o,kp a o e,nf⟩
  .exact⟨_,q▸gD,λvs z=>by exact nDf rfl z⟩
  .have q':a=D+1:=q
   exact⟨_,by rw[q'];exact eT _ _ _ _ gC,λvs z=>by exact nDf rfl z⟩
  .rcases T u with⟨_,u⟩|⟨⟨o,e,dd⟩,_⟩
   .refine X1pp (cc y a u) λo e dd=>?_;exact⟨o,kp a o e,λvs z=>by rw[dd]at z;exact nDf rfl z⟩
   .exact⟨o,e,λvs z=>by rw[dd]at z;exact nDf rfl z⟩
 .exact λa o e=>(hs.inv.rep a o e).ext e0 hDN (kp a)
 .refine⟨λZ=>aa,λy=>if (y,dn)∈scope.names then aa else cm y,?_,?_,?_,?_,?_,?_⟩
  .have:Ac.Ns (D+1) (λZ=>aa):=by rw[<- Z0];exact Heap.Ns.new _ _
   exact this.keeps (eT _ _)
  .intro y a u
   rcases T u with⟨hf,u⟩|⟨q,_,hc⟩
   .have:¬(y,dn)∈scope.names:=λh=>by cases Y h hf
    simp only[if_neg this];exact(cc y a u).keeps kp
   .simp only[if_pos hc];exact q
  .intro a q
   rcases cn.out a q with⟨y,_,u⟩|q
   .exact ow a (FO u)
   .exact⟨hs.inv.not_dom q,hs.inv.not_g q⟩
  .refine λy z a u hz'=>Ed (n:=D+1+1) (names:=scope.names) (acc:=ccl F scope) ?_ ?_ (y,a) (mem_of_lookup u) (z,a) (mem_of_lookup hz') rfl
   .intro hR1 hp
    obtain⟨p1,p2⟩:=hR1;refine Aq (c.clCell hp) λZ hl=>?_
    have:=(cc p1 p2 hl).lt
    show p2<D+1+1;exact Nat.lt_of_lt_of_le this (dL _ 2)
   .intro hR1 hp hR2 hq e
    obtain⟨p1,p2⟩:=hR1;obtain⟨q1,q2⟩:=hR2;simp only at e;subst e;exact ap _ _ _ (c.clCell hp).2 (c.clCell hq).2
  .intro y a u
   rcases T u with⟨_,u⟩|⟨_,q,_⟩
   .have:=(cc y a u).lt
    exact bP (cP this)
   .exact eG q
  .intro y j av hj hm
   have hji:j≠i:=λe=>by rw[if_pos e]at hm;exact nS hm
   rw[if_neg hji]at hm;show LocAt _ _ _ _ _ _ ((E2 F scope (D+1)).kindOf y) _ _
   cases hk:(E2 F scope (D+1)).kindOf y with
   |none=>trivial
   |some k =>
    have B:=hk;rw[Ei]at B
    rcases F4 (mem_of_lookup B)with q|⟨rfl,q,q2⟩
    .cases k with
     |«local»=>exact absurd (c.own q (.inl rfl) hj) hji
     |cell=>exact absurd (c.own q (.inr rfl) hj) hji
     |free =>
      have e1:=(c.names _ q).2;simp only at e1;rw[BE e1,c.free q]at B;simp at B
     |globalExplicit=>trivial
     |globalImplicit=>trivial
    .have:=rr y j av hj hm
     have kd:F.env.kindOf y=F.sc.lookup y:=rfl;rw[kd,q2]at this;refine X2ppp this λv a h0 h1 h2=>X1p (c.fc (D+1) y hk) λa' ha'=>?_;have hmem:¬(y,dn)∈scope.names:=λh=>by cases Y h q
     refine⟨v,a',ha',by simp only[if_neg hmem];exact h1,h2.ext e0 hDN⟩
 .intro a q
  rcases cn.out a q with⟨y,_,u⟩|q
  .exact hs.new a (FO u)
  .exact hs.frm.new q
 .rintro (q|⟨y,u⟩)
  .exact absurd (show D=D+1 from q) (bP (eH D))
  .rcases T u with⟨_,u⟩|⟨_,q,_⟩
   .exact absurd (cc y D u).lt (ij _)
   .exact absurd q (Nat.not_le.mpr (cP (eH D)))
theorem Mq(c:CompOk F scope x i)(Y:Cc F scope s C)(y:H2 F.P (Bs c D C).O V s Aa Ad):H2 F.P F.O V s Aa Ad:=by
 have T:∀{b o},s.heap.get? b=some o->(Bs c D C).O b->F.O b:=λ{b o} e q=>by
  rcases Y.out b q with⟨z,_,hz⟩|q
  .exact .inr ⟨z,hz⟩
  .rw[q]at e;exact nS e
 exact⟨⟨λb o e d=>y.ext.obj b o e λq=>d (q.imp id λq=>q.imp (T e) id)⟩,λb o e n U d=>y.frm b o e n (λq=>U (T e q)) d,y.dom,y.there⟩
open Classical in
set_option tactic.hygienic true in
theorem Mr(c:CompOk F scope x i)(cn:Cc F scope s C)(hs:F.St m V s)(hN:∀b,Np b->F.N b\/s.heap.get? b=aa)(hN2:∀b,F.N b->Np b)(stF:H2 F.P F.O V s Aa Ad)(inv':Inv S Np Aa Ad)(frm':H2 F.P noO F.b.1 F.b.2 Aa Ad)
  (out:∀a o,s.heap.get? a=some o->F.O a->¬Own (E2 F scope C) a->∃u,Ad.heap.get? a=some u/\u.cls=o.cls/\u.data=o.data/\u.dict=o.dict)
  (cm':Str->Option Value) (hcm:∀z a,(z,bT)∈scope.names->(E2 F scope C).cells.lookup z=some a->Ad.heap.IsCell a (cm' z))
  (hcv:∀z j av,(z,bT)∈scope.names->ixS F.tb z=some j->j≠i->m j=some av->∃v,cm' z=some v/\Rep S.cv Ad.heap (DN Np Aa) av v):Internal.St S F.tb F.env Np F.P F.b m Aa Ad:=by
 have FO:∀{y a},F.env.cells.lookup y=some a->F.O a:=λh=>.inr ⟨_,h⟩;obtain⟨mc,cm,n,cc,ow,ap,cl,rr⟩:=hs.loc;have Y:∀{y k k'},(y,k)∈scope.names->(y,k')∈scope.names->k=k':=by
  intro y k k' h1 h2;have a1:=(c.names _ h1).2;have a2:=(c.names _ h2).2;simp only at a1 a2;rw[a1]at a2;exact ae a2
 have U:∀{av v},Rep S.cv s.heap (DN F.N V) av v->Rep S.cv Ad.heap (DN Np Aa) av v:=λr=>r.ext (stF.ext.mono λa h=>h.imp id λh=>h.elim (hs.own a) (hs.pN a)) λb h=>h.elim (λh=>(stF.dom b h).imp .inl id) λh=>(hN b h).imp .inr id;have T:∀{z a},F.env.cells.lookup z=some a->Own (E2 F scope C) a->(z,bT)∈scope.names:=by
  intro z a hz ha;refine X1pp (cc z a hz) λo e Z=>?_
  rcases cn.out a ha with⟨z',B,hz'⟩|q
  .have:=ap _ _ _ hz hz'
   clear hz';subst this;exact B
  .rw[e]at q;exact nS' q
 have lk:∀{z a b},F.env.cells.lookup z=some a->(z,bT)∈scope.names->(E2 F scope C).cells.lookup z=some b->b=a:=by
  intro z a b hz B hb;have hm:(z,b)∈cZ (C+1) scope.names (ccl F scope):=mem_of_lookup hb;have gen:∀{names:List (Str×c7)}{k:Nat}{acc:List (Str×Addr)},(z,b)∈cZ k names acc->(z,b)∈acc\/(z,dn)∈names:=by
   intro names
   induction names with
   |nil=>intro k acc h;exact .inl h
   |cons p r ih =>
    intro k acc h;obtain⟨pn,pk⟩:=p;unfold cZ at h
    split at h
    .rename_i hk
     have hk':pk=dn:=by simpa using hk
     clear hk;subst hk'
     rcases ih h with q|q
     .rcases aA.mp q with e|q
      .obtain⟨rfl,rfl⟩:=cE e;exact .inr (.head _)
      .exact .inl q
     .exact .inr (.tail _ q)
    .rcases ih h with q|q
     .exact .inl q
     .exact .inr (.tail _ q)
  rcases gen hm with q|q
  .have:=(c.clCell q).2
   rw[hz]at this;exact(ae this).symm
  .cases Y q B
 refine⟨inv',⟨mc,λz=>if (z,bT)∈scope.names then cm' z else cm z,?_,?_,?_,ap,cl,?_⟩,frm',(λa q=>hN2 a (hs.pN a q)),hs.new,λa q=>hN2 a (hs.own a q),hs.gb⟩
 .refine X3ppp n λo es ep e d r=>?_
  have hn:¬Own (E2 F scope C) F.env.locals:=λq=>by
   rcases cn.out _ q with⟨z,_,hz⟩|q
   .exact cl z _ hz rfl
   .rw[e]at q;exact nS' q
  exact X1pppp (out _ _ e (.inl rfl) hn) λu e' Z d' Z=>⟨u,es,ep,e',d'.trans d,r⟩
 .intro z a hz
  by_cases B:(z,bT)∈scope.names
  .simp only[if_pos B]
   refine X1p (bH.mp (fq (x:=z) scope.names (C+1) (ccl F scope) (.inr (CW (.inl B))))) λb hb=>?_
   have:=lk hz B hb
   clear hz;subst this;exact hcm z b B hb
  .simp only[if_neg B]
   have hn:¬Own (E2 F scope C) a:=λq=>B (T hz q);exact X1pp (cc z a hz) λo e d=>X1pppp (out _ _ e (FO hz) hn) λu e' Z d' Z=>⟨u,e',d'.trans d⟩
 .exact λa ha=>⟨λd=>inv'.σN a d (hN2 a (hs.own a ha)),(ow a ha).2⟩
 .intro z j av hj hmj
  have old:=rr z j av hj hmj;have kd:F.env.kindOf z=F.sc.lookup z:=rfl
  by_cases B:(z,bT)∈scope.names
  .have q2:=c.free B
   rw[kd,q2]at old ⊢;refine X2ppp old λv a h0 Z Z=>?_;have hji:j≠i:=by
    rintro rfl
    have:z=x:=BQ hj c.ix
    subst this
    rcases c.var with q|q<;>cases Y (mem_of_lookup q) B
   exact X1pp (hcv z j av B hj hji hmj) λv' h1' h2'=>⟨v',a,h0,by simp only[if_pos B];exact h1',h2'⟩
  .exact LocAt.map old (λh2=>U h2) (λZ h1=>h1) (λZ h1=>by simp only[if_neg B];exact h1)
theorem IY(c:CompOk F scope x i)(cn:Cc F scope s C)(hs:F.St m V s)(hDs:s.heap.get? D=aa)(hCs:s.heap.get? C=aa)(hDC:D≠C)
  (y:H2 F.P (Bs c D C).O V s Aa Ad) (Y:(Bs c D C).St Ap Aa Ad) (hm:∀j,j≠i->Ap j=m j) (hb:iG C Ad.heap h') (gD:Ad.heap.get? D=some (AE vs.toArray n)) (rl:RepL S.cv Ad.heap ((Bs c D C).D Aa) ys vs)
  (hNp:∀b,Np b->F.N b\/b=C) (hN2:∀b,F.N b->Np b) (hex:Np C->∃o,h'.get? C=some o/\∀vs,o.data≠.fields vs)
  (q:Fresh Aa (.list ys) (.list ys) Q):∃V',H2 F.P F.O V s V' { Ad with heap:=h' }/\Internal.St S F.tb F.env Np F.P F.b m V' { Ad with heap:=h' }/\∃av,Rep S.cv h' (DN Np V') av (.ref D)/\Q av V':=by
 have stF:=Mq c cn y;obtain⟨mc',cm',n',cc',ow',ap',cl',rr'⟩:=Y.loc;have oC:Own (E2 F scope C) C:=.inl rfl;have nC:∀{b o},s.heap.get? b=some o->b≠C:=λe q=>by rw[q,hCs]at e;exact nS e
 have B:∀b o,b≠C->Ad.heap.get? b=some o->h'.get? b=some o:=λb o ne e=>hb.extBut b o ne e;have e0:Ext (DN (Bs c D C).N Aa) Ad.heap h':=Ext.of_but λb o d e=>B b o (λq=>d (.inr (.inr (.inr (q▸oC))))) e;have nFN:¬F.N D:=λq=>by refine X1pp (hs.inv.Nin D q) λo e nf=>?_;rw[hDs]at e;exact nS e
 have nNp:¬Np D:=λq=>(hNp D q).elim nFN hDC;have T:∀b,Np b->(Bs c D C).N b:=λb q=>(hNp b q).elim .inl λq=>.inr (.inr (q▸oC));have Lj:¬Dom Aa D:=λd=>Y.inv.σN D d (.inr (.inl rfl));have mk:∀V':E0,(∀a o,V' a=some o->Aa a=some o\/(a=D/\o=.list ys))->Internal.St S F.tb F.env Np F.P F.b m V' { Ad with heap:=h' }/\H2 F.P F.O V s V' { Ad with heap:=h' }:=by
  intro V' ho;have hd:∀a,Dom V' a->Dom Aa a\/a=D:=λa d=>by
   cases e:V' a with|none=>exact absurd e d|some o=>exact(ho a o e).imp (λq=>by unfold Dom;rw[q];simp) λq=>q.1
  have hDN:∀b,DN Np V' b->DN (Bs c D C).N Aa b:=λb q=>q.elim (λq=>(hd b q).elim .inl λq=>.inr (.inr (.inl q))) λq=>.inr (T b q);have stF':H2 F.P F.O V s V' { Ad with heap:=h' }:=⟨⟨λb o e d=>B b o (nC e) (stF.ext.obj b o e d)⟩,λb o e d f g=>by
    exact X1pp (stF.frm b o e d f g) λu U r=>⟨u,B b u (nC e) U,r⟩,λb d=>(hd b d).elim (stF.dom b) λq=>.inr (q▸hDs),λb o e=>by
    exact X1p (stF.there b o e) λu U=>⟨u,B b u (nC e) U⟩⟩
  have inv':Inv S Np V' { Ad with heap:=h' }:=by
   refine⟨λb o e=>B b o (λq=>?_) (Y.inv.keep b o e),Y.inv.gens,Y.inv.drawn,Y.inv.os,λa d=>(hd a d).elim (Y.inv.σg a) λq=>q▸hs.inv.not_g hDs,λa d q=>(hd a d).elim (λd=>Y.inv.σN a d (T a q)) λz=>nNp (z▸q),λa q=>?_,λa o e=>?_⟩
   .clear cn hCs hDC y Y hb rl hNp hex n' cc' ap' cl' rr' nC B e0 T hDN;subst q
    have:=(ow' b oC).2
    rw[this]at e;exact nS e
   .rcases hNp a q with q' | q'
    .exact X1pp (hs.inv.Nin a q') λo e nf=>X1pp (Y.inv.Nin a (.inl q')) λu U nf'=>⟨u,B a u (nC e) U,nf'⟩
    .rw[q']at q ⊢;exact hex q
   .rcases ho a o e with q|⟨rfl,rfl⟩
    .exact(Y.inv.rep a o q).ext e0 (λb z=>.inl (hDN b z)) λob U=>B a ob (λz=>Y.inv.σN a (by unfold Dom;rw[q];simp) (.inr (.inr (z▸oC)))) U
    .exact .list (B _ _ hDC gD) (rl.ext e0 λb z=>.inl (hDN b z))
  have frm':H2 F.P noO F.b.1 F.b.2 V' { Ad with heap:=h' }:=by
   have bC:∀{b o},F.b.2.heap.get? b=some o->b≠C:=λ{b o} e q=>by
    exact X1p (hs.frm.there b o e) λu U=>nC U q
   have bD:F.b.2.heap.get? D=aa:=hs.frm.new hDs;have f:=Y.frm;exact⟨⟨λb o e d=>B b o (bC e) (f.ext.obj b o e d)⟩,λb o e d g x=>by
    exact X1pp (f.frm b o e d g x) λu U r=>⟨u,B b u (bC e) U,r⟩,λb d=>(hd b d).elim (f.dom b) λq=>.inr (q▸bD),λb o e=>by
    exact X1p (f.there b o e) λu U=>⟨u,B b u (bC e) U⟩⟩
  refine⟨Mr c cn hs (λb q=>(hNp b q).imp id λ(q:b=C)=>by rwa [q]) hN2 stF' inv' frm' ?_ cm' ?_ ?_,stF'⟩
  .intro a o e ha hn
   obtain⟨_,_,_,_,ow,_,_,_⟩:=hs.loc;exact X1pp (y.there' e (ow a ha).1 hn) λu U r=>⟨u,B a u (nC e) U,r⟩
  .exact λz a hf hz=>X1pp (cc' z a hz) λo e d=>⟨o,B a o (cl' z a hz) e,d⟩
  .intro z j av hf hj hji hmj
   have hk:(Bs c D C).env.kindOf z=some .cell:=by
    show (E2 F scope C).kindOf z=_;rw[Ei,BE ((c.names _ hf).2),c.free hf];simp
   have new:=rr' z j av hj ((hm j hji).trans hmj);rw[hk]at new;exact X2ppp new λv a Z h1 h2=>⟨v,h1,h2.ext e0 λb q=>.inl (hDN b q)⟩
 rcases q with q|⟨i,q⟩
 .exact Aq (mk Aa λa o e=>.inl e) λh2 st2=>⟨Aa,st2,h2,_,.list (B _ _ hDC gD) (λd=>d.elim Lj nNp) (rl.ext e0 λb z=>.inl (z.imp id (T b))),q⟩
 .obtain⟨h2,st2⟩:=mk (Aa.set D (.list ys)) λa o e=>by
   by_cases z:a=D
   .clear hDs hDC y Y gD rl n' cc' ow' ap' cl' rr' e0 nFN nNp T Lj mk;subst z;rw[E0.set_self]at e;exact .inr ⟨rfl,(ae e).symm⟩
   .rw[E0.set_ne _ _ z]at e;exact .inl e
  exact⟨_,st2,h2,_,.loc D i,q D Lj⟩
theorem St.letGo(hs:Internal.St S tb env Np P b m V s)(hC:Np C)(hN:∀a,N a->Np a)(T:∀a,P a->N a)(Y:¬N C)(ho:∀a,Own env a->N a)(y:b.2.heap.get? C=aa)
  (hb:iG C s.heap h'):Internal.St S tb env N P b m V { s with heap:=h' }/\∀{av v},Rep S.cv s.heap (DN Np V) av v->Rep S.cv h' (DN N V) av v:=by
 have B:∀b o,b≠C->s.heap.get? b=some o->h'.get? b=some o:=λb o ne e=>hb.extBut b o ne e;have e0:Ext (DN Np V) s.heap h':=Ext.of_but λb o d e=>B b o (λq=>d (.inr (q▸hC))) e;have hD:∀b,DN N V b->DN Np V b\/s.heap.get? b=aa:=λb q=>.inl (q.imp id (hN b));have rep:∀{av v},Rep S.cv s.heap (DN Np V) av v->Rep S.cv h' (DN N V) av v:=λr=>r.ext e0 hD;obtain⟨mc,cm,n,cc,ow,ap,cl,rr⟩:=hs.loc;have U:∀a,Own env a->a≠C:=λa q z=>Y (z▸ho a q);refine⟨⟨⟨λa o e=>B a o (λq=>?_) (hs.inv.keep a o e),hs.inv.gens,hs.inv.drawn,hs.inv.os,hs.inv.σg,λa d q=>hs.inv.σN a d (hN a q),λa q=>?_,λa o e=>(hs.inv.rep a o e).ext e0 hD λob O=>B a ob (λz=>hs.inv.σN a (by unfold Dom;rw[e];simp) (z▸hC)) O⟩,?_,?_,T,hs.new,ho,hs.gb⟩,rep⟩
 .clear hC Y hb B U;subst q;rw[hs.gb a y]at e;exact nS e
 .refine X1pp (hs.inv.Nin a (hN a q)) λo e nf=>?_;exact⟨o,B a o (λz=>Y (z▸q)) e,nf⟩
 .refine⟨mc,cm,?_,λz a hz=>?_,ow,ap,cl,λz j av hj hm=>?_⟩
  .refine X3pp n λo es ep e d=>?_;exact⟨o,es,ep,B _ _ (U _ (.inl rfl)) e,d⟩
  .refine X1pp (cc z a hz) λo e d=>?_;exact⟨o,B _ _ (U _ (.inr ⟨z,hz⟩)) e,d⟩
  .exact LocAt.map (rr z j av hj hm) (λh2=>rep h2) (λZ h1=>h1) (λZ h1=>h1)
 .have bC:∀{a o},b.2.heap.get? a=some o->a≠C:=λe z=>by rw[z,y]at e;exact nS e
  have f:=hs.frm;exact⟨⟨λa o e d=>B a o (bC e) (f.ext.obj a o e d)⟩,λa o e d g x=>by
   exact X1pp (f.frm a o e d g x) λu O r=>⟨u,B a u (bC e) O,r⟩,f.dom,λa o e=>by
   exact X1p (f.there a o e) λu O=>⟨u,B a u (bC e) O⟩⟩
end
end
section
variable {S:Sta}
abbrev NoX:Value->ag->Prop:=λZ Z=>False
theorem GC(I:Nat->ag->Prop)
  (turn:∀n s,I n s->wpAny (model S.prog S.w) A (pyNext it) (λr Ad=>match r with
   |none=>R (.ok .next) Ad
   |some v=>wpAny (model S.prog S.w) A (letOwnedTupleGo target it v) (λZ T=>wpAny (model S.prog S.w) A (assign target env v) (λZ O =>
     wpAny (model S.prog S.w) A (forIn ifs true λc r=>if r=true then do let ok <- isTrue c env (eval c env);pure (gj ok) else pure (gj r)) (λok u =>
      if ok=true then wpAny (model S.prog S.w) A (eval elt env) (λx U =>
       wpAny (model S.prog S.w) A (call (.builtin "list.append") [acc,x]) (λZ z=>∃m,m<n/\I m z) NoX U) NoX u
      else ∃m,m<n/\I m u) NoX O) NoX T) NoX Ad) NoX s)
  (n:Nat) (h:I n s):codeAny (model S.prog S.w) A (.compLoop (.ListComp elt [⟨target,iter,ifs,0⟩] scope pos) 0 it acc env) R s:=by
 refine codeAny_loop rfl I (λn s B=>?_) n h;show wpAny _ A ((compTurn (.ListComp elt [⟨target,iter,ifs,0⟩] scope pos) 0 it acc env).onRaise (λx=>do noteFrame x env;theTreesLotGoes x)) _ _ s
 refine wpAny_noted (wpAny_noRaise ?_);rw[compTurn_list];refine ac (dF (ac (aR (turn n s B) (λr Ad Y=>?_) λZ Z h'=>h')))
 cases r with
 |none=>exact ai Y
 |some v =>
  refine ac (aR Y (λZ T d=>(ac (aR d (λZ O Ag=>ac (aR Ag (λok u y=>?_) λZ Z h'=>h')) λZ Z h'=>h'))) λZ Z h'=>h')
  cases ok with
  |false=>exact ai ⟨rfl,y⟩
  |true =>
   exact ac (ac (aR y (λx U Bu=>ac (aR Bu (λZ z Fu=>ai (ai ⟨rfl,Fu⟩)) λZ Z h'=>h')) λZ Z h'=>h'))
def TestT(F:Fx S)(m:L1)(V:E0)(cs:List E)(Q:Bool->E0->Prop):Prop:=match cs with
 |[]=>Q true V
 |[c]=>TT F m V c Q NoX
 |_=>False
theorem TestT.run(h:TestT F m V cs Q)(d:CEs F.tb F.sc pcs cs)(hs:F.St m V s) :
  W F m V s (forIn pcs true λc r=>if r=true then do let ok <- isTrue c F.env (eval c F.env);pure (gj ok) else pure (gj r)) (λb V' Z=>Q b V') NoX:=by
 match cs,h with
 |[],h=>obtain rfl:=d.inv_nil;exact wpAny_tests_nil ⟨V,H2.refl _ _ _ _,hs,h⟩
 |[c],h =>
  refine X2lppp pcs d.inv λZ Z O B y=>?_;obtain rfl:=y.inv_nil;exact wpAny_tests_one (h _ B s hs)
def FT(F:Fx S)(i:Nat)(elt:E)(cs:List E)(ok:E0->E0->Prop)(m:L1)(K:List AV->E0->Prop):List AV->List AV->E0->Prop
 |[],ys,V=>K ys V
 |x::r,ys,V=>TestT F (m.set i x) V cs (λb Aa=>if b=true then ET F (m.set i x) Aa elt (λy Ab=>ok V Ab/\FT F i elt cs ok m K r (ys++[y]) Ab) NoX else ok V Aa/\FT F i elt cs ok m K r ys Aa)
section
variable {F:Fx S}{m:L1}{V:E0}{s:ag}{scope:Scope}{x:Str}{i:Nat}
theorem set_over{m m':L1}{i:Nat}{x:AV}(h:∀j,j≠i->m' j=m j):m'.set i x=m.set i x:=by
 funext j
 unfold L1.set
 by_cases q:j=i
 .simp[q]
 .simp[q,h j q]
theorem RepL.snoc(r:RepL cv h D l vs)(O:Rep cv h D a v):RepL cv h D (l++[a]) (vs++[v]):=r.app (.cons O .nil)
theorem St.turnN(hs:Internal.St S tb env N P b m V s)(T:N C)(nO:¬Own env C)(U:b.2.heap.get? C=aa)
  (hb:di C s.heap h') (y:∃o,h'.get? C=some o/\∀vs,o.data≠.fields vs):Internal.St S tb env N P b m V { s with heap:=h' }/\H2 P (·=C) V s V { s with heap:=h' }:=by
 have B:∀b o,b≠C->s.heap.get? b=some o->h'.get? b=some o:=λb o ne e=>hb b o ne e;have e0:Ext (DN N V) s.heap h':=Ext.of_but λb o d e=>B b o (λq=>d (.inr (q▸T))) e;have hD:∀b,DN N V b->DN N V b\/s.heap.get? b=aa:=λb q=>.inl q;have rep:∀{av v},Rep S.cv s.heap (DN N V) av v->Rep S.cv h' (DN N V) av v:=λr=>r.ext e0 hD;have there:∀a o,s.heap.get? a=some o->∃u,h'.get? a=some u:=λa o e=>by
  by_cases q:a=C
  .clear T nO U hb B;subst q;exact⟨y.choose,y.choose_spec.1⟩
  .exact⟨o,B a o q e⟩
 obtain⟨mc,cm,n,cc,ow,ap,cl,rr⟩:=hs.loc;have O:∀a,Own env a->a≠C:=λa q z=>nO (z▸q);refine⟨⟨⟨λa o e=>B a o (λq=>?_) (hs.inv.keep a o e),hs.inv.gens,hs.inv.drawn,hs.inv.os,hs.inv.σg,hs.inv.σN,λa q=>?_,λa o e=>(hs.inv.rep a o e).ext e0 hD λob Y=>B a ob (λz=>hs.inv.σN a (by unfold Dom;rw[e];simp) (z▸T)) Y⟩,?_,?_,hs.pN,hs.new,hs.own,hs.gb⟩,
  H2.of_but (λa o Z n e=>B a o n e) (λZ h=>.inl h) there⟩
 .clear T nO hb y B O;subst q;rw[hs.gb a U]at e;exact nS e
 .refine X1pp (hs.inv.Nin a q) λo e nf=>?_
  by_cases z:a=C
  .rwa [z]
  .exact⟨o,B a o z e,nf⟩
 .refine⟨mc,cm,?_,λz a hz=>?_,ow,ap,cl,λz j av hj hm=>?_⟩
  .refine X3pp n λo es ep e d=>?_;exact⟨o,es,ep,B _ _ (O _ (.inl rfl)) e,d⟩
  .refine X1pp (cc z a hz) λo e d=>?_;exact⟨o,B _ _ (O _ (.inr ⟨z,hz⟩)) e,d⟩
  .exact LocAt.map (rr z j av hj hm) (λh2=>rep h2) (λZ h1=>h1) (λZ h1=>h1)
 .have bC:∀{a o},b.2.heap.get? a=some o->a≠C:=λe z=>by rw[z,U]at e;exact nS e
  have f:=hs.frm;exact⟨⟨λa o e d=>B a o (bC e) (f.ext.obj a o e d)⟩,λa o e d g x=>by
   exact X1pp (f.frm a o e d g x) λu Y r=>⟨u,B a u (bC e) Y,r⟩,f.dom,λa o e=>by
   exact X1p (f.there a o e) λu Y=>⟨u,B a u (bC e) Y⟩⟩
theorem ItStep.step{W P O:Addr->Prop}{AJ:E0}{Aj Ai:ag}(st:ItStep W s Ai)(new:∀a,W a->Aj.heap.get? a=aa)(z:H2 P O AJ Aj V s):H2 P O AJ Aj V Ai :=
 z.over λc e o=>st.keep c o λz=>e.elim λo e=>Ak (new c z) e
inductive CEnd(F:Fx S)(i:Nat)(m:L1)(K:List AV->E0->Prop)(D:Addr)(AJ:E0)(Aj s':ag):Prop
 |mk (V':E0)(Ap:L1)(ys:List AV)(vs:List Value)(n:Nat)(st:H2 F.P F.O AJ Aj V' s')(h:F.St Ap V' s')(hm:∀j,j≠i->Ap j=m j)(g:s'.heap.get? D=some (AE (aB vs) n))(rl:RepL S.cv s'.heap (F.D V') ys vs)(k:K ys V'):CEnd F i m K D AJ Aj s'
inductive CInv(F:Fx S)(i:Nat)(elt:E)(cs:List E)(ok:E0->E0->Prop)(m:L1)(K:List AV->E0->Prop)(items:List AV)(J:Nat->E0->ag->Prop)(D:Addr)(AJ:E0)(Aj:ag)(n:Nat)(s':ag):Prop
 |mk (k:Nat) (Ap:L1) (V':E0) (ys:List AV) (vs:List Value) (nn:Nat) (hn:n+k=items.length+1) (hk:k<=items.length) (hv:vs.length<=k) (st:H2 F.P F.O AJ Aj V' s') (h:F.St Ap V' s') (hm:∀j,j≠i->Ap j=m j) (hJ:J k V' s')
  (g:s'.heap.get? D=some (AE (aB vs) nn)) (rl:RepL S.cv s'.heap (F.D V') ys vs) (c:FT F i elt cs ok m K (items.drop k) ys V'):CInv F i elt cs ok m K items J D AJ Aj n s'
set_option tactic.hygienic true in
theorem Ms{W:Addr->Prop}{J:Nat->E0->ag->Prop}{ok:E0->E0->Prop}{i:Nat}{elt:E}{cs:List E}{pelt piter:aV}{pcs:List aV}{scope:Scope}{pos:Pos}{m₀:L1}{K:List AV->E0->Prop}{AJ:E0}{Aj:ag}
  (Wk:Walk F I items (.Name x px) W J ok) (hf:F.sc.lookup x≠some .free) (hx:IsV F.tb F.sc x i) (hlen:items.length<=big) (he:CE F.tb F.sc pelt elt) (hcs:CEs F.tb F.sc pcs cs)
  (new:∀a,W a->F.b.2.heap.get? a=aa) (hN:∀a,W a->¬F.N a) (hD:F.N D) (hDO:¬F.O D) (hDP:¬F.P D) (hDb:F.b.2.heap.get? D=aa) (hD0:Aj.heap.get? D=aa)
  (new0:∀a,W a->Aj.heap.get? a=aa) (hs:F.St m₀ V s) (st0:H2 F.P F.O AJ Aj V s) (hm0:∀j,j≠i->m₀ j=m j) (gD:s.heap.get? D=some (AE #[] 0)) (hJ:J 0 V s) (h:FT F i elt cs ok m K items [] V) :
  codeAny (model S.prog S.w) F.A (.compLoop (.ListComp pelt [⟨.Name x px,piter,pcs,0⟩] scope pos) 0 (.ref I) (.ref D) F.env) (λr s'=>match r with
   |.ok _=>CEnd F i m K D AJ Aj s'
   |.error _=>False) s:=by
 have wD:¬W D:=λq=>hN D q hD
 refine GC (CInv F i elt cs ok m K items J D AJ Aj) ?_ (items.length+1)
  ⟨0,m₀,V,[],[],0,rfl,cL _,az _,st0,hs,hm0,hJ,gD,.nil,h⟩
 intro n Ad hR1;obtain⟨k,Ap,Aa,ys,vs,nn,hn,hk,hv,Ah,Ac,Dq,DZ,g₁,B,hl⟩:=hR1;have its:=Wk.its k Aa Ad DZ;have dom_D:∀{V':E0}{s':ag}{m':L1},F.St m' V' s'->¬(Dom V' D\/F.O D\/F.P D):=λq d=>d.elim (λd=>q.inv.σN D d hD) λd=>d.elim hDO hDP
 by_cases Y:k<items.length
 .obtain⟨y,hy⟩:∃y,items[k]?=some y:=⟨_,aI Y⟩
  have hd:items.drop k=y::items.drop (k+1):=by
   rw[List.drop_eq_getElem_cons Y];rw[aI Y]at hy;obtain rfl:=ae hy;rfl
  rw[hd]at hl;refine Wk.next k y Ap Aa Ad _ _ _ hy Ac DZ λv Ai u rv IF=>?_;have Ag:F.St Ap Aa Ai:=Ac.it its new hN u;have g₂:=u.keep D _ wD g₁;have rl₂:=B.it its u.keep;refine wpAny_assign_Name (BM hf hx Ag rv λBC AU AG=>?_);rw[set_over Dq]at AG;refine(TestT.run hl hcs AG).out ?_
  rintro b Cp BB BS Bu q
  have T:=AU.trans BS;have g₄:=T.ext.obj D _ g₂ (dom_D Ag);have rl₄:=rl₂.st T Bu;have st':=(u.step new0 Ah).trans T
  cases b with
  |false =>
   simp only[cg,if_false]at q ⊢;exact⟨n - 1,lin [n - 1,n] [] (.c V0 V1) [.d (.A V0 K1) V1] rfl (aq (lin [n,k,items.length] [] (.b K1 V0) [.D (-1) (.A V0 V1) (.A V2 K1),.c V1 V2] rfl hn Y)),k+1,_,Cp,ys,vs,nn,ax (lin [n,k,items.length,n - 1] [] (.b (.A V3 (.A V1 K1)) (.A V2 K1)) [.d (.A V0 V1) (.A V2 K1),.d (.A V3 K1) V0] rfl hn (aq (lin [n,k,items.length] [] (.b K1 V0) [.D (-1) (.A V0 V1) (.A V2 K1),.c V1 V2] rfl hn Y))) (lin [n,k,items.length,n - 1] [] (.b (.A V2 K1) (.A V3 (.A V1 K1))) [.D (-1) (.A V0 V1) (.A V2 K1),.b V0 (.A K1 V3)] rfl hn (au.mp (az ((n) - (1))))),Y,lin [vs.length,k] [] (.b V0 (.A V1 K1)) [.b V0 V1] rfl hv,st',Bu,λj hj=>by unfold L1.set;rw[if_neg hj],Wk.stays _ _ _ _ _ _ _ F.O Ag.own hN IF Ag T Bu q.1,g₄,rl₄,q.2⟩
  |true =>
   simp only[if_true]at q ⊢;refine(q _ he BB Bu).out ?_;intro v5 Ev FW Ex Fu hR1;obtain⟨e5,r5,hok,hrest⟩:=hR1;have g₅:=Ex.ext.obj D _ g₄ (dom_D Bu);have rl₅:=rl₄.st Ex Fu;refine wpAny_list_append_plain (items:=vs.toArray) ⟨nn,g₅⟩ (λh' pl sb=>?_) (by rw[aF];exact AZ (lin [items.length,big,vs.length,k] [] (.b V2 V1) [.b V0 V1,.b V2 V3,.c V3 V0] rfl hlen hv Y))
   refine X1p pl λn6 g₆=>?_;obtain⟨h₆,U⟩:=Fu.turnN hD hDO hDb sb.extBut ⟨_,g₆,λvs z=>by exact nDf rfl z⟩
   have ee:vs.toArray.push v5=(vs++[v5]).toArray:=by simp
   rw[ee]at g₆;have stN:H2 F.P F.N Aa Ai Ev { FW with heap:=h' }:=((T.trans Ex).mono Ag.own).trans (U.mono λa q=>q▸hD)
   have rl₆:RepL S.cv h' (F.D Ev) (ys++[e5]) (vs++[v5]):=(RepL.snoc rl₅ r5).step U (λa q=>q▸hD) Fu.pN;have stD:H2 F.P F.O AJ Aj Ev { FW with heap:=h' }:=by
    exact(st'.trans Ex).over λa e o=>sb.extBut a o λq=>e.elim λo e=>by rw[q]at e;exact Ak hD0 e
   exact⟨n - 1,lin [n - 1,n] [] (.c V0 V1) [.d (.A V0 K1) V1] rfl (aq (lin [n,k,items.length] [] (.b K1 V0) [.D (-1) (.A V0 V1) (.A V2 K1),.c V1 V2] rfl hn Y)),k+1,_,Ev,ys++[e5],vs++[v5],n6,ax (lin [n,k,items.length,n - 1] [] (.b (.A V3 (.A V1 K1)) (.A V2 K1)) [.d (.A V0 V1) (.A V2 K1),.d (.A V3 K1) V0] rfl hn (aq (lin [n,k,items.length] [] (.b K1 V0) [.D (-1) (.A V0 V1) (.A V2 K1),.c V1 V2] rfl hn Y))) (lin [n,k,items.length,n - 1] [] (.b (.A V2 K1) (.A V3 (.A V1 K1))) [.D (-1) (.A V0 V1) (.A V2 K1),.b V0 (.A K1 V3)] rfl hn (au.mp (az ((n) - (1))))),Y,by simp;exact lin [vs.length,k] [] (.b V0 V1) [.b V0 V1] rfl hv,stD,h₆,λj hj=>by unfold L1.set;rw[if_neg hj],Wk.stays _ _ _ _ _ _ _ F.N (λZ q=>q) hN IF Ag stN h₆ hok,g₆,rl₆,hrest⟩
 .have hk':k=items.length:=by exact ax (lin [k,items.length] [] (.b V0 V1) [.b V0 V1] rfl hk) (lin [k,items.length] [] (.b V1 V0) [.j V0 V1] rfl Y)
  clear hn hk hv Y;subst hk';rw[List.drop_length]at hl;exact Wk.done Ap Aa Ad _ _ Ac DZ λAi u=>⟨Aa,Ap,ys,vs,nn,u.step new0 Ah,Ac.it its new hN u,Dq,u.keep D _ wD g₁,B.it its u.keep,hl⟩
theorem CompOk.isV(c:CompOk F scope x i):(Bs c D C).sc.lookup x≠some .free/\IsV (Bs c D C).tb (Bs c D C).sc x i:=by
 have e:(Bs c D C).sc.lookup x=scope.names.lookup x:=by
  show (relabel scope F.env).names.lookup x=_;rw[BO]
  rcases c.var with q|q<;>rw[BE q,q]<;>rfl
 rw[e];refine⟨?_,c.ok,?_,c.ix⟩
 .rcases c.var with q|q<;>rw[q]<;>simp
 .rw[e];exact c.var.imp id .inl
theorem compT{u T:aV}{B:List aV}{px pos pos':Pos}{src elt:E}{cs:List E}{X:Value->ag->Prop}{K:List AV->E0->Prop}{use:Option (Value->Sem Unit)}{Q:Value->ag->Prop}(c:CompOk F scope x i)
  (hsrc:CE F.tb F.sc u src) (hcs:CEs F.tb (relab F.sc scope.names) B cs) (helt:CE F.tb (relab F.sc scope.names) T elt) (hns:Bf u=true)
  (h:M7 F m V (.v i) src (λitems ok Aa=>items.length<=big/\∀F':Fx S,F'.tb=F.tb->F'.k=F.k->FT F' i elt cs ok m K items [] Aa) X) (hs:F.St m V s)
  (fin:∀(D C:Addr) σb sb Aa Ad Ap ys vs n,H2 F.P F.O V s σb sb->F.St m σb sb->sb.heap.get? D=aa->sb.heap.get? C=aa->D≠C->Cc F scope sb C->H2 F.P (Bs c D C).O σb sb Aa Ad->(Bs c D C).St Ap Aa Ad->(∀j,j≠i->Ap j=m j) ->
   Ad.heap.get? D=some (AE (aB vs) n)->RepL S.cv Ad.heap ((Bs c D C).D Aa) ys vs->K ys Aa->compPost (model S.prog S.w) F.A X use Q (.ref D) C (.ok .next) Ad) :
  wpAny (model S.prog S.w) F.A (comprehension (.ListComp T [⟨.Name x px,u,B,0⟩] scope pos) scope F.env pos' (newList []) false (eval u F.env) use) Q X s:=by
 refine wpAny_comprehension_free (use:=use) rfl (Gn hns) c.closure c.kind (λq hq hl=>by have:=(c.names q hq).2;rw[hl]at this;exact this) (aR (h u (.Name x px) hsrc trivial s hs) (λxv Ad Ac=>aR Ac ?_ λZ Z e=>e) λZ Z e=>e)
 intro it Y hR1;obtain⟨I,items,W,J,ok,Ab,sm,rfl,wk,stm,hm,st,Ag,nw,mv,hlen,hcomp⟩:=hR1;have d:=comp_in c Ag;generalize hDD:Y.heap.objs.size=D at d;dsimp only at d;refine bL ?_ (by size_fits)
 have hC:(Y.heap.push { cls:=.type "list",data:=.seq ([]:List Value).toArray }).objs.size=D+1:=by rw[<- hDD];exact cD ..
 refine Hj ?_;dsimp only;rw[hC,hDD]
 show codeAny (model S.prog S.w) F.A (.compStart (.ListComp T [⟨.Name x px,u,B,0⟩] scope pos) 0 (.ref I) (.ref D) (E2 F scope (D+1))) (compPost (model S.prog S.w) F.A X use Q (.ref D) (D+1))
  { Y with heap:=fT ((Y.heap.push (AE #[] 0)).push { cls:=.type "dict",data:=.dict #[] }) scope.names }
 obtain⟨Bu,BS,g₄,cn,kp,hDN,hDO⟩:=d;have its:=(wk F).its 0 Ab Y mv.here;have fD:Y.heap.get? D=aa:=by rw[<- hDD];exact AA _
 have fC:Y.heap.get? (D+1)=aa:=by
  cases q:Y.heap.get? (D+1)with|none=>rfl|some o=>exact absurd (bf q) (by rw[hDD];exact cR.mpr (fe _))
 have sD:=st.new fD;have sC:=st.new fC;have cn0:Cc F scope sm (D+1):=⟨λa q=>(cn.out a q).imp id st.new⟩;have Wb:∀a,W a->F.b.2.heap.get? a=aa:=λa q=>hm.frm.new (nw a q);have WN:∀a,W a->¬(Bs c D (D+1)).N a:=by
  rintro a q (z|z|z)
  .refine X1pp (hm.inv.Nin a z) λo e nf=>?_;rw[nw a q]at e;exact nS e
  .refine X1pp (its a q) λo e Z=>?_;rw[z,fD]at e;exact nS e
  .rcases cn.out a z with⟨y,_,hy⟩|z
   .exact its.notOwn Ag q (.inr ⟨y,hy⟩)
   .refine X1pp (its a q) λo e Z=>?_;rw[z]at e;exact nS e
 have Db:F.b.2.heap.get? D=aa:=hm.frm.new sD;have hJ:=mv (Bs c D (D+1)) Ab { Y with heap:=fT ((Y.heap.push (AE #[] 0)).push { cls:=.type "dict",data:=.dict #[] }) scope.names } kp hDN λZ Z e=>e
 have scn:(Bs c D (D+1)).sc=relab F.sc scope.names:=BO F scope;have st0:H2 F.P (Bs c D (D+1)).O Ab sm Ab { Y with heap:=fT ((Y.heap.push (AE #[] 0)).push { cls:=.type "dict",data:=.dict #[] }) scope.names }:=(st.trans BS).any
 have U:codeAny (model S.prog S.w) F.A (.compLoop (.ListComp T [⟨.Name x px,u,B,0⟩] scope pos) 0 (.ref I) (.ref D) (E2 F scope (D+1))) (compPost (model S.prog S.w) F.A X use Q (.ref D) (D+1))
   { Y with heap:=fT ((Y.heap.push (AE #[] 0)).push { cls:=.type "dict",data:=.dict #[] }) scope.names }:=by
  refine dD (Ms (F:=Bs c D (D+1)) (m:=m) (AJ:=Ab) (Aj:=sm) (wk _) c.isV.1 c.isV.2 hlen (by rwa [scn]) (by rw[scn];exact hcs) Wb WN (.inr (.inl rfl)) hDO (λq=>by refine X1pp (hm.inv.Nin D (hm.pN D q)) λo e Z=>?_;rw[sD]at e;exact nS e) Db sD nw Bu st0 (λj hj=>if_neg hj) g₄ hJ (hcomp _ rfl rfl)) λr s' hr=>?_
  cases r with
  |error e=>exact hr.elim
  |ok f =>
   obtain⟨V',Ap,ys,vs,n,st',h',Dq,gD',rl',hK⟩:=hr
   have:=fin D (D+1) Ab sm V' s' Ap ys vs n stm hm sD sC (bP (eH D)) cn0 st' h' Dq gD' rl' hK
   cases use<;>exact this
 exact codeAny_compStart_list U ((wk (Bs c D (D+1))).self 0 Ab _ _ _ hJ U)
theorem ET.comp{B Y:E}{cs:List E}{X:Value->ag->Prop}{Q:AV->E0->Prop}
  (h:M7 F m V (.v i) B (λitems ok Aa=>items.length<=big/\∀F':Fx S,F'.tb=F.tb->F'.k=F.k->FT F' i Y cs ok m (λO Ab=>Fresh Ab (.list O) (.list O) Q) items [] Aa) X):ET F m V (.comp Y i B cs) Q X:=by
 refine λpe hc s hs=>X6p hc.inv λZ Z Z Z Z Z Z0=>X1lpppppp pe Z0 λZ U z hns hok T Z1=>Bt Z1 λd hix hcs u=>?_;have c:CompOk F _ _ i:=⟨U,z,hok,hix,T⟩;show wpAny _ _ (eval _ _) _ _ _;rw[eval_ListComp];refine compT (K:=λO Ab=>Fresh Ab (.list O) (.list O) Q) c d hcs u hns h hs ?_;intro D C σb sb Aa Ad Ap O vs n y hb hD hC hDC cn st Ac Dq gD rl hK;obtain⟨mc,_,ns,_⟩:=Ac.loc;refine⟨mc,ns,λh' sb'=>?_⟩;obtain⟨V',st',h2,av,ra,q⟩:=IY c cn hb hD hC hDC st Ac Dq sb' gD rl (Np:=F.N) (λb q=>.inl q) (λb q=>q) (λq=>by refine X1pp (hb.inv.Nin C q) λo e nf=>?_;rw[hC]at e;exact nS e) hK
 exact⟨V',y.trans st',h2,av,ra,q⟩
theorem ST.assignComp{j:Nat}{src elt:E}{cs:List E}{X:Value->ag->Prop}{K:Fl->L1->E0->Prop}
  (h:M7 F m V (.v i) src (λitems ok Aa=>items.length<=big/\∀F':Fx S,F'.tb=F.tb->F'.k=F.k->FT F' i elt cs ok m (λys Ab=>Fresh Ab (.list ys) (.list ys) (λa Ar=>K .next (m.set j a) Ar)) items [] Aa) X):ST F m V (.assign (.v j) (.comp elt i src cs)) K X:=by
 refine λps hc s hs=>X3lpp ps hc.inv λZ Z Z hp he=>X2ppp hp.inv λy py Z0 hf hx=>?_;subst Z0;have ev:=ET.comp (F:=F) (X:=X) h;refine X6p he.inv λpelt x xp u pcs scope Z2=>X1ppppppp Z2 λp Z1 U hvar hns hok T Z3=>Bt Z3 λhsrc hix hcs helt=>?_;subst Z1
 ···
    have c:CompOk F scope x i:=⟨U,hvar,hok,hix,T⟩;show wpAny _ _ (exec (.Assign [.Name y py] _ _) _) _ _ _
    cases hsw:(F.env.blockKind == .function && F.env.kindOf y == some .local && py.line == p.line && !(scope.names.any λ(n,k)=>n == y && (k == .local || k == .cell)))with
    |false =>
     refine wpAny_Assign_Name ((ev _ he s hs).out ?_) (by unfold swapsWith;exact congrArg pure hsw)
     intro v Aa Ad Ah Ac Y;obtain⟨a,ra,q⟩:=Y;exact BM hf hx Ac ra λAi Ao Ag=>⟨.next,_,Aa,Ah.trans Ao,Ag,trivial,q⟩
    |true =>
     rw[exec_Assign_Name_used _ _ _ _ (by unfold swapsWith;exact congrArg pure hsw)]
     refine ac (dF (ac ?_));show wpAny _ _ (do let _ <- comprehension (.ListComp pelt [⟨.Name x xp,u,pcs,0⟩] scope p) scope F.env _ (newList []) false (eval u F.env) (some (PySem.assign (.Name y py) F.env))) _ _ s
     refine ac (aR (compT (use:=some (PySem.assign (.Name y py) F.env)) (Q:=λZ s'=>∃V',H2 F.P F.O V s V' s'/\∃a,F.St (m.set j a) V' s'/\K .next (m.set j a) V') (K:=λys Ab=>Fresh Ab (.list ys) (.list ys) (λa Ar=>K .next (m.set j a) Ar)) c hsrc hcs helt hns h hs ?_) ?_ λZ Z e=>e)
     .intro D C σb sb Aa Ad Ap ys vs n stb hb hD hC hDC cn st Ac Dq gD rl hK
      let Np:Addr->Prop:=λa=>F.N a\/a=C
      have nFC:¬F.N C:=λq=>by refine X1pp (hb.inv.Nin C q) λo e nf=>?_;rw[hC]at e;exact nS e
      obtain⟨mc,_,ns,_⟩:=Ac.loc;have nsC:Ad.heap.Ns C mc:=ns;obtain⟨V',B,h2,av,ra,q⟩:=IY c cn hb hD hC hDC st Ac Dq (h':=Ad.heap) (Heap.SameBut.refl ..) gD rl (Np:=Np) (λb q=>q) (λb q=>.inl q) (λZ=>by refine X3ppp nsC λo Z Z e dd Z=>?_;exact⟨o,e,λvs z=>by rw[dd]at z;exact nDf rfl z⟩) hK
      let Fp:Fx S:=⟨F.A,F.tb,F.env,F.b,Np,F.k,F.room.wide (λZ q=>.inl q),F.fk,F.fg,F.fb,F.fc⟩
      have h2':Fp.St m V' Ad:=h2;show wpAny (model S.prog S.w) F.A (PySem.assign (.Name y py) F.env (.ref D)) _ _ Ad;refine wpAny_assign_Name (BM (F:=Fp) hf hx h2' ra λAi Ao Ag=>?_);have nOC:¬F.O C:=λq=>nFC (hb.own C q);have nDC:¬Dom V' C:=λd=>h2'.inv.σN C d (.inr rfl);refine⟨mc,(by refine X3ppp nsC λo es ep e dd r=>?_;refine X1pppp (Ao.there' e nDC nOC) λo' e' Z d' Z=>?_;exact⟨o',es,ep,e',d'.trans dd,r⟩),λh' sb'=>?_⟩
      exact Aq (St.letGo (N:=F.N) Ag (.inr rfl) (λa q=>.inl q) hs.pN nFC hs.own (hb.frm.new hC) sb') λh3 Z=>⟨V',((stb.trans B).trans Ao).over (λa e o=>sb'.extBut a o λq=>e.elim λo e=>by rw[q]at e;exact Ak (stb.new hC) e),av,h3,q⟩
     .exact λZ s' Y=>X1pp Y λV' B Z4=>X1pp Z4 λa h' hk=>ai (ai ⟨.next,_,V',B,h',trivial,hk⟩)
end
end
section
variable {S:Sta}
inductive Ty where
 |none
 |bool
 |int
 |str
 |tup
 |list
 |dict
noncomputable def Ty.name:Ty->String
 |.none => "NoneType"
 |.bool => "bool"
 |.int => "int"
 |.str => "str"
 |.tup => "tuple"
 |.list => "list"
 |.dict => "dict"
noncomputable def tyA(V:E0):AV->Option Ty
 |.none=>some .none
 |.bool _=>some .bool
 |.int _=>some .int
 |.str _=>some .str
 |.tup _=>some .tup
 |.list _=>some .list
 |.dict _=>some .dict
 |.loc a _=>match V a with
  |some (.list _)=>some .list
  |some (.dict _)=>some .dict
  |_=>aa
 |_=>aa
noncomputable def Ty.n:Ty->Nat
 |.none=>0
 |.bool=>1
 |.int=>2
 |.str=>3
 |.tup=>4
 |.list=>5
 |.dict=>6
noncomputable def isT(t u:Ty):Bool:=b5 t.n u.n || (b5 t.n 1 && b5 u.n 2)
section
variable {F:Fx S}{m:L1}{V:E0}{s:ag}{X:Value->ag->Prop}{Q:AV->E0->Prop}
theorem rep_ty(r:Rep S.cv s.heap (F.D V) a v)(hs:F.St m V s)(h:tyA V a=some t):match t with
  |.none=>v=.none
  |.bool=>∃b,v=.bool b
  |.int=>∃n u,v=.int n u
  |.str=>∃x u,v=.str x u
  |.tup=>∃ad o,v=.ref ad/\s.heap.get? ad=some o/\o.cls=.type "tuple"
  |.list=>∃ad o,v=.ref ad/\s.heap.get? ad=some o/\o.cls=.type "list"
  |.dict=>∃ad o,v=.ref ad/\s.heap.get? ad=some o/\o.cls=.type "dict":=by
 cases a with
 |none=>obtain rfl:=ae h;exact r.inv
 |bool b=>obtain rfl:=ae h;exact⟨_,r.inv⟩
 |int n=>obtain rfl:=ae h;exact⟨n,r.inv⟩
 |str x=>obtain rfl:=ae h;exact⟨x,r.inv⟩
 |tup l=>obtain rfl:=ae h;obtain⟨a,b,c,e,f,_⟩:=r.inv;exact⟨a,_,e,f,rfl⟩
 |list l=>obtain rfl:=ae h;obtain⟨a,b,c,e,f,_⟩:=r.inv;exact⟨a,_,e,f,rfl⟩
 |dict l=>obtain rfl:=ae h;obtain⟨a,b,c,e,f,_⟩:=r.inv;exact⟨a,_,e,f,rfl⟩
 |loc ad z =>
  unfold tyA at h;dsimp only at h
  cases e:V ad with
  |none=>rw[e]at h;exact nS h
  |some o =>
   rw[e]at h
   cases o with
   |list l'=>obtain rfl:=ae h;obtain⟨vs,n,g,q⟩:=(hs.inv.rep ad _ e).inv;exact⟨ad,_,r.inv,g,rfl⟩
   |dict l'=>obtain rfl:=ae h;obtain⟨vs,n,g,q⟩:=(hs.inv.rep ad _ e).inv;exact⟨ad,_,r.inv,g,rfl⟩
   |_=>exact(Ak rfl h).elim
 |_=>exact(Ak rfl h).elim
theorem CT.isinst(ha:tyA V a=some t)(z:S.cv j=.type u.name)(T:u≠.none)(h:Q (.bool (isT t u)) V):CT F m V (.builtin "isinstance") [a,.cls j] Q X:=by
 intro vals s hs r;obtain⟨v,c,rfl,Y,B⟩:=r.two;have d:c=.type u.name:=B.inv.trans z;clear r B;subst d;have q:=rep_ty Y hs ha
 cases t with
 |none =>
  subst q
  cases u with|none=>exact absurd rfl T|bool=>exact PySem.IsiPair.NoneType_bool (Bk _ hs (.bool _) h)|int=>exact PySem.IsiPair.NoneType_int (Bk _ hs (.bool _) h)|str=>exact PySem.IsiPair.NoneType_str (Bk _ hs (.bool _) h)|tup=>exact PySem.IsiPair.NoneType_tuple (Bk _ hs (.bool _) h)|list=>exact PySem.IsiPair.NoneType_list (Bk _ hs (.bool _) h)|dict=>exact PySem.IsiPair.NoneType_dict (Bk _ hs (.bool _) h)
 |bool =>
  obtain⟨b,rfl⟩:=q
  cases u with|none=>exact absurd rfl T|bool=>exact PySem.IsiPair.bool_bool (now hs (.bool _) h)|int=>exact PySem.IsiPair.bool_int (now hs (.bool _) h)|str=>exact PySem.IsiPair.bool_str (Bk _ hs (.bool _) h)|tup=>exact PySem.IsiPair.bool_tuple (Bk _ hs (.bool _) h)|list=>exact PySem.IsiPair.bool_list (Bk _ hs (.bool _) h)|dict=>exact PySem.IsiPair.bool_dict (Bk _ hs (.bool _) h)
 |int =>
  obtain⟨n,k,rfl⟩:=q
  cases u with|none=>exact absurd rfl T|bool=>exact PySem.IsiPair.int_bool (Bk _ hs (.bool _) h)|int=>exact PySem.IsiPair.int_int (now hs (.bool _) h)|str=>exact PySem.IsiPair.int_str (Bk _ hs (.bool _) h)|tup=>exact PySem.IsiPair.int_tuple (Bk _ hs (.bool _) h)|list=>exact PySem.IsiPair.int_list (Bk _ hs (.bool _) h)|dict=>exact PySem.IsiPair.int_dict (Bk _ hs (.bool _) h)
 |str =>
  obtain⟨x,k,rfl⟩:=q
  cases u with|none=>exact absurd rfl T|bool=>exact PySem.IsiPair.str_bool (Bk _ hs (.bool _) h)|int=>exact PySem.IsiPair.str_int (Bk _ hs (.bool _) h)|str=>exact PySem.IsiPair.str_str (now hs (.bool _) h)|tup=>exact PySem.IsiPair.str_tuple (Bk _ hs (.bool _) h)|list=>exact PySem.IsiPair.str_list (Bk _ hs (.bool _) h)|dict=>exact PySem.IsiPair.str_dict (Bk _ hs (.bool _) h)
 |tup =>
  obtain⟨ad,o,rfl,e,d⟩:=q
  cases u with|none=>exact absurd rfl T|bool=>exact PySem.IsiPair.tuple_bool e d (Bk _ hs (.bool _) h)|int=>exact PySem.IsiPair.tuple_int e d (Bk _ hs (.bool _) h)|str=>exact PySem.IsiPair.tuple_str e d (Bk _ hs (.bool _) h)|tup=>exact PySem.IsiPair.tuple_tuple e d (now hs (.bool _) h)|list=>exact PySem.IsiPair.tuple_list e d (Bk _ hs (.bool _) h)|dict=>exact PySem.IsiPair.tuple_dict e d (Bk _ hs (.bool _) h)
 |list =>
  obtain⟨ad,o,rfl,e,d⟩:=q
  cases u with|none=>exact absurd rfl T|bool=>exact PySem.IsiPair.list_bool e d (Bk _ hs (.bool _) h)|int=>exact PySem.IsiPair.list_int e d (Bk _ hs (.bool _) h)|str=>exact PySem.IsiPair.list_str e d (Bk _ hs (.bool _) h)|tup=>exact PySem.IsiPair.list_tuple e d (Bk _ hs (.bool _) h)|list=>exact PySem.IsiPair.list_list e d (now hs (.bool _) h)|dict=>exact PySem.IsiPair.list_dict e d (Bk _ hs (.bool _) h)
 |dict =>
  obtain⟨ad,o,rfl,e,d⟩:=q
  cases u with|none=>exact absurd rfl T|bool=>exact PySem.IsiPair.dict_bool e d (Bk _ hs (.bool _) h)|int=>exact PySem.IsiPair.dict_int e d (Bk _ hs (.bool _) h)|str=>exact PySem.IsiPair.dict_str e d (Bk _ hs (.bool _) h)|tup=>exact PySem.IsiPair.dict_tuple e d (Bk _ hs (.bool _) h)|list=>exact PySem.IsiPair.dict_list e d (Bk _ hs (.bool _) h)|dict=>exact PySem.IsiPair.dict_dict e d (now hs (.bool _) h)
theorem ET.cls(d:Glob S j (S.cv j))(h:Q (.cls j) V):ET F m V (.g j) Q X:=by
 exact λpe y s hs=>X2lp pe y.inv λZ Z u=>Do u d hs (now hs (.cls j) h)
theorem CT.lenTup(hz:l.length<=big)(h:Q (.int l.length) V):CT F m V (.builtin "len") [.tup l] Q X:=by
 refine λvals s hs r=>X1lp vals r.one λv Y=>?_
 .refine X3lppp v Y.inv λad vs n e d U=>?_
  have ht:IsTup s.heap ad vs.toArray:=⟨_,e,rfl,n,rfl⟩;refine len_tuple ht (by rw[aF,U.length];exact gA.mp (GN hz)) ?_
  rw[aF,U.length];exact Bk _ hs (.int _ _) h
theorem CT.lenDict(ha:dd V a=some l)(hz:l.length<=big)(h:Q (.int l.length) V):CT F m V (.builtin "len") [a] Q X:=by
 refine λvals s hs r=>X1lp vals r.one λv Y=>X3lppp v (Y.dctE hs ha) λad es n e u U=>?_;have y:s.heap.get? ad=some (AW es.toArray n):=e;refine call_len_slot (n:=l.length) e.typeIs PySem.F.slot_dict_len (λz hq=>(dq PySem.F.slot_dict_len (s:=s) ⟨_,y,rfl⟩ PySem.F.entry_dict_len ?_ (PySem.F.args_dict_len_1 _))) (lin [l.length] [] (.l (.c V0) K0) [] rfl) (GN hz) (Bk _ hs (.int _ _) h);show wpAny _ _ (dictSize ad >>= _) _ _ s;unfold dictSize;refine ac (ac (cM y rfl (ai ?_)));show wpAny _ _ (Builtin.Dict.pendingCount ad >>= _) _ _ s;refine ac (wpAny_pendingCount_other u (ac (wpAny_mkInt (ai ⟨_,rfl,?_⟩))));have B:es.toArray.size=l.length:=by rw[aF,U.length]
 rw[B,Nat.add_zero];exact hq
theorem CT.max2(hq:S.hx=aa)(h:Q (.int (if b > a then b else a)) V):CT F m V (.builtin "max") [.int a,.int b] Q X:=by
 refine λvals s hs r=>X2lpp vals r.two λv u y T=>X1l v y.inv λZ=>?_;obtain⟨_,rfl⟩:=T.inv;refine max_two_ints (F.room.quiet hq) λh' tk k=>Aq (hs.grow k tk) λY st=>?_
 by_cases c:b > a
 .rw[if_pos c]at h ⊢;exact⟨V,st.any,Y,_,.int _ _,h⟩
 .rw[if_neg c]at h ⊢;exact⟨V,st.any,Y,_,.int _ _,h⟩
theorem CT.min2(hq:S.hx=aa)(h:Q (.int (if b<a then b else a)) V):CT F m V (.builtin "min") [.int a,.int b] Q X:=by
 refine λvals s hs r=>X2lpp vals r.two λv u y T=>X1l v y.inv λZ=>?_;obtain⟨_,rfl⟩:=T.inv;refine min_two_ints (F.room.quiet hq) λh' tk k=>Aq (hs.grow k tk) λY st=>?_
 by_cases c:b<a
 .rw[if_pos c]at h ⊢;exact⟨V,st.any,Y,_,.int _ _,h⟩
 .rw[if_neg c]at h ⊢;exact⟨V,st.any,Y,_,.int _ _,h⟩
theorem CT.listList(ha:dl V a=some l)(hz:l.length<=big)(h:Fresh V (.list l) (.list l) Q):CT F m V (.type "list") [a] Q X:=by
 refine λvals s hs r=>X1lp vals r.one λv Y=>?_;obtain⟨ad,vs,n,rfl,e,U⟩:=Y.lst hs.inv ha;refine call_list_seq ad (T := "list") (.inl rfl) e rfl rfl (λh' B k y=>Bw (tk:=s.toks) hs k (AA _) y U h) (by rw[aF,U.length];exact AZ hz)
theorem CT.listTup(hz:l.length<=big)(h:Fresh V (.list l) (.list l) Q):CT F m V (.type "list") [.tup l] Q X:=by
 refine λvals s hs r=>X1lp vals r.one λv Y=>?_
 .exact X3lppp v Y.inv λad vs n e d U=>call_list_seq ad (T := "tuple") (.inr rfl) e rfl rfl (λh' B k y=>Bw (tk:=s.toks) hs k (AA _) y U h) (by rw[aF,U.length];exact AZ hz)
theorem CT.tupList(ha:dl V a=some l)(hz:l.length<=big)(h:Q (.tup l) V):CT F m V (.type "tuple") [a] Q X:=by
 refine λvals s hs r=>X1lp vals r.one λv Y=>?_;obtain⟨ad,vs,n,rfl,e,U⟩:=Y.lst hs.inv ha;refine call_tuple_list ⟨_,e,rfl,n,rfl⟩ (λh' k=>?_) (by rw[aF,U.length];exact AZ hz)
 have O:s.heap.get? h'.objs.size=aa:=by
  cases q:s.heap.get? h'.objs.size with|none=>rfl|some o=>exact absurd (bf (k _ _ q)) (ij _)
 exact Gb (tk:=s.toks) hs (λb o e=>ar _ (k b o e)) O (ay _ rfl) U h
noncomputable def Js(V:E0)(a:AV):Option (List PyData):=match B0 V a with
 |some d=>(match d with
  |.list xs=>some xs
  |.tuple xs=>some xs
  |_=>aa)
 |aa=>aa
theorem F1(h:Js V a=some xs):B0 V a=some (.list xs)\/B0 V a=some (.tuple xs):=by
 unfold Js at h
 cases e:B0 V a with
 |none=>rw[e]at h;exact nS h
 |some d =>
  rw[e]at h
  cases d with
  |list O=>obtain rfl:=ae h;exact .inl rfl
  |tuple O=>obtain rfl:=ae h;exact .inr rfl
  |_=>exact nS h
theorem KT.inSeq{Q:Bool->E0->Prop}(ha:B0 V a=some d)(hb:Js V b=some xs)(u:cC xs=true)(Y:d.canLay0=true)(U:d.depth<=100)(h:Q (xs.any λy=>eV y d) V):KT F m V .In a b Q X:=by
 refine λva vb s hs ra T=>X1p (ra.readsS hs.inv ha) λas B=>?_;have z:F.A.units+1+min (cr xs) d.depth<cLine:=by have:=F.room.un;unfold cLine;exact lin [d.depth,F.A.units,F.k,min (cr xs) d.depth] [] (.c (.A (.A V1 K1) V3) GS) [.b V0 FR,.c (.A V1 (.M 20 V2)) BX,.b V3 V0] rfl U this (fU (cr xs) d.depth)
 rcases F1 hb with e|e
 .exact X1p (T.readsS hs.inv e) λbs O=>PySem.SeqAt.in_list_reads O B u Y z ⟨V,H2.refl _ _ _ _,hs,_,rfl,h⟩
 .exact X1p (T.readsS hs.inv e) λbs O=>PySem.SeqAt.in_tuple_reads O B u Y z ⟨V,H2.refl _ _ _ _,hs,_,rfl,h⟩
theorem KT.notInSeq{Q:Bool->E0->Prop}(ha:B0 V a=some d)(hb:Js V b=some xs)(u:cC xs=true)(Y:d.canLay0=true)(U:d.depth<=100)(h:Q (!xs.any λy=>eV y d) V):KT F m V .NotIn a b Q X:=by
 refine λva vb s hs ra T=>X1p (ra.readsS hs.inv ha) λas B=>?_;have z:F.A.units+1+min (cr xs) d.depth<cLine:=by have:=F.room.un;unfold cLine;exact lin [d.depth,F.A.units,F.k,min (cr xs) d.depth] [] (.c (.A (.A V1 K1) V3) GS) [.b V0 FR,.c (.A V1 (.M 20 V2)) BX,.b V3 V0] rfl U this (fU (cr xs) d.depth)
 rcases F1 hb with e|e
 .exact X1p (T.readsS hs.inv e) λbs O=>PySem.SeqAt.notIn_list_reads O B u Y z ⟨V,H2.refl _ _ _ _,hs,_,rfl,h⟩
 .exact X1p (T.readsS hs.inv e) λbs O=>PySem.SeqAt.notIn_tuple_reads O B u Y z ⟨V,H2.refl _ _ _ _,hs,_,rfl,h⟩
theorem KT.inStr{Q:Bool->E0->Prop}(h:Q (eI x y) V):KT F m V .In (.str y) (.str x) Q X:=by
 refine λY z s hs u T=>X1l Y u.inv λZ=>?_;obtain⟨_,rfl⟩:=T.inv;exact SB.contains ⟨V,H2.refl _ _ _ _,hs,_,rfl,h⟩
theorem KT.notInDict{Q:Bool->E0->Prop}(hb:dd V b=some l)(h:Q (!(By l k).isSome) V):KT F m V .NotIn (sp k) b Q X:=by
 refine λY y s hs O T=>X4lpp Y O.spot λt tx ty n e d=>X3lpppp y (T.dct hs.inv hb) λad es n' e' z B U=>X1pp (RepD.xs (S:=S) U) λxs u Z0=>?_;clear U;subst Z0;have q:=u.at_ k;refine wpAny_notIn_heap (Cf F) (Es e) z (Gv u B e') ⟨V,H2.toks _ _ _ _ _,hs.tok _,_,rfl,?_⟩
 have:(atKey xs (key k)).isSome=(By l k).isSome:=by
  revert q
  cases By l k<;>cases atKey xs (key k)<;>simp
 rwa [this]
end
end
section
variable {S:Sta}
structure MO(nm:Str)(T id:String):Prop where
 pa:PlainAttrs T
 slot:Slot T nm id
 ty:typeOf (.builtin id)=pure (.type "method_descriptor")
section
variable {F:Fx S}{m:L1}{V:E0}{s:ag}{X:Value->ag->Prop}{Q:AV->E0->Prop}{K:Fl->L1->E0->Prop}
theorem rep_obj(r:Rep S.cv s.heap (F.D V) a v)(hs:F.St m V s)(h:tyA V a=some t):s.TypeIs v t.name/\∀b,v=.ref b->∃ob,s.heap.get? b=some ob/\ob.dict=none:=by
 cases a with
 |none=>obtain rfl:=ae h;rw[show v=.none from r.inv];exact⟨rfl,nofun⟩
 |bool b=>obtain rfl:=ae h;rw[show v=.bool b from r.inv];exact⟨rfl,nofun⟩
 |int n=>obtain rfl:=ae h;refine X1l v r.inv λu=>?_;exact⟨rfl,nofun⟩
 |str x=>obtain rfl:=ae h;refine X1l v r.inv λu=>?_;exact⟨rfl,nofun⟩
 |tup l=>obtain rfl:=ae h;refine X3lpp v r.inv λa b c f Z=>?_;exact⟨⟨_,f,rfl⟩,λZ q=>bx q▸⟨_,f,rfl⟩⟩
 |list l=>obtain rfl:=ae h;refine X3lpp v r.inv λa b c f Z=>?_;exact⟨⟨_,f,rfl⟩,λZ q=>bx q▸⟨_,f,rfl⟩⟩
 |dict l=>obtain rfl:=ae h;refine X3lpp v r.inv λa b c f Z=>?_;exact⟨⟨_,f,rfl⟩,λZ q=>bx q▸⟨_,f,rfl⟩⟩
 |loc ad z =>
  rw[show v=.ref ad from r.inv]
  unfold tyA at h;dsimp only at h
  cases e:V ad with
  |none=>rw[e]at h;exact nS h
  |some o =>
   rw[e]at h
   cases o with
   |list l'=>obtain rfl:=ae h;refine X2pp ((hs.inv.rep ad _ e).inv) λvs n f q=>?_;exact⟨⟨_,f,rfl⟩,λZ q=>bx q▸⟨_,f,rfl⟩⟩
   |dict l'=>obtain rfl:=ae h;refine X2pp ((hs.inv.rep ad _ e).inv) λvs n f q=>?_;exact⟨⟨_,f,rfl⟩,λZ q=>bx q▸⟨_,f,rfl⟩⟩
   |_=>exact(Ak rfl h).elim
 |_=>exact(Ak rfl h).elim
theorem MF(h:DC o=true):attributeBase o nm env x=x:=by
 cases o with
 |Call f as ks p =>
  cases f with
  |Name i q =>
   cases as with
   |nil =>
    cases ks with|nil=>exact(aW h).elim|cons _ _=>rfl
   |cons _ _=>rfl
  |_=>rfl
 |_=>rfl
theorem I0(d:CEs F.tb F.sc pes es)(Y:pes.length<29):((backTo pos (fp pes F.env)).all (λx=>!x.1) && (backToKw pos (keywordEach [] F.env)).all (λx=>x.1.isSome)
   && decide (pes.length+([]:List Keyword).length+(if ([]:List Keyword).isEmpty then 0 else 1)<30))=true:=by
 have T:(backTo pos (fp pes F.env)).all (λx=>!x.1)=true:=by
  have:=Hh (pos:=pos) d
  rw[cG];intro x u;rw[List.any_eq_false]at this
  have:=this x u
  simpa using this
 have z:(backToKw pos (keywordEach [] F.env)).all (λx=>x.1.isSome)=true:=rfl;rw[T,z]
 simp
 exact lin [pes.length] [] (.c V0 K30) [.c V0 K29] rfl Y
def ArgsT(F:Fx S)(m:L1)(V:E0)(es:List E)(P:List AV->E0->Prop)(X:Value->ag->Prop):Prop:=match es with
 |[]=>P [] V
 |es=>EsT F m V es P X
theorem ET.meth(hn:ixS AT nm=some n)
  (h:ET F m V o (λa Aa=>∃t U,MO nm (Ty.name t) U/\tyA Aa a=some t/\ArgsT F m Aa args (λd Ab=>CT F m Ab (.builtin U) (a::d) Q X) X) X):ET F m V (.meth o n args) Q X:=by
 intro pe hc s hs;obtain⟨po,a,ap,T,p,rfl,O,B,Y,ho,hk,ha⟩:=hc.inv
 have:a=nm:=BQ hk hn
 clear hn;subst this;refine wpAny_Call_method_lateS (MF O) (I0 ha Y) (by simpa using B) ((h _ ho s hs).out ?_)
 intro ov Aa Ad Ah u hR1;obtain⟨av,z,t,U,hm,hty,y⟩:=hR1;refine Aq (rep_obj z u hty) λhT hd=>⟨t.name,U,hm.pa,hm.slot,hm.ty,hT,λb e=>hd b e,?_⟩
 cases args with
 |nil =>
  obtain rfl:=ha.inv_nil;exact EP (M3.builtin U) u ((y [ov] Ad u (.cons z .nil)).later Ah)
 |cons e0 r0 =>
  refine X2lppp T ha.inv λZ Z hn1 Z0 hr1=>CY (.cons hn1 Z0 hr1) (M3.builtin U) y u ?_;exact λvals d Ab Ai Ao Ag rl q=>(q (ov::vals) Ai Ag (.cons (z.st Ao Ag) rl)).later (Ah.trans Ao)
theorem LD:ixS AT "append"=some 0:=by decide +kernel
theorem ix_pop:ixS AT "pop"=some 1:=by decide +kernel
theorem LC:ixS AT "insert"=some 2:=by decide +kernel
theorem ix_clear:ixS AT "clear"=some 3:=by decide +kernel
theorem ix_get:ixS AT "get"=some 6:=by decide +kernel
theorem ix_join:ixS AT "join"=some 8:=by decide +kernel
theorem Hn:MO "append" (Ty.name .list) "list.append":=⟨dM,PySem.F.slot_list_append,PySem.F.type_list_append⟩
theorem meth_pop:MO "pop" (Ty.name .list) "list.pop":=⟨dM,PySem.F.slot_list_pop,PySem.F.type_list_pop⟩
theorem Lm:MO "join" (Ty.name .str) "str.join":=⟨PySem.F.plainAttrs_str,PySem.F.slot_str_join,PySem.F.type_str_join⟩
theorem Dz{ad:Addr}{l l':List AV}{h':Heap}{vs:List Value}{n:Nat}{s':ag}(hs:F.St m V s)(U:V ad=some (.list l))(k:di ad s.heap h')(e:h'.get? ad=some (AE vs.toArray n))(r:RepL S.cv s.heap (F.D V) l' vs) :
  F.St m (V.set ad (.list l')) { s with heap:=h' }/\H2 F.P F.O V s (V.set ad (.list l')) { s with heap:=h' }:=by
 have y:Dom V ad:=by unfold Dom;rw[U];simp
 have z:Ext (F.D V) s.heap h':=Ext.of_but λb o d e=>k b o (λq=>d (.inl (q▸y))) e;obtain⟨Y,st⟩:=hs.upd (h':=h') y (λc o ne e=>k c o ne e) s.toks (o:=.list l') (.list e (r.ext z λb q=>.inl (q.imp (λq=>(A5 q).elim (λ(q:b=ad)=>by rwa [q]) id) id)))
 exact⟨Y,st.any⟩
theorem CT.append{ad:Addr}{O:Nat}{l:List AV}{x:AV}(T:V ad=some (.list l))(hz:l.length<=big)(h:Q .none (V.set ad (.list (l++[x])))):CT F m V (.builtin "list.append") [.loc ad O,x] Q X:=by
 refine λvals s hs r=>X2lpp vals r.two λv u Y d=>X3ppp (Y.lst hs.inv (BU T)) λad' vs n Z0 e U=>?_;subst Z0;obtain rfl:=(bx Y.inv).symm;refine wpAny_list_append_plain (items:=vs.toArray) ⟨n,e⟩ (λh' B z=>?_) (by rw[aF,U.length];exact AZ hz)
 refine X1p B λn' y=>?_;have ee:vs.toArray.push u=(vs++[u]).toArray:=by simp
 rw[ee]at y;exact Aq (Dz (s':=s) hs T z.extBut y (U.snoc d)) λh1 st=>⟨_,st,h1,_,.none,h⟩
theorem RepL.dropLast(r:RepL cv h D l vs):RepL cv h D l.dropLast vs.dropLast:=by
 rw[List.dropLast_eq_take,List.dropLast_eq_take,r.length];exact r.take _
theorem CT.pop{ad:Addr}{ii:Nat}{l:List AV}{x:AV}(ho:V ad=some (.list l))(hx:l.getLast?=some x)(hz:l.length<=big)(h:Q x (V.set ad (.list l.dropLast))):CT F m V (.builtin "list.pop") [.loc ad ii] Q X:=by
 refine λvals s hs r=>X1lp vals r.one λv O=>X3ppp (O.lst hs.inv (BU ho)) λad' vs n Z0 e U=>?_;subst Z0;obtain rfl:=(bx O.inv).symm;have Y:l[l.length - 1]?=some x:=by rwa [<- List.getLast?_eq_getElem?]
 refine X1pp (U.get Y) λu hu ru=>?_;have T:vs.toArray[vs.toArray.size - 1]?=some u:=by rw[aF,U.length];simpa using hu
 refine call_meets PySem.F.slot_list_pop ⟨_,e,rfl⟩ PySem.F.entry_list_pop (PySem.F.args_list_pop_1 _) (PySem.MeetsSeq.list_pop_last ad vs.toArray n u T (by rw[aF,U.length];exact AZ hz)) ⟨e,?_⟩
 have y:vs≠[]:=by rintro rfl;simp at T
 have ee:vs.toArray.eraseIdxIfInBounds (vs.toArray.size - 1)=vs.dropLast.toArray:=by
  have z:vs.length - 1<vs.length:=by have:=List.length_pos_iff.mpr y;exact lin [vs.length - 1,vs.length] [] (.c V0 V1) [.d (.A V0 K1) V1] rfl (aq (lin [vs.length] [] (.b K1 V0) [.c K0 V0] rfl this))
  simp only[aF,Array.eraseIdxIfInBounds,aF,z,dif_pos];simp[List.eraseIdx_length_sub_one]
 have hk:di ad s.heap (s.heap.update ad (bt λxs=>xs.eraseIdxIfInBounds (vs.toArray.size - 1))):=(bG ..).extBut;have B:bt (λxs=>xs.eraseIdxIfInBounds (vs.toArray.size - 1)) (AE vs.toArray n)=AE vs.dropLast.toArray (if (vs.dropLast.toArray.size == vs.toArray.size) then n else n+1):=by
  simp only[bt,ee]
 have e':=bJ (bt λxs=>xs.eraseIdxIfInBounds (vs.toArray.size - 1)) e (by rw[B];rfl)
 rw[B]at e';exact Aq (Dz (s':=s) hs ho hk e' U.dropLast) λh1 st=>⟨_,st,h1,_,ru.st st h1,h⟩
noncomputable def Bx(l:List (Al×AV))(k:Al)(x:AV):List (Al×AV):=if (By l k).isSome then l.map (λp=>if p.1=k then (k,x) else p) else l++[(k,x)]
theorem Dk(r:XsOf cv h D l xs)(k:Al):(atKey xs (key k)).isSome=(By l k).isSome:=by
 have q:=r.at_ k
 revert q
 cases By l k<;>cases atKey xs (key k)<;>simp
theorem XsOf.put(T:Rep cv h D x v)(r:XsOf cv h D l xs):XsOf cv h D (l.map (λp=>if p.1=k then (k,x) else p)) (xs.map (putAt (key k) v)):=by
 induction r with
 |nil=>exact .nil
 | @cons k' B l t _ _ _ O xs e d r rs y =>
  rw[bp,bp]
  by_cases q:k'=k
  .subst q
   have:putAt (key k') v (key k',t,O)=(key k',t,v):=by simp[putAt]
   rw[this];simp only[if_true];exact .cons e d T y
  .have u:¬key k'=key k:=λz=>q (Hr z)
   have:putAt (key k) v (key k',t,O)=(key k',t,O):=by simp[putAt,u]
   rw[this];simp only[if_neg q];exact .cons e d r y
theorem XsOf.snoc(e:h.get? t=some (Bz #[.int k.1 tx,.int k.2 ty] n))(d:¬D t)(O:Rep cv h D x v) :
  ∀{l:List (Al×AV)}{xs:List (List Int×Addr×Value)},XsOf cv h D l xs->XsOf cv h D (l++[(k,x)]) (xs++[(key k,t,v)]):=by
 intro l xs r
 induction r with|nil=>exact .cons e d O .nil|cons u z Y _ y=>exact .cons u z Y y
theorem Ml(h:By l k=aa):∀p∈l,p.1≠k:=by
 unfold By at h;rw[Option.map_eq_none_iff,List.find?_eq_none]at h;exact λp d e=>h p d (by simp[e])
set_option tactic.hygienic true in
theorem Dh(k:Al)(x:AV)(h:(l.map (·.1)).Nodup):((Bx l k x).map (·.1)).Nodup:=by
 unfold Bx
 split
 .have:(l.map (λp=>if p.1=k then (k,x) else p)).map (·.1)=l.map (·.1):=by
   rw[bc];apply cJ;intro p _;simp only[Function.comp_apply]
   split
   .rename_i q;exact q.symm
   .rfl
  rwa [this]
 .rename_i q
  have d:By l k=aa:=by simpa using q
  rw[aQ,bn];refine⟨h,by simp,?_⟩
  intro a ha b z e;simp at z;obtain⟨p,Y,rfl⟩:=aY.mp ha;exact Ml d p Y (e.trans z)
theorem B5{h:Heap}{d:Addr}{xs:List (List Int×Addr×Value)}(T:h.DictOfH (bK (cw S.prog S.w)) d xs):∃n,h.get? d=some (AW (xs.map (d5 (bK (cw S.prog S.w)))).toArray n):=by
 obtain⟨o,es,ep,U,⟨Y,z,B⟩,y,O,_,_⟩:=T;refine⟨ep,?_⟩;obtain⟨c,dx,dt,u⟩:=o;simp only at Y z B y;subst Y z B y
 have:es=(xs.map (d5 (bK (cw S.prog S.w)))).toArray:=by rw[<- O]
 rw[U,this]
theorem setItemD{ad:Addr}{l:List (Al×AV)}{k:Al}{x:AV}{y B:Value}{Q':Unit->ag->Prop}(ho:V ad=some (.dict l))(hz:l.length<=big)(hs:F.St m V s)(rk:Rep S.cv s.heap (F.D V) (sp k) y)(T:Rep S.cv s.heap (F.D V) x B)
  (h:∀s',F.St m (V.set ad (.dict (Bx l k x))) s'->H2 F.P F.O V s (V.set ad (.dict (Bx l k x))) s'->Q' () s'):wpAny (model S.prog S.w) F.A (setItem (.ref ad) y B) Q' X s:=by
 refine X4lpp y rk.spot λt tx ty n e d=>X3ppppp ((Rep.loc (cv:=S.cv) (h:=s.heap) (D:=F.D V) ad 0).dct hs.inv (B7 ho)) λad' es n' e1 e' sm nd rd=>?_;obtain rfl:=bx e1;obtain⟨xs,u,rfl⟩:=RepD.xs (S:=S) rd;have Y:xs.length=l.length:=by have:=rd.length;simpa using this
 refine wpAny_setItem_heap (Cf F) (Es e) (Gv u nd e') (λh' hm z=>?_) (by rw[Y];exact AZ hz)
 refine X1p (B5 hm) λn2 e2=>?_;have da:Dom V ad:=by unfold Dom;rw[ho];simp
 have e0:Ext (F.D V) s.heap h':=Ext.of_but λb o d e=>z.extBut b o (λq=>d (.inl (q▸da))) e;have hD:∀b,DN F.N (V.set ad (.dict (Bx l k x))) b->DN F.N V b\/s.heap.get? b=aa:=λb q=>.inl (q.imp (λq=>(A5 q).elim (λ(q:b=ad)=>by rwa [q]) id) id)
 have U:XsOf S.cv s.heap (F.D V) (Bx l k x) (storedH xs (key k) t B):=by
  unfold Bx storedH;rw[Dk u k]
  split
  .exact u.put T
  .exact u.snoc e d T
 exact Aq (hs.upd (h':=h') da (λc o ne e=>z.extBut c o ne e) (s.toks+(bK (cw S.prog S.w)).draws (key k)) (o:=.dict (Bx l k x)) (.dict e2 sm (Dh k x nd) (U.repD.ext e0 hD))) λh1 st=>h _ h1 st.any
set_option tactic.hygienic true in
theorem ST.setitem(hn:AI e=true)(h:ET F m V e (λx Aa=>ET F m Aa o (λa Y=>ET F m Y i (λk B=>∃ad z l kk,a=.loc ad z/\k=sp kk/\B ad=some (.dict l)/\l.length<=big/\K .next m (B.set ad (.dict (Bx l kk x)))) X) X) X):ST F m V (.setitem o i e) K X:=by
 refine λps hc s hs=>X5lpppp ps hc.inv λZ Z Z Z Z hns ho hi d=>wpAny_Assign_Subscript ((h _ d s hs).out ?_) (Cd d hn);intro vx Aa Ad Ah Ac u;obtain⟨x,rx,AO⟩:=u;refine(AO _ ho Ad Ac).out ?_;intro va Y Ai O U u;obtain⟨a,ra,Bq⟩:=u;refine(Bq _ hi Ai U).out ?_;intro vk B BC T AG u;obtain⟨k,rk,ad,z,l,kk,rfl,rfl,hd,hz,hK⟩:=u;obtain rfl:=ra.inv;exact setItemD hd hz AG rk ((rx.st O U).st T AG) λs' h' y=>⟨.next,m,_,((Ah.trans O).trans T).trans y,h',trivial,hK⟩
end
end
section
variable {S:Sta}
section
variable {tb:List Nat}{env:Env}{N Np:Addr->Prop}{b:E0×ag}{m:L1}{V:E0}{s:ag}{D:Addr}
theorem Loc.map(l:Loc cv g tb env m N V h)(own:∀a o,Own env a->h.get? a=some o->h'.get? a=some o)(U:∀a,Own env a->¬Dom V' a)(r:∀{av v},Rep cv h (DN N V) av v->Rep cv h' (DN Np V') av v):Loc cv g tb env m Np V' h':=by
 obtain⟨y,cm,n,cc,O,ap,cl,u⟩:=l;refine⟨y,cm,?_,λz a hz=>?_,λa q=>⟨U a q,(O a q).2⟩,ap,cl,λz j av B T=>?_⟩
 .refine X3pp n λo es ep e d=>?_;exact⟨o,es,ep,own _ _ (.inl rfl) e,d⟩
 .refine X1pp (cc z a hz) λo e d=>?_;exact⟨o,own _ _ (.inr ⟨z,hz⟩) e,d⟩
 .exact LocAt.map (u z j av B T) (λh2=>r h2) (λZ Y=>Y) (λZ Y=>Y)
theorem St.apart(hs:Internal.St S tb env N P b m V s)(k:∀b o,s.heap.get? b=some o->h'.get? b=some o)(u:s.heap.get? D=aa)(y:∃o,h'.get? D=some o/\∀vs,o.data≠.fields vs) :
  Internal.St S tb env (λa=>N a\/a=D) P b m V { s with heap:=h',toks:=tk }/\H2 noO noO V s V { s with heap:=h',toks:=tk }:=by
 refine Aq (hs.grow k tk) λY st=>?_;have U:Ext (DN N V) s.heap h':=Ext.of_keeps k;have T:∀b,DN (λa=>N a\/a=D) V b->DN N V b\/s.heap.get? b=aa:=by
  rintro b (q|q|q)
  .exact .inl (.inl q)
  .exact .inl (.inr q)
  .exact .inr (q▸u)
 refine⟨⟨⟨Y.inv.keep,Y.inv.gens,Y.inv.drawn,Y.inv.os,Y.inv.σg,?_,?_,λa o e=>(hs.inv.rep a o e).ext U T (k a)⟩,?_,Y.frm,λa q=>.inl (hs.pN a q),hs.new,λa q=>.inl (hs.own a q),hs.gb⟩,st⟩
 .rintro a d (q|q)
  .exact hs.inv.σN a d q
  .exact hs.inv.not_dom (q▸u) d
 .rintro a (q|q)
  .exact Y.inv.Nin a q
  .exact q▸y
 .have O:=hs.loc
  obtain⟨_,_,_,_,O,_⟩:=O;exact hs.loc.map (λa o Z e=>k a o e) (λa q=>(O a q).1) λr=>r.ext U T
theorem St.open_(hs:Internal.St S tb env Np P b m V s)(hN:∀a,N a->Np a)(y:∀a,Own env a->N a)(T:∀a,P a->N a):Internal.St S tb env N P b m V s:=by
 have U:∀b,DN N V b->DN Np V b\/s.heap.get? b=aa:=λb q=>.inl (q.imp id (hN b));refine⟨⟨hs.inv.keep,hs.inv.gens,hs.inv.drawn,hs.inv.os,hs.inv.σg,λa d q=>hs.inv.σN a d (hN a q),λa q=>hs.inv.Nin a (hN a q),λa o e=>(hs.inv.rep a o e).ext (Ext.refl _ _) U λZ q=>q⟩,?_,hs.frm,T,hs.new,y,hs.gb⟩;have O:=hs.loc;obtain⟨_,_,_,_,O,_⟩:=O;exact hs.loc.map (λa o Z e=>e) (λa q=>(O a q).1) λr=>r.ext (Ext.refl _ _) U
theorem St.take(hs:Internal.St S tb env (λa=>N a\/a=D) P b m V s)(y:∀a,Own env a->N a)(T:∀a,P a->N a)(U:¬N D)(B:b.2.heap.get? D=aa)(r:M5 S.cv s.heap (DN (λa=>N a\/a=D) V) o D):Internal.St S tb env N P b m (V.set D o) s:=by
 have u:∀b,DN N (V.set D o) b->DN (λa=>N a\/a=D) V b\/s.heap.get? b=aa:=λb q=>.inl (q.elim (λq=>(A5 q).elim (λq=>.inr (.inr q)) .inl) λq=>.inr (.inl q));refine⟨⟨hs.inv.keep,hs.inv.gens,hs.inv.drawn,hs.inv.os,λa d=>(A5 d).elim (λ(q:a=D)=>by rw[q];exact hs.gb D B) (hs.inv.σg a),λa d q=>(A5 d).elim (λ(z:a=D)=>U (z▸q)) λd=>hs.inv.σN a d (.inl q),λa q=>hs.inv.Nin a (.inl q),λa Y e=>?_⟩,?_,?_,T,hs.new,y,hs.gb⟩
 .by_cases z:a=D
  .clear hs U B;subst z;rw[E0.set_self]at e;obtain rfl:=ae e;exact r.ext (Ext.refl _ _) u λZ q=>q
  .rw[E0.set_ne _ _ z]at e;exact(hs.inv.rep a Y e).ext (Ext.refl _ _) u λZ q=>q
 .have O:=hs.loc
  obtain⟨_,_,_,_,O,_⟩:=O;exact hs.loc.map (λa o Z e=>e) (λa q d=>(A5 d).elim (λ(z:a=D)=>U (z▸y a q)) (O a q).1) λr=>r.ext (Ext.refl _ _) u
 .have f:=hs.frm
  exact⟨f.ext,f.frm,λa d=>(A5 d).elim (λ(z:a=D)=>.inr (by rwa [z])) (f.dom a),f.there⟩
end
section
variable {F:Fx S}{m:L1}{V:E0}{s:ag}{X:Value->ag->Prop}{Q:AV->E0->Prop}
noncomputable def Fx.with(F:Fx S)(D:Addr):Fx S:=⟨F.A,F.tb,F.env,F.b,λa=>F.N a\/a=D,F.k,F.room.wide (λZ q=>.inl q),F.fk,F.fg,F.fb,F.fc⟩
def Like(F F':Fx S):Prop:=F'.A=F.A/\F'.tb=F.tb/\F'.env=F.env/\F'.k=F.k
def E5(F:Fx S)(m:L1)(X:Value->ag->Prop)(Q:List (AV×AV)->E0->Prop):List E->List E->List (AV×AV)->E0->Prop
 |[],[],r,V=>Q r V
 |k::ks,v::vs,r,V=>ET F m V k (λa Aa=>ET F m Aa v (λb Ab=>E5 F m X Q ks vs (r++[(a,b)]) Ab) X) X
 |_,_,_,_=>False
class inductive RepP(cv:Nat->Value)(h:Heap)(D:Addr->Prop):List (AV×AV)->List (Value×Value)->Prop
 |nil:RepP cv h D [] []
 |cons {a b:AV}{u v:Value}{l:List (AV×AV)}{vs:List (Value×Value)}:Rep cv h D a u->Rep cv h D b v->RepP cv h D l vs->RepP cv h D ((a,b)::l) ((u,v)::vs)
theorem RepP.step(x:H2 P O V s V' s')(y:∀a,O a->N a)(d:∀a,P a->N a)(r:RepP cv s.heap (DN N V) l vs):RepP cv s'.heap (DN N V') l vs:=by
 induction r with|nil=>exact .nil|cons U B _ z=>exact .cons (U.step x y d) (B.step x y d) z
theorem RepP.app(r:RepP cv h D l vs)(Y:RepP cv h D l' vs'):RepP cv h D (l++l') (vs++vs'):=by
 induction r with|nil=>exact Y|cons B O _ y=>exact .cons B O y
theorem Jz{Q:List (AV×AV)->E0->Prop}{ks:List E}:∀{vs:List E}{U:List (Option aV)}{u:List aV}{r:List (AV×AV)}{V:E0}{s:ag}{ru:List (Value×Value)}{d:List (Value×Value)->ag->Prop},CKs F.tb F.sc U ks->CEs F.tb F.sc u vs->E5 F m X Q ks vs r V->F.St m V s->RepP S.cv s.heap (F.D V) r ru ->
  (∀us Y V' s',H2 F.P F.O V s V' s'->F.St m V' s'->RepP S.cv s'.heap (F.D V') Y (ru++us)->Q Y V'->d us s')->wpAny (model S.prog S.w) F.A (evalPairs (pairTrees U u F.env pos)) d X s:=by
 induction ks with
 |nil =>
  intro vs U u r V s ru d z T h hs rr hQ
  cases vs with
  |cons v vs=>exact h.elim
  |nil =>
   obtain rfl:=z.inv;obtain rfl:=T.inv_nil;exact pairTrees_nil_walk (hQ [] r V s (H2.refl _ _ _ _) hs (by rwa [aN]) h)
 |cons k ks ih =>
  intro vs U u r V s ru d z T h hs rr hQ
  cases vs with
  |nil=>exact h.elim
  |cons v vs =>
   obtain⟨pk,U,rfl,z,hks⟩:=z.inv;obtain⟨pv,u,rfl,hn,T,hvs⟩:=T.inv;refine pairTrees_cons_walk ((h _ z s hs).out ?_);intro uk Aa Ad Ah Ac y;obtain⟨a,ra,AO⟩:=y;refine(AO _ T Ad Ac).out ?_;intro uv Ab Ai Ao Ag y;obtain⟨b,rb,Bq⟩:=y;have rr2:=((rr.step Ah Ac.own Ac.pN).step Ao Ag.own Ag.pN).app (.cons (ra.st Ao Ag) rb .nil);refine ih hks hvs Bq Ag rr2 λus Y V' s' st' h' B q=>hQ _ Y V' s' ((Ah.trans Ao).trans st') h' ?_ q;rw[aG]at B;exact B
noncomputable def mkD:List (AV×AV)->List (Al×AV)->Option (List (Al×AV))
 |[],l=>some l
 |p::r,l=>(spot? p.1).bind λk=>mkD r (Bx l k p.2)
theorem mkD_cons(h:mkD ((a,b)::r) l=some l'):∃k:Al,a=sp k/\mkD r (Bx l k b)=some l':=by
 exact X1pp (AF (show (spot? a).bind (λk=>mkD r (Bx l k b))=some l' from h)) λk Y z=>⟨k,spot?_out Y,z⟩
theorem Ki(hDN:F.N D)(nO:¬F.O D)(bD:F.b.2.heap.get? D=aa)(sm:(D == cI)=false):∀{r:List (AV×AV)}{us:List (Value×Value)}{l l':List (Al×AV)}{es:List bR}{n:Nat}{s:ag},mkD r l=some l'->l.length+r.length<=big->F.St m V s->RepP S.cv s.heap (F.D V) r us ->
  s.heap.get? D=some (AW es.toArray n)->(l.map (·.1)).Nodup->RepD S.cv s.heap (F.D V) l es ->
  (∀s' B n',F.St m V s'->H2 F.P (·=D) V s V s'->s'.heap.get? D=some (AW (aB B) n')->(l'.map (·.1)).Nodup->RepD S.cv s'.heap (F.D V) l' B->Q' PUnit.unit s')->wpAny (model S.prog S.w) F.A (storeAll D us) Q' X s:=by
 intro r
 induction r with
 |nil =>
  intro us l l' es n s Y hz hs rr g nd rd hQ
  cases rr;obtain rfl:=ae Y
  exact ai (hQ s es n hs (H2.refl _ _ _ _) g nd rd)
 |cons p r ih =>
  intro us l l' es n s Y hz hs rr g nd rd hQ
  cases rr with
  | @cons a bb u v _ vs r1 r2 rs =>
   refine X1pp (mkD_cons Y) λkk Z0 Y=>?_;subst Z0
   .refine X4lpp u (Rep.spot (k:=kk) r1) λt tx ty n1 e d=>?_
    obtain⟨xs,hx,rfl⟩:=RepD.xs (S:=S) rd;have U:xs.length=l.length:=by have:=rd.length;simpa using this
    show wpAny _ _ (forIn _ _ _) _ _ _;rw[d9];refine ac (ac (wpAny_dictSet_heap (room_0 F) (Es e) (Gv hx nd g) (λh' hmm sb=>?_) (by rw[U];exact AZ (lin [l.length,((sp kk,bb)::r).length,big] [] (.b V0 V2) [.b (.A V0 V1) V2] rfl hz))))
    refine X1p (B5 hmm) λn2 e2=>?_;obtain⟨h2,T⟩:=(hs.tok (s.toks+(bK (cw S.prog S.w)).draws (key kk))).turnN (h':=h') hDN nO bD sb.extBut ⟨_,e2,λvs z=>by exact nDf rfl z⟩
    have y:H2 F.P (·=D) V s V { s with heap:=h',toks:=s.toks+(bK (cw S.prog S.w)).draws (key kk) }:=⟨T.ext,T.frm,T.dom,T.there⟩
    have hO:∀a,a=D->F.N a:=λa q=>q▸hDN;have xs':XsOf S.cv s.heap (F.D V) (Bx l kk bb) (storedH xs (key kk) t v):=by
     unfold Bx storedH;rw[Dk hx kk]
     split
     .exact hx.put r2
     .exact hx.snoc e d r2
    have hd:(Bx l kk bb).length<=l.length+1:=by unfold Bx;split<;>simp
    exact ai (ih Y (by have hz':l.length+(r.length+1)<=big:=hz;have hd':(Bx l kk bb).length<=l.length+1:=hd;exact aw (Nat.add_le_add_right hd' _) (lin [l.length,r.length,big] [] (.b (.A (.A V0 K1) V1) V2) [.b (.A V0 (.A V1 K1)) V2] rfl hz')) h2 (rs.step y hO hs.pN) e2 (Dh _ _ nd) (xs'.repD.step y hO hs.pN) λs' B n' h3 st3 g3 nd3 rd3=>(hQ s' B n' h3 (y.trans st3) g3 nd3 rd3))
theorem CKs.len(h:CKs tb sc pks ks):pks.length=ks.length/\pks.all (·.isSome)=true:=by
 induction ks generalizing pks with
 |nil=>obtain rfl:=h.inv;exact⟨rfl,rfl⟩
 |cons k ks y=>refine X2lpp pks h.inv λe r Z q=>?_;exact⟨congrArg f6 (y q).1,(y q).2⟩
theorem CEs.len(h:CEs tb sc pks ks):pks.length=ks.length:=by
 induction ks generalizing pks with
 |nil=>obtain rfl:=h.inv_nil;rfl
 |cons k ks y=>refine X2lppp pks h.inv λe r Z Z q=>?_;exact congrArg f6 (y q)
theorem ET.dict0(h:Fresh V (.dict []) (.dict []) Q):ET F m V (.dict [] []) Q X:=by
 refine λpe d s hs=>X3lpp pe d.inv λZ Z Z z B=>?_
 cases z;cases B
 exact wpAny_Dict_empty (Dg (tk:=s.toks) (es:=[]) (l:=[]) hs (Az _ _) (AA _) (ay _ rfl) .nil .nil h)
theorem ET.dict{k v:E}{ks vs:List E}(hlen:ks.length=vs.length)(h15:ks.length<15)(h:∀F':Fx S,Like F F'->E5 F' m X (λr V'=>∃l,mkD r []=some l/\r.length<=15/\Fresh V' (.dict l) (.dict l) Q) (k::ks) (v::vs) [] V):ET F m V (.dict (k::ks) (v::vs)) Q X:=by
 refine λpe hc s hs=>X3lpp pe hc.inv λpks pvs p hk hv=>Aq ((CKs.len (ks:=k::ks) hk)) λl1 l2=>?_;have l3:=CEs.len (ks:=v::vs) hv;refine wpAny_Dict_any l2 (by rw[l1,l3];simp[hlen]) (by intro e;subst e;simp at l1) (by rw[l1];simp;exact lin [ks.length] [] (.b V0 K14) [.c V0 K15] rfl h15) ?_
 have B:s.heap.get? s.heap.objs.size=aa:=AA _;obtain⟨h1,st1⟩:=St.apart (D:=s.heap.objs.size) (tk:=s.toks) hs (Az _ { cls:=.type "dict",data:=.dict #[] }) B ⟨_,ay _ rfl,λvs z=>by exact nDf rfl z⟩
 generalize hD:s.heap.objs.size=D at *;have g1:(s.heap.push { cls:=.type "dict",data:=.dict #[] }).get? D=some (AW #[] 0):=by rw[<- hD];exact ay _ rfl
 have h1':(F.with D).St m V { s with heap:=s.heap.push { cls:=.type "dict",data:=.dict #[] } }:=h1
 have U:¬F.N D:=λq=>by refine X1pp (hs.inv.Nin D q) λo e nf=>?_;rw[B]at e;exact nS e
 have nO:¬F.O D:=λq=>U (hs.own D q);have bD:F.b.2.heap.get? D=aa:=hs.frm.new B;refine Jz (F:=F.with D) (ru:=[]) hk hv (h (F.with D) ⟨rfl,rfl,rfl,rfl⟩) h1' .nil ?_
 refine λus r' Y Ai Ao Ag rr hR1=>X1ppp hR1 λl hml hr15 hfr=>?_;have gD:=Ao.ext.obj D _ g1 (λd=>d.elim (λd=>h1'.inv.σN D d (.inr rfl)) λd=>d.elim nO λd=>U (hs.pN D d));refine Ki (F:=F.with D) (V:=Y) (es:=[]) (l:=[]) (.inr rfl) nO bD (hs.inv.not_sm B) hml (by simp;exact aw hr15 (by decide)) Ag (by simpa using rr) gD .nil .nil ?_
 intro s' es' n' h3 T g3 nd3 u;have y:H2 F.P F.O V s Y s':=by
  have z:=(st1.any (O:=F.O)).trans Ao;have nD':∀{a o},s.heap.get? a=some o->¬a=D:=λe q=>by rw[q,B]at e;exact nS e
  exact⟨⟨λa o e d=>T.ext.obj a o (z.ext.obj a o e d) λq=>q.elim (z.ndom e λq=>d (.inl q)) λq=>q.elim (nD' e) λq=>d (.inr (.inr q))⟩,λa o e n ho d=>by
   exact X1pppp (z.frm a o e n ho d) λo' e' c' r1 r2=>X1pppp (T.frm a o' e' n (nD' e) (z.ndom e d)) λo'' e'' c'' r1' r2'=>⟨o'',e'',c''.trans c',r1'.trans r1,r2'.trans r2⟩,z.dom,λa o e=>by
   exact X1p (z.there a o e) λo' e'=>T.there a o' e'⟩
 have nDσ:¬Dom Y D:=λd=>h3.inv.σN D d (.inr rfl)
 rcases hfr with q|⟨ii,q⟩
 .have h4:F.St m Y s':=St.open_ (N:=F.N) h3 (λa q=>.inl q) hs.own hs.pN
  exact⟨Y,y,h4,_,.dict g3 (λd=>d.elim nDσ U) (hs.inv.not_sm B) nd3 (u.ext (Ext.refl _ _) λb q=>.inl (q.imp id .inl)),q⟩
 .have h4:F.St m (Y.set D (.dict l)) s':=St.take h3 hs.own hs.pN U bD (.dict g3 (hs.inv.not_sm B) nd3 u)
  exact⟨_,⟨y.ext,y.frm,λa d=>(A5 d).elim (λ(z:a=D)=>.inr (by rwa [z])) (y.dom a),y.there⟩,h4,_,.loc D ii,q D nDσ⟩
end
end
section
variable {S:Sta}
section
variable {F:Fx S}{m:L1}{V:E0}{s:ag}{X:Value->ag->Prop}{Q:AV->E0->Prop}
theorem GK{bs:List Bool}{vs:List Value}{i:Nat}{v:Value}(r:RepL cv h D (bs.map .bool) vs)(e:vs[i]?=some v):∃b,bs[i]?=some b/\v=.bool b:=by
 induction bs generalizing vs i with
 |nil=>rw[show vs=[] from r.inv]at e;exact(Ak hV e).elim
 |cons b bs y =>
  obtain⟨u,z,rfl,a,r⟩:=r.inv
  cases i with|zero=>exact⟨b,rfl,(ae e).symm.trans a.inv⟩|succ i=>exact y (vs:=z) (i:=i) r e
theorem KJ(bs:List Bool):(br bs.length).all (λi=>bs.getD i true)=bs.all id:=by
 have:(br bs.length).map (λi=>bs.getD i true)=bs:=by
  apply eu;intro i
  by_cases h:i<bs.length
  .simp[h]
  .simp[h]
 have h:=List.all_map (f:=λi=>bs.getD i true) (p:=id) (l:=br bs.length);rw[this]at h;exact h.symm
theorem KI(bs:List Bool):(br bs.length).any (λi=>bs.getD i true)=bs.any id:=by
 have:(br bs.length).map (λi=>bs.getD i true)=bs:=by
  apply eu;intro i
  by_cases h:i<bs.length
  .simp[h]
  .simp[h]
 have h:=List.any_map (f:=λi=>bs.getD i true) (p:=id) (l:=br bs.length);rw[this]at h;exact h.symm
theorem CT.all(hq:S.hx=aa){a:AV}{bs:List Bool}(ha:dl V a=some (bs.map .bool))(h:Q (.bool (bs.all id)) V):CT F m V (.builtin "all") [a] Q X:=by
 refine λvals s hs r=>X1lp vals r.one λv y=>X3lpp v (y.lst hs.inv ha) λad vs n e U=>?_;have O:s.heap.IsList ad vs.toArray:=⟨_,e,rfl,n,rfl⟩;have d:ad≠s.heap.objs.size:=bP (bf e);have Y:vs.toArray.size=bs.length:=by have:=U.length;simpa using this
 refine call_all_walk (fu O ⟨_,_,_,_,_,_,λi=>bs.getD i true,rfl,Walks.list (A:=F.A.in1) (F.room.quiet hq) s.heap.objs.size ad d vs.toArray,⟨⟨_,ay _ rfl,rfl,rfl⟩,⟨_,ar _ e,rfl,n,rfl⟩⟩,?_,λh' tk k=>?_⟩)
 .refine λi v s' B E' u hq=>X1pl v (GK U (i:=i) (by simpa using u)) λb z=>cB ?_
  have:bs.getD i true=b:=by simp[List.getD,z]
  simp only[this]at hq;exact hq
 .refine Aq (hs.grow (h':=h') (λb o eb=>k b o (by simp;exact bP (bf eb)) (ar _ eb)) tk) λT st=>?_
  rw[Y,KJ];exact⟨V,st.any,T,_,.bool _,h⟩
theorem CT.any(hq:S.hx=aa){a:AV}{bs:List Bool}(ha:dl V a=some (bs.map .bool))(h:Q (.bool (bs.any id)) V):CT F m V (.builtin "any") [a] Q X:=by
 refine λvals s hs r=>X1lp vals r.one λv y=>X3lpp v (y.lst hs.inv ha) λad vs n e U=>?_;have O:s.heap.IsList ad vs.toArray:=⟨_,e,rfl,n,rfl⟩;have d:ad≠s.heap.objs.size:=bP (bf e);have Y:vs.toArray.size=bs.length:=by have:=U.length;simpa using this
 refine call_any_walk (fu O ⟨_,_,_,_,_,_,λi=>bs.getD i true,rfl,Walks.list (A:=F.A.in1) (F.room.quiet hq) s.heap.objs.size ad d vs.toArray,⟨⟨_,ay _ rfl,rfl,rfl⟩,⟨_,ar _ e,rfl,n,rfl⟩⟩,?_,λh' tk k=>?_⟩)
 .refine λi v s' B E' u hq=>X1pl v (GK U (i:=i) (by simpa using u)) λb z=>cB ?_
  have:bs.getD i true=b:=by simp[List.getD,z]
  simp only[this]at hq;exact hq
 .refine Aq (hs.grow (h':=h') (λb o eb=>k b o (by simp;exact bP (bf eb)) (ar _ eb)) tk) λT st=>?_
  rw[Y,KI];exact⟨V,st.any,T,_,.bool _,h⟩
theorem strsAre{h:Heap}{D:Addr->Prop}{cv:Nat->Value}{ys:List Str}(r:RepL cv h D (ys.map .str) vs):StrsAre vs ys:=by
 induction ys generalizing vs with
 |nil=>rw[show vs=[] from r.inv];exact .nil
 |cons y ys Y =>
  exact X2lpp vs r.inv λu z a d=>X1l u a.inv λt=>.cons _ _ (Y d)
theorem CT.join(ha:dl V a=some (ys.map .str))(U:(ys.map (·.length)).sum+ys.length * x.length<=1000000)(h:Q (.str (Txt.join x ys)) V):CT F m V (.builtin "str.join") [.str x,a] Q X:=by
 exact λvals s hs r=>X2lpp vals r.two λv u Y z=>X1l v Y.inv λZ=>X3lpp u (z.lst hs.inv ha) λad vs n e T=>join_list ⟨_,e,rfl,n,rfl⟩ (by simpa using strsAre T) (aw U (by decide)) λd k=>Bk _ hs (.str _ _) h
theorem Walks.heapDict(hh:A.handled=none)(I d:Addr)(U:d≠I)(es:Array bR)(ep:Nat) :
  Walks S.prog S.w A I [I,d] [I] es.size (λi v=>∃e,es[i]?=some e/\v=e.key) (λi h=>h.IsKeyIter I d i es.size ep/\DictE h d es ep) where
 sub:=λb z=>by simp at z;simp[z]
 frame:=λZ Z Z st O=>⟨(let ⟨o,ho,r⟩:=st.1;⟨o,O I (by simp) o ho,r⟩),O d (by simp) _ st.2⟩
 item:=λi s Q E hi st u=>by
  exact IV st.1 st.2 (e:=es[i]) (by simp[hi]) λh' T Y=>u _ h' s.toks ⟨_,by simp[hi],rfl⟩ ⟨T,Y.extBut d _ U st.2⟩ λb o z e=>Y.extBut b o (λh=>z (by simp[h])) e
 done:=λs Q E st u=>Mk hh st.1 st.2 (az _) λh' B=>u h' s.toks λb o z e=>B b o (λh=>z (by simp[h])) e
 self:=λZ Z Z Z st u=>wpAny_pyIter_keyiter st.1 u
theorem srcDict(z:(d == cI)=false):KdlSrc S.prog S.w "dict" d d es.size (λi v=>∃e,es[i]?=some e/\v=e.key) (λh=>DictE h d es ep) where
 type:=λZ T=>T.typeIs
 there:=λZ T=>⟨bf T,bf T⟩
 keep:=λZ Z T B=>B d (.inl rfl) _ T
 notList:=by decide
 notTuple:=by decide
 hint:=λZ Z Z Z T hq=>kdl_hint_dict T.typeIs hq
 iter:=λZ Z hh T=>⟨_,_,(λZ Z hq=>IW z T hq),Walks.heapDict hh _ d (bP (bf T)) es ep,⟨⟨_,ay _ rfl,rfl,rfl⟩,ar _ T⟩⟩
theorem repKeys(r:RepD cv h D l es):RepL cv h D (l.map λp=>sp p.1) (es.map (·.key)):=by
 induction l generalizing es with|nil=>rw[show es=[] from r.inv];exact .nil|cons p l y=>refine X6lpppp es r.inv λt B T n v z e d a b=>?_;exact .cons (.tup (vs:=[_,_]) e d (.cons (.int _ _) (.cons (.int _ _) .nil))) (y b)
theorem CT.listDict(hq:S.hx=aa)(ha:dd V a=some l)(hz:l.length<=big)(h:Fresh V (.list (l.map λp=>sp p.1)) (.list (l.map λp=>sp p.1)) Q):CT F m V (.type "list") [a] Q X:=by
 refine λvals s hs r=>X1lp vals r.one λv O=>X3lppp v (O.dctE hs ha) λad es n e d U=>kdl_call (srcDict (ep:=n) d) (F.room.quiet hq) e (by rw[aF,U.length];exact AZ hz) λh' tk u c' k y hi=>Aq hi λh1 h2=>?_
 have:u=(es.map (·.key)).toArray:=by
  apply Array.ext
  .simp[h1]
  .refine λi Y B=>X1pp (h2 i u[i] (by simp[Y])) λen T z=>?_
   simp only[List.getElem_toArray,iu];rw[z]
   have:es[i]?=some en:=by simpa using T
   rw[aI (by simpa using B)]at this
   rw[ae this]
 rw[this]at y;exact Bw (tk:=tk) hs k (AA _) y (repKeys U) h
end
end
section
variable {S:Sta}
structure Ep(S:Sta)(C:Addr):Prop where
 cv:S.cv B4=.ref C
 get:plainGet S.K C "texts"=true
 has:hasDictIn S.K C=true
 setattr:eE S.K (.ref C) "__setattr__"=some (some (.builtin "object.__setattr__"))
 over:plainOver S.K C=true
 make:makesIn S.K C=true
structure Field(S:Sta)(C:Addr)(nm:Str):Prop where
 find:eE S.K (.ref C) nm=some aa
 take:takerIn S.K C nm=some aa
noncomputable def L6(fs:List (Str×AV))(nm:Str):Option AV:=(fs.find? λp=>p.1 == nm).map (·.2)
noncomputable def J2:List (Str×AV)->Str->AV->List (Str×AV)
 |[],nm,x=>[(nm,x)]
 |p::r,nm,x=>if p.1 == nm then (p.1,x)::r else p::J2 r nm x
noncomputable def Em(V:E0):AV->Option (List (Str×AV))
 |.inst fs=>some fs
 |.loc a _=>(V a).bind λo=>o.inst?.bind λdx=>(V dx).bind L4.attrs?
 |_=>aa
theorem E3(Y:V a=some (.inst dx))(z:V dx=some (.attrs fs)):Em V (.loc a i)=some fs:=by
 show (V a).bind _=_;rw[Y];show (V dx).bind _=_;rw[z];rfl
theorem RepF.get(r:RepF cv h D fs es):(∀{x},L6 fs nm=some x->∃v,getL nm es=some (some v)/\Rep cv h D x v)/\(L6 fs nm=aa->getL nm es=some aa):=by
 induction fs generalizing es with
 |nil=>rw[show es=[] from r.inv];exact⟨λh=>(Ak rfl h).elim,λZ=>rfl⟩
 |cons p l y =>
  obtain⟨n,x⟩:=p;obtain⟨z,t,v,es,rfl,r,rs⟩:=r.inv;have y:=y rs;unfold L6 getL at y ⊢
  by_cases q:(n == nm)=true
  .have d:(Value.str n t).isStr nm=true:=q
   simp only[dA,q,d,gf];exact⟨λh=>⟨v,rfl,ae h▸r⟩,λh=>(Ak h rfl).elim⟩
  .have u:(n == nm)=false:=by simpa using q
   have d:(Value.str n t).isStr nm=false:=u;have B:DictEntry.refKey ⟨z,.str n t,v⟩=false:=rfl;simp only[dA,u,d,fZ,B,Bool.false_or];exact y
theorem RepF.put(u:Rep cv h D x v)(r:RepF cv h D fs es):RepF cv h D (J2 fs nm x) (putL nm hsh (.str nm t) v es):=by
 induction fs generalizing es with
 |nil=>rw[show es=[] from r.inv];exact .cons u .nil
 |cons p l Y =>
  obtain⟨n,y⟩:=p;obtain⟨U,z,O,es,rfl,r,rs⟩:=r.inv;unfold J2 putL
  by_cases q:(n == nm)=true
  .have d:(Value.str n z).isStr nm=true:=q
   simp only[q,d,if_true];exact .cons u rs
  .have T:(n == nm)=false:=by simpa using q
   have d:(Value.str n z).isStr nm=false:=T;simp only[T,d,cg,if_false];exact .cons r (Y rs)
theorem RepF.length(r:RepF cv h D fs es):es.length=fs.length:=by
 induction fs generalizing es with
 |nil=>rw[show es=[] from r.inv];rfl
 |cons p l y=>obtain⟨a,b,c,d,rfl,_,r⟩:=r.inv;exact congrArg f6 (y r)
section
variable {F:Fx S}{m:L1}{V:E0}{s:ag}{X:Value->ag->Prop}{Q:AV->E0->Prop}{K:Fl->L1->E0->Prop}{C:Addr}
theorem Rep.instAt(B:Ep S C)(r:Rep S.cv s.heap (F.D V) a v)(hs:F.St m V s)(h:Em V a=some fs) :
  ∃x dx es n,v=.ref x/\InstAt s.heap x (Dp (.ref C) dx) C (some (dictOf es n))/\RepF S.cv s.heap (F.D V) fs es:=by
 cases a with
 |inst fs' =>
  obtain⟨x,dx,es,n,rfl,e,nf,f,d,d2,r⟩:=r.inv;rw[B.cv]at e;exact⟨_,_,_,_,rfl,⟨e,rfl,rfl,f⟩,ae h▸r⟩
 |loc x ii =>
  refine X1pp (AF (show (V x).bind (λo=>o.inst?.bind λdx=>(V dx).bind L4.attrs?)=some fs from h)) λo e y=>X1pp (AF y) λdx U Y=>X1pp (AF Y) λT u z=>?_
  obtain rfl:=L4.inst?_out U;obtain rfl:=L4.attrs?_out z;refine Aq ((hs.inv.rep x _ e).inv) λg Z=>X2pp ((hs.inv.rep dx _ u).inv) λes n O q=>?_;rw[B.cv]at g;exact⟨x,dx,es,n,r.inv,⟨g,rfl,rfl,O⟩,q⟩
 |_=>exact(Ak rfl h).elim
noncomputable def noCls:AV->Bool
 |.cls _=>false
 |_=>true
theorem Rep.handed(r:Rep cv h D a v)(d:noCls a=true):handedIn v=true:=by
 induction r using Rep.casesOn<;>first|rfl|exact(aW d).elim
theorem ET.attr(B:Ep S C)(hf:Field S C nm)(O:ixS AT nm=some n)(hm:m i=some a)(ha:Em V a=some fs)(U:L6 fs nm=some x)(hc:noCls x=true)(h:Q x V):ET F m V (.attr (.v i) n) Q X:=by
 refine λpe T s hs=>X4lpp pe T.inv λy q at_ p d hk=>?_
 have:at_=nm:=BQ hk O
 clear O;subst this;exact Attribute_name (wpAny_Name (load_v d hm hs λv r=>(X4lpp v (r.instAt B hs ha) λad dx es n' I z=>(X1pp (z.get.1 U) λu Y ru=>(get_value (S.X.keeps hs.inv.keep) I (plainGet_of B.get).1 (findObj_own B.has hf.find rfl Y) (ru.handed hc) (Bk _ hs ru h))))) (A9 d.ok))
theorem setAttrT{ad dx:Addr}{nm:Str}{fs:List (Str×AV)}{x:AV}{B:Value}{Q':Unit->ag->Prop}(Y:Ep S C)(hf:Field S C nm)(T:V ad=some (.inst dx))(hd:V dx=some (.attrs fs))(hz:fs.length<=100)(hs:F.St m V s)(rx:Rep S.cv s.heap (F.D V) x B)
  (h:∀s',F.St m (V.set dx (.attrs (J2 fs nm x))) s'->H2 F.P F.O V s (V.set dx (.attrs (J2 fs nm x))) s'->Q' () s'):wpAny (model S.prog S.w) F.A (setAttr (.ref ad) nm B) Q' X s:=by
 refine X4ppp ((Rep.loc (cv:=S.cv) (h:=s.heap) (D:=F.D V) ad 0).instAt Y hs (fs:=fs) (E3 T hd)) λx' y es n e1 I u=>?_;obtain rfl:=bx e1;have hdx:y=dx:=by
  refine Aq ((hs.inv.rep ad _ T).inv) λg Z=>?_;rw[Y.cv]at g;have:=I.at_;rw[g]at this;cases this;rfl
 clear T;subst hdx;have D:s.heap.get? y=some (dictOf es n):=I.dict;have da:Dom V y:=by unfold Dom;rw[hd];simp
 have KX:=S.X.keeps hs.inv.keep;refine set_plain KX I Y.setattr ?_;have I1:InstAt ({ s with toks:=s.toks+1 }:ag).heap ad (Dp (.ref C) y) C (some (dictOf es n)):=I
 refine osa_open (s:={ s with toks:=s.toks+1 }) (K:=S.K) KX I1 Y.over hf.take λb=>X1pp (any_some Y.has) λcd hc hd'=>ac (ai (ac (ac (wpAny_loadPart I.at_ (ac (Looks.here (s:={ s with toks:=s.toks+1 }) (looks_clsIn KX hc) ?_))))))
 rw[hd'];refine ai (a:=some y) (ac (ai (ac ?_)));unfold nsSet;refine ac (ac (wpAny_askSetting (ai (ac (wpAny_mkText (ac (wpAny_loadPart D ?_)))))));dsimp only;have c:(!es.toArray.any (·.key.isStr nm) && es.toArray.any (·.refKey))=false:=by
  have:es.toArray.any (·.refKey)=false:=by
   rw[<- Array.any_toList];have gen:∀{fs:List (Str×AV)}{es:List bR},RepF S.cv s.heap (F.D V) fs es->es.any (·.refKey)=false:=by
    intro fs
    induction fs with|nil=>intro es r;rw[show es=[] from r.inv];rfl|cons p fs U=>intro es r;refine X4lpp es r.inv λZ Z Z Z Z rs=>?_;rw[fZ,U rs];rfl
   simpa using gen u
  rw[this,Bool.and_false]
 rw[aRefKeyMayBeTheName_at,c];refine wpAny_updatePart D ?_;have e0:∀(z:Int)(key:Value),ff nm z key B (dictOf es n)=dictOf (putL nm z key B es) (putN nm es n):=λz key=>putName_dict nm z key B es n;have D':∀(z:Int)(key:Value),(s.heap.update y (ff nm z key B)).get? y=some (dictOf (putL nm z key B es) (putN nm es n)):=λz key=>by
  have:=bJ (ff nm z key B) D (by rw[e0];rfl)
  rw[e0]at this;exact this
 have len:∀(z:Int)(key:Value)(l:List bR),(putL nm z key B l).length<=l.length+1:=by
  intro z key l
  induction l with|nil=>simp[putL]|cons p r U=>unfold putL;split<;>simp<;>exact lin [(putL nm z key B r).length,r.length] [] (.b V0 (.A V1 K1)) [.b V0 (.A V1 K1)] rfl U
 refine ac (wpAny_lookBehind (D' _ _) (pastItsLine_dict (by rw[aF];refine ew (AZ (aw (len _ _ es) ?_));rw[u.length];exact aw (iv hz) (by decide))) ?_)
 have kp:∀(z:Int)(key:Value),di y s.heap (s.heap.update y (ff nm z key B)):=λz key=>(bG ..).extBut;have fin:∀(z:Int)(t:Tok)(tk:Nat),Q' () { s with heap:=s.heap.update y (ff nm z (.str nm t) B),toks:=tk }:=by
  intro z t tk;have e1:Ext (F.D V) s.heap (s.heap.update y (ff nm z (.str nm t) B)):=Ext.of_but λb o d e=>kp _ _ b o (λq=>d (.inl (q▸da))) e
  obtain⟨h1,st⟩:=hs.upd (h':=s.heap.update y (ff nm z (.str nm t) B)) da (λc o ne e=>kp _ _ c o ne e) tk (o:=.attrs (J2 fs nm x))
   (.attrs (D' _ _) ((u.put rx).ext e1 λb q=>.inl (q.imp (λq=>(A5 q).elim (λ(q:b=y)=>by rwa [q]) id) id)))
  exact h _ h1 st.any
 exact ai (fin _ _ _)
set_option tactic.hygienic true in
theorem ST.setattr(hC:Ep S C)(hf:Field S C nm)(O:ixS AT nm=some n)(hn:AI e=true)
  (h:ET F m V e (λx Aa=>ET F m Aa o (λa z=>∃ad d dx fs,a=.loc ad d/\z ad=some (.inst dx)/\z dx=some (.attrs fs)/\fs.length<=100/\K .next m (z.set dx (.attrs (J2 fs nm x)))) X) X):ST F m V (.setattr o n e) K X:=by
 refine λps hc s hs=>X5lppp ps hc.inv λpo a pe p q ho hk T=>?_
 have:a=nm:=BQ hk O
 clear O;subst this;refine plainObj_wpAny_Assign_Attribute ((h _ T s hs).out ?_) (Cd T hn);intro vx Aa Ad Ah Ac u;obtain⟨x,B,AO⟩:=u;refine(AO _ ho Ad Ac).out ?_;intro va z Ai Y U u;obtain⟨a',ra,ad,d,dx,fs,rfl,h3,h4,hz,hK⟩:=u;obtain rfl:=ra.inv;exact setAttrT hC hf h3 h4 hz U (B.st Y U) λs' h' y=>⟨.next,m,_,(Ah.trans Y).trans y,h',trivial,hK⟩
theorem ET.method(hC:Ep S C)(hn:ixS AT nm=some n)(hf:eE S.K (.ref C) nm=some (some (.ref f)))(ht:isFn S.K (.ref f)=true)(hk:keepIn S.K (.ref f)=true)
  (h:ET F m V o (λa Aa=>(∃fs,Em Aa a=some fs/\L6 fs nm=aa)/\ArgsT F m Aa args (λavs Ab=>CT F m Ab (.ref f) (a::avs) Q X) X) X):ET F m V (.meth o n args) Q X:=by
 intro pe hc s hs;obtain⟨po,a,ap,T,p,rfl,O,B,Y,ho,hk',ha⟩:=hc.inv
 have:a=nm:=BQ hk' hn
 clear hn;subst this;have U:=MF (nm:=a) (env:=F.env) (x:=eval po F.env) O;have hfew:=I0 (pos:=p) ha Y;have d:(ap.endLine == p.line)=true:=by simpa using B
 show wpAny _ _ (eval (.Call (.Attribute po a ap) T [] p) F.env) _ _ _;rw[arm_eval_Call,U];refine ac ((h _ ho s hs).out ?_);intro ov Aa Ad Ah Ac hR1;obtain⟨av,ra,⟨fs,hfs,hno⟩,y⟩:=hR1;refine ac (dF ?_);have u:methodCallForm (T.length+([]:List Keyword).length) (backTo p (fp T F.env)) (backToKw p (keywordEach [] F.env))=true:=hfew;have z:methodCallPos true po F.env ap p=pure p:=by unfold methodCallPos;simp[d]
 unfold methodCall;rw[u];refine X4ppp (ra.instAt hC Ac hfs) λx dx es n' Z1 I rf=>?_;subst Z1;refine ac (bo (method_fn (S.X.keeps Ac.inv.keep) I (plainGet_of hC.get).1 (plainGet_of hC.get).2 hf (beq_iff_eq.mp ht) (by show (lookIn a (dictOf es n')).map _=_;rw[lookIn_dict,rf.get.2 hno];rfl) (ac (wpAny_of_eq z ?_))))
 cases args with
 |nil =>
  obtain rfl:=ha.inv_nil;exact EP (M3.own hk) Ac ((y [.ref x] Ad Ac (.cons ra .nil)).later Ah)
 |cons e0 r0 =>
  refine X2lppp T ha.inv λZ Z hn1 Z0 hr1=>CY (.cons hn1 Z0 hr1) (M3.own hk) y Ac ?_;exact λvals avs Ab Ai Ao Ag rl q=>(q (.ref x::vals) Ai Ag (.cons (ra.st Ao Ag) rl)).later (Ah.trans Ao)
end
end
section
variable {S:Sta}
section
variable {N:Addr->Prop}{V V':E0}{v:AV}
theorem View.same:View S N v V v V:=λZ Z hi r=>⟨hi,H2.refl _ _ _ _,r⟩
inductive Froze(V:E0):List Addr->AV->AV->Prop
 |same (v:AV):Froze V [] v v
 |list {a:Addr}{ii:Nat}{l:List AV}:V a=some (.list l)->Froze V [a] (.loc a ii) (.list l)
 |dict {a:Addr}{ii:Nat}{l:List (Al×AV)}:V a=some (.dict l)->Froze V [a] (.loc a ii) (.dict l)
class inductive FrozeF(V:E0):List Addr->List (Str×AV)->List (Str×AV)->Prop
 |nil:FrozeF V [] [] []
 |cons {as bs:List Addr}{n:Str}{v v':AV}{l l':List (Str×AV)}:Froze V as v v'->FrozeF V bs l l'->FrozeF V (as++bs) ((n,v)::l) ((n,v')::l')
noncomputable def E0.dels(V:E0)(as:List Addr):E0:=λb=>if b∈as then aa else V b
theorem CU(h:(V.dels as) b=some o):b∉as/\V b=some o:=by
 unfold E0.dels at h
 by_cases q:b∈as
 .rw[if_pos q]at h;exact nS h
 .rw[if_neg q]at h;exact⟨q,h⟩
theorem Ba(h:a∈as):¬Dom (V.dels as) a:=λd=>d (if_pos h)
theorem Froze.rep(f:Froze V as v v')(hi:Inv S N V s)(z:∀a∈as,a∈al)(st:H2 noO noO V s (V.dels al) s)(r:Rep S.cv s.heap (DN N V) v u):Rep S.cv s.heap (DN N (V.dels al)) v' u:=by
 induction f with
 |same=>exact r.step st (λZ h=>h.elim) (λZ h=>h.elim)
 | @list a U l h =>
  obtain rfl:=r.inv;exact X2pp ((hi.rep a _ h).inv) λvs n e r=>.list e (λd=>d.elim (Ba (z a (.head _))) (hi.σN a (by unfold Dom;rw[h];simp))) (r.step st (λZ h=>h.elim) (λZ h=>h.elim))
 | @dict a U l h =>
  obtain rfl:=r.inv;exact X2pppp ((hi.rep a _ h).inv) λvs n e O y r=>.dict e (λd=>d.elim (Ba (z a (.head _))) (hi.σN a (by unfold Dom;rw[h];simp))) O y (r.step st (λZ h=>h.elim) (λZ h=>h.elim))
theorem FrozeF.rep(hi:Inv S N V s)(st:H2 noO noO V s (V.dels al) s)(f:FrozeF V as fs fs')(z:∀a∈as,a∈al)(r:RepF S.cv s.heap (DN N V) fs es):RepF S.cv s.heap (DN N (V.dels al)) fs' es:=by
 induction f generalizing es with
 |nil=>rw[show es=[] from r.inv];exact .nil
 |cons f Y y =>
  obtain⟨_,_,_,_,rfl,r,rs⟩:=r.inv;exact .cons (f.rep hi (λa h=>z a (aJ.mpr (.inl h))) st r) (y (λa h=>z a (aJ.mpr (.inr h))) rs)
theorem View.inst(h:V x=some (.inst dx))(h':V dx=some (.attrs fs))(f:FrozeF V as fs fs'):View S N (.loc x ii) V (.inst fs') (V.dels (x::dx::as)):=λs u hi r=>by
 refine Aq (hi.drop (V':=V.dels (x::dx::as)) λb o e=>(CU e).2) λi st=>⟨i,st,?_⟩
 ·.obtain rfl:=r.inv
   refine Aq ((hi.rep x _ h).inv) λe nf=>X2pp ((hi.rep dx _ h').inv) λes n y r=>?_;exact .inst e nf y (λd=>d.elim (Ba (.head _)) (hi.σN x (by unfold Dom;rw[h];simp))) (λd=>d.elim (Ba (.tail _ (.head _))) (hi.σN dx (by unfold Dom;rw[h'];simp)))
    (FrozeF.rep hi st f (λa q=>.tail _ (.tail _ q)) r)
end
section
variable {F:Fx S}{m:L1}{V:E0}{X:Value->ag->Prop}{Q:AV->E0->Prop}{C:Addr}
theorem Room.in1(h:Room S N (k+1) A):Room S N k A.in1:=⟨h.hh,h.fr,by have:=h.dp;show A.depth+2 * k<900;exact lin [A.depth,k] [] (.c (.A V0 (.M 2 V1)) GU) [.c (.A V0 (.M 2 (.A V1 K1))) GU] rfl this,by have:=h.un;show A.units+1+20 * k<9000;exact lin [A.units,k] [] (.c (.A (.A V0 K1) (.M 20 V1)) BX) [.c (.A V0 (.M 20 (.A V1 K1))) BX] rfl this⟩
theorem CT.make(hC:Ep S C)(hi:eE S.K (.ref C) "__init__"=some (some (.ref fI)))(hf:isFn S.K (.ref fI)=true)(hk:k+1<=F.k)
  (h:∀x dx,¬Dom V x->¬Dom V dx->x≠dx->M1 S k (.ref fI) (.loc x 0::avs) ((V.set dx (.attrs [])).set x (.inst dx)) (λav Ab=>av=.none/\∀N,∃v' u,View S N (.loc x 0) Ab v' u/\Q v' u) Y):CT F m V (.ref C) avs Q (XF F m Y):=by
 refine λvals s hs rl=>wpAny_call ?_;have e1:s=⟨s.heap,s.gens,s.drawn,s.toks,s.os⟩:=rfl;rw[e1];refine make_core (makes_of (S.X.keeps hs.inv.keep) hC.make) (looks_findIn (S.X.keeps hs.inv.keep) hi) (λd=>bind_fn (S.X.keeps hs.inv.keep) d (beq_iff_eq.mp hf)) (.inl rfl) ?_;generalize hA:F.A.under (.builtin "type.__call__" ⟨.ref C::vals,[]⟩)=A';have fx:s.heap.get? s.heap.objs.size=aa:=AA _;have fy:s.heap.get? (s.heap.objs.size+1)=aa:=by
  cases q:s.heap.get? (s.heap.objs.size+1)with|none=>rfl|some o=>exact absurd (bf q) (cR.mpr (fe _))
 have ne:s.heap.objs.size+1≠s.heap.objs.size:=ir _;have g1:(s.heap.push gz).get? s.heap.objs.size=some (AW #[] 0):=ay _ rfl;refine Aq (hs.inv.new (h':=s.heap.push gz) (Az _ _) s.toks (a:=s.heap.objs.size) fx (o:=.attrs []) (.attrs (es:=[]) g1 .nil)) λi1 st1=>?_;have fz:(s.heap.push gz).get? (s.heap.objs.size+1)=aa:=by
  have:=AA (s.heap.push gz)
  rw[cD]at this;exact this
 have g2:((s.heap.push gz).push (instObj C s.heap.objs.size)).get? (s.heap.objs.size+1)=some (Dp (S.cv B4) s.heap.objs.size):=by
  rw[hC.cv]
  have:=ay (s.heap.push gz) (o:=instObj C s.heap.objs.size) rfl
  rw[cD]at this;exact this
 refine Aq (i1.new (h':=(s.heap.push gz).push (instObj C s.heap.objs.size)) (Az _ _) s.toks (a:=s.heap.objs.size+1) fz (o:=.inst s.heap.objs.size) (.inst g2 ⟨C,hC.cv⟩)) λi2 st2=>?_;have st:=st1.trans st2;have eF:A'.frames=F.A.frames:=by rw[<- hA];rfl
 have eP:∀a,Frm A' a->F.P a:=λa ⟨l,y,U⟩=>⟨l,eF▸y,U⟩;have room:Room S F.N k A':=by
  rw[<- hA];have y:(F.A.under (.builtin "type.__call__" ⟨.ref C::vals,[]⟩)).handled=F.A.handled:=rfl;have U:(F.A.under (.builtin "type.__call__" ⟨.ref C::vals,[]⟩)).depth=F.A.depth+1:=rfl;have h3:(F.A.under (.builtin "type.__call__" ⟨.ref C::vals,[]⟩)).units=F.A.units+1:=rfl;exact⟨y.trans F.room.hh,F.room.fr,by rw[U];have:=F.room.dp;exact lin [k,F.k,F.A.depth] [] (.c (.A (.A V2 K1) (.M 2 V0)) GU) [.B 2 (.A V0 K1) V1,.c (.A V2 (.M 2 V1)) GU] rfl hk this,by rw[h3];have:=F.room.un;exact lin [k,F.k,F.A.units] [] (.c (.A (.A V2 K1) (.M 20 V0)) BX) [.B 20 (.A V0 K1) V1,.c (.A V2 (.M 20 V1)) BX] rfl hk this⟩
 have hc:=h (s.heap.objs.size+1) s.heap.objs.size (hs.inv.not_dom fy) (hs.inv.not_dom fx) ne F.N A' (.ref (s.heap.objs.size+1)::vals) _ room i2 (.cons (.loc _ _) (rl.step st (λZ h=>h.elim) (λZ h=>h.elim)));refine dD hc λr s' z=>?_
 cases r with
 |error e =>
  obtain⟨ea,c,V',Aj,y,U,h3,h4,h5⟩:=z;exact⟨ea,c,V',Aj,y,⟨X2ppp U.fly λbase l q1 q2 q3=>⟨base,l,eF▸q1,q2,q3⟩,U.up,U.rest⟩,hs.to ((st.any (P:=F.P) (O:=noO)).trans (h3.wide eP)) h4 (λZ h=>h),h5⟩
 |ok fl =>
  cases fl with
  |ret v =>
   obtain⟨av,Ab,st3,i3,r3,rfl,hq⟩:=z;obtain rfl:=r3.inv;refine X2pp (hq F.N) λv' u hv hQ=>Bm (hv s' (.ref (s.heap.objs.size+1)) i3 (.loc _ _)) λi4 st4 r4=>?_;have T:H2 F.P noO V s u s':=((st.any (P:=F.P) (O:=noO)).trans (st3.wide eP)).trans st4.any;refine⟨rfl,u,T.mono (λZ h=>h.elim),hs.to T i4 (λZ h=>h),v',r4,hQ⟩
  |_=>exact z.elim
end
end
section
open PySem PyProof.Rows PySem.W PySem.Calls PySem.Spec
variable {prog:dB}{w:World}{S:Sta}
structure ExcK(K:Frag)(C:Addr):Prop where
 get:eE K (.ref C) "__getattribute__"=some (some (.builtin "BaseException.__getattribute__"))
 hook:eE K (.ref C) "__getattr__"=some aa
 dct:(clsIn K C).isSome=true
 fnd:eE K (.ref C) "__class__"=some (some (.builtin "object.__class__"))
 spc:specialIn K (.builtin "object.__class__") "__get__"=some (some (.builtin "getset_descriptor.__get__"))
 tak:takesIn K (.builtin "object.__class__")=some true
 mro:mroIn K C (.type "object")=some true
 sub:subIn K (.ref C) (.type "BaseException")=some true
theorem MD(h:o=some x):o.bind f=f x:=by rw[h];rfl
theorem Go{K:Frag}{C:Addr}{name:Str}{a g:Value}(d:(clsIn K C).isSome=true)(ha:eE K (.ref C) name=some (some a))(Y:specialIn K a "__get__"=some (some g))(ht:takesIn K a=some true):findObj K C aa name=some (.bind g a):=by
 refine X1p (bH.mp d) λB d=>?_;unfold findObj;rw[d,Option.bind_some,ha,Option.bind_some];exact(MD Y).trans (MD ht)
theorem Mg{K:Frag}{e D:Addr}{ox:Obj}{A:cX}{E:Value->ag->Prop}{Q:Option Value->ag->Prop}{s:ag}(x:ExcK K D)(X:K.In s.heap)(I:InstAt s.heap e ox D aa)(h:Q (some (.ref D)) { s with toks:=s.toks+1 }) :
  wpAny (model prog w) A (getAttr? (.ref e) "__class__") Q E s:=by
 have T:findObj K D aa "__class__"=some (.bind (.builtin "getset_descriptor.__get__") (.builtin "object.__class__")):=Go x.dct x.fnd x.spc x.tak;obtain⟨hh,g,d,t,os⟩:=s;have U:=I.type (M:=model prog w);have z:=looks_findIn (M:=model prog w) X x.get;have y:=looks_findIn (M:=model prog w) X x.hook;have L3:=looks_find (M:=model prog w) X I T;have Y:Looks (model prog w) hh (isInstance (.ref e) (.type "BaseException")) true:=U.andThen (looks_subIn X x.sub);unfold getAttr? getAttrBy? getAttrBy;refine ac (wpAny_mkText (ac (eN (bo (ac (U.at (ac (z.at ?_))))))));show wpAny _ _ (if (onTheHeap (bX D) && eh "BaseException.__getattribute__" == eh "object.__getattribute__")=true then _ else getAttrByItsOwn _ _ _ _ _ _) _ _ _;have u:(eh "BaseException.__getattribute__" == eh "object.__getattribute__")=false:=by decide +kernel
 rw[if_neg (by rw[u,Bool.and_false];simp)]
 unfold getAttrByItsOwn hookBefore;rw[if_pos (show onTheHeap (bX D)=true from rfl)]
 refine ac (y.at ?_);unfold callGetattribute;refine ac (eN (bo ?_));rw[if_neg (show ¬(false && onTheHeap (eh "BaseException.__getattribute__"))=true by simp)]
 unfold boundAndCalled;rw[gI.ga.bind (.ref e)];refine ac (ai (wpAny_call (codeAny_call_builtin gI.ga.plain PySem.F.entry_bexc_ga ?_)));have B:builtinKind "BaseException.__getattribute__"=some .slot:=by decide +kernel
 have O:splitId "BaseException.__getattribute__"=some ("BaseException", "__getattribute__"):=by decide +kernel
 have ha:=PySem.F.args_bexc_ga (.ref e) (.str "__class__" t);show wpAny _ _ (checkBuiltinCall "BaseException.__getattribute__" ⟨[.ref e,.str "__class__" t],[]⟩) (λZ Ad=>wpAny _ _ (dH.«object.__getattribute__» ⟨[.ref e,.str "__class__" t],[]⟩) _ _ Ad) _ _;simp only[checkBuiltinCall,B,O];refine ac (Y.at ?_)
 repeat (first|assumption|wp_step)
 refine wpAny_loadPart_at I.at_ ?_;rw[I.cls];refine ai (ac (L3.at ?_));show wpAny _ _ (holding [eh "object.__class__"] (call (.builtin "getset_descriptor.__get__") [.builtin "object.__class__",.ref e,.ref D]) >>= ret) _ _ _;exact ac (bo (wpAny_call (class_get (s:=⟨hh,g,d,t+1,os⟩) (ox:=ox) (od:=aa) X I x.mro (ai (handed_on (show handedIn (bX D)=true from rfl) (ai h))))))
set_option tactic.hygienic true in
theorem kitx_exc{K:Frag}{e D:Addr}(x:ExcK K D):KitX K (.ref e) (.ref D) (λh=>∃ox,InstAt h e ox D aa) where
 ty:=λ_ _ _ ⟨_,I⟩=>I.type
 it:=λZ Z X Z=>by
  refine X1p (bH.mp x.dct) λT Y=>?_;unfold clsIn at Y
  split at Y
  .rename_i c' O u B U
   intro A' Q' E' s' k q;unfold isType loadHead;exact ac (wpAny_loadPart (k _ _ (X _ _ U)) (ai q))
  .exact nS Y
 ne:=λh tp dd d n sl X y=>by
  refine X1p (bH.mp x.dct) λT Y=>cN.mpr λq=>?_;have e:D=tp:=bx (beq_iff_eq.mp q);clear q;subst e;unfold clsIn at Y
  split at Y
  .rename_i c' O u B U
   have z:=(X _ _ U).symm.trans y
   cases z
  .exact nS Y
 ca:=λX ⟨_,I⟩ k=>Mg x X I k
section
variable {F:Fx S}{m:L1}{V:E0}{X:Value->ag->Prop}{Q:AV->E0->Prop}
theorem CT.isx(B:S.cv c=.ref C)(x:ExcK S.K C)(hs:kitOne S.K (S.cv c) (S.cv j)=some b)(h:Q (.bool b) V):CT F m V (.builtin "isinstance") [.exc c,.cls j] Q X:=by
 refine λvals s Y r=>X2lpp vals r.two λv u T z=>?_
 .obtain rfl:=z.inv
  refine X2lppppp v T.inv λa o e U O d n=>?_;have I:InstAt s.heap a o C aa:=⟨e,U.trans B,by obtain⟨⟨vs,q⟩,_⟩:=O;unfold notCls;rw[q],by rw[O.2];trivial⟩
  rw[B]at hs;exact kia_one (kitx_exc x) (S.X.keeps Y.inv.keep) ⟨o,I⟩ hs (by intro q;cases q) λtk=>Bk tk Y (.bool b) h
end
end
section
variable {S:Sta}
structure Wd where
 U:Nat->Bool
 C:Addr
 M:Nat->Option Addr
noncomputable def bvL:List Value:=[.builtin "len",.builtin "isinstance",.type "int",.type "bool",.type "tuple",.type "list",.type "str",.type "dict",.type "range",.type "enumerate",.builtin "sorted",.builtin "sum",.builtin "abs",.builtin "min",.builtin "max",.builtin "all",.builtin "any"]
noncomputable def bv(i:Nat):Value:=(bvL[i]?).getD (.builtin "any")
noncomputable def isBT:Value->Bool
 |.builtin _=>true
 |.type _=>true
 |_=>false
noncomputable def J5(c j:Nat):Bool:=j == 17 || j == 18 || j == c
structure Good(S:Sta)(W:Wd):Prop where
 glob:∀i,W.U i=true->Glob S i (S.cv i)
 bu:∀i,i<17->W.U i=true
 own:∀i,W.U i=true->17<=i->i≠28->M3 S (S.cv i)
 base:∀i,i<17->S.cv i=bv i
 six:∃t,S.cv 28=.int 6 t
 floor:Ep S W.C
 texts:Field S W.C "texts"
 cells:Field S W.C "own"
 exc:∀i,18<=i->i<=27->W.U i=true->∃x C bm nid ini,ixS GT x=some i/\S.cv i=.ref C/\OwnCls x C bm nid S.mg S.g/\ExcBaseFacts "ValueError" nid ini bm
 exk:∀c C,18<=c->c<=27->W.U c=true->S.cv c=.ref C->ExcK S.K C
 sub:∀c j,18<=c->c<=27->W.U c=true->17<=j->j<=27->W.U j=true->exmOne S.K (S.cv c) (S.cv j)=some (J5 c j)/\kitOne S.K (S.cv c) (S.cv j)=some (J5 c j)
 meth:∀n f,W.M n=some f->∃nm,ixS AT nm=some n/\nm ≠ "texts"/\nm ≠ "own"/\eE S.K (.ref W.C) nm=some (some (.ref f))/\isFn S.K (.ref f)=true/\keepIn S.K (.ref f)=true
section
variable {W:Wd}
theorem bv_able(h:i<17):M3 S (bv i):=by
 have:∀i,i<17->isBT (bv i)=true:=by decide
 have:=this i h
 revert this
 cases bv i<;>first|(intro _;exact M3.builtin _)|(intro _;exact M3.type _)|(intro h;exact nF h)
theorem Mv(G:Good S W)(T:W.U i=true)(y:i≠28):M3 S (S.cv i):=by
 by_cases h:i<17
 .rw[G.base i h]
  exact bv_able h
 .exact G.own i T (cR.mp h) y
noncomputable def tyCls:Nat->Option Ty
 |2=>some .int
 |3=>some .bool
 |4=>some .tup
 |5=>some .list
 |6=>some .str
 |7=>some .dict
 |_=>aa
theorem HU(G:Good S W)(z:tyCls j=some u):S.cv j=.type u.name/\u≠.none:=by
 match j,z with
 |2,z|3,z|4,z|5,z|6,z|7,z=>rw[G.base _ (aP rfl)];obtain rfl:=ae z;exact⟨rfl,nofun⟩
noncomputable def fld:Nat->Str
 |11 => "texts"
 |_ => "own"
theorem LY(h:n=11\/n=12):ixS AT (fld n)=some n:=by
 rcases h with rfl|rfl<;>decide +kernel
theorem Good.field{S:Sta}(G:Good S W)(h:n=11\/n=12):Field S W.C (fld n):=by
 rcases h with rfl|rfl
 .exact G.texts
 .exact G.cells
theorem L5{fs:List (Str×AV)}{nm:Str}(h:∀p∈fs,p.1 = "texts"\/p.1 = "own")(Y:nm ≠ "texts")(z:nm ≠ "own"):L6 fs nm=aa:=by
 unfold L6;rw[Option.map_eq_none_iff,List.find?_eq_none];intro p d e;have e:=eq_of_beq e
 rcases h p d with q|q
 .exact Y (by rw[<- e,q])
 .exact z (by rw[<- e,q])
end
section
variable {F:Fx S}{m:L1}{V:E0}{X:Value->ag->Prop}{Q:AV->E0->Prop}
theorem KT.notInStr{Q:Bool->E0->Prop}(h:Q (!Txt.contains x y) V):KT F m V .NotIn (.str y) (.str x) Q X:=by
 exact λY d s hs z T=>X1l Y z.inv λZ=>X1l d T.inv λZ=>SB.notContains ⟨V,H2.refl _ _ _ _,hs,_,rfl,h⟩
theorem CT.clear{ad:Addr}{O:Nat}{l:List AV}(U:V ad=some (.list l))(hz:l.length<=big)(h:Q .none (V.set ad (.list []))):CT F m V (.builtin "list.clear") [.loc ad O] Q X:=by
 refine λvals s hs r=>X1lp vals r.one λv Y=>X3ppp (Y.lst hs.inv (BU U)) λu vs n T e z=>?_;subst T;obtain rfl:=(bx Y.inv).symm;refine call_meets PySem.F.slot_list_clear ⟨_,e,rfl⟩ PySem.F.entry_list_clear (PySem.F.args_list_clear_1 _) (PySem.AutoSeq1.list_clear_list_0 ad vs.toArray n (by rw[aF,z.length];exact AZ hz)) ⟨e,?_⟩
 have B:bt (λZ=>#[]) (AE vs.toArray n)=AE ([]:List Value).toArray (if ((#[]:Array Value).size == vs.toArray.size) then n else n+1):=by
  simp only[bt]
 have y:=bJ (bt λZ=>#[]) e (by rw[B];rfl)
 rw[B]at y;exact Aq (Dz (s':=s) (vs:=[]) hs U (bG ..).extBut y .nil) λd st=>⟨_,st,d,_,.none,h⟩
theorem CL(h:i.natAbs<=2000000):InLong i :=
 ⟨de (by decide:-(2 ^ 63:Int)<=-2000000) (Int.neg_le_of_neg_le (de (Int.le_natAbs (a:=-i)) (by rw[Int.natAbs_neg];exact dY.mpr h))),eX (de Int.le_natAbs (dY.mpr h)) (by decide:(2000000:Int)<2 ^ 63)⟩
theorem CT.sum2(hq:S.hx=aa)(hx:x.natAbs<=1000000)(U:y.natAbs<=1000000)(h:Q (.int (x+y)) V):CT F m V (.builtin "sum") [.tup [.int x,.int y]] Q X:=by
 refine λvals s hs r=>X1lp vals r.one λv ra=>X4lpp v (Rep.spot (k:=(x,y)) ra) λt z T n e d=>?_;have hT:s.heap.IsTuple t #[.int x z,.int y T]:=⟨_,e,rfl,n,rfl⟩;have Y:t≠s.heap.objs.size:=bP (bf e);refine call_sum_walk (wpAny_pyIter_tuple hT ⟨_,_,_,_,_,_,λi=>if i=0 then x else y,rfl,Walks.tuple (A:=F.A.in1) (F.room.quiet hq) s.heap.objs.size t Y #[.int x z,.int y T],⟨⟨_,ay _ rfl,rfl,rfl⟩,hT.push _⟩,?_,?_,?_,λh' tk t' k=>?_⟩)
 .intro b O
  rw[cD];refine J1 b O ?_ λO=>?_
  .exact eH _
  ·
   rw[aD.mp O];exact cP (bf e)
 .intro i v B
  match i,B with
  |0,B=>exact⟨z,(ae B).symm⟩
  |1,B=>exact⟨T,(ae B).symm⟩
  |i+2,B=>exact nS B
 .intro j u
  match j,u with
  |0,_=>exact⟨CL (aw hx (by decide)),by show InLong (0+x);rw[cF];exact CL (aw hx (by decide))⟩
  |1,_=>exact⟨CL (aw U (by decide)),by show InLong (0+x+y);rw[cF];exact CL (aw (Int.natAbs_add_le x y) (Nat.add_le_add hx U))⟩
  |j+2,u=>exact(ef j (d7 (d7 u))).elim
 .refine Aq (hs.grow (h':=h') (λb o eb=>k b o (by simp;exact bP (bf eb)) (ar _ eb)) tk) λh1 st=>?_
  have e2:preSum (λi=>if i=0 then x else y) 2=x+y:=by show 0+x+y=x+y;rw[cF]
  exact⟨V,st.any,h1,_,e2▸.int _ _,h⟩
theorem JF:MO "clear" (Ty.name .list) "list.clear":=⟨dM,PySem.F.slot_list_clear,PySem.F.type_list_clear⟩
theorem CT.min2'(hq:S.hx=aa)(h:Q (.int (min a b)) V):CT F m V (.builtin "min") [.int a,.int b] Q X:=CT.min2 hq (by
 by_cases q:b<a
 .rwa [if_pos q,<- Int.min_eq_right (Int.le_of_lt q)]
 .rwa [if_neg q,<- Int.min_eq_left (fQ.mp q)])
theorem CT.max2'(hq:S.hx=aa)(h:Q (.int (max a b)) V):CT F m V (.builtin "max") [.int a,.int b] Q X:=CT.max2 hq (by
 by_cases q:b > a
 .rwa [if_pos q,<- Int.max_eq_right (Int.le_of_lt q)]
 .rwa [if_neg q,<- Int.max_eq_left (fQ.mp q)])
end
theorem ET.monoX(h:ET F m V e Q X)(k:∀e s,X e s->X' e s):ET F m V e Q X':=λpe d s hs=>aR (h pe d s hs) (λZ Z q=>q) k
theorem TT.monoX(h:TT F m V e Q X)(k:∀e s,X e s->X' e s):TT F m V e Q X':=λpe d s hs=>aR (h pe d s hs) (λZ Z q=>q) k
theorem M7.monoX(h:M7 F m V p e G X)(k:∀e s,X e s->X' e s):M7 F m V p e G X' :=
 λpe t B d s hs=>aR (h pe t B d s hs) (λZ Z Y=>aR Y (λZ Z q=>q) k) k
theorem ET.mu(h:ET F m V e Q X):ET F m V (.mu l e) Q X:=λpe d s hs=>h pe d s hs
theorem TT.mu(h:TT F m V e Q X):TT F m V (.mu l e) Q X:=λpe d s hs=>h pe d s hs
end
section
variable {S:Sta}
set_option genCtorIdx false in
inductive Slot where
 |no
 |at (a:Addr) (o:L4)
noncomputable abbrev Slot.ctorIdx(x:Slot):Nat:=@Slot.casesOn (λ_=>Nat) x 0 (λ_ _=>1)
abbrev LS:=List Slot
noncomputable def Ax:LS->E0
 |[],_=>aa
 |.no::r,b=>Ax r b
 |.at a o::r,b=>if b=a then some o else Ax r b
def okS:LS->Prop
 |[]=>True
 |.no::r=>okS r
 |.at a _::r=>Ax r a=aa/\okS r
noncomputable def slot(V:LS)(i:Nat):Slot:=V.getD i .no
theorem H5(h:slot V i=.at a o):.at a o∈V/\i<V.length:=by
 unfold slot at h
 by_cases q:i<V.length
 .rw[aE,aI q]at h
  exact⟨h▸iw q,q⟩
 .rw[aE,be (cR.mp q)]at h;cases h
theorem FZ:∀{V:LS}{b:Addr}{o:L4},Ax V b=some o->.at b o∈V
 |[],_,_,h=>by exact nS h
 |.no::r,b,o,h=>.tail _ (FZ (V:=r) h)
 |.at c p::r,b,o,h=>by
  unfold Ax at h
  by_cases e:b=c
  .rw[if_pos e]at h;obtain rfl:=ae h;rw[e];exact .head _
  .rw[if_neg e]at h;exact .tail _ (FZ h)
theorem EH:∀{V:LS}{b:Addr}{o:L4},okS V->.at b o∈V->Ax V b=some o
 |.no::r,b,o,k,h=>by
  rcases aA.mp h with q|q
  .cases q
  .exact EH (V:=r) k q
 |.at c p::r,b,o,k,h=>by
  unfold Ax
  rcases aA.mp h with q|q
  .cases q;exact if_pos rfl
  .have z:=EH k.2 q
   by_cases e:b=c
   .rw[e,k.1]at z;exact nS z
   .rwa [if_neg e]
theorem Ay(k:okS V)(h:slot V i=.at a o):Ax V a=some o:=EH k (H5 h).1
def Fits(V:LS)(i:Nat)(s:Slot):Prop:=∀a o,s=.at a o->Ax V a=aa\/∃p,slot V i=.at a p
theorem DO:∀{V:LS}{i:Nat}{s:Slot},okS V->Fits V i s->okS (V.set i s)
 |[],_,_,_,_=>trivial
 |x::r,0,s,k,f=>by
  show okS (s::r);have O:okS r:=by cases x with|no=>exact k|«at» c p=>exact k.2
  cases s with
  |no=>exact O
  |«at» a o =>
   refine⟨?_,O⟩
   rcases f a o rfl with q|⟨p,q⟩
   .cases x with
    |no=>exact q
    |«at» c Y =>
     unfold Ax at q
     by_cases e:a=c
     .rw[if_pos e]at q;exact nS' q
     .rw[if_neg e]at q;exact q
   .have:x=.at a p:=q
    clear f q;subst this;exact k.1
 |x::r,i+1,s,k,f=>by
  show okS (x::r.set i s);have d:okS r->Fits r i s:=λO a o e=>by
   rcases f a o e with q|⟨p,q⟩
   .cases x with
    |no=>exact .inl q
    |«at» c Y =>
     unfold Ax at q
     by_cases e:a=c
     .rw[if_pos e]at q;exact nS' q
     .rw[if_neg e]at q;exact .inl q
   .exact .inr ⟨p,q⟩
  cases x with
  |no=>exact DO (V:=r) k (d k)
  |«at» c p =>
   refine⟨?_,DO k.2 (d k.2)⟩
   cases h:Ax (r.set i s) c with
   |none=>rfl
   |some o =>
    rcases List.mem_or_eq_of_mem_set (FZ h)with q|q
    .have:=EH k.2 q;rw[k.1]at this;exact nS this
    .rcases f c o q.symm with z|⟨Y,z⟩
     .unfold Ax at z;rw[if_pos rfl]at z;exact nS' z
     .have:slot r i=.at c Y:=z
      have:=Ay k.2 this;rw[k.1]at this;exact nS this
theorem Fe(k:okS V)(f:Fits V i (.at a o))(b:Addr)(p:L4)(h:Ax (V.set i (.at a o)) b=some p):((Ax V).set a o) b=some p:=by
 by_cases e:b=a
 .subst e
  rw[E0.set_self]
  by_cases q:i<V.length
  .have:=EH (DO k f) (List.mem_set q (.at b o));rw[h]at this;exact this.symm
  .rw[List.set_eq_of_length_le (cR.mp q)]at h
   rcases f b o rfl with z|⟨Y,z⟩
   .rw[h]at z;exact nS' z
   .exact absurd (H5 z).2 q
 .rw[E0.set_ne _ _ e]
  rcases List.mem_or_eq_of_mem_set (FZ h)with q|q
  .exact EH k q
  .cases q;exact absurd rfl e
theorem De(h:¬Dom (Ax V) a):Ax V a=aa:=eK λq=>h q
abbrev KV:=AV->LS->Prop
abbrev KB:=Bool->LS->Prop
abbrev M:=List (Option AV)
abbrev KS:=Fl->M->LS->Prop
abbrev XL:=Nat->LS->Prop
abbrev BV:XL:=λZ Z=>False
noncomputable def vr(m:M):L1:=λi=>m.getD i aa
def Sub(V:LS)(s:E0):Prop:=∀b o,Ax V b=some o->s b=some o
theorem Sub.rfl:Sub V (Ax V):=λZ Z h=>h
inductive Up{α:Type}(K:α->LS->Prop)(v:α)(s:E0):Prop
 |mk (V:LS)(e:Sub V s)(k:okS V)(h:K v V):Up K v s
inductive UpS(K:KS)(fl:Fl)(m':L1)(s:E0):Prop
 |mk (m:M)(V:LS)(em:m'=vr m)(e:Sub V s)(k:okS V)(h:K fl m V):UpS K fl m' s
noncomputable def Ff:M->Nat->AV->M
 |[],0,a=>[some a]
 |[],n+1,a=>aa::Ff [] n a
 |_::r,0,a=>some a::r
 |x::r,n+1,a=>x::Ff r n a
theorem Iw:(if j=n then a else b)=if j+1=n+1 then a else b:=by
 by_cases e:j=n
 .rw[if_pos e,if_pos (congrArg f6 e)]
 .rw[if_neg e,if_neg λz=>e (fm z)]
theorem Ew:∀(m:M)(i:Nat)(a:AV),vr (Ff m i a)=L1.set (vr m) i a:=by
 intro m i a
 funext j
 unfold vr L1.set
 induction m generalizing i j with
 |nil =>
  induction i generalizing j with
  |zero =>
   cases j with|zero=>exact(if_pos rfl).symm|succ j=>exact(if_neg (fV j)).symm
  |succ n y =>
   cases j with|zero=>exact(if_neg (fV n).symm).symm|succ j=>exact(y j).trans Iw
 |cons x r y =>
  cases i with
  |zero =>
   cases j with|zero=>exact(if_pos rfl).symm|succ j=>exact(if_neg (fV j)).symm
  |succ n =>
   cases j with|zero=>exact(if_neg (fV n).symm).symm|succ j=>exact(y n j).trans Iw
theorem E7(avs:List AV):vr (avs.map some)=En avs:=by
 funext i
 unfold vr En;simp only[aE,a9]
 cases avs[i]?<;>rfl
section
variable {F:Fx S}{m:L1}{V:LS}{s:E0}{X:Value->ag->Prop}
theorem W.less(O:Sub V s)(hs:F.St m s u)(h:F.St m (Ax V) u->W F m (Ax V) u t P X):W F m s u t P X:=by
 exact Aq (hs.drop O) λY st=>(h Y).later st.any
theorem ET.less(O:Sub V s)(h:ET F m (Ax V) e Q X):ET F m s e Q X:=λpe d Z ht=>W.less O ht λY=>h pe d _ Y
theorem TT.less(O:Sub V s)(h:TT F m (Ax V) e Q X):TT F m s e Q X:=λpe d Z ht=>W.less O ht λY=>h pe d _ Y
theorem Rep.less'(O:Sub V s)(hs:F.St m s u)(r:Rep S.cv u.heap (F.D s) av v):Rep S.cv u.heap (F.D (Ax V)) av v:=by
 exact Aq (hs.drop O) λY st=>r.st st.any Y
theorem RepL.less'(O:Sub V s)(hs:F.St m s u)(r:RepL S.cv u.heap (F.D s) av v):RepL S.cv u.heap (F.D (Ax V)) av v:=by
 exact Aq (hs.drop O) λY st=>r.st st.any Y
theorem BT.less(O:Sub V s)(h:BT F m (Ax V) op a b Q X):BT F m s op a b Q X:=λY y u hs U T=>W.less O hs λd=>h Y y u d (U.less' O hs) (T.less' O hs)
theorem KT.less(O:Sub V s)(h:KT F m (Ax V) op a b Q X):KT F m s op a b Q X:=λY y u hs U T=>W.less O hs λd=>h Y y u d (U.less' O hs) (T.less' O hs)
theorem IT.less(O:Sub V s)(h:IT F m (Ax V) a b Q X):IT F m s a b Q X:=λY y u hs B d=>by
 exact Aq (hs.drop O) λh1 st=>X2ppp (h Y y u h1 (B.less' O hs) (d.less' O hs)) λT U h2 h3 z=>⟨T,U,h2,h3,z.later st.any⟩
theorem CT.less(O:Sub V s)(h:CT F m (Ax V) f avs Q X):CT F m s f avs Q X:=λY u hs y=>W.less O hs λT=>h Y u T (y.less' O hs)
end
end
section
noncomputable def ans{α:Type}(lt:Nat->Nat->Bool):KasT α->α
 |.ret a=>a
 |.ask i j k=>ans lt (k (lt i j))
theorem C5(lt:Nat->Nat->Bool)(f:α->KasT β)(t:KasT α):ans lt (t.bind f)=ans lt (f (ans lt t)):=by
 induction t with|ret a=>rfl|ask i j k y=>exact y (lt i j)
def Srt(lt:Nat->Nat->Bool)(p:Array Nat)(k:Nat):Prop:=∀i j,i<j->j<k->lt (p.getD j 0) (p.getD i 0)=false
structure Ord(lt:Nat->Nat->Bool):Prop where
 trans:∀a b c,lt b a=false->lt c b=false->lt c a=false
 up:∀a b c,lt c a=true->lt b a=false->lt c b=true
 irr:∀a,lt a a=false
 asym:∀a b,lt a b=true->¬lt b a=true
theorem Srt.step(o:Ord lt)(h:Srt lt p k)(Y:0<k)(q:lt (p.getD k 0) (p.getD (k - 1) 0)=false):Srt lt p (k+1):=by
 intro i j u y
 by_cases e:j=k
 .clear Y y;subst e
  by_cases B:i=j - 1
  .rwa [B]
  .exact o.trans _ _ _ (h i (j - 1) ((bE B).elim (λz=>lin [i,j - 1] [] (.c V0 V1) [.c V0 V1] rfl z) (λz=>lin [i,j,j - 1] [] (.C 0 V0 V2) [.c V0 V1,.b V1 (.A K1 V2),.c V2 V0] rfl u (au.mp (az ((j) - (1)))) z)) (lin [j - 1,j] [] (.c V0 V1) [.d (.A V0 K1) V1] rfl (aq (lin [i,j] [] (.b K1 V1) [.c V0 V1] rfl u)))) q
 .exact h i j u ((bE e).elim (λz=>lin [j,k] [] (.c V0 V1) [.c V0 V1] rfl z) (λz=>lin [j,k] [] (.C 0 V0 V1) [.c V0 (.A V1 K1),.c V1 V0] rfl y z))
theorem HM(o:Ord lt)(p:Array Nat)(f:Nat):∀n,0<n->Srt lt p n->n<=ans lt (dw p f n)/\ans lt (dw p f n)<=n+f/\Srt lt p (ans lt (dw p f n)):=by
 induction f with
 |zero=>intro n _ h;exact⟨az _,az _,h⟩
 |succ f y =>
  intro n O h;show n<=ans lt (if lt (p.getD n 0) (p.getD (n - 1) 0)=true then .ret n else dw p f (n+1))/\ans lt (if lt (p.getD n 0) (p.getD (n - 1) 0)=true then .ret n else dw p f (n+1))<=n+(f+1)/\Srt lt p (ans lt (if lt (p.getD n 0) (p.getD (n - 1) 0)=true then .ret n else dw p f (n+1)))
  by_cases c:lt (p.getD n 0) (p.getD (n - 1) 0)=true
  .rw[if_pos c];exact⟨az _,dL _ _,h⟩
  .rw[if_neg c]
   exact Bm (y (n+1) (gx _) (h.step o O (cN.mpr c))) λa b d=>⟨lin [n,ans lt (dw p f (n+1))] [] (.b V0 V1) [.b (.A V0 K1) V1] rfl a,lin [ans lt (dw p f (n+1)),n,f] [] (.b V0 (.A V1 (.A V2 K1))) [.b V0 (.A (.A V1 K1) V2)] rfl b,d⟩
theorem place_at(o:Ord lt)(p:Array Nat)(k:Nat)(hs:Srt lt p k)(f:Nat):∀l r,l<=r->r<=k->r - l<=f->(∀i,i<l->lt (p.getD k 0) (p.getD i 0)=false)->(∀i,r<=i->i<k->lt (p.getD k 0) (p.getD i 0)=true) ->
  ans lt (iy p k f l r)<=k/\(∀i,i<ans lt (iy p k f l r)->lt (p.getD k 0) (p.getD i 0)=false)/\(∀i,ans lt (iy p k f l r)<=i->i<k->lt (p.getD k 0) (p.getD i 0)=true):=by
 induction f with
 |zero =>
  intro l r Y U u O y;have e:l=r:=by exact ax (lin [l,r] [] (.b V0 V1) [.b V0 V1] rfl Y) (lin [r - l,r,l] [] (.b V1 V2) [.b V0 K0,.b V1 (.A V2 V0)] rfl u (au.mp (az ((r) - (l)))))
  clear Y u;subst e;exact⟨U,O,y⟩
 |succ f ih =>
  intro l r Y U u O y;unfold iy
  by_cases c:l >= r
  .rw[if_pos c]
   have e:l=r:=by exact ax (lin [l,r] [] (.b V0 V1) [.b V0 V1] rfl Y) (lin [r,l] [] (.b V0 V1) [.b V0 V1] rfl c)
   clear Y u c;subst e;exact⟨U,O,y⟩
  .rw[if_neg c]
   show ans lt (if lt (p.getD k 0) (p.getD ((l+r) / 2) 0)=true then _ else _)<=k/\(∀i,i<ans lt (if lt (p.getD k 0) (p.getD ((l+r) / 2) 0)=true then _ else _)->_)/\(∀i,ans lt (if lt (p.getD k 0) (p.getD ((l+r) / 2) 0)=true then _ else _)<=i->_);have T:l<=(l+r) / 2/\(l+r) / 2<r:=by exact⟨lin [r,l,(l+r) / 2] [] (.B 2 V1 V2) [.i V0 V1,.c (.A V1 V0) (.M 2 (.A V2 K1))] rfl c (Nat.lt_mul_div_succ (l+r) (by decide:0<2)),lin [r,l,(l+r) / 2] [] (.C 2 V2 V0) [.i V0 V1,.b (.M 2 V2) (.A V1 V0)] rfl c (Nat.mul_div_le (l+r) 2)⟩
   generalize (l+r) / 2=m at T
   by_cases q:lt (p.getD k 0) (p.getD m 0)=true
   .rw[if_pos q]
    refine ih l m T.1 (lin [r,k,m] [] (.b V2 V1) [.b V0 V1,.c V2 V0] rfl U T.2) (lin [r - l,f,m,r,l,m - l] [] (.b V5 V1) [.b V0 (.A V1 K1),.c V2 V3,.b V3 (.A V4 V0),.d (.A V5 V4) V2] rfl u T.2 (au.mp (az ((r) - (l)))) (aq (lin [l,m] [] (.b V0 V1) [.b V0 V1] rfl T.1))) O λi h4 h5=>?_
    by_cases e:i=m
    .rwa [e]
    .exact o.up _ _ _ q (hs m i ((bE e).elim (λz=>lin [m,i] [] (.C 0 V0 V1) [.b V0 V1,.c V1 V0] rfl h4 z) (λz=>lin [m,i] [] (.c V0 V1) [.c V0 V1] rfl z)) h5)
   .rw[if_neg q]
    have q:=cN.mpr q;refine ih (m+1) r (lin [m,r] [] (.b (.A V0 K1) V1) [.c V0 V1] rfl T.2) U (lin [r - l,f,l,m,r,r - (m+1)] [] (.b V5 V1) [.b V0 (.A V1 K1),.b V2 V3,.b V4 (.A V2 V0),.d (.A V5 (.A V3 K1)) V4] rfl u T.1 (au.mp (az ((r) - (l)))) (aq (lin [m,r] [] (.b (.A V0 K1) V1) [.c V0 V1] rfl T.2))) (λi h4=>?_) y
    by_cases e:i=m
    .rwa [e]
    .exact o.trans _ _ _ (hs i m ((bE e).elim (λz=>lin [i,m] [] (.c V0 V1) [.c V0 V1] rfl z) (λz=>lin [i,m] [] (.C 0 V0 V1) [.c V0 (.A V1 K1),.c V1 V0] rfl h4 z)) (lin [r,k,m] [] (.c V2 V1) [.b V0 V1,.c V2 V0] rfl U T.2)) q
theorem Ej(B:k<p.size)(Y:l<=k)(i:Nat):(bubble p k (k - l)).getD i 0=if i=l then p.getD k 0 else if l<i/\i<=k then p.getD (i - 1) 0 else p.getD i 0:=by
 have h:=getElem?_bubble B (k - l) (eY _ _) i;rw[show k - (k - l)=l by exact ax (lin [k,l,k - l,k - (k - l)] [] (.b V3 V1) [.b V0 (.A V1 V2),.d (.A V3 V2) V0] rfl (au.mp (az ((k) - (l)))) (aq (lin [k - l,k] [] (.b V0 V1) [.b V0 V1] rfl (eY k l)))) (lin [k,k - l,k - (k - l),l] [] (.b V3 V2) [.b V0 (.A V1 V2),.d (.A V1 V3) V0] rfl (au.mp (az ((k) - (k - l)))) (aq (lin [l,k] [] (.b V0 V1) [.b V0 V1] rfl Y)))]at h
 rw[bq,h,bq,bq,bq]
 split
 .rfl
 .split<;>rfl
theorem bin_srt(o:Ord lt)(f:Nat):∀(p:Array Nat)(k:Nat),k+f<=p.size->Srt lt p k->Srt lt (ans lt (kas_bin f p k)) (k+f)/\(ans lt (kas_bin f p k)).Perm p:=by
 induction f with
 |zero=>intro p k _ h;exact⟨h,.refl _⟩
 |succ f ih =>
  intro p k hk h;unfold kas_bin;rw[C5];refine Bm (place_at o p k h k 0 k (cL _) (az _) (eY _ _) (λi hi=>absurd hi (ef _)) (λi hi T=>absurd T (cR.mpr hi))) λY h2 U=>?_;generalize ans lt (iy p k k 0 k)=l at Y h2 U;have hs:k<p.size:=by exact lin [k,f,p.size] [] (.c V0 V2) [.b (.A V0 (.A V1 K1)) V2] rfl hk
  have key:Srt lt (bubble p k (k - l)) (k+1):=by
   intro i j u y;rw[Ej hs Y,Ej hs Y]
   by_cases a:i=l
   .clear Y h2;subst a
    rw[if_pos rfl,if_neg (by exact λO=>lin [i,j] [] .no [.c V0 V1,.d V1 V0] rfl u O),if_pos (by exact⟨lin [i,j] [] (.c V0 V1) [.c V0 V1] rfl u,lin [j,k] [] (.b V0 V1) [.c V0 (.A V1 K1)] rfl y⟩)]
    have:=U (j - 1) (lin [i,j,j - 1] [] (.b V0 V2) [.c V0 V1,.b V1 (.A K1 V2)] rfl u (au.mp (az ((j) - (1))))) (lin [j,k,j - 1] [] (.c V2 V1) [.c V0 (.A V1 K1),.d (.A V2 K1) V0] rfl y (aq (lin [i,j] [] (.b K1 V1) [.c V0 V1] rfl u)))
    exact cN.mpr λq=>by have z:=o.up _ _ _ this (o.irr _);exact o.asym _ _ z q
   .rw[if_neg a]
    by_cases b:j=l
    .clear Y U a;subst b
     rw[if_pos rfl,if_neg (λO=>lin [i,j] [] .no [.c V0 V1,.c V1 V0] rfl u O.1)];exact h2 i (lin [i,j] [] (.c V0 V1) [.c V0 V1] rfl u)
    .rw[if_neg b]
     by_cases c:l<i
     .rw[if_pos (⟨lin [i,j,l] [] (.c V2 V1) [.c V0 V1,.c V2 V0] rfl u c,lin [j,k] [] (.b V0 V1) [.c V0 (.A V1 K1)] rfl y⟩),if_pos (⟨lin [l,i] [] (.c V0 V1) [.c V0 V1] rfl c,lin [i,j,k] [] (.b V0 V2) [.c V0 V1,.c V1 (.A V2 K1)] rfl u y⟩)]
      exact h (i - 1) (j - 1) (lin [i,j,j - 1,i - 1] [] (.c V3 V2) [.c V0 V1,.b V1 (.A K1 V2),.d (.A V3 K1) V0] rfl u (au.mp (az ((j) - (1)))) (aq (lin [l,i] [] (.b K1 V1) [.c V0 V1] rfl c))) (lin [j,k,j - 1] [] (.c V2 V1) [.c V0 (.A V1 K1),.d (.A V2 K1) V0] rfl y (aq (lin [i,j] [] (.b K1 V1) [.c V0 V1] rfl u)))
     .have ci:¬(l<i/\i<=k):=by exact λO=>lin [l,i] [] .no [.j V0 V1,.c V0 V1] rfl c O.1
      rw[if_neg ci]
      by_cases d:l<j
      .have cj:l<j/\j<=k:=by exact⟨lin [l,j] [] (.c V0 V1) [.c V0 V1] rfl d,lin [j,k] [] (.b V0 V1) [.c V0 (.A V1 K1)] rfl y⟩
       rw[if_pos cj];exact h i (j - 1) ((bE a).elim (λO=>lin [l,j,j - 1,i] [] (.c V3 V2) [.c V0 V1,.b V1 (.A K1 V2),.c V3 V0] rfl d (au.mp (az ((j) - (1)))) O) (λO=>lin [l,i,j - 1] [] (.C 0 V1 V2) [.j V0 V1,.c V0 V1] rfl c O)) (lin [j,k,j - 1] [] (.c V2 V1) [.c V0 (.A V1 K1),.d (.A V2 K1) V0] rfl y (aq (lin [i,j] [] (.b K1 V1) [.c V0 V1] rfl u)))
      .have cj:¬(l<j/\j<=k):=by exact λO=>lin [l,j] [] .no [.j V0 V1,.c V0 V1] rfl d O.1
       rw[if_neg cj];exact h i j u ((bE a).elim (λO=>(bE b).elim (λB=>lin [l,k,j] [] (.c V2 V1) [.b V0 V1,.c V2 V0] rfl Y B) (λB=>lin [l,j,k] [] (.C 0 V1 V2) [.j V0 V1,.c V0 V1] rfl d B)) (λO=>lin [i,j,l,k] [] (.C 0 V1 V3) [.c V0 V1,.j V2 V1,.c V2 V0] rfl u d O))
  exact Aq (ih (bubble p k (k - l)) (k+1) (by rw[bubble_size];exact lin [k,f,p.size] [] (.b (.A (.A V0 K1) V1) V2) [.b (.A V0 (.A V1 K1)) V2] rfl hk) key) λa b=>⟨by rw[show k+(f+1)=k+1+f by exact ax (lin [k,f] [] (.b (.A V0 (.A V1 K1)) (.A (.A V0 K1) V1)) [] rfl) (lin [k,f] [] (.b (.A (.A V0 K1) V1) (.A V0 (.A V1 K1))) [] rfl)];exact a,b.trans (bubble_perm _ _ _)⟩
end
section
theorem H9(z:j<=p.size)(B:k<j):(kas_rev p 0 j).getD k 0=p.getD (j - 1 - k) 0:=by
 have h:=getElem?_mirror_all (xs:=p) (i:=0) z k;rw[if_pos ⟨cL _,B⟩,fB]at h;unfold kas_rev;rw[bq,h,bq]
def Fal(lt:Nat->Nat->Bool)(p:Array Nat)(k:Nat):Prop:=∀i j,i<j->j<k->lt (p.getD i 0) (p.getD j 0)=false
theorem Fal.rev(h:Fal lt p k)(y:k<=p.size):Srt lt (kas_rev p 0 k) k:=by
 intro i j B z;rw[H9 y z,H9 y (Nat.lt_trans B z)];exact h (k - 1 - j) (k - 1 - i) (lin [i,j,k - 1,k - 1 - i,k - 1 - j] [] (.c V4 V3) [.c V0 V1,.b V2 (.A V0 V3),.d (.A V4 V1) V2] rfl B (au.mp (az ((k - 1) - (i)))) (aq (lin [j,k,k - 1] [] (.b V0 V2) [.c V0 V1,.b V1 (.A K1 V2)] rfl z (au.mp (az ((k) - (1))))))) (lin [k - 1 - i,k - 1,k] [] (.c V0 V2) [.b V0 V1,.d (.A V1 K1) V2] rfl (eY (k - 1) i) (aq (lin [j,k] [] (.b K1 V1) [.c V0 V1] rfl z)))
theorem Fal.step(o:Ord lt)(h:Fal lt p k)(U:0<k)(q:lt (p.getD k 0) (p.getD (k - 1) 0)=true):Fal lt p (k+1):=by
 have O:lt (p.getD (k - 1) 0) (p.getD k 0)=false:=cN.mpr (o.asym _ _ q);intro i j u y
 by_cases e:j=k
 .clear U q y;subst e
  by_cases B:i=j - 1
  .rwa [B]
  .exact o.trans _ _ _ O (h i (j - 1) ((bE B).elim (λz=>lin [i,j - 1] [] (.c V0 V1) [.c V0 V1] rfl z) (λz=>lin [i,j,j - 1] [] (.C 0 V0 V2) [.c V0 V1,.b V1 (.A K1 V2),.c V2 V0] rfl u (au.mp (az ((j) - (1)))) z)) (lin [j - 1,j] [] (.c V0 V1) [.d (.A V0 K1) V1] rfl (aq (lin [i,j] [] (.b K1 V1) [.c V0 V1] rfl u))))
 .exact h i j u ((bE e).elim (λz=>lin [j,k] [] (.c V0 V1) [.c V0 V1] rfl z) (λz=>lin [j,k] [] (.C 0 V0 V1) [.c V0 (.A V1 K1),.c V1 V0] rfl y z))
def Dif(lt:Nat->Nat->Bool)(p:Array Nat):Prop:=∀i j,i≠j->i<p.size->j<p.size->lt (p.getD i 0) (p.getD j 0)=true\/lt (p.getD j 0) (p.getD i 0)=true
theorem desc_fal(o:Ord lt)(d:Dif lt p)(f:Nat):∀n,0<n->n+f<=p.size->Fal lt p n->∃Y,ans lt (kas_desc f p n 0)=(p,Y,0)/\n<=Y/\Y<=n+f/\Fal lt p Y:=by
 induction f with
 |zero=>intro n _ _ h;exact⟨n,rfl,az _,az _,h⟩
 |succ f y =>
  intro n O hz h
  by_cases c:lt (p.getD n 0) (p.getD (n - 1) 0)=true
  .refine X1pppp (y (n+1) (gx _) (lin [n,f,p.size] [] (.b (.A (.A V0 K1) V1) V2) [.b (.A V0 (.A V1 K1)) V2] rfl hz) (h.step o O c)) λY e a b q=>⟨Y,?_,lin [n,Y] [] (.b V0 V1) [.b (.A V0 K1) V1] rfl a,lin [Y,n,f] [] (.b V0 (.A V1 (.A V2 K1))) [.b V0 (.A (.A V1 K1) V2)] rfl b,q⟩
   show ans lt (if lt (p.getD n 0) (p.getD (n - 1) 0)=true then (if 0 > 0 then _ else kas_desc f p (n+1) 0) else _)=_;rw[if_pos c,if_neg (by decide)]
   exact e
  .refine⟨n,?_,az _,dL _ _,h⟩
   show ans lt (if lt (p.getD n 0) (p.getD (n - 1) 0)=true then _ else KasT.ask (p.getD (n - 1) 0) (p.getD n 0) λd=>if d=true then .ret (p,n,0) else _)=_;rw[if_neg c];show ans lt (if lt (p.getD (n - 1) 0) (p.getD n 0)=true then .ret (p,n,0) else _)=_;rw[if_pos ((d (n - 1) n (λz=>lin [n - 1,n] [] .no [.D (-1) V0 V1,.d (.A V0 K1) V1] rfl z (aq (lin [n] [] (.b K1 V0) [.c K0 V0] rfl O))) (lin [n,f,p.size,n - 1] [] (.c V3 V2) [.b (.A V0 (.A V1 K1)) V2,.b V3 V0] rfl hz (eY n (1))) (lin [n,f,p.size] [] (.c V0 V2) [.b (.A V0 (.A V1 K1)) V2] rfl hz)).resolve_right c)]
   rfl
theorem Mo(o:Ord lt)(d:Dif lt p)(U:2<=p.size):1<=(ans lt (fW p.size p)).1/\(ans lt (fW p.size p)).1<=p.size/\Srt lt (ans lt (fW p.size p)).2 (ans lt (fW p.size p)).1/\(ans lt (fW p.size p)).2.Perm p:=by
 unfold fW;rw[C5];obtain⟨a,b,c⟩:=HM o p (p.size - 1) 1 Nat.one_pos (λi j u U=>by omega)
 by_cases B:ans lt (dw p (p.size - 1) 1)=1
 .rw[B]
  have q:lt (p.getD 1 0) (p.getD 0 0)=true:=by
   refine eK λq=>?_
   have:ans lt (dw p (p.size - 1) 1)=ans lt (dw p (p.size - 2) 2):=by
    rw[show p.size - 1=(p.size - 2)+1 by exact ax (lin [p.size,p.size - 2,p.size - 1] [] (.b V2 (.A V1 K1)) [.b V0 (.A K2 V1),.d (.A V2 K1) V0] rfl (au.mp (az ((p.size) - (2)))) (aq (lin [p.size] [] (.b K1 V0) [.b K2 V0] rfl U))) (lin [p.size,p.size - 1,p.size - 2] [] (.b (.A V2 K1) V1) [.b V0 (.A K1 V1),.d (.A V2 K2) V0] rfl (au.mp (az ((p.size) - (1)))) (aq (lin [p.size] [] (.b K2 V0) [.b K2 V0] rfl U)))]
    show ans lt (if lt (p.getD 1 0) (p.getD 0 0)=true then _ else _)=_;rw[if_neg q]
   have z:=(HM o p (p.size - 2) 2 (lin [] [] (.c K0 K2) [] rfl) (λi j u U=>by
    have e:i=0/\j=1:=by exact⟨ax (lin [i,j] [] (.b V0 K0) [.c V0 V1,.c V1 K2] rfl u U) (lin [i] [] (.b K0 V0) [] rfl),ax (lin [j] [] (.b V0 K1) [.c V0 K2] rfl U) (lin [i,j] [] (.b K1 V1) [.c V0 V1] rfl u)⟩
    rw[e.1,e.2];exact cN.mpr q)).1
   exact lin [ans lt (dw p (p.size - 1) 1),ans lt (dw p (p.size - 2) 2)] [] .no [.d V0 K1,.D (-1) V0 V1,.b K2 V1] rfl B this z
  rw[if_neg (by simp;exact λO=>lin [p.size] [] .no [.b K2 V0,.D (-1) K1 V0] rfl U O),if_neg (by decide)]
  unfold kas_descPart;rw[C5];obtain⟨Y,e,h3,h4,fl⟩:=desc_fal o d (p.size - 2) 2 (lin [] [] (.c K0 K2) [] rfl) (lin [p.size - 2,p.size] [] (.b (.A K2 V0) V1) [.d (.A V0 K2) V1] rfl (aq (lin [p.size] [] (.b K2 V0) [.b K2 V0] rfl U))) (λi j u U=>by
   have e:i=0/\j=1:=by exact⟨ax (lin [i,j] [] (.b V0 K0) [.c V0 V1,.c V1 K2] rfl u U) (lin [i] [] (.b K0 V0) [] rfl),ax (lin [j] [] (.b V0 K1) [.c V0 K2] rfl U) (lin [i,j] [] (.b K1 V1) [.c V0 V1] rfl u)⟩
   rw[e.1,e.2];exact cN.mpr (o.asym _ _ q))
  rw[e];dsimp only;rw[if_neg (by decide)]
  unfold kas_tail3;rw[C5];exact Bm (HM o (kas_rev p 0 Y) (p.size - Y) Y (lin [Y] [] (.c K0 V0) [.b K2 V0] rfl h3) (fl.rev (lin [Y,p.size - 2,p.size] [] (.b V0 V2) [.b V0 (.A K2 V1),.d (.A V1 K2) V2] rfl h4 (aq (lin [p.size] [] (.b K2 V0) [.b K2 V0] rfl U))))) λx y z=>⟨by show 1<=ans lt (dw _ _ _);exact lin [Y,ans lt (dw (kas_rev p 0 Y) (p.size - Y) Y)] [] (.b K1 V1) [.b K2 V0,.b V0 V1] rfl h3 x,by show ans lt (dw _ _ _)<=_;exact lin [ans lt (dw (kas_rev p 0 Y) (p.size - Y) Y),Y,p.size - Y,p.size] [] (.b V0 V3) [.b V0 (.A V1 V2),.d (.A V2 V1) V3] rfl y (aq (lin [Y,p.size - 2,p.size] [] (.b V0 V2) [.b V0 (.A K2 V1),.d (.A V1 K2) V2] rfl h4 (aq (lin [p.size] [] (.b K2 V0) [.b K2 V0] rfl U)))),z,f8 _ _ _ _⟩
 .generalize hn:ans lt (dw p (p.size - 1) 1)=n at a b c B
  by_cases e2:n=p.size
  .rw[if_pos (by rw[e2];simp)]
   exact⟨a,by show n<=_;exact lin [n,p.size] [] (.b V0 V1) [.d V0 V1] rfl e2,c,.refl _⟩
  .rw[if_neg (by simp;exact e2),if_pos (by exact(bE B).elim (λO=>lin [n] [] (.C 0 K1 V0) [.b K1 V0,.c V0 K1] rfl a O) (λO=>lin [n] [] (.c K1 V0) [.c K1 V0] rfl O))]
   show 1<=(ans lt (if lt (p.getD 0 0) (p.getD (n - 1) 0)=true then .ret (n,p) else _)).1/\(ans lt (if lt (p.getD 0 0) (p.getD (n - 1) 0)=true then .ret (n,p) else _)).1<=_/\Srt lt (ans lt (if lt (p.getD 0 0) (p.getD (n - 1) 0)=true then .ret (n,p) else _)).2 (ans lt (if lt (p.getD 0 0) (p.getD (n - 1) 0)=true then .ret (n,p) else _)).1/\(ans lt (if lt (p.getD 0 0) (p.getD (n - 1) 0)=true then .ret (n,p) else _)).2.Perm p;have hc:lt (p.getD 0 0) (p.getD (n - 1) 0)=true:=(d 0 (n - 1) (λO=>(bE B).elim (λT=>lin [n] [] .no [.b K1 V0,.c V0 K1] rfl a T) (λT=>lin [n - 1,n] [] .no [.D (-1) K0 V0,.b V1 (.A K1 V0),.c K1 V1] rfl O (au.mp (az ((n) - (1)))) T)) (lin [p.size] [] (.c K0 V0) [.b K2 V0] rfl U) (lin [n,p.size - 1,p.size,n - 1] [] (.c V3 V2) [.b V0 (.A K1 V1),.d (.A V1 K1) V2,.d (.A V3 K1) V0] rfl b (aq (lin [p.size] [] (.b K1 V0) [.b K2 V0] rfl U)) (aq (lin [n] [] (.b K1 V0) [.b K1 V0] rfl a)))).resolve_right λq=>by
    have:=c 0 (n - 1) ((bE B).elim (λO=>lin [n,n - 1] [] (.C 0 K0 V1) [.b K1 V0,.c V0 K1] rfl a O) (λO=>lin [n,n - 1] [] (.c K0 V1) [.b V0 (.A K1 V1),.c K1 V0] rfl (au.mp (az ((n) - (1)))) O)) (lin [n - 1,n] [] (.c V0 V1) [.d (.A V0 K1) V1] rfl (aq (lin [n] [] (.b K1 V0) [.b K1 V0] rfl a)))
    rw[q]at this;exact nT this
   rw[if_pos hc];exact⟨a,by show n<=_;exact lin [n,p.size - 1,p.size] [] (.b V0 V2) [.b V0 (.A K1 V1),.d (.A V1 K1) V2] rfl b (aq (lin [p.size] [] (.b K1 V0) [.b K2 V0] rfl U)),c,.refl _⟩
end
section
theorem sort_srt(o:Ord lt)(U:2<=n)(d:∀i j,i≠j->i<n->j<n->lt i j=true\/lt j i=true):Srt lt (ans lt (f9 n)) n/\(ans lt (f9 n)).Perm (aB (br n)):=by
 have hz:(aB (br n)).size=n:=by simp
 have O:∀i,i<n->(aB (br n)).getD i 0=i:=λi hi=>by
  rw[bq];simp[hi]
 have dd:Dif lt (aB (br n)):=λi j T hi z=>by
  rw[hz]at hi z;rw[O i hi,O j z];exact d i j T hi z
 have k:=Mo o dd (by rwa [hz])
 rw[hz]at k;unfold f9;rw[C5];generalize ans lt (fW n (aB (br n)))=r at k;obtain⟨m,p⟩:=r;refine Bt k λa b c e=>?_;dsimp only at a b c e ⊢;have u:p.size=n:=by rw[e.size_eq,hz]
 by_cases q:m<n
 .rw[if_pos q,show max m 1=m by exact ax (lin [max m 1,m] [] (.b V0 V1) [.d V0 V1] rfl (Nat.max_eq_left (lin [m] [] (.b K1 V0) [.b K1 V0] rfl a))) (lin [m,max m 1] [] (.b V0 V1) [.b V0 V1] rfl (Nat.le_max_left m (1)))]
  exact Aq (bin_srt o (n - m) p m (lin [p.size,n,n - m,m] [] (.b (.A V3 V2) V0) [.D (-1) V0 V1,.d (.A V2 V3) V1] rfl u (aq (lin [m,n] [] (.b V0 V1) [.c V0 V1] rfl q))) c) λx y=>⟨by rw[show m+(n - m)=n by exact ax (lin [n - m,m,n] [] (.b (.A V1 V0) V2) [.d (.A V0 V1) V2] rfl (aq (lin [m,n] [] (.b V0 V1) [.c V0 V1] rfl q))) (lin [n,m,n - m] [] (.b V0 (.A V1 V2)) [.b V0 (.A V1 V2)] rfl (au.mp (az ((n) - (m)))))]at x;exact x,y.trans e⟩
 .rw[if_neg q]
  have:m=n:=by exact ax (lin [m,n] [] (.b V0 V1) [.b V0 V1] rfl b) (lin [m,n] [] (.b V1 V0) [.j V0 V1] rfl q)
  clear U d hz O dd k b u q;subst this;exact⟨c,e⟩
end
section
open PySem PySem.W PySem.Calls PyProof.Rows
section
variable {prog:dB}{w:World}{A:cX}{E:Value->ag->Prop}{s:ag}{kS D:Addr}{ks:List Value}
theorem Ko{st:SortSt}{e u:Nat}{out:List Value}{P:PySem.Fin->ag->Prop}(B:s.heap.get? kS=some (cp "list" (aB ks) e))(hd:s.heap.get? D=some (cp "list" #[] u))(d:D≠kS)
  (U:(arrOf st).map (·.2)=aB out) (hz:out.length<64) (O:ks.length<64) (hf:failedOf st=none)
  (h:∀h' c,(∀b o,b≠kS->b≠D->s.heap.get? b=some o->h'.get? b=some o)->(∃c',h'.get? kS=some (cp "list" #[] c'))->h'.get? D=some (cp "list" (aB out) c)->P (.done (.ret .none)) { s with heap:=h' }):wpAny (model prog w) A (ksk_tail D false u (.ref kS) st) P E s:=by
 have T:=bG s.heap kS (bt λZ=>(#[]:Array Value));obtain⟨ck,hck⟩:∃ck,(s.heap.update kS (bt λZ=>(#[]:Array Value))).get? kS=some (cp "list" #[] ck):=⟨_,gl B λZ=>#[]⟩;have y:=T.extBut D _ d hd;have z:=bG (s.heap.update kS (bt λZ=>(#[]:Array Value))) D (bt λZ=>aB out);obtain⟨c2,hc2⟩:∃c2,((s.heap.update kS (bt λZ=>(#[]:Array Value))).update D (bt λZ=>aB out)).get? D=some (cp "list" (aB out) c2):=⟨_,gl y λZ=>aB out⟩;have Y:(aB out).size=out.length:=aF;unfold ksk_tail
 try dsimp only
 rw[U];refine ac (ik B rfl ?_ (by rw[aF,dW];exact lin [ks.length] [] (.b V0 A6) [.c V0 K64] rfl O) (cL _))
 refine ac (wpAny_letGo (ac (seqEpoch_at y rfl (ac (ik y rfl ?_ (cL _) (aw (dE Y) (by rw[dW];exact lin [out.length] [] (.b V0 (.A A6 K1)) [.c V0 K64] rfl hz)))))))
 rw[hf];simp only[bne_self_eq_false,cg,if_false];exact ai (h _ c2 (λb o b1 b2 e=>z.extBut b o b2 (T.extBut b o b1 e)) ⟨ck,z.extBut _ _ (dC d) hck⟩ hc2)
def SkFin(kS D:Addr)(ks vs:List Value)(e e1:Nat)(P:PySem.Fin->ag->Prop)(p:Array Nat)(s:ag):Prop :=
 s.heap.get? kS=some (cp "list" (aB ks) e)/\s.heap.get? D=some (cp "list" #[] e1)/\∀h' c,(∀b o,b≠kS->b≠D->s.heap.get? b=some o->h'.get? b=some o)->(∃c',h'.get? kS=some (cp "list" #[] c')) ->
  h'.get? D=some (cp "list" (aB (p.toList.map λi=>vs.getD i bA)) c)->P (.done (.ret .none)) { s with heap:=h' }
def HQ(prog:dB)(w:World)(A:cX)(kS D:Addr)(ks vs:List Value)(e e1:Nat)(P:PySem.Fin->ag->Prop)(s:ag):Prop :=
 if vs.length<2 then SkFin kS D ks vs e e1 P (br vs.length).toArray s else wpAny (model prog w) A (keyKind' (aB ks)) (λκ s'=>(f9 vs.length).kasWp (kas_ask prog w A κ ks) (SkFin kS D ks vs e e1 P) s') (λZ Z=>False) s
theorem sk_end(B:D≠kS)(Y:ks.length=vs.length)(u:vs.length<64)
  (h:HQ prog w A kS D ks vs e O P s) :
  wpAny (model prog w) A (ksk_end D false vs.toArray O (.ref kS) (aB ks)) P E s:=by
 unfold HQ at h
 by_cases U:vs.length<2
 .rw[if_pos U]at h
  have T:vs.toArray.size<2:=by rwa [aF]
  unfold ksk_end
  try dsimp only
  simp only[cg,if_false];rw[if_pos T,if_pos T];refine ac (ai (ac (ai ?_)))
  try dsimp only
  refine Bm h λf1 f2 f3=>Ko f1 f2 B ?_ (by simp;exact lin [vs.length] [] (.c V0 K64) [.c V0 K64] rfl u) (lin [ks.length,vs.length] [] (.c V0 K64) [.d V0 V1,.c V1 K64] rfl Y u) rfl f3
  have O:(((aB ks).zip (aB vs)).map (·.2)).toList=vs:=by
   rw[Array.toList_map,Array.toList_zip];exact List.map_snd_zip (dE Y.symm)
  have e2:((br vs.length).map λi=>vs.getD i bA)=vs:=by
   apply eu;intro i
   by_cases z:i<vs.length
   .simp[z]
   .simp[z]
  rw[List.toList_toArray,e2];exact(congrArg aB O)
 rw[if_neg U]at h;have U:2<=vs.length:=cR.mp U;have T:¬vs.toArray.size<2:=by rw[aF];exact lin [vs.length] [] (.j V0 K2) [.b K2 V0] rfl U
 unfold ksk_end
 try dsimp only
 simp only[cg,if_false];rw[if_neg T,if_neg T];refine ac (aR h (λκ s0 hk=>?_) λZ Z x=>x.elim)
 refine ac (aR (kat_run (ks:=ks) (vs:=vs) (Q:=λy s'=>∃p:Array Nat,p.size=vs.length/\arrOf y=p.map (kas_item ((aB ks).zip (aB vs)))/\failedOf y=none/\SkFin kS D ks vs e O P p s')
  Y U u (λp' y s' a1 a2 a3 a4=>⟨p',a1,a2,a3,a4⟩) hk) ?_ λZ Z x=>x)
 intro hR1 s' hR2;obtain⟨⟨⟩,y⟩:=hR1;refine X1pppppp hR2 λp hp har hf f1 f2 f3=>?_
 try dsimp only
 exact Ko f1 f2 B (kat_snds Y har) (by rwa [aj,gu,hp]) (lin [ks.length,vs.length] [] (.c V0 K64) [.d V0 V1,.c V1 K64] rfl Y u) hf f3
def SkKeys(prog:dB)(w:World)(A:cX)(kS:Addr)(f:Value)(Fin:List Value->Nat->ag->Prop):List Value->List Value->Nat->ag->Prop
 |[],ks,e,s=>Fin ks e s
 |v::r,ks,e,s=>wpAny (model prog w) A (call f [v]) (λk s'=>s'.heap.get? kS=some (cp "list" (aB ks) e)/\∀h' c,di kS s'.heap h'->h'.get? kS=some (cp "list" (aB (ks++[k])) c)->SkKeys prog w A kS f Fin r (ks++[k]) c { s' with heap:=h' }) (λZ Z=>False) s
theorem sk_fold{T:List Value->Nat->ag->Prop}{n:Nat}{body:Value->PUnit->Sem (ForInStep PUnit)}(O:n<64)
  (u:∀x ks e (s:ag) (C:Value->Nat->ag->Prop),bU ks<64->wpAny (model prog w) A (call f [x]) (λk s'=>s'.heap.get? kS=some (cp "list" (aB ks) e)/\∀h' c,di kS s'.heap h'->h'.get? kS=some (cp "list" (aB (ks++[k])) c)->C k c { s' with heap:=h' }) (λZ Z=>False) s ->
   wpAny (model prog w) A (body x ⟨⟩) (λr s'=>r=.yield ⟨⟩/\∃k c,s'.heap.get? kS=some (cp "list" (aB (ks++[k])) c)/\C k c s') E s) (r:List Value):∀(ks:List Value)(e:Nat)(s:ag),ks.length+r.length=n ->
   s.heap.get? kS=some (cp "list" (aB ks) e)->SkKeys prog w A kS f T r ks e s ->
   wpAny (model prog w) A (forIn r PUnit.unit body) (λZ s'=>∃ks e,s'.heap.get? kS=some (cp "list" (aB ks) e)/\ks.length=n/\T ks e s') E s:=by
 induction r with
 |nil =>
  intro ks e s Y B h;rw[List.forIn_nil];exact ai ⟨ks,e,B,by simpa using Y,h⟩
 |cons x r y =>
  intro ks e s Y B h;rw[aL]at Y;rw[d9];refine ac (aR (u x ks e s (λk c s'=>SkKeys prog w A kS f T r (ks++[k]) c s') (lin [n,ks.length,r.length] [] (.c V1 K64) [.c V0 K64,.d (.A V1 (.A V2 K1)) V0] rfl O Y) h) (λq s' hq=>(X0lp q hq λZ0=>(X2pp Z0 λk c z U=>?_))) λZ Z x=>x);show wpAny (model prog w) A (forIn r PUnit.unit body) _ E s';exact y (ks++[k]) c s' (by rw[an,bz];exact ax (lin [ks.length,r.length,n] [] (.b (.A (.A V0 K1) V1) V2) [.d (.A V0 (.A V1 K1)) V2] rfl Y) (lin [ks.length,r.length,n] [] (.b V2 (.A (.A V0 K1) V1)) [.D (-1) (.A V0 (.A V1 K1)) V2] rfl Y)) z U
theorem sk_rest(d:D≠kS)(O:s.heap.get? kS=some (cp "list" #[] 0))(u:vs.length<64)
  (h:SkKeys prog w A kS f (λks e s'=>HQ prog w A kS D ks vs e e1 P s') vs [] 0 s) :
  wpAny (model prog w) A (ksk_rest D f false vs.toArray e1 (.ref kS)) P E s:=by
 unfold ksk_rest;refine ac (fR ?_)
 first
  |rw[List.forIn_toArray]
  |(rw[<- gJ];simp only[List.toList_toArray])
  |rw[<- gJ]
 refine ac (aR (sk_fold (kS:=kS) u (λx ks e s' C hz Y=>?_) vs [] 0 s (by simp) O h) (λZ s' hd=>?_) λZ Z x=>x)
 .refine ac (eN (aR Y (λk B O=>(Aq O λU c=>?_)) λZ Z hF=>hF.elim))
  have y:=bG B.heap kS (bt (·.push k));have ea:(aB ks).push k=aB (ks++[k]):=by simp
  obtain⟨c2,hc2⟩:∃c2,(B.heap.update kS (bt (·.push k))).get? kS=some (cp "list" (aB (ks++[k])) c2):=⟨_,by rw[<- ea];exact gl U (·.push k)⟩
  try dsimp only
  refine ac (ik U rfl ?_ (by rw[aF,dW];exact lin [ks.length] [] (.b V0 A6) [.c V0 K64] rfl hz) (aw (dE (Array.size_push ..)) (by rw[aF,dW];exact lin [ks.length] [] (.b (.A V0 K1) (.A A6 K1)) [.c V0 K64] rfl hz)))
  exact ai ⟨rfl,k,c2,hc2,c _ c2 y.extBut hc2⟩
 .refine X2ppp hd λks e z hl T=>?_
  try dsimp only
  exact ac (listItems_at z rfl (sk_end d hl u T))
theorem sk_keyed(T:s.heap.get? D=some (cp "list" vs.toArray n))(u:vs.length<64)
  (h:∀kS e1 h',D≠kS->s.heap.get? kS=none->di D s.heap h'->h'.get? D=some (cp "list" #[] e1)->h'.get? kS=some (cp "list" #[] 0) ->
   SkKeys prog w A kS f (λks e s'=>HQ prog w A kS D ks vs e e1 P s') vs [] 0 { s with heap:=h' }) :
  wpAny (model prog w) A (ksk_tree D f false) P E s:=by
 have ha:D<s.heap.objs.size:=bf T;have Y:=bG s.heap D (bt λZ=>(#[]:Array Value));obtain⟨e1,ho1⟩:∃e1,(s.heap.update D (bt λZ=>(#[]:Array Value))).get? D=some (cp "list" #[] e1):=⟨_,gl T λZ=>#[]⟩;have U:((s.heap.update D (bt λZ=>(#[]:Array Value))).push (cp "tuple" vs.toArray 0)).objs.size=s.heap.objs.size+1:=by rw[size_push',Heap.size_update]
 have O:D≠((s.heap.update D (bt λZ=>(#[]:Array Value))).push (cp "tuple" vs.toArray 0)).objs.size:=by rw[U];exact bP (cP ha)
 unfold ksk_tree;refine ac (listItems_at T rfl (ac (ik T rfl ?_ (by rw[aF,dW];exact lin [vs.length] [] (.b V0 A6) [.c V0 K64] rfl u) (cL _))))
 refine ac (seqEpoch_at ho1 rfl (ac (wpAny_newTuple ?_ (by show vs.length<=_;rw[dW];exact lin [vs.length] [] (.b V0 A6) [.c V0 K64] rfl u))))
 refine ac (wpAny_newList (bo ?_) (cL _));refine sk_rest (s:={ s with heap:=((s.heap.update D (bt λZ=>(#[]:Array Value))).push (cp "tuple" vs.toArray 0)).push (cp "list" #[] 0) }) (kS:=((s.heap.update D (bt λZ=>(#[]:Array Value))).push (cp "tuple" vs.toArray 0)).objs.size)
  O (ay _ rfl) u (h _ e1 _ O (Heap.get?_none_of_le (by rw[U];exact fe _)) (λb o z e=>ar _ (ar _ (Y.extBut b o z e))) (ar _ (ar _ ho1)) (ay _ rfl))
end
end
section
open PySem PySem.W PySem.Calls PyProof.Rows
section
variable {prog:dB}{w:World}{A:cX}{E:Value->ag->Prop}{s:ag}{kS D:Addr}{ks:List Value}
theorem SkFin.mono(h:SkFin kS D ks vs e e1 P p s)(k:∀s,P (.done (.ret .none)) s->P' (.done (.ret .none)) s):SkFin kS D ks vs e e1 P' p s :=
 ⟨h.1,h.2.1,λh' c a b d=>k _ (h.2.2 h' c a b d)⟩
theorem SkKeys.mono{T O:List Value->Nat->ag->Prop}(r:List Value):∀{ks:List Value}{e:Nat}{s:ag},SkKeys prog w A kS f T r ks e s ->
  (∀d y s',d.length=ks.length+r.length->T d y s'->O d y s')->SkKeys prog w A kS f O r ks e s:=by
 induction r with
 |nil=>intro ks e s h U;exact U ks e s rfl h
 |cons v r Y =>
  intro ks e s h U;refine aR h (λk s' z=>⟨z.1,λh' c a b=>Y (z.2 h' c a b) λd y B u=>U d y B ?_⟩) λZ Z x=>x;rw[u,an,bz,aL];exact ax (lin [ks.length,r.length] [] (.b (.A (.A V0 K1) V1) (.A V0 (.A V1 K1))) [] rfl) (lin [ks.length,r.length] [] (.b (.A V0 (.A V1 K1)) (.A (.A V0 K1) V1)) [] rfl)
theorem Kp(hl:s.heap.IsList l vs.toArray)(u:vs.length<64)(ht:∀x,dH.«list.sort» ⟨[.ref x],[(bW "key",f)]⟩=ksk_tree x f false)
  (h:∀D kS B h',D≠kS->s.heap.get? D=none->s.heap.get? kS=none->(∀b o,s.heap.get? b=some o->h'.get? b=some o)->h'.get? D=some (cp "list" #[] B)->h'.get? kS=some (cp "list" #[] 0) ->
   SkKeys prog w A.in1.in1 kS f (λks e s'=>HQ prog w A.in1.in1 kS D ks vs e B (λZ T=>Q (.ref D) T) s') vs [] 0 { s with heap:=h' }) :
  wpAny (model prog w) A (call (.builtin "sorted") [.ref l] [(bW "key",f)]) Q E s:=by
 refine call_function_entry_kw kind_sorted plain_sorted entry_sorted (ksk_s1 _ _) ?_;unfold dH.«sorted»;refine ac (m:=checkCount "sorted" 1 1 _) (ai (ac (collect_list hl ?_ (by rw[dW];exact lin [vs.length] [] (.b V0 A6) [.c V0 K64] rfl u))))
 refine ac (wpAny_newList ?_ (by rw[dW];exact lin [vs.length] [] (.b V0 A6) [.c V0 K64] rfl u))
 have Y:((s.heap.push (cp "list" #[] 0)).update s.heap.objs.size (bt (·++vs.toArray))).objs.size=s.heap.objs.size+1:=by
  rw[Heap.size_update,size_push']
 have z:(((s.heap.push (cp "list" #[] 0)).update s.heap.objs.size (bt (·++vs.toArray))).push (cp "list" vs.toArray 0)).get? (s.heap.objs.size+1)=some (cp "list" vs.toArray 0):=by
  rw[<- Y];exact ay _ rfl
 have y:∀b o,s.heap.get? b=some o->(((s.heap.push (cp "list" #[] 0)).update s.heap.objs.size (bt (·++vs.toArray))).push (cp "list" vs.toArray 0)).get? b=some o:=λb o q=>by
  have U:b<s.heap.objs.size:=bf q;rw[Heap.get?_push_ne _ _ _ (by rw[Y];exact bP (cP U)),Heap.get?_update_ne _ _ _ _ (bP U),Heap.get?_push_ne _ _ _ (bP U)]
  exact q
 show wpAny _ _ _ _ _ { s with heap:=((s.heap.push (cp "list" #[] 0)).update s.heap.objs.size (bt (·++vs.toArray))).push (cp "list" vs.toArray 0) }
 rw[Y];refine ac (bo (wpAny_call_entry_kw slot_list_sort ⟨_,z,rfl⟩ entry_list_sort ?body (ksk_l1 _ _)))
 case body =>
  show wpAny (model prog w) A.in1.in1 (dH.«list.sort» ⟨[.ref (s.heap.objs.size+1)],[(bW "key",f)]⟩) _ _ _;rw[ht];refine sk_keyed (s:={ s with heap:=((s.heap.push (cp "list" #[] 0)).update s.heap.objs.size (bt (·++vs.toArray))).push (cp "list" vs.toArray 0) }) z u λkS B h' a1 a2 a3 a4 a5=>?_
  have nD:s.heap.get? (s.heap.objs.size+1)=none:=Heap.get?_none_of_le (fe _);have nK:s.heap.get? kS=none:=by
   cases q:s.heap.get? kS with|none=>rfl|some o=>rw[y _ _ q]at a2;exact nS' a2
  refine SkKeys.mono vs (h _ kS B h' a1 nD nK (λb o q=>a3 b o (λe=>by rw[e,nD]at q;exact nS q) (y b o q)) a4 a5) λks e s' hl' d=>?_
  have O:ks.length=vs.length:=by simpa using hl'
  unfold HQ at d ⊢
  by_cases hz:vs.length<2
  .rw[if_pos hz]at d ⊢
   exact d.mono λT hq=>⟨_,rfl,ai ⟨_,rfl,hq⟩⟩
  rw[if_neg hz]at d ⊢;refine aR d (λκ s'' hk=>?_) λZ Z x=>x;rw[kat_ask_eq (vs:=vs) O]at hk ⊢;exact kas_wp_mono hk λp s3 hk'=>hk'.mono λT hq=>⟨_,rfl,ai ⟨_,rfl,hq⟩⟩
end
end
section
open PySem PySem.W PySem.Calls PyProof.Rows
section
variable {prog:dB}{w:World}{A:cX}{E:Value->ag->Prop}{s:ag}
theorem JC(h:Q (decide (a<b)) s):wpAny (model prog w) A (oneLt' false (.int a t) (.int b u)) Q E s:=by
 rw[oneLt'_eq];simp only[cg,if_false];exact ac (lt_int (cB h))
noncomputable def AQ(p q:Int×Int):Bool:=if p.1=q.1 then decide (p.2<q.2) else decide (p.1<q.1)
theorem pair_lt(O:s.heap.get? x=some { cls:=.type "tuple",data:=.seq #[.int p.1 t,.int p.2 u] n })(z:s.heap.get? y=some { cls:=.type "tuple",data:=.seq #[.int q.1 t',.int q.2 u'] k })
  (h:Q (AQ p q) s):wpAny (model prog w) A (keyLt' (tuples' true) (.ref x) (.ref y)) Q E s:=by
 refine kat_lt O rfl z rfl (kat_cons (fX ?_));unfold AQ at h
 by_cases e:p.1=q.1
 .rw[if_pos e]at h
  rw[show (p.1 == q.1)=true from beq_iff_eq.mpr e]
  refine kat_yes (kat_cons (fX ?_))
  by_cases e2:p.2=q.2
  .rw[show (p.2 == q.2)=true from beq_iff_eq.mpr e2]
   refine kat_yes (kat_nil ?_);rw[e2]at h
   have:decide (q.2<q.2)=false:=decide_eq_false (Int.lt_irrefl _)
   rw[this]at h;exact h
  .rw[show (p.2 == q.2)=false from beq_eq_false_iff_ne.mpr e2]
   exact kat_no (JC h)
 .rw[if_neg e]at h
  rw[show (p.1 == q.1)=false from beq_eq_false_iff_ne.mpr e]
  exact kat_no (oneLt_int h)
theorem pairLt_iff:AQ p q=true↔(p.1<q.1\/(p.1=q.1/\p.2<q.2)):=by
 unfold AQ
 by_cases e:p.1=q.1
 .rw[if_pos e,decide_eq_true_eq];exact⟨λh=>.inr ⟨e,h⟩,λh=>h.elim (λh=>(Int.ne_of_lt h e).elim) (·.2)⟩
 .rw[if_neg e,decide_eq_true_eq];exact⟨.inl,λh=>h.elim id λh=>(e h.1).elim⟩
theorem Cg(h:AQ p q=false):q.1<=p.1/\(p.1=q.1->q.2<=p.2) :=
 have z:=λy=>cN.mp h (pairLt_iff.mpr y)
 ⟨fQ.mp λy=>z (.inl y),λe=>fQ.mp λy=>z (.inr ⟨e,y⟩)⟩
theorem JB(k:Nat->Int×Int):Ord λi j=>AQ (k i) (k j) where
 trans:=λa b c T d=>by
  refine Aq (Cg T) λa1 a2=>Aq (Cg d) λz u=>cN.mpr λU=>?_
  rcases pairLt_iff.mp U with B|⟨B,y⟩
  .exact lin [] [(k a).fst,(k b).fst,(k c).fst] .no [.f V0 V1,.f V1 V2,.g V2 V0] rfl a1 z B
  .have a3:=a2 (ah (lin [] [(k b).fst,(k c).fst,(k a).fst] (.f V0 V2) [.f V0 V1,.h V1 V2] rfl z B) (lin [] [(k a).fst,(k b).fst] (.f V0 V1) [.f V0 V1] rfl a1))
   have O:=u (ah (lin [] [(k a).fst,(k b).fst,(k c).fst] (.f V2 V1) [.f V0 V1,.h V2 V0] rfl a1 B) (lin [] [(k b).fst,(k c).fst] (.f V0 V1) [.f V0 V1] rfl z));exact lin [] [(k c).snd,(k a).snd,(k b).snd] .no [.g V0 V1,.f V1 V2,.f V2 V0] rfl y a3 O
 up:=λa b c T d=>by
  refine Aq (Cg d) λa1 a2=>Bool.not_eq_false _▸λU=>Aq (Cg U) λz u=>?_
  rcases pairLt_iff.mp T with B|⟨B,y⟩
  .exact lin [] [(k a).fst,(k b).fst,(k c).fst] .no [.f V0 V1,.f V1 V2,.g V2 V0] rfl a1 z B
  .have a3:=a2 (ah (lin [] [(k b).fst,(k c).fst,(k a).fst] (.f V0 V2) [.f V0 V1,.h V1 V2] rfl z B) (lin [] [(k a).fst,(k b).fst] (.f V0 V1) [.f V0 V1] rfl a1))
   have O:=u (ah (lin [] [(k a).fst,(k b).fst,(k c).fst] (.f V2 V1) [.f V0 V1,.h V2 V0] rfl a1 B) (lin [] [(k b).fst,(k c).fst] (.f V0 V1) [.f V0 V1] rfl z));exact lin [] [(k c).snd,(k a).snd,(k b).snd] .no [.g V0 V1,.f V1 V2,.f V2 V0] rfl y a3 O
 irr:=λa=>by unfold AQ;rw[if_pos rfl];exact decide_eq_false (Int.lt_irrefl _)
 asym:=λa b T d=>by
  rcases pairLt_iff.mp T with B|⟨B,y⟩
  .rcases pairLt_iff.mp d with Y|⟨Y,d2⟩
   .exact lin [] [(k a).fst,(k b).fst] .no [.g V0 V1,.g V1 V0] rfl B Y
   .exact lin [] [(k a).fst,(k b).fst] .no [.g V0 V1,.h V1 V0] rfl B Y
  .rcases pairLt_iff.mp d with Y|⟨Y,d2⟩
   .exact lin [] [(k a).fst,(k b).fst] .no [.h V0 V1,.g V1 V0] rfl B Y
   .exact lin [] [(k a).snd,(k b).snd] .no [.g V0 V1,.g V1 V0] rfl y d2
end
end
section
open PySem PySem.W PySem.Calls PyProof.Rows
section
variable {prog:dB}{w:World}{A:cX}{E:Value->ag->Prop}{s:ag}
def IsPr(h:Heap)(v:Value)(p:Int×Int):Prop:=∃a t u n,v=.ref a/\h.get? a=some { cls:=.type "tuple",data:=.seq #[.int p.1 t,.int p.2 u] n }
theorem Jx(ks:List Value)(y:∀v∈ks,∃p,IsPr h v p):∃fs,KatTups h ks fs/\fs.length=ks.length/\∀v∈fs,∃i t,v=.int i t:=by
 induction ks with
 |nil=>exact⟨[],.nil,rfl,λv B=>absurd B bB⟩
 |cons v ks Y =>
  exact X5lp v (y _ (.head _)) λp a t u n e=>X1ppp (Y λv B=>y v (.tail _ B)) λfs O z d=>⟨.int p.1 t::fs,KatTups.cons e rfl rfl rfl O,congrArg f6 z,λv B=>(aA.mp B).elim (λq=>⟨_,_,q⟩) (d v)⟩
theorem Jy{ks:List Value}{Q:SortKind->ag->Prop}(y:∀v∈ks,∃p,IsPr s.heap v p)(d:0<ks.length)(h:Q (tuples' true) s):wpAny (model prog w) A (keyKind' ks.toArray) Q E s:=by
 exact X1ppp (Jx ks y) λfs Y z u=>kat_kind (T:=.type "int") Y (lin [ks.length,fs.length] [] (.c K0 V1) [.c K0 V0,.D (-1) V1 V0] rfl d z) (λv B=>(X2l v (u v B) λi t=>.now)) rfl h
end
end
section
open PySem PySem.W PySem.Calls PyProof.Rows
def AR{α:Type}(n:Nat)(R:α->Prop):KasT α->Prop
 |.ret a=>R a
 |.ask i j k=>i<n/\j<n/\∀b,AR n R (k b)
theorem AR.bind(t:KasT α)(h:AR n R t)(O:∀a,R a->AR n R' (f a)):AR n R' (t.bind f):=by
 induction t with|ret a=>exact O a h|ask i j k y=>exact⟨h.1,h.2.1,λb=>y b (h.2.2 b)⟩
def AllLt(n:Nat)(p:Array Nat):Prop:=∀k,p.getD k 0<n
theorem AllLt.perm(O:0<n)(h:AllLt n p)(e:q.Perm p):AllLt n q:=λk=>by
 rw[bq]
 cases g:q[k]? with
 |none=>exact O
 |some x =>
  have u:x∈q:=Array.mem_of_getElem? g;have d:x∈p:=e.mem_iff.mp u;obtain⟨i,hi,rfl⟩:=Array.mem_iff_getElem.mp d
  have:=h i
  rw[bq,Array.getElem?_eq_getElem hi]at this;exact this
theorem ar_asc(h:AllLt n p)(f:Nat):∀m,AR n (λZ=>True) (dw p f m):=by
 induction f with
 |zero=>intro m;exact trivial
 |succ f y =>
  refine λm=>⟨h _,h _,λb=>?_⟩
  cases b
  .exact y (m+1)
  .exact trivial
theorem ar_desc(O:0<n)(f:Nat):∀(p:Array Nat)(m q:Nat),AllLt n p->AR n (λr=>AllLt n r.1) (kas_desc f p m q):=by
 induction f with
 |zero=>intro p m q h;exact h
 |succ f y =>
  refine λp m q h=>⟨h _,h _,λb=>?_⟩
  cases b
  .refine⟨h _,h _,λb=>?_⟩
   cases b
   .exact y p (m+1) (q+1) h
   .exact h
  .show AR n _ (if q > 0 then _ else _)
   by_cases c:q > 0
   .rw[if_pos c];exact y _ _ _ (h.perm O (f8 _ _ _ _))
   .rw[if_neg c];exact y _ _ _ h
theorem I9(O:0<n)(h:AllLt n p)(m r:Nat):AR n (λr=>AllLt n r.2) (kas_tail3 m r p) :=
 AR.bind _ (ar_asc (h.perm O (f8 _ _ _ _)) _ _) λZ Z=>h.perm O (f8 _ _ _ _)
theorem Eo(O:0<n)(h:AllLt n p)(m r:Nat):AR n (λr=>AllLt n r.2) (kas_descPart m r p):=by
 refine AR.bind _ (ar_desc O _ _ _ _ h) λa ha=>?_
 by_cases c:a.2.2 > 0
 .rw[if_pos c];exact I9 O (ha.perm O (f8 _ _ _ _)) _ _
 .rw[if_neg c];exact I9 O ha _ _
theorem ar_count(O:0<n)(h:AllLt n p)(r:Nat):AR n (λr=>AllLt n r.2) (fW r p):=by
 refine AR.bind _ (ar_asc h _ _) λm Z=>?_
 by_cases c:(m == r)=true
 .rwa [if_pos c]
 .rw[if_neg c]
  by_cases d:m > 1
  .rw[if_pos d]
   refine⟨h _,h _,λb=>?_⟩
   cases b
   .exact Eo O (h.perm O (f8 _ _ _ _)) _ _
   .exact h
  .rw[if_neg d];exact Eo O h _ _
theorem ar_place(h:AllLt n p)(k f:Nat):∀l r,AR n (λZ=>True) (iy p k f l r):=by
 induction f with
 |zero=>intro l r;exact trivial
 |succ f y =>
  intro l r;show AR n _ (if l >= r then _ else _)
  by_cases c:l >= r
  .rw[if_pos c];exact trivial
  .rw[if_neg c]
   refine⟨h _,h _,λb=>?_⟩
   cases b
   .exact y _ _
   .exact y _ _
theorem ar_bin(O:0<n)(f:Nat):∀(p:Array Nat)(k:Nat),AllLt n p->AR n (λZ=>True) (kas_bin f p k):=by
 induction f with|zero=>intro p k _;exact trivial|succ f y=>intro p k h;exact AR.bind _ (ar_place h _ _ _ _) λl Z=>y _ _ (h.perm O (bubble_perm _ _ _))
theorem ar_sort(O:0<n):AR n (λZ=>True) (f9 n):=by
 refine AR.bind _ (ar_count O (p:=aB (br n)) (λk=>?_) _) λr y=>?_
 .rw[bq]
  cases g:(aB (br n))[k]? with
  |none=>exact O
  |some x =>
   have:x∈br n:=by simpa using Array.mem_of_getElem? g
   exact fE.mp this
 .by_cases c:r.1<n
  .rw[if_pos c];exact ar_bin O _ _ _ y
  .rw[if_neg c];exact trivial
end
section
open PySem PySem.W PySem.Calls PyProof.Rows
theorem kasWp_ar{I:ag->Prop}(h:∀i j C s,i<n->j<n->I s->(∀s',I s'->C (lt i j) s')->cmp i j C s){Q:α->ag->Prop}(t:KasT α)(ht:AR n R t) :
  ∀{s:ag},I s->(∀s',I s'->Q (ans lt t) s')->t.kasWp cmp Q s:=by
 induction t with|ret a=>intro s hs hq;exact hq s hs|ask i j k y=>intro s hs hq;exact h i j _ s ht.1 ht.2.1 hs λs' Y=>y (lt i j) (ht.2.2 _) Y hq
section
variable {prog:dB}{w:World}{A:cX}{s:ag}
theorem He{kk:Nat->Int×Int}{n:Nat}{G:Array Nat->ag->Prop}(O:0<n)(B:∀i,i<n->IsPr s.heap (ks.getD i bA) (kk i))(h:G (ans (λi j=>AQ (kk i) (kk j)) (f9 n)) s) :
  (f9 n).kasWp (kas_ask prog w A (tuples' true) ks) G s:=by
 refine kasWp_ar (I:=λs'=>s'=s) (lt:=λi j=>AQ (kk i) (kk j)) (λi j C s' hi z hs y=>?_) _ (ar_sort O) rfl λs' e=>e▸h;clear h;subst hs;unfold kas_ask;refine X4pp (B i hi) λa t u m d Y=>X4pp (B j z) λb t' U m' e2 T=>?_;rw[d,e2];exact pair_lt Y T (y _ rfl)
theorem KY{kk:Nat->Int×Int}{n:Nat}(U:2<=n)(d:∀i j,i≠j->i<n->j<n->kk i≠kk j) :
  Srt (λi j=>AQ (kk i) (kk j)) (ans (λi j=>AQ (kk i) (kk j)) (f9 n)) n/\(ans (λi j=>AQ (kk i) (kk j)) (f9 n)).Perm (aB (br n)) :=
 sort_srt (JB kk) U λi j u hi y=>by
  have:=d i j u hi y
  unfold AQ
  by_cases e:(kk i).1=(kk j).1
  .rw[if_pos e,if_pos e.symm,decide_eq_true_eq,decide_eq_true_eq]
   have:(kk i).2≠(kk j).2:=λe2=>this (cH e e2)
   exact cb λB=>(bE u).elim (λO=>(aX this).elim (λT=>lin [] [(kk i).snd,(kk j).snd] .no [.l V0 V1,.g V0 V1] rfl (λz=>B (.inl z)) T) (λT=>lin [] [(kk j).snd,(kk i).snd] .no [.l V0 V1,.g V0 V1] rfl (λz=>B (.inr z)) T)) (λO=>(aX this).elim (λT=>lin [] [(kk i).snd,(kk j).snd] .no [.l V0 V1,.g V0 V1] rfl (λz=>B (.inl z)) T) (λT=>lin [] [(kk j).snd,(kk i).snd] .no [.l V0 V1,.g V0 V1] rfl (λz=>B (.inr z)) T))
  .rw[if_neg e,if_neg (dC e),decide_eq_true_eq,decide_eq_true_eq]
   exact cb λB=>(bE u).elim (λO=>(aX e).elim (λT=>lin [] [(kk i).fst,(kk j).fst] .no [.l V0 V1,.g V0 V1] rfl (λz=>B (.inl z)) T) (λT=>lin [] [(kk j).fst,(kk i).fst] .no [.l V0 V1,.g V0 V1] rfl (λz=>B (.inr z)) T)) (λO=>(aX e).elim (λT=>lin [] [(kk i).fst,(kk j).fst] .no [.l V0 V1,.g V0 V1] rfl (λz=>B (.inl z)) T) (λT=>lin [] [(kk j).fst,(kk i).fst] .no [.l V0 V1,.g V0 V1] rfl (λz=>B (.inr z)) T))
end
end
section
variable {S:Sta}
section
variable {tb:List Nat}{env:Env}{N P Z:Addr->Prop}{b:E0×ag}{m:L1}{V:E0}{s:ag}{h':Heap}
theorem St.apartZ(hs:Internal.St S tb env N P b m V s)(k:∀b o,s.heap.get? b=some o->h'.get? b=some o)(z:∀a,Z a->s.heap.get? a=aa/\∃o,h'.get? a=some o/\∀vs,o.data≠.fields vs) :
  Internal.St S tb env (λa=>N a\/Z a) P b m V { s with heap:=h',toks:=tk }/\H2 noO noO V s V { s with heap:=h',toks:=tk }:=by
 refine Aq (hs.grow k tk) λU st=>?_;have B:Ext (DN N V) s.heap h':=Ext.of_keeps k;have T:∀b,DN (λa=>N a\/Z a) V b->DN N V b\/s.heap.get? b=aa:=by
  rintro b (q|q|q)
  .exact .inl (.inl q)
  .exact .inl (.inr q)
  .exact .inr (z b q).1
 refine⟨⟨⟨U.inv.keep,U.inv.gens,U.inv.drawn,U.inv.os,U.inv.σg,?_,?_,λa o e=>(hs.inv.rep a o e).ext B T (k a)⟩,?_,U.frm,λa q=>.inl (hs.pN a q),hs.new,λa q=>.inl (hs.own a q),hs.gb⟩,st⟩
 .rintro a d (q|q)
  .exact hs.inv.σN a d q
  .exact hs.inv.not_dom (z a q).1 d
 .rintro a (q|q)
  .exact U.inv.Nin a q
  .exact(z a q).2
 .have O:=hs.loc
  obtain⟨_,_,_,_,O,_⟩:=O;exact hs.loc.map (λa o Y e=>k a o e) (λa q=>(O a q).1) λr=>r.ext B T
theorem St.turnZ(hs:Internal.St S tb env N P b m V s)(U:∀a,Z a->N a/\¬Own env a/\b.2.heap.get? a=aa)(T:∀c o,¬Z c->s.heap.get? c=some o->h'.get? c=some o)(y:∀a,Z a->∃o,h'.get? a=some o/\∀vs,o.data≠.fields vs) :
  Internal.St S tb env N P b m V { s with heap:=h' }/\H2 P Z V s V { s with heap:=h' }:=by
 have e0:Ext (DN N V) s.heap h':=Ext.of_but λc o d e=>T c o (λq=>d (.inr (U c q).1)) e;have hD:∀c,DN N V c->DN N V c\/s.heap.get? c=aa:=λc q=>.inl q;have rep:∀{av v},Rep S.cv s.heap (DN N V) av v->Rep S.cv h' (DN N V) av v:=λr=>r.ext e0 hD;have there:∀a o,s.heap.get? a=some o->∃u,h'.get? a=some u:=λa o e=>by
  by_cases q:Z a
  .refine X1pp (y a q) λu B Y=>?_;exact⟨u,B⟩
  .exact⟨o,T a o q e⟩
 obtain⟨mc,cm,n,cc,ow,ap,cl,rr⟩:=hs.loc;refine⟨⟨⟨λa o e=>T a o (λq=>?_) (hs.inv.keep a o e),hs.inv.gens,hs.inv.drawn,hs.inv.os,hs.inv.σg,hs.inv.σN,λa q=>?_,λa o e=>(hs.inv.rep a o e).ext e0 hD λob B=>T a ob (λz=>hs.inv.σN a (by unfold Dom;rw[e];simp) (U a z).1) B⟩,?_,?_,hs.pN,hs.new,hs.own,hs.gb⟩,
  H2.of_but (λa o Y n e=>T a o n e) (λY h=>.inl h) there⟩
 .rw[hs.gb a (U a q).2.2]at e;exact nS e
 .refine X1pp (hs.inv.Nin a q) λo e nf=>?_
  by_cases z:Z a
  .exact y a z
  .exact⟨o,T a o z e,nf⟩
 .refine⟨mc,cm,?_,λz a hz=>?_,ow,ap,cl,λz j av hj hm=>?_⟩
  .refine X3pp n λo es ep e d=>?_;exact⟨o,es,ep,T _ _ (λq=>(U _ q).2.1 (.inl rfl)) e,d⟩
  .refine X1pp (cc z a hz) λo e d=>?_;exact⟨o,T _ _ (λq=>(U _ q).2.1 (.inr ⟨z,hz⟩)) e,d⟩
  .exact LocAt.map (rr z j av hj hm) (λh2=>rep h2) (λY O=>O) (λY O=>O)
 .exact hs.frm.over λa e o=>T a o λq=>e.elim λo e=>Ak (U a q).2.2 e
end
def KeyT(S:Sta)(k:Nat)(fv:Value)(key:AV->Al)(l:List AV):Prop:=∀x∈l,∀(V:E0)(Q:AV->E0->Prop),Q (sp (key x)) V->M1 S k fv [x] V Q noX
section
variable {F:Fx S}{m:L1}{V:E0}{s:ag}{X:Value->ag->Prop}{Q:AV->E0->Prop}
theorem H3{key:AV->Al}{kf:Nat}{Fin:List Value->Nat->ag->Prop}(hZ:∀a,Z a->F.N a/\¬F.O a/\F.b.2.heap.get? a=aa/\¬F.P a)(zk:Z kS)(zD:Z D)(hne:D≠kS)(hk:kf+2<=F.k){Aj:ag}{L:List AV} :
  ∀(r:List AV)(d:List AV)(rv ks:List Value)(e:Nat)(s:ag),KeyT S kf fv key r->L=d++r->F.St m V s->H2 F.P Z V Aj V s->RepL S.cv s.heap (F.D V) r rv->s.heap.get? D=some oD->s.heap.get? kS=some (AE ks.toArray e)->RepL S.cv s.heap (F.D V) (d.map λx=>sp (key x)) ks ->
  (∀ks' e' s',F.St m V s'->H2 F.P Z V Aj V s'->s'.heap.get? D=some oD->s'.heap.get? kS=some (AE (aB ks') e')->RepL S.cv s'.heap (F.D V) (L.map λx=>sp (key x)) ks'->Fin ks' e' s')->SkKeys S.prog S.w F.A.in1.in1 kS fv Fin rv ks e s
 |[],d,rv,ks,e,s,_,hL,hs,st,rr,gD,g,rk,fin=>by
  rw[show rv=[] from rr.inv]
  rw[aN]at hL;subst hL;exact fin ks e s hs st gD g rk
 |x::r,d,rv,ks,e,s,hkey,hL,hs,st,rr,gD,g,rk,fin=>by
  obtain⟨v,rv,rfl,rx,rr⟩:=rr.inv;have room:Room S F.N kf F.A.in1.in1:=Room.in1 (Room.in1 ⟨F.room.hh,F.room.fr,by have:=F.room.dp;exact lin [kf,F.k,F.A.depth] [] (.c (.A V2 (.M 2 (.A (.A V0 K1) K1))) GU) [.B 2 (.A V0 K2) V1,.c (.A V2 (.M 2 V1)) GU] rfl hk this,by have:=F.room.un;exact lin [kf,F.k,F.A.units] [] (.c (.A V2 (.M 20 (.A (.A V0 K1) K1))) BX) [.B 20 (.A V0 K2) V1,.c (.A V2 (.M 20 V1)) BX] rfl hk this⟩)
  refine wpAny_call (dD (hkey x (.head _) V (λa V'=>a=sp (key x)/\V=V') ⟨rfl,rfl⟩ F.N F.A.in1.in1 [v] s room hs.inv (.cons rx .nil)) λres s' z=>?_)
  cases res with
  |error err=>obtain⟨ea,c,V',Ad,h1,h2,h3,h4,h5⟩:=z;exact h5.elim
  |ok fl =>
   cases fl with
   |ret k =>
    obtain⟨av,V',st',i,ra,rfl,rfl⟩:=z;have hs':F.St m V s':=hs.to st' i λY h=>h;have T:∀a o,Z a->s.heap.get? a=some o->s'.heap.get? a=some o:=λa o z e=>st'.ext.obj _ _ e λq=>q.elim (λq=>hs.inv.σN _ q (hZ a z).1) λq=>q.elim (λq=>q.elim) (hZ a z).2.2.2;have u:H2 F.P Z V s V s':=st'.mono λY h=>h.elim;refine⟨T _ _ zk g,λh'' c eb gk=>?_⟩;obtain⟨hs2,st2⟩:=St.turnZ (Z:=(·=kS)) (h':=h'') hs' (λa q=>by clear g;subst q;exact⟨(hZ _ zk).1,(hZ _ zk).2.1,(hZ _ zk).2.2.1⟩) (λa o q e=>eb a o q e) (λa q=>by clear g;subst q;exact⟨_,gk,λvs z=>by exact nDf rfl z⟩)
    have U:H2 F.P Z V s' V { s' with heap:=h'' }:=st2.mono λa q=>by clear g st2;subst q;exact zk
    have zN:∀a,Z a->F.N a:=λa z=>(hZ a z).1;refine H3 hZ zk zD hne hk r (d++[x]) rv (ks++[k]) c _ (λy hy=>hkey y (.tail _ hy)) (by rw[hL];simp) hs2 ((st.trans u).trans U) ?_ (eb D _ hne (T _ _ zD gD)) gk ?_ fin
    .exact((rr.step u zN hs.pN).step U zN hs.pN)
    .rw[aQ]
     exact RepL.snoc ((rk.step u zN hs.pN).step U zN hs.pN) (ra.step U zN hs.pN)
   |_=>exact z.elim
theorem RepL.at:∀{L:List AV}{vs:List Value},RepL cv h D L vs->∀i,i<L.length->Rep cv h D (L.getD i .none) (vs.getD i bA)
 |[],_,_,i,hi=>absurd hi (ef _)
 |x::L,vs,r,i,hi=>by
  refine X2lpp vs r.inv λv z B d=>?_
  cases i with|zero=>exact B|succ i=>exact RepL.at d i (d7 hi)
theorem RepL.pick(r:RepL cv h D L vs):∀{p:List Nat},(∀i∈p,i<L.length)->RepL cv h D (p.map λi=>L.getD i .none) (p.map λi=>vs.getD i bA)
 |[],_=>.nil
 |i::p,h=>.cons (r.at i (h i (.head _))) (RepL.pick r λj z=>h j (.tail _ z))
theorem Df(L:List α)(d:α):(br L.length).map (λi=>L.getD i d)=L:=by
 apply eu;intro i
 by_cases z:i<L.length
 .simp[z]
 .simp[z]
theorem key_ne{L:List AV}{key:AV->Al}(y:(L.map key).Nodup){i j:Nat}(h:i≠j)(hi:i<L.length)(z:j<L.length):key (L.getD i .none)≠key (L.getD j .none):=by
 intro e;have T:i<(L.map key).length:=by rwa [aj]
 have u:j<(L.map key).length:=by rwa [aj]
 have:(L.map key)[i]=(L.map key)[j]:=by
  rw[iu,iu];rw[aE,aE,aI hi,aI z]at e;exact e
 exact h ((List.getElem_inj y).mp this)
theorem JA(h:p≠q)(n:AQ q p=false):AQ p q=true:=by
 obtain⟨a,b⟩:=p;obtain⟨c,d⟩:=q;unfold AQ at *;dsimp only at *
 by_cases e:a=c
 .subst e
  rw[if_pos rfl]at n ⊢;rw[decide_eq_false_iff_not]at n;rw[decide_eq_true_eq]
  have:b≠d:=λz=>h (by rw[z])
  exact(aX this).elim (λB=>lin [] [b,d] (.g V0 V1) [.g V0 V1] rfl B) (λB=>lin [] [d,b] (.G 0 V1 V0) [.l V0 V1,.g V0 V1] rfl n B)
 .rw[if_neg e]
  rw[if_neg (dC e),decide_eq_false_iff_not]at n;rw[decide_eq_true_eq];exact(aX e).elim (λB=>lin [] [a,c] (.g V0 V1) [.g V0 V1] rfl B) (λB=>lin [] [c,a] (.G 0 V1 V0) [.l V0 V1,.g V0 V1] rfl n B)
structure Picks(L:List AV)(key:AV->Al)(p:List Nat):Prop where
 lt:∀i∈p,i<L.length
 perm:(p.map λi=>L.getD i .none).Perm L
 up:(p.map λi=>L.getD i .none).Pairwise λx y=>AQ (key x) (key y)=true
theorem KP{key:AV->Al}(h:L.length<2):Picks L key (br L.length):=by
 refine⟨λi hi=>fE.mp hi,?_,?_⟩
 .rw[Df]
 .rw[Df]
  match L,h with
  |[],_=>exact .nil
  |[x],_=>exact List.pairwise_singleton _ _
theorem Jw{key:AV->Al}(U:(L.map key).Nodup){p:Array Nat}(hs:Srt (λi j=>AQ (key (L.getD i .none)) (key (L.getD j .none))) p L.length)(u:p.Perm (aB (br L.length))):Picks L key p.toList:=by
 have u:p.toList.Perm (br L.length):=by simpa using Array.perm_iff_toList_perm.mp u
 have lt:∀i∈p.toList,i<L.length:=λi hi=>fE.mp (u.mem_iff.mp hi);refine⟨lt,?_,?_⟩
 .have:=u.map λi=>L.getD i .none
  rwa [Df]at this
 .rw[cA,List.pairwise_iff_getElem]
  intro i j hi z y;have O:p.toList.Nodup:=u.nodup_iff.mpr List.nodup_range;have Y:p.toList.length=L.length:=by rw[u.length_eq,ic]
  have ne:p.toList[i]≠p.toList[j]:=λe=>bP y ((List.getElem_inj O).mp e);have g:∀k (B:k<p.toList.length),p.getD k 0=p.toList[k]:=λk B=>by
   have:k<p.size:=by simpa using B
   simp[Array.getD,this]
  have:=hs i j y (lin [j,p.toList.length,L.length] [] (.c V0 V2) [.c V0 V1,.d V1 V2] rfl z Y)
  rw[g i hi,g j z]at this;exact JA (key_ne U ne (lt _ (iw hi)) (lt _ (iw z))) this
noncomputable def Fx.more(F:Fx S)(Z:Addr->Prop):Fx S:=⟨F.A,F.tb,F.env,F.b,λa=>F.N a\/Z a,F.k,F.room.wide (λY q=>.inl q),F.fk,F.fg,F.fb,F.fc⟩
theorem Ly{L:List AV}{key:AV->Al}{ks:List Value}(r:RepL cv h D (L.map λx=>sp (key x)) ks)(i:Nat)(hi:i<L.length):IsPr h (ks.getD i bA) (key (L.getD i .none)):=by
 have T:i<(L.map λx=>sp (key x)).length:=by rwa [aj]
 have:=r.at i T
 have e:(L.map λx=>sp (key x)).getD i .none=sp (key (L.getD i .none)):=by
  rw[aE,aE,a9,aI hi];rfl
 rw[e]at this;exact X4ppp (Rep.spot this) λt B O n u e2 Z=>⟨t,B,O,n,u,e2⟩
theorem G7{key:AV->Al}{kf:Nat}(hk:kf+2<=F.k)(hkey:KeyT S kf fv key L)(h64:L.length<64)(nd:(L.map key).Nodup)
  (ht:∀x,dH.«list.sort» ⟨[.ref x],[(bW "key",fv)]⟩=ksk_tree x fv false) (hs:F.St m V s) (e:s.heap.get? l=some (AE vs.toArray n)) (r:RepL S.cv s.heap (F.D V) L vs)
  (hQ:∀L',L'.Perm L->L'.Pairwise (λx y=>AQ (key x) (key y)=true)->Fresh V (.list L') (.list L') Q):VT F m V s (call (.builtin "sorted") [.ref l] [(bW "key",fv)]) Q X:=by
 have U:vs.length=L.length:=r.length;refine Kp ⟨_,e,rfl,n,rfl⟩ (by rwa [U]) ht λD kS e1 h' hne nD nK k gD gK=>?_
 have T:∀a,a=D\/a=kS->s.heap.get? a=aa:=λa q=>q.elim (λq=>q▸nD) (λq=>q▸nK);have gZ:∀a,a=D\/a=kS->∃o,h'.get? a=some o/\∀vs,o.data≠.fields vs:=λa q=>q.elim (λq=>⟨_,q▸gD,λY z=>by exact nDf rfl z⟩) (λq=>⟨_,q▸gK,λY z=>by exact nDf rfl z⟩)
 refine Aq (hs.apartZ (Z:=λa=>a=D\/a=kS) (tk:=s.toks) k λa q=>⟨T a q,gZ a q⟩) λhs1 st1=>?_;have nN:∀a,a=D\/a=kS->¬F.N a:=λa q z=>by refine X1pp (hs.inv.Nin a z) λo eo Y=>?_;exact Ak (T a q) eo
 have Y:∀a,a=D\/a=kS->(F.N a\/a=D\/a=kS)/\¬F.O a/\F.b.2.heap.get? a=aa/\¬F.P a:=λa q=>⟨.inr q,λz=>nN a q (hs.own a z),hs.frm.new (T a q),λz=>nN a q (hs.pN a z)⟩;have zN:∀a,(a=D\/a=kS)->F.N a\/a=D\/a=kS:=λa q=>.inr q;have r1:RepL S.cv h' (DN (λa=>F.N a\/a=D\/a=kS) V) L vs:=r.ext (Ext.of_keeps k) λb q=>q.elim (λq=>.inl (.inl q)) λq=>q.elim (λq=>.inl (.inr q)) λq=>.inr (T b q);refine H3 (F:=F.more λa=>a=D\/a=kS) (Aj:={ s with heap:=h' }) (m:=m) (V:=V) (D:=D) (oD:=AE #[] e1) Y (.inr rfl) (.inl rfl) hne hk L [] vs [] 0 _ hkey rfl hs1 (H2.refl _ _ _ _) r1 gD gK .nil ?_
 intro ks' e' s' hs' st' gD' gk' rk;have hl:ks'.length=L.length:=by have:=rk.length;rw[aj]at this;exact this
 have r2:=r1.step st' zN hs'.pN;have fin:∀p:Array Nat,Picks L key p.toList->SkFin kS D ks' vs e' e1 (λY s4=>PW F m V s (PV F Q) (.ref D) s4) p s':=λp hp=>by
  refine⟨gk',gD',λu c hb hkc hD'=>?_⟩;obtain⟨hs3,st3⟩:=St.turnZ (Z:=λa=>a=D\/a=kS) (h':=u) hs' (λa q=>⟨.inr q,(Y a q).2.1,(Y a q).2.2.1⟩) (λb o q e=>hb b o (λz=>q (.inr z)) (λz=>q (.inl z)) e) (λa q=>q.elim (λq=>⟨_,q▸hD',λY z=>by exact nDf rfl z⟩) λq=>by refine X1p hkc λc' ec=>?_;exact⟨_,q▸ec,λY z=>by exact nDf rfl z⟩)
  have r3:=(r2.step st3 zN hs'.pN).pick hp.lt;have st:H2 F.P noO V s V { s' with heap:=u }:=H2.out (st1.wide λY h=>h.elim) (st'.trans st3) T
  rcases hQ _ hp.perm hp.up with q|⟨i,q⟩
  .have h1:F.St m V { s' with heap:=u }:=hs3.open_ (λY q=>.inl q) hs.own hs.pN
   exact⟨V,st.mono λY h=>h.elim,h1,_,.list hD' (hs.inv.not_D nD) (r3.less λa q=>q.imp id .inl),q⟩
  .have h1:Internal.St S F.tb F.env (λa=>F.N a\/a=D) F.P F.b m V { s' with heap:=u }:=hs3.open_ (λY q=>q.imp id .inl) (λa q=>.inl (hs.own a q)) (λa q=>.inl (hs.pN a q))
   have B:F.St m (V.set D (.list (p.toList.map λi=>L.getD i .none))) { s' with heap:=u }:=h1.take hs.own hs.pN (nN D (.inl rfl)) (hs.frm.new nD) (.list hD' (r3.less λa q=>q.imp id λq=>q.imp id .inl))
   have st4:H2 F.P noO V s (V.set D (.list (p.toList.map λi=>L.getD i .none))) { s' with heap:=u }:=⟨st.ext,st.frm,λa d=>(A5 d).elim (λz=>.inr (by rwa [z])) (st.dom a),st.there⟩
   exact⟨_,st4.mono λY h=>h.elim,B,_,.loc D i,q D (hs.inv.not_dom nD)⟩
 unfold HQ
 by_cases B:vs.length<2
 .rw[if_pos B]
  exact fin _ (by rw[U]at B ⊢;exact KP B)
 .rw[if_neg B]
  refine Jy (λv hv=>?_) (lin [vs.length,L.length,ks'.length] [] (.c K0 V2) [.d V0 V1,.D (-1) V2 V1,.j V0 K2] rfl U hl B) ?_
  .obtain⟨i,hi,rfl⟩:=List.getElem_of_mem hv
   have:=Ly (L:=L) rk i (Nat.lt_of_lt_of_eq hi hl)
   rw[aE,aI hi]at this;exact⟨_,this⟩
  .refine Aq (KY (kk:=λi=>key (L.getD i .none)) (n:=L.length) (lin [vs.length,L.length] [] (.b K2 V1) [.d V0 V1,.j V0 K2] rfl U B) λi j hij hi hj=>key_ne nd hij hi hj) λp1 p2=>?_
   rw[U];refine He (lin [vs.length,L.length] [] (.c K0 V1) [.d V0 V1,.j V0 K2] rfl U B) (λi hi=>Ly rk i hi) (fin _ (Jw nd p1 p2))
theorem ET.sorted{key:AV->Al}(hg:Glob S i (.ref fa))(hb:Glob S 10 (.builtin "sorted"))(hk:kf+2<=F.k)
  (h:ET F m V x (λa Aa=>∃L,dl Aa a=some L/\KeyT S kf (.ref fa) key L/\L.length<64/\(L.map key).Nodup/\∀L',L'.Perm L->L'.Pairwise (λx y=>AQ (key x) (key y)=true)->Fresh Aa (.list L') (.list L') Q) X):ET F m V (.sorted x (.g i)) Q X:=by
 intro pe hc s hs;obtain⟨a,f,kp,p,q,x,key',rfl,rfl,rfl,T,U,ha,hf⟩:=hc.inv;refine X2lp f (CE.inv hf) λf' u hx=>?_;have B:IsG F.sc "sorted" 10:=⟨by decide +kernel,T,by decide +kernel⟩
 show wpAny _ _ (do callWith p (<- eval (.Name "sorted" q) F.env) [] (backTo p (fp [a] F.env)) (backToKw p (keywordEach [⟨some "key",.Name f' u,kp⟩] F.env))) _ _ _
 refine ac (Do B hb hs (callWith_of (P:=λh=>∀b o,S.g.get? b=some o->h.get? b=some o) ?_ (M3.builtin (S:=S) _) ?_))
 .rw[AX U];rfl
 refine evalArgs_kw2 rfl (wpAny_items_cons (W.out (h _ ha s hs) ?_) (AX U)) (AX U);intro v V' s' st O z;obtain⟨av,ra,L,hd,Y,d,nd,hQ⟩:=z;exact args_nil (kwAll_cons (Do hx hg O (kwAll_nil (X3lpp v (ra.lst O.inv hd) λl vs n e rl=>⟨O.inv.keep,(G7 hk Y d nd (λx=>ksk_t1 fa x) O e rl hQ).later st⟩))))
end
end
section
open PySem PySem.W PySem.Calls PyProof.Rows
section
variable {prog:dB}{w:World}{A:cX}{E:Value->ag->Prop}{s:ag}
theorem tup_lt(Y:s.heap.get? x=some (Bz #[.int p.1 t,.int p.2 u] n))(O:s.heap.get? y=some (Bz #[.int q.1 t',.int q.2 u'] k))
  (h:P (.done (.ret (.bool (AQ p q)))) s):wpAny (model prog w) A (dH.«tuple.__lt__» ⟨[.ref x,.ref y],[]⟩) P E s:=by
 show wpAny _ _ (isInstance (.ref y) (.type "tuple") >>= _) _ _ s;refine ac (fS (T := "tuple") ⟨_,O,rfl⟩ isSubtype_tuple_tuple ?_);simp only[Bool.not_true,cg,if_false];refine ac (wpAny_tupleItemsOf Y rfl (ac (wpAny_tupleItemsOf O rfl (ac ?_))));show wpAny _ _ (forIn [(iz p.1 t,iz q.1 t'),(iz p.2 u,iz q.2 u')] _ _) _ _ s;rw[d9];refine ac (ac (fX ?_));unfold AQ at h
 by_cases e:p.1=q.1
 .rw[if_pos e]at h
  rw[show (p.1 == q.1)=true from beq_iff_eq.mpr e]
  refine ai ?_;show wpAny _ _ (forIn [(iz p.2 u,iz q.2 u')] _ _) _ _ s;rw[d9];refine ac (ac (fX ?_))
  by_cases e2:p.2=q.2
  .rw[show (p.2 == q.2)=true from beq_iff_eq.mpr e2]
   refine ai (ai ?_);rw[e2,decide_eq_false (Int.lt_irrefl _)]at h;exact ai h
  .rw[show (p.2 == q.2)=false from beq_eq_false_iff_ne.mpr e2]
   exact ac (fR (ac (lt_int (ai (ai (ai h))))))
 .rw[if_neg e]at h
  rw[show (p.1 == q.1)=false from beq_eq_false_iff_ne.mpr e]
  exact ac (fR (ac (lt_int (ai (ai (ai h))))))
end
section
variable {S:Sta}{F:Fx S}{m:Nat->Option AV}{V:E0}{X:Value->ag->Prop}
theorem KT.ltSpot(h:Q (AQ p q) V):KT F m V .Lt (sp p) (sp q) Q X:=by
 refine λY z s hs O T=>X4lpp Y (Rep.spot O) λx t u n e Z=>X4lpp z (Rep.spot T) λy t' B k d Z=>?_;have U:F.A.units<cLine:=by have:=F.room.un;unfold cLine;exact lin [F.A.units,F.k] [] (.c V0 GS) [.c (.A V0 (.M 20 V1)) BX] rfl this
 exact wpAny_richCompare_same_room (op:=.Lt) ⟨_,e,rfl⟩ ⟨_,d,rfl⟩ PySem.F.slot_tuple_lt
  (dq PySem.F.slot_tuple_lt ⟨_,e,rfl⟩ PySem.F.entry_tuple_lt (tup_lt e d ⟨_,rfl,(λe=>nomatch e),V,H2.refl _ _ _ _,hs,_,rfl,h⟩) (PySem.F.args_tuple_lt_2 _ _)) U
end
end
section
variable {S:Sta}
section
variable {F:Fx S}{m:L1}{V:E0}{X:Value->ag->Prop}{Q:AV->E0->Prop}
theorem CT.get(hb:dd V b=some l)(h:Q ((By l k).getD .none) V):CT F m V (.builtin "dict.get") [b,sp k] Q X:=by
 refine λvals s hs r=>X2lpp vals r.two λy Y z B=>X4lpp Y B.spot λt tx ty n e d=>X3lpppp y (z.dct hs.inv hb) λad es n' e' O nd U=>X1pp (RepD.xs (S:=S) U) λxs u Z0=>?_;clear U;subst Z0;have q:=u.at_ k;have T:=Gv u nd e';refine call_meetsIn PySem.F.slot_dict_get T.typeIs PySem.F.entry_dict_get (PySem.F.args_dict_get_2 _ _) (meetsH_dict_get _ ad t O) ⟨Cf F,key k,xs,Es e,T,⟨V,H2.toks _ _ _ _ _,hs.tok _,_,?_,h⟩⟩
 revert q
 cases By l k with
 |none =>
  cases atKey xs (key k)with|none=>intro _;exact .none|some p=>intro q;exact q.elim
 |some av =>
  cases atKey xs (key k)with|none=>intro q;exact q.elim|some p=>intro q;exact q
theorem meth_get:MO "get" (Ty.name .dict) "dict.get":=⟨fh,PySem.F.slot_dict_get,PySem.F.type_dict_get⟩
noncomputable def JL(l:List AV)(k:Nat)(x:AV):List AV:=l.take k++x::l.drop k
theorem CT.insert{ad:Addr}{ii:Nat}{i:Int}{l:List AV}{x:AV}(d:V ad=some (.list l))(hz:l.length<=big)(h0:0<=i)(hk:i.toNat<=l.length)(h:Q .none (V.set ad (.list (JL l i.toNat x)))):CT F m V (.builtin "list.insert") [.loc ad ii,.int i,x] Q X:=by
 intro vals s hs r;obtain⟨v,r1,rfl,z,r⟩:=r.inv;obtain⟨u,y,rfl,ru,rx⟩:=r.two;refine X3ppp (z.lst hs.inv (BU d)) λad' vs n Z0 e U=>?_;clear r;subst Z0;obtain rfl:=(bx z.inv).symm;refine X1l u ru.inv λtk=>?_;have T:¬(!Builtin.List.listFitsIndex i)=true:=by
  unfold Builtin.List.listFitsIndex;have O:(-(2 ^ 63:Int)<=i):=de (by decide) h0
  have h2:(i<2 ^ 63):=eX (show i<=1000000 by have:i.toNat<=1000000:=aw hk hz;exact lin [i.toNat] [i] (.f V0 AC) [.b V0 AC,.f V0 (.c V0)] rfl this (aK i)) (by decide)
  rw[decide_eq_true O,decide_eq_true h2];decide
 have Y:vs.toArray.size<=gF:=by rw[aF,U.length];exact AZ hz
 refine call_meets il ⟨_,e,rfl⟩ PySem.F.entry_list_insert (PySem.F.args_list_insert_3 _ _ _) (PySem.AutoListH.list_insert_list_int_val_1 ad vs.toArray n i tk y T Y) ⟨e,?_⟩;have B:bt (λxs:Array Value=>have j:=if i<0 then (i+((xs.size:Nat):Int)).toNat else min i.toNat xs.size;(xs.extract 0 j).push y++xs.extract j) (AE vs.toArray n)=AE (vs.take i.toNat++y::vs.drop i.toNat).toArray (if ((vs.take i.toNat++y::vs.drop i.toNat).toArray.size == vs.toArray.size) then n else n+1):=by
  have hj:(if i<0 then (i+((vs.toArray.size:Nat):Int)).toNat else min i.toNat vs.toArray.size)=i.toNat:=by
   rw[if_neg (fQ.mpr h0),aF,U.length];exact Nat.min_eq_left hk
  have ee:(vs.toArray.extract 0 i.toNat).push y++vs.toArray.extract i.toNat=(vs.take i.toNat++y::vs.drop i.toNat).toArray:=by
   simp
   rw[<- iA,iB]
  simp only[bt,hj,ee]
 have e':=bJ (bt λxs:Array Value=>have j:=if i<0 then (i+((xs.size:Nat):Int)).toNat else min i.toNat xs.size;(xs.extract 0 j).push y++xs.extract j) e (by rw[B];rfl)
 rw[B]at e';exact Aq (Dz (s':=s) (l':=JL l i.toNat x) hs d (bG ..).extBut e' ((U.take _).app (.cons rx (U.drop _)))) λO st=>⟨_,st,O,_,.none,h⟩
theorem Hl:MO "insert" (Ty.name .list) "list.insert":=⟨dM,il,PySem.F.type_list_insert⟩
end
end
section
variable {S:Sta}
section
variable {A:cX}{E:Value->ag->Prop}{s:ag}
structure TupE(h:Heap)(es:Array bR):Prop where
 key:∀e∈es.toList,∃t,e.key=.ref t/\∃o,h.get? t=some o/\o.cls=.type "tuple"
 one:∀e∈es.toList,(es.filter (·.hash == e.hash)).size<=1
theorem TupE.push(k:TupE h es)(o:Obj):TupE (h.push o) es :=
 ⟨λe y=>by refine X1pp (k.key e y) λt Y T=>?_;refine X1pp T λu z B=>?_;exact⟨t,Y,u,ar _ z,B⟩,k.one⟩
theorem HC(U:DictE s.heap o es ep)(k:TupE s.heap es)(h:Q es s):wpAny (model S.prog S.w) A (gm nm o) Q E s:=by
 unfold gm;refine ac (cM U rfl (ac ?_));rw[<- gJ];refine wpAny_forIn_list _ (λrest Z s'=>s'=s/\∀e∈rest,e∈es.toList) _ ?_ ?_ _ _ ⟨rfl,λZ h=>h⟩
 .refine λe rest b s' u=>X0lp s' u λy=>X1pp (k.key e (y e (.head _))) λt O Z0=>X1pp Z0 λd z Y=>ac ?_
  unfold Builtin.Dict.quietEq;rw[O];dsimp only;refine ac (wpAny_specialOf (T := "tuple") ⟨d,z,Y⟩ PySem.F.slot_tuple_eq.lookup (ai ?_));rw[if_pos (by decide +kernel),if_neg (cR.mpr (k.one e (y e (.head _))))]
  exact ai ⟨rfl,λe B=>y e (.tail _ B)⟩
 .exact λb s' u=>X0lp s' u λZ=>ai h
theorem Ln(O:d≠o)(T:(o == cI)=false)(y:DictE s.heap d #[] 0)(U:DictE s.heap o es ep)(k:TupE s.heap es)(B:es≠#[])(hz:es.size<=gF)
  (Y:∀h' n,DictE h' d es n->iG d s.heap h'->Q () { s with heap:=h' }):wpAny (model S.prog S.w) A (iH nm d o) Q E s:=by
 unfold iH;rw[if_neg (by simpa using O)]
 unfold fM;rw[if_neg (by rw[T];exact aW)]
 refine ac (ai (ac (cM U rfl ?_)));have u:(decide (es.size<=8) && es.all λe=>(keyPart e.key).isSome)=false:=by
  cases hx:es.toList with
  |nil=>exact absurd hx (λz=>B (by rw[<- Array.toArray_toList (xs:=es),z]))
  |cons e r =>
   refine X1pp (k.key e (by rw[hx];exact .head _)) λt h1 Z=>?_
   have:(es.all λe=>(keyPart e.key).isSome)=false:=by
    rw[<- Array.all_toList,hx,List.all_cons,h1];rfl
   rw[this,Bool.and_false]
 rw[u];dsimp only;rw[if_pos (show (!false)=true from rfl)]
 refine ac (cM y rfl ?_);rw[if_pos (show (#[]:Array bR).isEmpty=true from rfl)]
 refine ac (HC U k ?_);rw[if_pos (by simp[B])]
 exact ac (wpAny_updateDictKeysTo y rfl (ai (Y _ 1 (bJ _ y rfl) (bG ..))) (ew hz))
theorem Et(B:(o == cI)=false)(ho:DictE s.heap o es ep)(k:TupE s.heap es)(he:es≠#[])(hz:es.size<=gF)
  (h:∀h' n,DictE h' s.heap.objs.size es n->(∀b y,s.heap.get? b=some y->h'.get? b=some y)->Q (.ref s.heap.objs.size) { s with heap:=h' }):wpAny (model S.prog S.w) A (call (.type "dict") [.ref o]) Q E s:=by
 refine callType_codes (Q₁:=λd Ad=>d=.ref s.heap.objs.size/\Ad={ s with heap:=s.heap.push { cls:=.type "dict",data:=.dict #[] } }) PySem.F.kt_called_dict (gM _) PySem.F.entry_dict_init (kt_code_dict_new _ ⟨rfl,rfl⟩) ?_
 refine λd Ad u=>X0ll d Ad u ?_;have T:DictE (s.heap.push { cls:=.type "dict",data:=.dict #[] }) s.heap.objs.size #[] 0:=ay _ rfl;have U:DictE (s.heap.push { cls:=.type "dict",data:=.dict #[] }) o es ep:=ar _ ho;have O:s.heap.objs.size≠o:=λe=>absurd (bf ho) (by rw[e];exact ij _)
 refine⟨T.typeIs,im _ _,?_⟩;unfold dH.«dict.__init__»;refine ac ?_;unfold io;refine ac (dv T.typeIs ?_);show wpAny _ _ (pure (s.heap.objs.size,[bX o])) _ _ _;refine ai ?_;show wpAny _ _ (dN "dict.__init__" s.heap.objs.size (.ref o) [] .none) _ _ _;unfold dN;refine ac (wpAny_typeOf U.typeIs ?_);rw[if_neg (by decide)]
 refine ac ?_;unfold Builtin.Dict.merge;refine ac ?_;unfold Builtin.Dict.readDirectly;refine ac (fS U.typeIs isSubtype_dict_dict ?_);simp only[Bool.not_true,cg,if_false];refine ac (wpAny_specialOf U.typeIs fw.lookup (ai ?_));simp only[beq_self_eq_true,if_true];refine ac (ai (Ln O B T U (k.push _) he hz λh' n z Y=>?_));show wpAny _ _ (Builtin.Dict.addKeywords s.heap.objs.size [] >>= _) _ _ _;exact ac (ai (ai ⟨rfl,h h' n z λb y e=>(Y.2 b (bP (bf e))).trans (ar _ e)⟩))
end
section
variable {F:Fx S}{m:L1}{V:E0}{X:Value->ag->Prop}{Q:AV->E0->Prop}
theorem HS{ad:Addr}{l l':List (Al×AV)}{h':Heap}{es:List bR}{n:Nat}{s:ag}(hs:F.St m V s)(U:V ad=some (.dict l))(k:di ad s.heap h')(e:h'.get? ad=some (AW es.toArray n))(u:(ad == cI)=false)(z:(l'.map (·.1)).Nodup)(r:RepD S.cv s.heap (F.D V) l' es) :
  F.St m (V.set ad (.dict l')) { s with heap:=h' }/\H2 F.P F.O V s (V.set ad (.dict l')) { s with heap:=h' }:=by
 have y:Dom V ad:=by unfold Dom;rw[U];simp
 have T:Ext (F.D V) s.heap h':=Ext.of_but λb o d e=>k b o (λq=>d (.inl (q▸y))) e;obtain⟨Y,st⟩:=hs.upd (h':=h') y (λc o ne e=>k c o ne e) s.toks (o:=.dict l') (.dict e u z (r.ext T λb q=>.inl (q.imp (λq=>(A5 q).elim (λ(q:b=ad)=>by rwa [q]) id) id)))
 exact⟨Y,st.any⟩
theorem CT.clearD{ad:Addr}{z:Nat}{l:List (Al×AV)}(U:V ad=some (.dict l))(hz:l.length<=big)(h:Q .none (V.set ad (.dict []))):CT F m V (.builtin "dict.clear") [.loc ad z] Q X:=by
 refine λvals s hs r=>X1lp vals r.one λv Y=>X3ppppp (Y.dct hs.inv (B7 U)) λd es n Z0 e u nd B=>?_;subst Z0;obtain rfl:=(bx Y.inv).symm;have T:DictE s.heap ad es.toArray n:=e;refine call_meetsIn (S:=λZ R s'=>s'=s/\R (.ok (.ret .none)) { s with heap:=s.heap.update ad (gp λZ=>#[]) }) PySem.F.slot_dict_clear T.typeIs PySem.F.entry_dict_clear (PySem.F.args_dict_clear_1 _) (.of_wp λA R s' ⟨y,h⟩=>?_) ⟨rfl,?_⟩
 .subst y
  unfold dH.«dict.clear»;refine ac ?_;unfold Builtin.Dict.noArgs;refine ac (dv T.typeIs ?_);show wpAny _ _ (pure ad) _ _ _;refine ai (ac (cM T rfl (ac ?_)));unfold bearsInstanceDictMark;refine ac (wpAny_load T (ai (ac (wpAny_updateDictKeys (hz:=by rw[aF,B.length];exact AZ hz) T rfl ?_))))
  split
  .exact ac (wpAny_letGo (ai ⟨.none,rfl,h⟩))
  .exact ac (ai (ai ⟨.none,rfl,h⟩))
 .have y:(s.heap.update ad (gp λZ=>#[])).get? ad=some (AW ([]:List bR).toArray (n+1)):=bJ _ e rfl
  exact Aq (HS (l':=[]) hs U (bG ..).extBut y u .nil .nil) λO st=>⟨_,st,O,_,.none,h⟩
theorem Hm:MO "clear" (Ty.name .dict) "dict.clear":=⟨fh,PySem.F.slot_dict_clear,PySem.F.type_dict_clear⟩
theorem F3{cv:Nat->Value}{h:Heap}{D:Addr->Prop}:∀{l:List (Al×AV)}{es:List bR},RepD cv h D l es->(∀e∈es,∃t,e.key=.ref t/\∃o,h.get? t=some o/\o.cls=.type "tuple")/\es.map (·.hash)=l.map λp=>Bc p.1
 |[],es,r=>by rw[show es=[] from r.inv];exact⟨λZ h=>(nM h),rfl⟩
 |p::l,es,r=>by
  refine X6lpppp es r.inv λt B T n v O e d a b=>Aq (F3 b) λY z=>⟨λx u=>?_,by rw[bp,bp,z]⟩
  rcases aA.mp u with rfl|u
  .exact⟨t,rfl,_,e,rfl⟩
  .exact Y x u
theorem one_hash{es:List bR}(y:(es.map (·.hash)).Nodup)(e:bR):(es.toArray.filter (·.hash == e.hash)).size<=1:=by
 have:(es.toArray.filter (·.hash == e.hash)).size=((es.map (·.hash)).filter (· == e.hash)).length:=by
  rw[List.filter_map];simp[Function.comp_def]
 rw[this,<- List.countP_eq_length_filter];exact List.nodup_iff_count.mp y e.hash
theorem CT.dictCopy(ha:dd V a=some l)(hz:l.length<=big)(T:l≠[])(hh:(l.map λp=>Bc p.1).Nodup)(h:Fresh V (.dict l) (.dict l) Q):CT F m V (.type "dict") [a] Q X:=by
 refine λvals s hs r=>X1lp vals r.one λv Y=>X3lpppp v (Y.dct hs.inv ha) λad es n e u y U=>Aq (F3 U) λk1 k2=>?_;have d:es.toArray≠#[]:=λz=>T (by
  have:=U.length
  rw[show es=[] by simpa using z]at this
  exact List.length_eq_zero_iff.mp this.symm)
 exact Et u e ⟨λx O=>k1 x O,λx Z=>one_hash (by rwa [k2]) x⟩ d (by rw[aF,U.length];exact AZ hz) λh' n' e' B=>Dg (tk:=s.toks) hs B (AA _) e' y U h
end
end
section
section
variable {prog:dB}{w:World}{A:cX}{E:Value->ag->Prop}{s:ag}
end
section
variable {S:Sta}{F:Fx S}{m:Nat->Option AV}{V:E0}{X:Value->ag->Prop}
end
end
section
variable {S:Sta}
section
variable {F:Fx S}{m:L1}{V:E0}{X:Value->ag->Prop}{Q:AV->E0->Prop}
theorem CT.setdef{ad:Addr}{ii:Nat}{k:Al}{x:AV}{l:List (Al×AV)}(ho:V ad=some (.dict l))(hz:l.length<=big)(Y:∀v,By l k=some v->Q v V)(h2:By l k=aa->Q x (V.set ad (.dict (Bx l k x)))):CT F m V (.builtin "dict.setdefault") [.loc ad ii,sp k,x] Q X:=by
 intro vals s hs r;obtain⟨v,r1,rfl,ra,r⟩:=r.inv;obtain⟨u,y,rfl,ru,rx⟩:=r.two;refine X4lpp u ru.spot λt tx ty n e d=>X3ppppp (ra.dct hs.inv (B7 ho)) λad' es n' Z0 O sm nd rd=>?_;clear r;subst Z0;obtain rfl:=(bx ra.inv).symm;refine X1pp (RepD.xs (S:=S) rd) λxs z Z1=>?_;subst Z1;have q:=z.at_ k;have T:(xs.map (d5 (bK (cw S.prog S.w)))).toArray.size<=gF:=by rw[aF,rd.length];exact AZ hz
 have hd:DictE s.heap ad (xs.map (d5 (bK (cw S.prog S.w)))).toArray n':=O;refine call_meetsIn (S:=λA R s'=>(bK (cw S.prog S.w)).room A.in1/\s'=s/\(∀p,atKey xs (key k)=some p->R (.ok (.ret p.2)) { s with toks:=s.toks+(bK (cw S.prog S.w)).draws (key k) })/\(atKey xs (key k)=aa->R (.ok (.ret y)) { s with heap:=s.heap.update ad (gp (·.push ⟨Bc k,.ref t,y⟩)),toks:=s.toks+(bK (cw S.prog S.w)).draws (key k) })) gq hd.typeIs PySem.F.entry_dict_setdefault (PySem.F.args_dict_setdefault_3 _ _ _) (.of_wp λA R s' ⟨hu,e0,Y,h2⟩=>?_) ⟨Cf F,rfl,λp hp=>?_,λB=>?_⟩
 .subst e0
  unfold dH.«dict.setdefault»;refine ac ?_;unfold Builtin.Dict.keyAndDefault;refine ac (dv hd.typeIs ?_);show wpAny _ _ (pure (ad,bX t,some y)) _ _ _;refine ai ?_;show wpAny _ _ (if (ad == cI)=true then _ else (dictSetDefault ad (.ref t) y >>= _)) _ _ _;rw[if_neg (by rw[sm];exact aW)]
  refine ac ?_;unfold dictSetDefault;refine bo (ac ((bK (cw S.prog S.w)).pyHash hu (Es e) ?_));have B:=z.keys▸EG nd;refine ac (wpAny_dictFind_heap (s:={ s' with toks:=s'.toks+(bK (cw S.prog S.w)).draws (key k) }) hu (Es e) O rfl (by simp) z.is B (λhno=>?_) λj p hj=>?_)
  .exact ac (fR (ac (wpAny_updateDictKeys (hz:=T) (s:={ s' with toks:=s'.toks+(bK (cw S.prog S.w)).draws (key k) }) O rfl (ai (ai ⟨y,rfl,h2 (atKey_none_of_get hno)⟩)))))
  .refine ac (cM (s:={ s' with toks:=s'.toks+(bK (cw S.prog S.w)).draws (key k) }) O rfl ?_)
   have:(xs.map (d5 (bK (cw S.prog S.w)))).toArray[j]?=some (d5 (bK (cw S.prog S.w)) (key k,p)):=by simp[hj]
   rw[this];exact ac (fR (ai (ai ⟨p.2,rfl,Y p (atKey_of_get B hj)⟩)))
 .rw[hp]at q
  cases g:By l k with
  |none=>rw[g]at q;exact q.elim
  |some v =>
   rw[g]at q;exact⟨V,H2.toks _ _ _ _ _,hs.tok _,_,q,Y v g⟩
 .rw[B]at q
  cases g:By l k with
  |some v=>rw[g]at q;exact q.elim
  |none =>
   have e2:(s.heap.update ad (gp (·.push ⟨Bc k,.ref t,y⟩))).get? ad=some (AW ((xs++[(key k,t,y)]).map (d5 (bK (cw S.prog S.w)))).toArray (n'+1)):=by
    rw[bJ _ O rfl,aQ,<- List.append_toArray];rfl
   have hd:Bx l k x=l++[(k,x)]:=by unfold Bx;rw[g];exact if_neg aW
   have U:=Dh k x nd;have hh:=h2 g;rw[hd]at U hh;exact Aq (HS (s:={ s with toks:=s.toks+(bK (cw S.prog S.w)).draws (key k) }) (l':=l++[(k,x)]) (hs.tok _) ho (bG ..).extBut e2 sm U (z.snoc e d rx).repD) λY st=>⟨_,(H2.toks _ _ _ _ _).trans st,Y,_,rx.st ((H2.toks _ _ _ _ _).trans st) Y,hh⟩
theorem Hk:MO "setdefault" (Ty.name .dict) "dict.setdefault":=⟨fh,gq,PySem.F.type_dict_setdefault⟩
theorem LB:ixS AT "setdefault"=some 7:=by decide +kernel
end
end
section
variable {S:Sta}
theorem Lz:typeLookup (.type "list") "keys"=pure aa:=by rw[typeLookup_type,builtinLookup_eq_fast];kernel_rfl
section
variable {A:cX}{E:Value->ag->Prop}{s:ag}
theorem LA(u:s.heap.get? a=some (AE xs k))(O:A.handled=aa)
  (h:∀h' tk,(∀b o,s.heap.get? b=some o->h'.get? b=some o)->Q aa { s with heap:=h',toks:=tk }):wpAny (model S.prog S.w) A (getAttr? (.ref a) "keys") Q E s:=by
 obtain⟨y,g,d,tk,os⟩:=s;have z:∀U,(⟨y,g,d,U,os⟩:ag).TypeIs (.ref a) "list":=λZ=>⟨_,u,rfl⟩;have f1:=sub_AttributeError;have f3:=dO.lookup;have f4:=dO.bind (.ref a);have f5:=am_list_getattr_none;unfold getAttr? getAttrBy? getAttrBy
 repeat (any_goals (first|assumption|exact z _|((with_reducible show wpAny _ _ (call (eh "list.__getattribute__") _ _) _ _ _);refine call_meets dO (z _) am_entry_list_getattribute (PySem.F.args_list_getattribute_2 _ _) (meets_getattribute_miss_list a xs k #[] "keys" _ Lz (by decide +kernel) (by decide)) ⟨u,O,λh' U e Y=>?_⟩)|wp_step))
 refine X2p Y.there λT B he=>?_;show wpAny _ _ (getattributeRaised _ _ _ _ _ _ _) _ _ _;unfold getattributeRaised
 repeat (any_goals (first|assumption|wp_step))
 exact h _ _ Y.keeps
noncomputable abbrev pvA(p:Al×AV):AV:=.tup [sp p.1,p.2]
theorem dget_key(h:By l k=some x):k∈l.map (·.1):=by
 refine X1pp (aZ.mp h) λp d Z=>?_;have O:=List.find?_some d;have e:=of_decide_eq_true O;exact aY.mpr ⟨p,List.mem_of_find?_eq_some d,e⟩
theorem RepD.snoc(e:h.get? t=some (Bz #[.int k.1 tx,.int k.2 ty] n))(d:¬D t)(O:Rep cv h D x v) :
  ∀{l:List (Al×AV)}{es:List bR},RepD cv h D l es->RepD cv h D (l++[(k,x)]) (es++[⟨Bc k,.ref t,v⟩])
 |[],es,r=>by rw[show es=[] from r.inv];exact .cons e d O .nil
 |p::l,es,r=>by
  exact X6lpppp es r.inv λZ Z Z Z Z z a b c Y=>.cons a b c (RepD.snoc e d O Y)
theorem EL:entryFor table "dict.update.loop"=some dH.«dict.update.loop»:=entryFor_of_tree (by kernel_rfl)
theorem ED:plainId "dict.update.loop"=true:=by decide +kernel
theorem GX{y:List Value}{n0:Nat}{R:Except Value Flow->ag->Prop}(nd:h0.get? d=aa)(ni:h0.get? it=aa)(Y:it≠d)(hl:h0.get? l=some (AE y.toArray n0))(hA:A.handled=aa)(hu1:(bK (cw S.prog S.w)).room A.in1) :
  ∀{r:List (Al×AV)}{i:Nat}{done:List (Al×AV)}{es:List bR}{nn:Nat}{s:ag},RepL cv h0 D (r.map pvA) (y.drop i)->(∀b o,h0.get? b=some o->s.heap.get? b=some o)->s.heap.IsListIter it l i->s.heap.get? d=some (AW es.toArray nn)->RepD cv h0 D done es->((done++r).map (·.1)).Nodup->done.length+r.length<=big ->
  (∀h' tk B n',(∀b o,h0.get? b=some o->h'.get? b=some o)->h'.get? d=some (AW (aB B) n')->RepD cv h0 D (done++r) B->R (.ok (.ret .none)) { s with heap:=h',toks:=tk }) ->
  codeAny (model S.prog S.w) A (.builtin "dict.update.loop" ⟨[.ref d,.ref it,.int i 0,.none],[]⟩) R s:=by
 intro r
 induction r with
 |nil =>
  intro i done es nn s rr kp U hd rd O hz hR;refine codeAny_builtin EL ?_;rw[Around.under_plainId ED];have ui:y.toArray[i]?=aa:=by
   have:y.drop i=[]:=rr.inv
   have:=List.drop_eq_nil_iff.mp this
   simpa using this
  unfold dH.«dict.update.loop»;refine ac (wpAny_pyNext_list_end (l:=l) (items:=y.toArray) hA U ⟨_,kp _ _ hl,rfl,n0,rfl⟩ ui λh' he=>(ac (ai (ai (hR h' _ es nn (λb o q=>he b o (λz=>Ak ni (z▸q)) (kp b o q)) (he _ _ (dC Y) hd) ?_)))))
  rwa [aN]
 |cons p r ih =>
  intro i done es nn s rr kp U hd rd O hz hR;refine X2ppp rr.inv λv vs ev rp rr'=>X3pppp rp.inv λt ws nt Z0 et dt rw_=>?_;clear rp;subst Z0;refine X2ppp rw_.two λkv xv Z1 rk rx=>?_;clear rw_;subst Z1;refine X4ppp rk.spot λta tx ty n1 Z2 ek dk=>?_;subst Z2;have ui:y[i]?=some (.ref t):=by
   have:=congrArg (·[0]?) ev
   simpa using this
  have ud:y.drop (i+1)=vs:=by rw[<- List.drop_drop,ev];rfl
  refine codeAny_builtin EL ?_;rw[Around.under_plainId ED];unfold dH.«dict.update.loop»;refine ac (wpAny_pyNext_list_item (l:=l) (items:=y.toArray) U ⟨_,kp _ _ hl,rfl,n0,rfl⟩ (x:=.ref t) (by simpa using ui) λh' hit' hs'=>?_)
  have u:∀b o,h0.get? b=some o->h'.get? b=some o:=λb o q=>hs'.extBut b o (λz=>Ak ni (z▸q)) (kp b o q);have hd':h'.get? d=some (AW es.toArray nn):=hs'.extBut _ _ (dC Y) hd;refine ac (bo (ac (wpAny_tryCatch ?_)));unfold Builtin.Dict.pairItems;refine ac (wpAny_typeOf (T := "tuple") ⟨_,u _ _ et,rfl⟩ ?_);rw[if_pos (by decide)]
  refine ac (wpAny_seqItems (u _ _ et) rfl (ai ?_));show wpAny _ _ (holding [bX ta,xv] (dictSet d (.ref ta) xv)) _ _ _;refine X1pp (RepD.xs (S:=S) (rd.ext (Ext.of_keeps u) (D':=D) λb q=>.inl q)) λxs hx Z3=>?_;clear hd;subst Z3;have hn:p.1∉done.map (·.1):=by
   rw[aQ,bn]at O;exact λq=>O.2.2 _ q _ (.head _) rfl
  have hnd:(done.map (·.1)).Nodup:=by
   rw[aQ,bn]at O;exact O.1
  have gn:By done p.1=aa:=by
   cases q:By done p.1 with|none=>rfl|some z=>exact(hn (dget_key q)).elim
  refine bo (wpAny_dictSet_heap hu1 (Es (u _ _ ek)) (Gv hx hnd hd') (λh2 hm sb=>?_) (by have:=rd.length;simp at this;rw[this];exact AZ (lin [done.length,(p::r).length,big] [] (.b V0 V2) [.b (.A V0 V1) V2] rfl hz)))
  refine X1p (B5 hm) λn2 e2=>?_;have ak:atKey xs (key p.1)=aa:=by
   have:=Dk hx p.1
   rw[gn]at this
   cases q:atKey xs (key p.1)with
   |none=>rfl
   |some z=>rw[q]at this;cases this
  rw[storedH_new ak,aQ]at e2;refine ai ⟨Code.quiet_builtin _ (by decide +kernel),ih (i:=i+1) (done:=done++[p]) (by rwa [ud]) (λb o q=>sb.extBut b o (λz=>Ak nd (z▸q)) (u b o q)) (hit'.extBut sb.extBut Y) e2 ?_ (by rw[aG];exact O) (by rw[an];simp at hz ⊢;exact lin [done.length,r.length,big] [] (.b (.A (.A V0 K1) V1) V2) [.b (.A V0 (.A V1 K1)) V2] rfl hz) λh3 tk B n' k3 g3 r3=>?_⟩
  .exact RepD.snoc ek dk rx rd
  .rw[aG]at r3
   exact hR h3 tk B n' k3 g3 r3
theorem GE(hl:s.heap.get? l=some (AE us.toArray n0))(hA:A.handled=aa)(hu:(bK (cw S.prog S.w)).room A.in1.in1)
  (rr:RepL cv s.heap D (r.map pvA) us) (nk:(r.map (·.1)).Nodup) (hz:r.length<=big)
  (h:∀h' tk es n,(∀b o,s.heap.get? b=some o->h'.get? b=some o)->h'.get? s.heap.objs.size=some (AW (aB es) n)->RepD cv s.heap D r es->Q (.ref s.heap.objs.size) { s with heap:=h',toks:=tk }):wpAny (model S.prog S.w) A (call (.type "dict") [.ref l]) Q E s:=by
 refine callType_codes (Q₁:=λd Ad=>d=.ref s.heap.objs.size/\Ad={ s with heap:=s.heap.push { cls:=.type "dict",data:=.dict #[] } }) PySem.F.kt_called_dict (gM _) PySem.F.entry_dict_init (kt_code_dict_new _ ⟨rfl,rfl⟩) ?_
 refine λd Ad u=>X0ll d Ad u ?_;have nd:=AA s.heap;have y:DictE (s.heap.push { cls:=.type "dict",data:=.dict #[] }) s.heap.objs.size #[] 0:=ay _ rfl;have Y:(s.heap.push { cls:=.type "dict",data:=.dict #[] }).get? l=some (AE us.toArray n0):=ar _ hl;refine⟨y.typeIs,im _ _,?_⟩;unfold dH.«dict.__init__»;refine ac ?_;unfold io;refine ac (dv y.typeIs ?_);show wpAny _ _ (pure (s.heap.objs.size,[bX l])) _ _ _;refine ai ?_;show wpAny _ _ (dN "dict.__init__" s.heap.objs.size (.ref l) [] .none) _ _ _;unfold dN;refine ac (wpAny_typeOf (T := "list") ⟨_,Y,rfl⟩ ?_);rw[if_pos (by decide)]
 refine ac (LA Y hA λO tk k1=>(ac (fR (ac (fu (items:=us.toArray) ⟨_,k1 _ _ Y,rfl,n0,rfl⟩ (ai ⟨Code.quiet_builtin _ (by decide +kernel),?_⟩))))))
 have k0:∀b o,s.heap.get? b=some o->O.get? b=some o:=λb o q=>k1 b o (ar _ q);have z:=k1 _ _ y;have U:O.get? O.objs.size=aa:=AA O;refine GX (S:=S) (A:=A.in1) (s:={ s with heap:=O.push { cls:=.type "list_iterator",data:=.fields #[.ref l,.int 0 0] },toks:=tk }) (r:=r) (i:=0) (done:=[]) (es:=[]) (nn:=0) nd (it:=O.objs.size) ?_ ?_ hl hA hu rr (λb o q=>ar _ (k0 b o q)) ⟨_,ay _ rfl,rfl,rfl⟩ (ar _ z) .nil nk (by simpa using hz) λh' tk B n' kp g rd=>?_
 .cases q:s.heap.get? O.objs.size with|none=>rfl|some o=>exact(Ak U (k0 _ _ q)).elim
 .exact λe=>Ak U (by rwa [e])
 .exact⟨rfl,h h' tk B n' kp g rd⟩
end
section
variable {F:Fx S}{m:L1}{V:E0}{X:Value->ag->Prop}{Q:AV->E0->Prop}
theorem CT.dictOf(hq:S.hx=aa)(ha:dl V a=some (l.map pvA))(hz:l.length<=big)(U:(l.map (·.1)).Nodup)(h:Fresh V (.dict l) (.dict l) Q):CT F m V (.type "dict") [a] Q X:=by
 refine λvals s hs r=>X1lp vals r.one λv Y=>X3lpp v (Y.lst hs.inv ha) λad vs n e T=>GE e (F.room.quiet hq) ?_ T U hz λh' tk es y d g B=>?_
 .show F.A.in1.in1.units<cLine
  have:=F.room.un;unfold cLine;simp;exact lin [F.A.units,F.k] [] (.c (.A (.A V0 K1) K1) GS) [.c (.A V0 (.M 20 V1)) BX] rfl this
 .exact Dg (tk:=tk) hs d (AA _) g U B h
end
end
section
section
variable {prog:dB}{w:World}{A:cX}{E:Value->ag->Prop}{s:ag}
theorem Da{y:Addr}{u:Tok}{Q:Int×Int×Nat->ag->Prop}(hs:s.heap.IsSliceOf y .none .none (.int (-1) u))(h:Q (1,-1,2) s) :
  wpAny (model prog w) A (gN (.ref y) (pure (2:Int))) Q E s:=by
 refine X1ppp (id hs) λos z U T=>?_;unfold gN Builtin.Slice.sliceFields;refine ac (ac (dh z T (x:=.none) rfl (ac (dh z T (x:=.none) rfl (ac (dh z T (x:=.int (-1) u) rfl (ai (ac (slicePart_int ?_)))))))));show wpAny _ _ (if ((-1:Int) == 0)=true then _ else _) _ _ s;rw[if_neg (by decide)]
 exact ac (slicePart_none (ac (slicePart_none (ac (ai (ai h))))))
theorem Gl{t z:Addr}{x y:Value}{n:Nat}{u:Tok}{Q:Value->ag->Prop}(ht:IsTup s.heap t #[x,y])(hs:s.heap.IsSliceOf z .none .none (.int (-1) u))
  (h:Q (.ref s.heap.objs.size) { s with heap:=s.heap.push { cls:=.type "tuple",data:=.seq #[y,x] } }):wpAny (model prog w) A (getItem (.ref t) (.ref z)) Q E s:=by
 have Y:sizeOk (.seq #[y,x]):=by show 2<=gF;decide
 refine X1ppp (id hs) λos d U T=>?_;have B:s.TypeIs (.ref z) "slice":=⟨os,d,U⟩;unfold getItem
 try with_reducible refine bo ?_
 first|refine ac (ai ?_)|skip
 refine ac (wpAny_sequenceKey ht.typeIs (by decide) ?_)
 refine ac (dJ (name:=bW "__getitem__") ht.typeIs gO
  (dq gO ht.typeIs entry_tuple_getitem ?_ (args_tuple_getitem _ _)))
 show wpAny _ _ (Builtin.Tuple.tupleItemsOf (.ref t) >>= _) _ _ s;refine ac (tupleItemsOf_ ht (ac (wpAny_typeOf B ?_)));rw[if_pos (by decide)]
 refine ac (Da hs ?_);show wpAny _ _ (if ((1:Int) == 0 && (-1:Int) == 1 && (2:Nat) == 2)=true then _ else _) _ _ s;rw[if_neg (by decide)]
 show wpAny _ _ (cW #[y,x] >>= _) _ _ s
 first
  |exact ac (m:=cW _) (bL (ai ⟨_,rfl,ai h⟩) Y)
  |exact ac (m:=cW _) (bL (ac (ai (ai ⟨_,rfl,ai h⟩))) Y)
  |exact ac (ac (m:=cW _) (bL (ai (ai ⟨_,rfl,ai h⟩)) Y))
  |exact ac (ac (m:=cW _) (bL (ai ⟨_,rfl,ai h⟩) Y))
end
section
variable {S:Sta}{F:Fx S}{m:L1}{V:E0}{X:Value->ag->Prop}{Q:AV->E0->Prop}
theorem tup_push{h:Heap}{t:Addr}{items:Array Value}{n:Nat}(e:h.get? t=some (Bz items n))(o:Obj):IsTup (h.push o) t items:=⟨_,ar _ e,rfl,n,rfl⟩
theorem new_two(h:Heap)(o:Obj):h.get? (h.push o).objs.size=aa:=by
 rw[cD]
 cases q:h.get? (h.objs.size+1)with|none=>rfl|some o=>exact absurd (bf q) (cR.mpr (fe _))
theorem ET.back{o:E}(h:ET F m V o (λa Aa=>∃x y,a=.tup [x,y]/\Q (.tup [y,x]) Aa) X):ET F m V (.slice o .none .none (.neg (.int 1))) Q X:=by
 refine λpe hc s hs=>X6lpppp pe hc.inv λpo T phi U p q ho hlo hhi Y=>Subscript_ ((h _ ho s hs).out ?_);intro va Aa Ad Ah Ac B;obtain⟨a,ra,x,y,rfl,hq⟩:=B;show wpAny _ _ (do
  let l <- eC (evalOpt T F.env)
  let u <- holding [l] (eC (evalOpt phi F.env))
  let s <- holding [l,u] (eC (evalOpt U F.env))
  newFields "slice" [l,u,s]) _ _ _
 refine ac ((optE (Q:=λv V=>v=.none/\V=Aa) (ET.none ⟨rfl,rfl⟩) hlo Ac).out ?_);intro vx Ab Ai Ao Ag B;obtain⟨_,rx,rfl,rfl⟩:=B;refine ac (bo ((optE (Q:=λv V=>v=.none/\V=Ab) (ET.none ⟨rfl,rfl⟩) hhi Ag).out ?_));intro vy Ar BC AU AG B;obtain⟨_,ry,rfl,rfl⟩:=B;refine ac (bo ((optE (Q:=λv V=>v=.int (-1)/\V=Ar) (ET.neg (ET.int ⟨1,rfl,rfl,rfl⟩)) Y AG).out ?_));intro vz Cp BB BS Bu B;obtain⟨_,rz,rfl,rfl⟩:=B;obtain rfl:=rx.inv;obtain rfl:=ry.inv;refine X1l vz rz.inv λu=>X3lppp va ((((ra.st Ao Ag).st AU AG).st BS Bu).inv) λt vs n e d rl=>X2ppp rl.two λv1 v2 Z0 r1 r2=>?_;clear rl;subst Z0;obtain⟨z,rfl,hz⟩:∃z,U=some z/\CE F.tb F.sc z (.neg (.int 1)):=by
  rcases Y.inv with⟨_,e'⟩|⟨z,rfl,hz⟩
  .cases e'
  .exact⟨z,rfl,hz⟩
 refine bL ?_ (by size_fits)
 have ht:=tup_push e { cls:=.type "slice",data:=.fields #[.none,.none,.int (-1) u] };exact tail_any (ops:=[.ref t,.ref BB.heap.objs.size]) ht.typeIs gO.lookup (Gl (n:=n) ht (iQ ..) (Aq (Bu.grow (h':=(BB.heap.push { cls:=.type "slice",data:=.fields #[.none,.none,.int (-1) u] }).push { cls:=.type "tuple",data:=.seq #[v2,v1] }) (λb o e=>ar _ (ar _ e)) BB.toks) λh5 O=>⟨Cp,(((Ah.trans Ao).trans AU).trans BS).trans O.any,h5,_,.tup (vs:=[v2,v1]) (ay _ rfl) (λdd=>(Bu.inv.not_D (new_two _ _) dd)) (.cons (r2.st O.any h5) (.cons (r1.st O.any h5) .nil)),hq⟩)) rfl
end
end
section
set_option genCtorIdx false in
inductive Sh where
 |val (v:AV)
 |new (j:Nat)
 |tup (l:List Sh)
 |list (l:List Sh)
noncomputable abbrev Sh.ctorIdx(x:Sh):Nat:=@Sh.casesOn (λ_=>Nat) x (λ_=>0) (λ_=>1) (λ_=>2) (λ_=>3)
structure RT where
 os:List L4
 sh:Sh
abbrev KR:=RT->LS->Prop
set_option genCtorIdx false in
inductive Rs where
 |val
 |new
 |tup (l:List Rs)
 |list (l:List Rs)
noncomputable abbrev Rs.ctorIdx(x:Rs):Nat:=@Rs.casesOn (λ_=>Nat) x 0 1 (λ_=>2) (λ_=>3)
structure FS where
 pure:List AV->Option AV
 spec:List AV->LS->KR->XL->Prop
 whole:Bool
structure Tab where
 q:Bool
 ex:List Nat
 fn:List (Nat×FS)
 me:List (Nat×FS)
 ky:List (Nat×(AV->Option Al)):=[]
noncomputable def G1{α:Type}:List (Nat×α)->Nat->Option α
 |[],_=>aa
 |(j,x)::r,i=>match b5 i j with
  |true=>some x
  |false=>G1 r i
noncomputable def frz:L4->AV
 |.list l=>.list l
 |.dict l=>.dict l
 |_=>.none
mutual
noncomputable def Sh.with(f:Nat->AV):Sh->AV
 |.val v=>v
 |.new j=>f j
 |.tup l=>.tup (Sh.withL f l)
 |.list l=>.list (Sh.withL f l)
noncomputable def Sh.withL(f:Nat->AV):List Sh->List AV
 |[]=>[]
 |x::r=>Sh.with f x::Sh.withL f r
end
noncomputable def frzN:List L4->Nat->AV
 |[],_=>.none
 |o::_,0=>frz o
 |_::r,j+1=>frzN r j
def MK:List L4->Nat->LS->List AV->(List AV->LS->Prop)->Prop
 |[],_,V,acc,k=>k acc V
 |o::r,i,V,acc,k=>∀a,MK r (i+1) (V.set i (.at a o)) (acc++[.loc a i]) k
def D1(mu:Option Nat)(r:RT)(V:LS)(K:KV):Prop:=match mu with
 |aa=>K (r.sh.with (frzN r.os)) V
 |some i=>MK r.os i V [] (λvs V'=>K (r.sh.with (λj=>vs.getD j .none)) V')
def quiet(q:Bool)(P:Prop):Prop:=match q with
 |true=>P
 |false=>False
def frW(mu:Option Nat)(o:L4)(fz:AV)(V:LS)(K:KV):Prop:=match mu with
 |aa=>K fz V
 |some i=>∀a,K (.loc a i) (V.set i (.at a o))
def cnd(lit:Bool)(P R:Prop):Prop:=match lit with
 |true=>R
 |false=>P/\R
def ifW(b:Bool)(A B:Prop):Prop:=match b with
 |true=>A
 |false=>B
def boolW(a:AV)(K:Bool->Prop):Prop:=match a with
 |.bool b=>K b
 |_=>False
def dlW(V:LS)(v:AV)(K:List AV->Prop):Prop:=match v with
 |.list l=>K l
 |.loc a i=>(match slot V i with
  |.at b (.list l)=>b=a/\K l
  |_=>False)
 |_=>False
def ddW(V:LS)(v:AV)(K:List (Al×AV)->Prop):Prop:=match v with
 |.dict l=>K l
 |.loc a i=>(match slot V i with
  |.at b (.dict l)=>b=a/\K l
  |_=>False)
 |_=>False
def spotW(a:AV)(K:Al->Prop):Prop:=match spot? a with
 |some k=>K k
 |aa=>False
def vwW(V:LS)(v:AV)(K:AV->Prop):Prop:=match v with
 |.loc a i=>(match slot V i with
  |.at b (.list l)=>b=a/\K (.list l)
  |.at b (.dict l)=>b=a/\K (.dict l)
  |_=>False)
 |v=>K v
noncomputable def E.nat?:E->Option Nat
 |.int i=>(match i with
  |.ofNat n=>some n
  |.negSucc _=>aa)
 |_=>aa
noncomputable def lit(e:E):Bool:=match e.nat? with
 |some n=>(match n with
  |0=>false
  |n+1=>gY n 1000000)
 |aa=>false
noncomputable def lit0(e:E):Bool:=match e.nat? with
 |some n=>gY n 1000000
 |aa=>false
def addW(mu:Option Nat)(a b:AV)(V:LS)(K:KV):Prop:=match a with
 |.int x=>(match b with
  |.int y=>K (.int (x+y)) V
  |_=>False)
 |.str x=>(match b with
  |.str y=>x.length+y.length<=big/\K (.str (x++y)) V
  |_=>False)
 |a=>dlW V a λl=>dlW V b λk=>l.length+k.length<=big/\frW mu (.list (l++k)) (.list (l++k)) V K
def mulW(mu:Option Nat)(a b:AV)(V:LS)(K:KV):Prop:=match b with
 |.int y=>(match a with
  |.int x=>IntMulOk x y/\K (.int (x * y)) V
  |.str x=>MulOk x y/\K (.str (d3 x y)) V
  |_=>False)
 |_=>False
def int2(a b:AV)(K:Int->Int->Prop):Prop:=match a with
 |.int x=>(match b with
  |.int y=>K x y
  |_=>False)
 |_=>False
def binW(li:Bool)(mu:Option Nat)(op:Operator)(a b:AV)(V:LS)(K:KV):Prop:=match op with
 |.Add=>addW mu a b V K
 |.Sub=>int2 a b λx y=>K (.int (x - y)) V
 |.Mult=>mulW mu a b V K
 |.Mod=>int2 a b λx y=>cnd li (y≠0) (K (.int (x.fmod y)) V)
 |.FloorDiv=>int2 a b λx y=>cnd li (y≠0/\y.natAbs<1073741824) (K (.int (x.fdiv y)) V)
 |_=>False
def EqP0(a b:AV)(t:Bool):Prop:=∃da db,G0 a=some da/\G0 b=some db/\d4 da=true/\d4 db=true/\eV da db=t
inductive EqP(a b:AV)(t:Bool):Prop
 |py (h:EqP0 a b t):EqP a b t
def InP(a b:AV)(t:Bool):Prop:=∃d xs,G0 a=some d/\(G0 b=some (.list xs)\/G0 b=some (.tuple xs))/\cC xs=true/\d.canLay0=true/\d.depth<=100/\(xs.any λy=>eV y d)=t
def eqW(a b:AV)(V:LS)(K:Bool->Prop):Prop:=match a with
 |.int x=>(match b with
  |.int y=>K (x == y)
  |b=>vwW V b λb'=>∃t,EqP (.int x) b' t/\K t)
 |a=>vwW V a λa'=>vwW V b λb'=>∃t,EqP a' b' t/\K t
def InV(V:LS)(a b:AV)(t:Bool):Prop:=match b with
 |.dict l=>spotW a λk=>(By l k).isSome=t
 |.str x=>(match a with
  |.str y=>eI x y=t
  |_=>False)
 |.loc ad i=>(match slot V i with
  |.at b' (.dict l)=>b'=ad/\spotW a λk=>(By l k).isSome=t
  |.at b' (.list l)=>b'=ad/\InP a (.list l) t
  |_=>False)
 |b=>InP a b t
def inW(a b:AV)(V:LS)(K:Bool->Prop):Prop:=∃t,InV V a b t/\K t
def ltW(a b:AV)(K:Bool->Prop):Prop:=match a with
 |.tup l=>spotW (.tup l) λp=>spotW b λq=>K (AQ p q)
 |a=>int2 a b λx y=>K (decide (x<y))
def cmpW(op:CmpOp)(a b:AV)(V:LS)(K:Bool->Prop):Prop:=match op with
 |.Eq=>eqW a b V K
 |.NotEq=>eqW a b V λt=>K (!t)
 |.Lt=>ltW a b K
 |.LtE=>int2 a b λx y=>K (decide (x<=y))
 |.Gt=>int2 a b λx y=>K (decide (y<x))
 |.In=>inW a b V K
 |.NotIn=>inW a b V λt=>K (!t)
 |_=>False
def idxW(li:Bool)(i:AV)(K:Nat->Prop):Prop:=match i with
 |.int k=>cnd li (0<=k/\k<1000000) (K k.toNat)
 |_=>False
def subW(li:Bool)(a i:AV)(V:LS)(K:KV):Prop:=match a with
 |.tup l=>idxW li i λn=>(match l[n]? with
  |some x=>K x V
  |aa=>False)
 |.str x=>idxW li i λn=>∃c,x.cps[n]?=some c/\K (.str ⟨#[c]⟩) V
 |.nums l=>idxW li i λn=>∃x,l[n]?=some x/\K (.int x) V
 |.list l=>idxW li i λn=>∃x,l[n]?=some x/\K x V
 |.dict l=>spotW i λk=>∃x,By l k=some x/\K x V
 |.loc ad j=>(match slot V j with
  |.at b (.list l)=>b=ad/\idxW li i λn=>∃x,l[n]?=some x/\K x V
  |.at b (.dict l)=>b=ad/\spotW i λk=>∃x,By l k=some x/\K x V
  |_=>False)
 |_=>False
def Kn(mu:Option Nat)(a x y:AV)(V:LS)(K:KV):Prop:=match a with
 |.str t=>∃t',t.length<=big/\cutS t x y=some t'/\K (.str t') V
 |a=>dlW V a λl=>∃l',l.length<=big/\cut l x y=some l'/\frW mu (.list l') (.list l') V K
noncomputable def E.isN:E->Bool
 |.none=>true
 |_=>false
noncomputable def E.one:E->Bool
 |.int i=>(match i with
  |.ofNat n=>b5 n 1
  |.negSucc _=>false)
 |_=>false
noncomputable def E.negOne:E->Bool
 |.neg x=>x.one
 |_=>false
noncomputable def LF(lo hi st:E):Bool:=lo.isN && (hi.isN && st.negOne)
def backW(a:AV)(V:LS)(K:KV):Prop:=match a with
 |.tup l=>(match two? l with
  |some p=>K (.tup [p.2,p.1]) V
  |aa=>False)
 |_=>False
noncomputable abbrev FV(t o:AV):List (Str×AV):=[("texts",t),("own",o)]
noncomputable def Slot.obj?:Slot->Option (Addr×L4)
 |.at a o=>some (a,o)
 |.no=>aa
noncomputable def fields?(V:LS)(i:Nat):Option ((Addr×Addr)×Addr×List (Str×AV)):=(slot V i).obj?.bind λb=>b.2.inst?.bind λd=>(slot V (i+1)).obj?.bind λc=>c.2.attrs?.bind λl=>some ((b.1,d),c.1,l)
def instW(V:LS)(a:AV)(K:AV->AV->Prop):Prop:=match a with
 |.inst l=>(match two? l with
  |some p=>(p.1.1 = "texts"/\p.2.1 = "own")/\K p.1.2 p.2.2
  |aa=>False)
 |.loc x i=>(match fields? V i with
  |some f=>(match two? f.2.2 with
   |some p=>(f.1.1=x/\f.2.1=f.1.2/\p.1.1 = "texts"/\p.2.1 = "own")/\K p.1.2 p.2.2
   |aa=>False)
  |aa=>False)
 |_=>False
def attrW(n:Nat)(a:AV)(V:LS)(K:KV):Prop:=instW V a λt o=>match n with
 |11=>noCls t=true/\K t V
 |12=>noCls o=true/\K o V
 |_=>False
noncomputable def tyW(V:LS):AV->Option Ty
 |.none=>some .none
 |.bool _=>some .bool
 |.int _=>some .int
 |.str _=>some .str
 |.tup _=>some .tup
 |.list _=>some .list
 |.dict _=>some .dict
 |.loc _ i=>(match slot V i with
  |.at _ (.list _)=>some .list
  |.at _ (.dict _)=>some .dict
  |_=>aa)
 |_=>aa
def atW(V:LS)(a:AV)(P:Prop):Prop:=match a with
 |.loc x i=>(match slot V i with
  |.at b _=>b=x/\P
  |.no=>False)
 |_=>P
def lenW(a:AV)(V:LS)(K:KV):Prop:=match a with
 |.str x=>x.length<=big/\K (.int x.length) V
 |.tup l=>l.length<=big/\K (.int l.length) V
 |.nums l=>l.length<=big/\K (.int l.length) V
 |.list l=>l.length<=big/\K (.int l.length) V
 |.dict l=>l.length<=big/\K (.int l.length) V
 |.loc ad i=>(match slot V i with
  |.at b (.list l)=>b=ad/\l.length<=big/\K (.int l.length) V
  |.at b (.dict l)=>b=ad/\l.length<=big/\K (.int l.length) V
  |_=>False)
 |_=>False
noncomputable def isi?(V:LS)(a:AV)(j:Nat):Option Bool:=(tyW V a).bind λt=>(tyCls j).bind λu=>some (isT t u)
def isiW(ex:List Nat)(a c:AV)(V:LS)(K:KV):Prop:=match c with
 |.cls j=>(match a with
  |.exc c=>(match ex.contains c && ex.contains j && eU 18 c && eU c 27 && eU 17 j && eU j 27 with
   |true=>K (.bool (J5 c j)) V
   |false=>False)
  |a=>atW V a (match isi? V a j with
   |some b=>K (.bool b) V
   |aa=>False))
 |_=>False
def listW(q:Bool)(mu:Option Nat)(a:AV)(V:LS)(K:KV):Prop:=match a with
 |.tup l=>l.length<=big/\frW mu (.list l) (.list l) V K
 |.list l=>l.length<=big/\frW mu (.list l) (.list l) V K
 |.dict l=>quiet q (l.length<=big/\frW mu (.list (l.map λp=>sp p.1)) (.list (l.map λp=>sp p.1)) V K)
 |.loc ad i=>(match slot V i with
  |.at b (.list l)=>b=ad/\l.length<=big/\frW mu (.list l) (.list l) V K
  |.at b (.dict l)=>b=ad/\quiet q (l.length<=big/\frW mu (.list (l.map λp=>sp p.1)) (.list (l.map λp=>sp p.1)) V K)
  |_=>False)
 |_=>False
noncomputable def ints?:List AV->Option (List Int)
 |[]=>some []
 |a::r=>a.int?.bind λx=>(ints? r).bind λl=>some (x::l)
def rngW(V:LS)(K:KV):List Int->Prop
 |[]=>False
 |a::r=>(match r with
  |[]=>K (.range 0 a 1) V
  |b::r=>(match r with
   |[]=>K (.range a b 1) V
   |c::r=>(match r with
    |[]=>c≠0/\c.natAbs<1073741824/\K (.range a b c) V
    |_::_=>False)))
def KM(avs:List AV)(V:LS)(K:KV):Prop:=match ints? avs with
 |some l=>rngW V K l
 |aa=>False
def buW(q:Bool)(ex:List Nat)(mu:Option Nat)(i:Nat)(avs:List AV)(V:LS)(K:KV):Prop:=match i with
 |0=>(match avs with
  |[a]=>lenW a V K
  |_=>False)
 |1=>(match avs with
  |[a,c]=>isiW ex a c V K
  |_=>False)
 |4=>(match avs with
  |[a]=>dlW V a λl=>l.length<=big/\K (.tup l) V
  |_=>False)
 |5=>(match avs with
  |[a]=>listW q mu a V K
  |_=>False)
 |7=>(match avs with
  |[a]=>(ddW V a λl=>(l.length<=big/\l≠[]/\(l.map λp=>Bc p.1).Nodup)/\frW mu (.dict l) (.dict l) V K)\/quiet q (dlW V a λL=>∃l,L=l.map pvA/\(l.length<=big/\(l.map (·.1)).Nodup)/\frW mu (.dict l) (.dict l) V K)
  |_=>False)
 |8=>KM avs V K
 |11=>(match avs with
  |[a]=>quiet q (spotW a λp=>(p.1.natAbs<=1000000/\p.2.natAbs<=1000000)/\K (.int (p.1+p.2)) V)
  |_=>False)
 |13=>(match avs with
  |[a,b]=>quiet q (int2 a b λx y=>K (.int (min x y)) V)
  |_=>False)
 |14=>(match avs with
  |[a,b]=>quiet q (int2 a b λx y=>K (.int (max x y)) V)
  |_=>False)
 |15=>(match avs with
  |[a]=>quiet q (dlW V a λl=>∃bs:List Bool,l=bs.map .bool/\K (.bool (bs.all id)) V)
  |_=>False)
 |16=>(match avs with
  |[a]=>quiet q (dlW V a λl=>∃bs:List Bool,l=bs.map .bool/\K (.bool (bs.any id)) V)
  |_=>False)
 |_=>False
noncomputable def A8:List AV->Nat->List AV
 |[],_=>[]
 |x::r,n=>(match x with
  |.loc a _=>.loc a n::A8 r (n+1)
  |x=>x::A8 r n)
noncomputable def AN:List AV->List Nat
 |[]=>[]
 |x::r=>(match x with
  |.loc _ i=>i::AN r
  |_=>AN r)
noncomputable def Ik:List Nat->Bool
 |[]=>true
 |i::r=>!(r.any (b5 i)) && Ik r
noncomputable def wb(V:LS):List Nat->LS->LS
 |[],_=>V
 |i::r,s::t=>wb (V.set i s) r t
 |i::r,[]=>wb (V.set i .no) r []
def Ch(f:FS)(mu:Option Nat)(avs:List AV)(V:LS)(K:KV)(X:XL):Prop:=match f.pure avs with
 |some v=>K v V
 |aa=>(match f.whole with
  |true=>f.spec avs V (λr V'=>D1 mu r V' K) X
  |false=>(match Ik (AN avs)with
   |true=>f.spec (A8 avs 0) ((AN avs).map (slot V)) (λr V'=>D1 mu r (wb V (AN avs) V') K) (λc V'=>X c (wb V (AN avs) V'))
   |false=>False))
def callW(Φ:Tab)(X:XL)(mu:Option Nat)(i:Nat)(avs:List AV)(V:LS)(K:KV):Prop:=match gY i 17 with
 |true=>buW Φ.q Φ.ex mu i avs V K
 |false=>(match G1 Φ.fn i with
  |some f=>Ch f mu avs V K X
  |aa=>False)
def slotD(V:LS)(a:AV)(K:Addr->Nat->List (Al×AV)->Prop):Prop:=match a with
 |.loc x i=>(match slot V i with
  |.at b (.dict l)=>b=x/\K b i l
  |_=>False)
 |_=>False
def slotL(V:LS)(a:AV)(K:Addr->Nat->List AV->Prop):Prop:=match a with
 |.loc x i=>(match slot V i with
  |.at b (.list l)=>b=x/\K x i l
  |_=>False)
 |_=>False
def slotC(V:LS)(a:AV)(K:Addr->Nat->List AV->Prop)(K':Addr->Nat->List (Al×AV)->Prop):Prop:=match a with
 |.loc x i=>(match slot V i with
  |.at b (.list l)=>b=x/\K b i l
  |.at b (.dict l)=>b=x/\K' b i l
  |_=>False)
 |_=>False
def methW(n:Nat)(a:AV)(avs:List AV)(V:LS)(K:KV):Prop:=match n with
 |0=>(match avs with
  |[x]=>slotL V a λad i l=>l.length<=big/\K .none (V.set i (.at ad (.list (l++[x]))))
  |_=>False)
 |1=>(match avs with
  |[]=>slotL V a λad i l=>l.length<=big/\∃x,l.getLast?=some x/\K x (V.set i (.at ad (.list l.dropLast)))
  |_=>False)
 |2=>(match avs with
  |[i,x]=>slotL V a λad j l=>(match i with
   |.int z=>(0<=z/\z.toNat<=l.length)/\l.length<=big/\K .none (V.set j (.at ad (.list (JL l z.toNat x))))
   |_=>False)
  |_=>False)
 |6=>(match avs with
  |[k]=>ddW V a λl=>spotW k λkk=>K ((By l kk).getD .none) V
  |_=>False)
 |_=>(match a with
  |.str x=>(match avs with
   |[b]=>dlW V b λl=>∃ys:List Str,l=ys.map .str/\(ys.map (·.length)).sum+ys.length * x.length<=1000000/\K (.str (Txt.join x ys)) V
   |_=>False)
  |_=>False)
def objW(n:Nat)(a:AV)(V:LS)(P:Prop):Prop:=match n with
 |6=>ddW V a λZ=>P
 |8=>(match a with
  |.str _=>P
  |_=>False)
 |_=>slotL V a λZ Z Z=>P
noncomputable def hasF(Φ:Tab)(i:Nat):Bool:=gY i 17 || (G1 Φ.fn i).isSome
noncomputable def isMe:Nat->Bool
 |0|1|2|3|6|8=>true
 |7=>true
 |_=>false
noncomputable def Dy(f:AV->Option Al)(x:AV):Al:=match f x with
 |some p=>p
 |aa=>(0,0)
def Sorts(f:AV->Option Al)(L L':List AV):Prop:=L'.Perm L/\L'.Pairwise (λx y=>AQ (Dy f x) (Dy f y)=true)
def sortW(f:AV->Option Al)(mu:Option Nat)(L:List AV)(V:LS)(K:KV):Prop :=
 ((∀x∈L,(f x).isSome=true)/\L.length<64/\(L.map (Dy f)).Nodup)/\∀L',Sorts f L L'->frW mu (.list L') (.list L') V K
abbrev KG:=List AV->Option Nat->LS->Prop
def iterW(q:Bool)(a:AV)(V:LS)(G:KG):Prop:=match a with
 |.tup l=>quiet q (G l aa V)
 |.list l=>quiet q (G l aa V)
 |.str x=>quiet q (x.cps.all (·<128)=true/\G (Dc x) aa V)
 |.dict l=>quiet q (G (l.map λp=>sp p.1) aa V)
 |.range a b c=>cz a b c=true/\G (A1 a c (Bd a b c)) aa V
 |.loc x i=>(match slot V i with
  |.at b (.list l)=>b=x/\quiet q (G l (some i) V)
  |_=>False)
 |_=>False
def enumW(q:Bool)(a:AV)(V:LS)(G:KG):Prop:=match a with
 |.str x=>quiet q (x.cps.all (·<128)=true/\G (CB (Dc x)) aa V)
 |.list l=>quiet q (G (CB l) aa V)
 |.loc x i=>(match slot V i with
  |.at b (.list l)=>b=x/\quiet q (G (CB l) (some i) V)
  |_=>False)
 |_=>False
def stays(ok:Option Nat)(V V':LS)(P:Prop):Prop:=match ok with
 |aa=>P
 |some i=>slot V' i=slot V i/\P
mutual
def patW(q:Bool):Pat->AV->M->(M->Prop)->Prop
 |.v i,a,m,K=>K (Ff m i a)
 |.tup ps,a,m,K=>quiet q (match a with
  |.tup l=>(match b5 ps.length l.length with
   |true=>patsW q ps l m K
   |false=>False)
  |_=>False)
def patsW(q:Bool):List Pat->List AV->M->(M->Prop)->Prop
 |[],[],m,K=>K m
 |p::ps,a::as,m,K=>patW q p a m (λAp=>patsW q ps as Ap K)
 |_,_,_,_=>False
end
noncomputable def kSeq(f:M->LS->KS->Prop)(K:KS):KS:=λfl m V=>match fl with
 |.next=>f m V K
 |.ret v=>K (.ret v) m V
noncomputable def DX(ok:Option Nat)(V:LS)(C:M->LS->Prop)(K:KS):KS:=λfl m Ab=>match fl with
 |.next=>stays ok V Ab (C m Ab)
 |.ret v=>K (.ret v) m Ab
noncomputable def kWh(n:Nat)(I:Nat->M->LS->Prop)(K:KS):KS:=λfl m V=>match fl with
 |.next=>∃n',n'<n/\I n' m V
 |.ret v=>K (.ret v) m V
set_option tactic.hygienic true in
def Hw(q:Bool)(p:Pat)(body:M->LS->KS->Prop)(ok:Option Nat)(K:KS):List AV->M->LS->Prop
 |[],m,V=>K .next m V
 |x::r,m,V=>patW q p x m (λAp=>body Ap V (DX ok V (Hw q p body ok K r) K))
def Ec(i:Nat)(elt:M->LS->KV->Prop)(tst:M->LS->KB->Prop)(ok:Option Nat)(m:M)(K:List AV->LS->Prop):List AV->List AV->LS->Prop
 |[],ys,V=>K ys V
 |x::r,ys,V=>tst (Ff m i x) V (λb Aa=>ifW b (elt (Ff m i x) Aa (λy Ab=>stays ok V Ab (Ec i elt tst ok m K r (ys++[y]) Ab)))
  (stays ok V Aa (Ec i elt tst ok m K r ys Aa)))
structure WT where
 v:Option Nat->M->LS->KV->Prop
 t:M->LS->KB->Prop
noncomputable def vt(f:Option Nat->M->LS->KV->Prop):WT:=⟨f,λm V K=>f aa m V (λa V'=>boolW a λb=>K b V')⟩
def GW:List WT->M->LS->(List AV->LS->Prop)->Prop
 |[],_,V,K=>K [] V
 |f::r,m,V,K=>f.v aa m V (λa Aa=>GW r m Aa (λl Ab=>K (a::l) Ab))
def andT:List WT->M->LS->KB->Prop
 |[],_,V,K=>K true V
 |f::r,m,V,K=>f.t m V (λb Aa=>ifW b (andT r m Aa K) (K false Aa))
def orT:List WT->M->LS->KB->Prop
 |[],_,V,K=>K false V
 |f::r,m,V,K=>f.t m V (λb Aa=>ifW b (K true Aa) (orT r m Aa K))
def andV:List WT->M->LS->KV->Prop
 |[],_,_,_=>False
 |f::r,m,V,K=>(match r with
  |[]=>f.v aa m V K
  |_::_=>f.v aa m V (λa Aa=>boolW a λb=>ifW b (andV r m Aa K) (K (.bool false) Aa)))
def orV:List WT->M->LS->KV->Prop
 |[],_,_,_=>False
 |f::r,m,V,K=>(match r with
  |[]=>f.v aa m V K
  |_::_=>f.v aa m V (λa Aa=>boolW a λb=>ifW b (K (.bool true) Aa) (orV r m Aa K)))
def pairW:List WT->List WT->List (AV×AV)->M->LS->(List (AV×AV)->LS->Prop)->Prop
 |[],[],r,_,V,K=>K r V
 |f::fs,g::gs,r,m,V,K=>f.v aa m V (λa Aa=>g.v aa m Aa (λb Ab=>pairW fs gs (r++[(a,b)]) m Ab K))
 |_,_,_,_,_,_=>False
def dictW(mu:Option Nat)(ps:List (AV×AV))(V:LS)(K:KV):Prop:=match eU ps.length 15 with
 |true=>(match mkD ps []with
  |some l=>frW mu (.dict l) (.dict l) V K
  |aa=>False)
 |false=>False
def few{α:Type}(l:List α)(P:Prop):Prop:=match gY l.length 15 with
 |true=>P
 |false=>False
def G2(fs:List WT)(m:M)(V:LS)(K:KB):Prop:=match fs with
 |[]=>K true V
 |[f]=>f.t m V K
 |_=>False
def gW(Φ:Tab)(i:Nat)(V:LS)(K:KV):Prop:=match b5 i 28 with
 |true=>(match Φ.ex.contains 28 with
  |true=>K (.int 6) V
  |false=>False)
 |false=>(match gY i 17 || Φ.ex.contains i with
  |true=>K (.cls i) V
  |false=>False)
def sdW(fs:List WT)(m:M)(a:AV)(V:LS)(K:KV):Prop:=match two? fs with
 |some f=>slotD V a λZ Z Z=>f.1.v aa m V (λk Aa=>spotW k λkk=>∃mu,f.2.v mu m Aa (λx Ab=>slotD Ab a λb j l=>l.length<=big/\(match By l kk with
  |some v=>K v Ab
  |aa=>K x (Ab.set j (.at b (.dict (Bx l kk x)))))))
 |aa=>False
def clrW(fs:List WT)(a:AV)(V:LS)(K:KV):Prop:=match fs with
 |[]=>slotC V a (λad i l=>l.length<=big/\K .none (V.set i (.at ad (.list [])))) (λad i l=>l.length<=big/\K .none (V.set i (.at ad (.dict []))))
 |_=>False
def bmW(n:Nat)(fs:List WT)(m:M)(a:AV)(V:LS)(K:KV):Prop:=match n with
 |3=>clrW fs a V K
 |7=>sdW fs m a V K
 |n=>objW n a V (GW fs m V (λavs Ab=>methW n a avs Ab K))
def omW(o:Option FS)(g:WT)(fs:List WT)(mu:Option Nat)(X:XL)(m:M)(V:LS)(K:KV):Prop:=match o with
 |some f=>g.v aa m V (λa Aa=>instW Aa a λZ Z=>GW fs m Aa (λavs Ab=>instW Ab a λZ Z=>Ch f mu (a::avs) Ab K X))
 |aa=>False
mutual
noncomputable def wp(Φ:Tab):E->XL->WT
 |.none,_=>vt λZ Z V K=>K .none V
 |.bool b,_=>vt λZ Z V K=>K (.bool b) V
 |.int i,_=>vt λZ Z V K=>K (.int i) V
 |.str s,_=>vt λZ Z V K=>K (.str s) V
 |.v i,_=>vt λZ m V K=>match m.getD i aa with
  |some a=>K a V
  |aa=>False
 |.g i,_=>vt λZ Z V K=>gW Φ i V K
 |.tup es,X=>vt λZ m V K=>few es (GW (wpL Φ es X) m V (λl V'=>K (.tup l) V'))
 |.list es,X=>vt λmu m V K=>few es (GW (wpL Φ es X) m V (λl V'=>frW mu (.list l) (.list l) V' K))
 |.dict ks vs,_=>vt λmu m V K=>(match b5 ks.length vs.length && gY ks.length 15 with
  |true=>pairW (wpL Φ ks BV) (wpL Φ vs BV) [] m V (λps V'=>dictW mu ps V' K)
  |false=>False)
 |.bin op l r,X=>vt λmu m V K=>(wp Φ l X).v aa m V (λa Aa=>(wp Φ r X).v aa m Aa (λb Ab=>binW (lit r) mu op a b Ab K))
 |.neg x,X=>vt λZ m V K=>(wp Φ x X).v aa m V (λa Aa=>match a with
  |.int i=>K (.int (-i)) Aa
  |_=>False)
 |.not x,X=>⟨λZ m V K=>(wp Φ x X).v aa m V (λa Aa=>boolW a λb=>K (.bool (!b)) Aa),λm V K=>(wp Φ x X).t m V (λb Aa=>K (!b) Aa)⟩
 |.and es,X=>⟨λZ m V K=>andV (wpL Φ es X) m V K,λm V K=>andT (wpL Φ es X) m V K⟩
 |.or es,X=>⟨λZ m V K=>orV (wpL Φ es X) m V K,λm V K=>orT (wpL Φ es X) m V K⟩
 |.cmp op l r,X=>⟨λZ m V K=>(wp Φ l X).v aa m V (λa Aa=>(wp Φ r X).v aa m Aa (λb Ab=>cmpW op a b Ab λt=>K (.bool t) Ab)),
   λm V K=>(wp Φ l X).v aa m V (λa Aa=>(wp Φ r X).v aa m Aa (λb Ab=>cmpW op a b Ab λt=>K t Ab))⟩
 |.cmp2 o1 o2 a b c,X=>⟨λZ Z Z Z=>False,λm V K=>(wp Φ a X).v aa m V (λx Aa=>(wp Φ b X).v aa m Aa (λy Ab=>cmpW o1 x y Ab λt=>ifW t ((wp Φ c X).v aa m Ab (λz Ar=>cmpW o2 y z Ar λt=>K t Ar)) (K false Ab)))⟩
 |.ite c a b,X=>⟨λmu m V K=>(wp Φ c X).t m V (λt Aa=>ifW t ((wp Φ a X).v mu m Aa K) ((wp Φ b X).v mu m Aa K)),λZ Z Z=>False⟩
 |.sub o i,X=>vt λZ m V K=>(wp Φ o X).v aa m V (λa Aa=>(wp Φ i X).v aa m Aa (λk Ab=>subW (lit0 i) a k Ab K))
 |.slice o lo hi .none,X=>vt λmu m V K=>(wp Φ o X).v aa m V (λa Aa=>(wp Φ lo X).v aa m Aa (λx Ab=>(wp Φ hi X).v aa m Ab (λy Ar=>Kn mu a x y Ar K)))
 |.slice o lo hi st,X=>vt λZ m V K=>quiet (LF lo hi st) ((wp Φ o X).v aa m V (λa Aa=>backW a Aa K))
 |.attr (.v i) n,_=>vt λZ m V K=>match m.getD i aa with
  |some a=>attrW n a V K
  |aa=>False
 |.call (.g i) (e::es),X=>vt λmu m V K=>(match hasF Φ i with
  |true=>GW (wpL Φ (e::es) X) m V (λavs Aa=>callW Φ X mu i avs Aa K)
  |false=>False)
 |.sorted x (.g i),X=>vt λmu m V K=>match G1 Φ.ky i with
  |some f=>(wp Φ x X).v aa m V (λa Aa=>dlW Aa a λL=>sortW f mu L Aa K)
  |aa=>False
 |.meth o n args,X=>vt λmu m V K=>ifW (isMe n) ((wp Φ o X).v aa m V (λa Aa=>bmW n (wpL Φ args X) m a Aa K)) (omW (G1 Φ.me n) (wp Φ o X) (wpL Φ args X) mu X m V K)
 |.comp elt i src cs,X=>vt λmu m V K=>(wp Φ src X).v aa m V (λa Aa=>iterW Φ.q a Aa (λitems ok Ab=>items.length<=big/\Ec i ((wp Φ elt BV).v aa) (G2 (wpL Φ cs BV)) ok m (λys Ar=>frW mu (.list ys) (.list ys) Ar K) items [] Ab))
 |.mu l e,X=>⟨λZ m V K=>(wp Φ e X).v (some l) m V K,λm V K=>(wp Φ e X).t m V K⟩
 |_,_=>⟨λZ Z Z Z=>False,λZ Z Z=>False⟩
noncomputable def wpL(Φ:Tab):List E->XL->List WT
 |[],_=>[]
 |e::r,X=>wp Φ e X::wpL Φ r X
end
def slotI(V:LS)(a:AV)(K:Addr->Nat->Addr->List (Str×AV)->Prop):Prop:=match a with
 |.loc x i=>(match fields? V i with
  |some f=>(f.1.1=x/\f.2.1=f.1.2)/\K f.1.1 i f.2.1 f.2.2
  |aa=>False)
 |_=>False
noncomputable def vOf:Pat->Option Nat
 |.v i=>some i
 |_=>aa
noncomputable def tupOf:E->Option (List E)
 |.tup es=>some es
 |_=>aa
noncomputable def asg3(p q:Pat)(a b:E):Bool:=match vOf p with
 |some i=>(match vOf q with
  |some j=>!(b5 i j) && (DW 8 a || DW 8 b)
  |aa=>false)
 |aa=>false
noncomputable def asg2(ps:List Pat)(es:List E):Bool:=match two? ps with
 |some pq=>(match two? es with
  |some ab=>asg3 pq.1 pq.2 ab.1 ab.2
  |aa=>false)
 |aa=>false
noncomputable def asgT(ps:List Pat)(e:E):Bool:=match tupOf e with
 |some es=>asg2 ps es || (eU 4 ps.length && AI e)
 |aa=>Ga e && AI e
noncomputable def notMu:E->Bool
 |.mu _ _=>false
 |_=>true
noncomputable def notMu2:E->Bool
 |.mu _ e=>notMu e
 |_=>true
noncomputable def asgOk(q:Bool)(p:Pat)(e:E):Bool:=match p with
 |.v _=>notMu2 e
 |.tup ps=>q && asgT ps e
noncomputable def E.g?:E->Option Nat
 |.g i=>some i
 |_=>aa
noncomputable def E.str?:E->Option Str
 |.str t=>some t
 |_=>aa
noncomputable def call1?:E->Option (Nat×E)
 |.call f es=>f.g?.bind λi=>(one? es).bind λe=>some (i,e)
 |_=>aa
noncomputable def Mh(e:E):Option E:=(call1? e).bind λp=>match b5 p.1 9 with
 |true=>some p.2
 |false=>aa
noncomputable def isTup:Pat->Bool
 |.tup _=>true
 |_=>false
def srcS(Φ:Tab)(X:XL)(p:Pat)(e:E)(m:M)(V:LS)(G:KG):Prop:=match Mh e with
 |some e'=>(match isTup p with
  |true=>(wp Φ e' X).v aa m V (λa Aa=>enumW Φ.q a Aa G)
  |false=>False)
 |aa=>(wp Φ e X).v aa m V (λa Aa=>iterW Φ.q a Aa G)
noncomputable def xcOf(e:E):Option Nat:=(call1? e).bind λp=>p.2.str?.bind λZ=>some p.1
noncomputable def isXc(ex:List Nat)(i:Nat):Bool:=ex.contains i && eU 18 i && eU i 27
set_option tactic.hygienic true in
mutual
def wpS(Φ:Tab):Internal.S->XL->M->LS->KS->Prop
 |.assign p e,X,m,V,K=>quiet (asgOk Φ.q p e) ((wp Φ e X).v aa m V (λa Aa=>patW Φ.q p a m (λAp=>K .next Ap Aa)))
 |.setattr o n e,X,m,V,K=>quiet (AI e && (b5 n 11 || b5 n 12)) ((wp Φ e X).v aa m V (λx Aa=>(wp Φ o X).v aa m Aa (λa Ab=>slotI Ab a λZ i d fs=>fs.length<=100/\K .next m (Ab.set (i+1) (.at d (.attrs (J2 fs (fld n) x)))))))
 |.setitem o i e,X,m,V,K=>quiet (AI e) ((wp Φ e X).v aa m V (λx Aa=>(wp Φ o X).v aa m Aa (λa Ab=>(wp Φ i X).v aa m Ab (λk Ar=>slotD Ar a λb j l=>l.length<=big/\spotW k λkk=>K .next m (Ar.set j (.at b (.dict (Bx l kk x))))))))
 |.expr e,X,m,V,K=>quiet (AI e) ((wp Φ e X).v aa m V (λZ Aa=>K .next m Aa))
 |.ret e,X,m,V,K=>(wp Φ e X).v aa m V (λa Aa=>K (.ret a) m Aa)
 |.ite c a b,X,m,V,K=>(wp Φ c X).t m V (λt Aa=>ifW t (wpSs Φ a X m Aa K) (wpSs Φ b X m Aa K))
 |.for_ p e body,X,m,V,K=>srcS Φ X p e m V (λitems ok Ab=>Hw Φ.q p (wpSs Φ body X) ok K items m Ab)
 |.while_ c body,X,m,V,K=>∃I:Nat->M->LS->Prop,(∃n,I n m V)/\∀n m V,I n m V->(wp Φ c X).t m V (λt Aa=>ifW t (wpSs Φ body X m Aa (kWh n I K)) (K .next m Aa))
 |.raise e,X,_,V,_=>(match xcOf e with
  |some i=>quiet (isXc Φ.ex i) (quiet Φ.q (X i V))
  |aa=>False)
 |.pass,_,m,V,K=>K .next m V
 |_,_,_,_,_=>False
def wpSs(Φ:Tab):List Internal.S->XL->M->LS->KS->Prop
 |[],_,m,V,K=>K .next m V
 |s::r,X,m,V,K=>wpS Φ s X m V (kSeq (wpSs Φ r X) K)
end
end
section
variable {S:Sta}
section
variable {F:Fx S}{m:L1}{V:LS}{X:Value->ag->Prop}{K:KV}
theorem Up.now{α:Type}{K:α->LS->Prop}{v:α}(k:okS V)(h:K v V):Up K v (Ax V):=⟨V,Sub.rfl,k,h⟩
theorem Up.upd{α:Type}{K:α->LS->Prop}{v:α}{i:Nat}{a:Addr}{o p:L4}(k:okS V)(hi:slot V i=.at a o)(h:K v (V.set i (.at a p))):Up K v ((Ax V).set a p) :=
 have f:Fits V i (.at a p):=λZ Z e=>by cases e;exact .inr ⟨o,hi⟩
 ⟨_,Fe k f,DO k f,h⟩
theorem Up.add{α:Type}{K:α->LS->Prop}{v:α}{i:Nat}{a:Addr}{p:L4}(k:okS V)(y:¬Dom (Ax V) a)(h:K v (V.set i (.at a p))):Up K v ((Ax V).set a p) :=
 have f:Fits V i (.at a p):=λZ Z e=>by cases e;exact .inl (De y)
 ⟨_,Fe k f,DO k f,h⟩
theorem frW.fresh{mu:Option Nat}{o:L4}{Y:AV}(k:okS V)(h:frW mu o Y V K):Fresh (Ax V) o Y (Up K):=by
 cases mu with|none=>exact .inl (.now k h)|some i=>exact .inr ⟨i,λa y=>.add k y (h a)⟩
theorem dlW.out{v:AV}{K:List AV->Prop}(k:okS V)(h:dlW V v K):∃l,dl (Ax V) v=some l/\K l:=by
 cases v with
 |list l=>exact⟨l,rfl,h⟩
 |loc a i =>
  unfold dlW at h;dsimp only at h
  cases q:slot V i with
  |no=>rw[q]at h;exact h.elim
  |«at» b o =>
   rw[q]at h
   cases o with
   |list l=>obtain⟨rfl,h⟩:=h;exact⟨l,BU (Ay k q),h⟩
   |_=>exact h.elim
 |_=>exact h.elim
theorem ddW.out{v:AV}{K:List (Al×AV)->Prop}(k:okS V)(h:ddW V v K):∃l,dd (Ax V) v=some l/\K l:=by
 cases v with
 |dict l=>exact⟨l,rfl,h⟩
 |loc a i =>
  unfold ddW at h;dsimp only at h
  cases q:slot V i with
  |no=>rw[q]at h;exact h.elim
  |«at» b o =>
   rw[q]at h
   cases o with
   |dict l=>obtain⟨rfl,h⟩:=h;exact⟨l,B7 (Ay k q),h⟩
   |_=>exact h.elim
 |_=>exact h.elim
theorem spotW.out{a:AV}{K:Al->Prop}(h:spotW a K):∃k:Al,a=sp k/\K k:=by
 unfold spotW at h
 cases q:spot? a with|none=>rw[q]at h;exact h.elim|some k=>rw[q]at h;exact⟨k,spot?_out q,h⟩
theorem int2.out{a b:AV}{K:Int->Int->Prop}(h:int2 a b K):∃x y,a=.int x/\b=.int y/\K x y:=by
 cases a with
 |int x =>
  cases b with|int y=>exact⟨x,y,rfl,rfl,h⟩|_=>exact h.elim
 |_=>exact h.elim
theorem boolW.out{a:AV}{K:Bool->Prop}(h:boolW a K):∃b,a=.bool b/\K b:=by
 cases a with|bool b=>exact⟨b,rfl,h⟩|_=>exact h.elim
theorem quiet.out{q:Bool}{P:Prop}(h:quiet q P):q=true/\P:=by
 cases q with|true=>exact⟨rfl,h⟩|false=>exact h.elim
theorem vwW.out{v:AV}{K:AV->Prop}(k:okS V)(h:vwW V v K):∃v',K v'/\(∀d,G0 v'=some d->B0 (Ax V) v=some d)/\∀l,v'=.dict l->dd (Ax V) v=some l:=by
 cases v with
 |loc a i =>
  unfold vwW at h;dsimp only at h
  cases q:slot V i with
  |no=>rw[q]at h;exact h.elim
  |«at» b o =>
   rw[q]at h
   cases o with
   |list l =>
    obtain⟨rfl,h⟩:=h;refine⟨_,h,λd e=>?_,λl e=>(Ak rfl (congrArg (λv=>dd (Ax V) v) e)).elim⟩;simp only[B0,BU (Ay k q)];exact e
   |dict l=>obtain⟨rfl,h⟩:=h;exact⟨_,h,λd e=>(Ak rfl e).elim,λl e=>by rw[B7 (Ay k q)];exact congrArg (dd (Ax V)) e⟩
   |_=>exact h.elim
 |_=>exact⟨_,h,λd e=>e,λl e=>congrArg (dd (Ax V)) e⟩
theorem addW_ok{mu:Option Nat}{a b:AV}(k:okS V)(h:addW mu a b V K):BT F m (Ax V) .Add a b (Up K) X:=by
 have Y:(dlW V a λl=>dlW V b λk=>l.length+k.length<=big/\frW mu (.list (l++k)) (.list (l++k)) V K)->BT F m (Ax V) .Add a b (Up K) X:=λh=>by
  exact X1pp (h.out k) λl O h=>X1ppp (h.out k) λl' z hz h=>BT.addList O z hz (h.fresh k)
 cases a with
 |int x =>
  cases b with|int y=>exact BT.add (.now k h)|_=>exact h.elim
 |str x =>
  cases b with|str y=>exact BT.addStr h.1 (.now k h.2)|_=>exact h.elim
 |_=>exact Y h
theorem mulW_ok{mu:Option Nat}{a b:AV}(k:okS V)(h:mulW mu a b V K):BT F m (Ax V) .Mult a b (Up K) X:=by
 cases b with
 |int y =>
  cases a with|int x=>exact BT.mul h.1 (.now k h.2)|str x=>exact BT.mulStr h.1 (.now k h.2)|_=>exact h.elim
 |_=>exact h.elim
theorem cnd.out{T:Bool}{P R:Prop}(h:cnd T P R)(Y:T=true->P):P/\R:=by
 cases T with|true=>exact⟨Y rfl,h⟩|false=>exact h
theorem ME{T:Bool}{mu:Option Nat}{op:Operator}{a b:AV}(k:okS V)(B:T=true->∀y,b=.int y->y≠0/\y.natAbs<1073741824)(h:binW T mu op a b V K):BT F m (Ax V) op a b (Up K) X:=by
 cases op with|Add=>exact addW_ok k h|Sub=>refine X2llp a b (int2.out h) λx y h=>?_;exact BT.sub (.now k h)|Mult=>exact mulW_ok (mu:=mu) k h|Mod=>unfold binW at h;refine X2ppp (int2.out h) λx y d O h=>?_;subst d;subst O;refine Aq (cnd.out h λq=>(B q y rfl).1) λY z=>?_;exact BT.mod Y (.now k z)|FloorDiv=>unfold binW at h;refine X2ppp (int2.out h) λx y U u h=>?_;subst U;subst u;refine Aq (cnd.out h λq=>B q y rfl) λY z=>?_;exact BT.div Y.1 Y.2 (.now k z)|_=>exact h.elim
theorem lit_pos{e:E}(h:lit e=true):∃n:Nat,e=.int (n+1:Nat)/\n<1000000:=by
 cases e with
 |int i =>
  cases i with
  |ofNat n =>
   cases n with|zero=>exact nF h|succ n=>exact⟨n,rfl,ez.mp h⟩
  |negSucc n=>exact nF h
 |_=>exact(aW h).elim
theorem lit0_pos{e:E}(h:lit0 e=true):∃n:Nat,e=.int (n:Nat)/\n<1000000:=by
 cases e with
 |int i =>
  cases i with|ofNat n=>exact⟨n,rfl,ez.mp h⟩|negSucc n=>exact nF h
 |_=>exact(aW h).elim
theorem eqW_ok{a b:AV}{K:Bool->LS->Prop}{f:Bool->Bool}{op:CmpOp}(Y:(op=.Eq/\f=id)\/(op=.NotEq/\f=not))(k:okS V)(h:eqW a b V λt=>K (f t) V):KT F m (Ax V) op a b (Up K) X:=by
 have U:∀{a b:AV},(vwW V a λa'=>vwW V b λb'=>∃t,EqP a' b' t/\K (f t) V)->KT F m (Ax V) op a b (Up K) X:=λh=>by
  refine X1ppp (h.out k) λa' h ea ea'=>X1ppp (h.out k) λb' h eb eb'=>X1pp h λt u h=>?_
  cases u with
  |py u =>
   refine X2ppppp u λda db O d B z T=>?_
   rcases Y with⟨rfl,rfl⟩|⟨rfl,rfl⟩
   .exact KT.eq (ea _ O) (eb _ d) B z (.now k (by rwa [T]))
   .exact KT.ne (ea _ O) (eb _ d) B z (.now k (by rwa [T]))
 cases a with
 |int x =>
  cases b with
  |int y =>
   rcases Y with⟨rfl,rfl⟩|⟨rfl,rfl⟩
   .exact KT.intEq (.now k h)
   .exact KT.intNe (.now k h)
  |_=>exact U (a:=.int x) h
 |_=>exact U h
theorem Fa{s:E0}{a:AV}{d:PyData}(h:G0 a=some d):B0 s a=some d:=by
 cases a<;>first|exact h|exact(Ak rfl h).elim
theorem inW_ok{a b:AV}{K:Bool->LS->Prop}{f:Bool->Bool}{op:CmpOp}(Y:(op=.In/\f=id)\/(op=.NotIn/\f=not))(k:okS V)(h:inW a b V λt=>K (f t) V):KT F m (Ax V) op a b (Up K) X:=by
 obtain⟨t,h,U⟩:=h;have dct:∀{l:List (Al×AV)},dd (Ax V) b=some l->(spotW a λk=>(By l k).isSome=t)->KT F m (Ax V) op a b (Up K) X:=λe h=>by
  obtain⟨kk,rfl,h⟩:=h.out;subst h
  rcases Y with⟨rfl,rfl⟩|⟨rfl,rfl⟩
  .exact KT.inDict e (.now k U)
  .exact KT.notInDict e (.now k U)
 have seq:∀{v:AV},(∀d,G0 v=some d->B0 (Ax V) b=some d)->InP a v t->KT F m (Ax V) op a b (Up K) X:=λe h=>by
  obtain⟨d,xs,h1,h2,B,u,T,O⟩:=h;have z:Js (Ax V) b=some xs:=by
   unfold Js
   rcases h2 with q|q<;>rw[e _ q]
  rcases Y with⟨rfl,rfl⟩|⟨rfl,rfl⟩
  .exact KT.inSeq (Fa h1) z B u T (.now k (by rwa [O]))
  .exact KT.notInSeq (Fa h1) z B u T (.now k (by rwa [O]))
 cases b with
 |dict l=>exact dct rfl h
 |str x =>
  cases a with
  |str y =>
   have h:eI x y=t:=h;clear h dct seq;subst h
   rcases Y with⟨rfl,rfl⟩|⟨rfl,rfl⟩
   .exact KT.inStr (.now k U)
   .exact KT.notInStr (.now k U)
  |_=>exact h.elim
 |loc ad i =>
  unfold InV at h;dsimp only at h
  cases q:slot V i with
  |no=>rw[q]at h;exact h.elim
  |«at» b o =>
   rw[q]at h
   cases o with
   |list l =>
    obtain⟨rfl,h⟩:=h;refine seq (v:=.list l) (λd e=>?_) h;simp only[B0,BU (Ay k q)];exact e
   |dict l=>obtain⟨rfl,h⟩:=h;exact dct (B7 (Ay k q)) h
   |_=>exact h.elim
 |_=>exact seq (λd e=>Fa e) h
theorem ltW_ok{a b:AV}{K:Bool->LS->Prop}(k:okS V)(h:ltW a b λt=>K t V):KT F m (Ax V) .Lt a b (Up K) X:=by
 have U:(int2 a b λx y=>K (decide (x<y)) V)->KT F m (Ax V) .Lt a b (Up K) X:=λh=>by
  exact X2llp a b (int2.out h) λx y h=>KT.intLt (.now k h)
 cases a with
 |tup l =>
  refine X1pp (spotW.out h) λp e h=>X1lp b h.out λq h=>?_;rw[e];exact KT.ltSpot (.now k h)
 |_=>exact U h
theorem FL{op:CmpOp}{a b:AV}{K:Bool->LS->Prop}(k:okS V)(h:cmpW op a b V λt=>K t V):KT F m (Ax V) op a b (Up K) X:=by
 cases op with|Eq=>exact eqW_ok (.inl ⟨rfl,rfl⟩) k h|NotEq=>exact eqW_ok (.inr ⟨rfl,rfl⟩) k h|Lt=>exact ltW_ok k h|LtE=>refine X2llp a b (int2.out h) λx y h=>?_;exact KT.intLe (.now k h)|Gt=>refine X2llp a b (int2.out h) λx y h=>?_;exact KT.intGt (.now k h)|In=>exact inW_ok (.inl ⟨rfl,rfl⟩) k h|NotIn=>exact inW_ok (.inr ⟨rfl,rfl⟩) k h|_=>exact h.elim
theorem idxW.out{T:Bool}{i:AV}{K:Nat->Prop}(Y:T=true->∃n:Nat,i=.int n/\n<1000000)(h:idxW T i K):∃k:Int,i=.int k/\0<=k/\k<1000000/\K k.toNat:=by
 cases i with
 |int k =>
  obtain⟨⟨u,z⟩,B⟩:=cnd.out h λq=>by
   obtain⟨n,e,O⟩:=Y q
   cases e
   exact⟨dX n,iI.mpr O⟩
  exact⟨k,rfl,u,z,B⟩
 |_=>exact h.elim
theorem Kf{T:Bool}{a i:AV}(z:T=true->∃n:Nat,i=.int n/\n<1000000)(k:okS V)(h:subW T a i V K):IT F m (Ax V) a i (Up K) X:=by
 have lst:∀{l:List AV},dl (Ax V) a=some l->(idxW T i λn=>∃x,l[n]?=some x/\K x V)->IT F m (Ax V) a i (Up K) X:=λe h=>by
  obtain⟨kk,rfl,O,Y,x,u,h⟩:=idxW.out z h;exact IT.list e O Y u (.now k h)
 have dct:∀{l:List (Al×AV)},dd (Ax V) a=some l->(spotW i λk=>∃x,By l k=some x/\K x V)->IT F m (Ax V) a i (Up K) X:=λe h=>by
  obtain⟨kk,rfl,x,u,h⟩:=h.out;exact IT.dict e u (.now k h)
 cases a with
 |tup l =>
  unfold subW at h;obtain⟨kk,rfl,O,Y,h⟩:=idxW.out z h
  cases u:l[kk.toNat]? with|none=>rw[u]at h;exact h.elim|some x=>rw[u]at h;exact IT.tup O Y u (.now k h)
 |str x=>unfold subW at h;obtain⟨kk,rfl,O,Y,c,u,h⟩:=idxW.out z h;exact IT.str O Y u (.now k h)
 |nums l=>unfold subW at h;obtain⟨kk,rfl,O,Y,c,u,h⟩:=idxW.out z h;exact IT.nums O Y u (.now k h)
 |list l=>exact lst rfl h
 |dict l=>exact dct rfl h
 |loc ad j =>
  unfold subW at h;dsimp only at h
  cases q:slot V j with
  |no=>rw[q]at h;exact h.elim
  |«at» b o =>
   rw[q]at h
   cases o with
   |list l=>obtain⟨rfl,h⟩:=h;exact lst (BU (Ay k q)) h
   |dict l=>obtain⟨rfl,h⟩:=h;exact dct (B7 (Ay k q)) h
   |_=>exact h.elim
 |_=>exact h.elim
end
end
section
variable {S:Sta}
theorem CO.stp(h:CO (λx=>CE tb sc x .none) pst .none):pst=aa\/∃k p,pst=some (.Constant .none k p):=by
 rcases h.inv with⟨e,_⟩|⟨x,e,d⟩
 .exact .inl e
 .refine X2p d.inv λk p u=>?_
  clear d;subst u;exact .inr ⟨k,p,e⟩
theorem stp_ev(h:pst=aa\/∃k p,pst=some (.Constant .none k p)):eC (evalOpt pst env)=pure .none:=by
 rcases h with e|⟨k,p,e⟩<;>rw[e]<;>rfl
theorem Je(h:pst=aa\/∃k p,pst=some (.Constant .none k p))(t:ItemOn (model S.prog S.w) A X o i Q' s) :
  wpAny (model S.prog S.w) A (subscriptTail po (.Slice plo phi pst q) o i) Q' X s:=by
 refine X2ppp t λT U Y z d=>tail_any (ops:=if pst=aa then [i,o] else [o,i]) z Y d ?_
 rcases h with e|⟨k,p,e⟩
 .subst e;rw[if_pos rfl];rfl
 .subst e;rw[if_neg nofun];rfl
theorem str_item{s:ag}{x y:AV}{B Y:Value}{t U:Str}{tk:Tok}(u:Rep cv h D x B)(d:Rep cv h D y Y)(hz:t.length<=big)(O:cutS t x y=some U)
  (T:∀h' t'' k,(∀b o,s.heap.get? b=some o->h'.get? b=some o)->Q' (.str U t'') { s with heap:=h',toks:=k }) :
  ItemOn (model S.prog S.w) A X (.str t tk) (.ref s.heap.objs.size) Q' { s with heap:=s.heap.push { cls:=.type "slice",data:=.fields #[B,Y,.none] } }:=by
 have z:KeptH (λh'=>∀b o,s.heap.get? b=some o->h'.get? b=some o):=λh' ob kp b o e=>ar _ (kp b o e)
 cases x with
 |none =>
  rw[show B=.none from u.inv]
  cases y with
  |none=>rw[show Y=.none from d.inv];obtain rfl:=ae O;exact SBH.sliceItem_nn z (λZ Z e=>e) T (AZ hz)
  |int b=>refine X1p d.inv λZ Z0=>?_;clear d;subst Z0;obtain rfl:=ae O;exact SBH.sliceItem_ns z (λZ Z e=>e) T (AZ hz)
  |_=>exact(Ak rfl O).elim
 |int a =>
  refine X1p u.inv λZ Z1=>?_;clear u;subst Z1
  cases y with
  |none=>rw[show Y=.none from d.inv];obtain rfl:=ae O;exact SBH.sliceItem_sn z (λZ Z e=>e) T (AZ hz)
  |int b=>refine X1p d.inv λZ Z2=>?_;clear d;subst Z2;obtain rfl:=ae O;exact SBH.sliceItem_ss z (λZ Z e=>e) T (AZ hz)
  |_=>exact(Ak rfl O).elim
 |_=>exact(Ak rfl O).elim
theorem Ig(h:(n:Int)=b):IsPart (.int b t) (some (n:Int)):=h▸.int _ _
theorem part_neg(h:-(n:Int)=b):IsPart (.int b t) (some (-(n:Int))):=h▸.int _ _
theorem Ls(T:Rep cv h D x vx)(d:Rep cv h D y vy)(O:cut l x y=some l')(U:RepL cv h D l vs) :
  ∃lo hi vs',IsPart vx lo/\IsPart vy hi/\slicePick vs.toArray lo hi aa=aB vs'/\RepL cv h D l' vs':=by
 cases x with
 |none =>
  rw[show vx=.none from T.inv]
  cases y with
  |none=>rw[show vy=.none from d.inv];exact⟨_,_,_,.none,.none,slicePick_all _,ae O▸U⟩
  |int b =>
   obtain⟨_,rfl⟩:=d.inv;have O:(if 0<=b then some (l.take b.toNat) else some (l.take (l.length - (-b).toNat)))=some l':=O
   by_cases z:0<=b
   .rw[if_pos z]at O
    exact⟨_,_,_,.none,Ig (ao z),slicePick_upto' _ b.toNat,ae O▸U.take _⟩
   .rw[if_neg z]at O
    refine⟨_,_,_,.none,part_neg (n:=(-b).toNat) (by clear U O;exact ah (lin [(-b).toNat] [b] (.f (.N (.c V0)) V0) [.f (.N V0) (.c V0)] rfl (aK (-b))) (lin [(-b).toNat] [b] (.f V0 (.N (.c V0))) [.h (.c V0) (.N V0)] rfl (ao (lin [] [b] (.f K0 (.N V0)) [.k K0 V0] rfl z)))),slicePick_butLast _ (-b).toNat (by clear U O;exact lin [(-b).toNat] [b] (.b K1 V0) [.k K0 V0,.f (.N V0) (.c V0)] rfl z (aK (-b))),ae O▸?_⟩
    rw[aF,U.length];exact U.take _
  |_=>exact(Ak rfl O).elim
 |int a =>
  refine X1p T.inv λZ u=>?_;clear T;subst u
  cases y with
  |none =>
   rw[show vy=.none from d.inv]
   exact Aq (ite_some (show (if 0<=a then some (l.drop a.toNat) else aa)=some l' from O)) λha O=>⟨_,_,_,Ig (ao ha),.none,slicePick_from' _ a.toNat,ae O▸U.drop _⟩
  |_=>exact(Ak rfl O).elim
 |_=>exact(Ak rfl O).elim
theorem two_new(h:Heap)(o:Obj):h.get? (h.push o).objs.size=aa:=by
 rw[cD]
 cases q:h.get? (h.objs.size+1)with|none=>rfl|some o=>exact absurd (bf q) (cR.mpr (fe _))
theorem Jo{F:Fx S}{m:L1}{V:E0}{s:ag}{X:Value->ag->Prop}{Q:AV->E0->Prop}{ad:Addr}{vs y:List Value}{n:Nat}{l l':List AV}{z hi:Option Int}{B Y:Value}(hs:F.St m V s)(e:s.heap.get? ad=some (AE vs.toArray n))(U:RepL S.cv s.heap (F.D V) l vs)(hz:l.length<=big)
  (p1:IsPart B z) (p2:IsPart Y hi) (u:slicePick vs.toArray z hi aa=y.toArray) (d:RepL S.cv s.heap (F.D V) l' y) (q:Fresh V (.list l') (.list l') Q) :
  ItemOn (model S.prog S.w) F.A X (.ref ad) (.ref s.heap.objs.size) (PW F m V s (PV F Q)) { s with heap:=s.heap.push { cls:=.type "slice",data:=.fields #[B,Y,.none] } }:=by
 have O:s.heap.IsList ad vs.toArray:=⟨_,e,rfl,n,rfl⟩;refine⟨_,_,list_getitem_lookup,Heap.IsList.typeIs (s:={ s with heap:=s.heap.push { cls:=.type "slice",data:=.fields #[B,Y,.none] } }) (O.push _),
  wpAny_getItem_list_slice (O.push _) (iQ ..) p1 p2 .none (by simp) ?_ (by rw[aF,U.length];exact AZ hz)⟩
 rw[u];exact Bw (tk:=s.toks) (a:=(s.heap.push { cls:=.type "slice",data:=.fields #[B,Y,.none] }).objs.size) hs (λb o e=>ar _ (ar _ e)) (two_new _ _) (ay _ rfl) d q
inductive SliceV(V:E0)(Q:AV->E0->Prop):AV->AV->AV->Prop
 |str {t t':Str}{x y:AV}(hz:t.length<=big)(hcut:cutS t x y=some t')(h:Q (.str t') V):SliceV V Q (.str t) x y
 |list {a x y:AV}{l l':List AV}(hl:dl V a=some l)(hz:l.length<=big)(hcut:cut l x y=some l')(h:Fresh V (.list l') (.list l') Q):SliceV V Q a x y
theorem Jp{F:Fx S}{m:L1}{V:E0}{s:ag}{X:Value->ag->Prop}{Q:AV->E0->Prop}{a x y:AV}{T B U:Value}(hs:F.St m V s)(Y:Rep S.cv s.heap (F.D V) a T)(z:Rep S.cv s.heap (F.D V) x B)(d:Rep S.cv s.heap (F.D V) y U)(h:SliceV V Q a x y) :
  ItemOn (model S.prog S.w) F.A X T (.ref s.heap.objs.size) (PW F m V s (PV F Q)) { s with heap:=s.heap.push { cls:=.type "slice",data:=.fields #[B,U,.none] } }:=by
 induction h using SliceV.casesOn with
 |str hz O q =>
  refine X1p Y.inv λtk Z0=>?_;clear Y;subst Z0;exact str_item z d hz O λh' t'' k kp=>by
   obtain⟨h4,u⟩:=hs.grow kp k;exact⟨_,u.any,h4,_,.str _ _,q⟩
 |list hl hz O q =>
  refine X3ppp (Y.lst hs.inv hl) λad vs n Z1 e rl=>?_;clear Y;subst Z1;obtain⟨lo,hi,vs',p1,p2,hp,r'⟩:=Ls z d O rl;exact Jo hs e rl hz p1 p2 hp r' q
theorem ET.sliceAny{o lo hi:E}(h:ET F m V o (λa Aa=>ET F m Aa lo (λx Ab=>ET F m Ab hi (λy Ar=>SliceV Ar Q a x y) X) X) X) :
  ET F m V (.slice o lo hi .none) Q X:=by
 refine λpe hc s hs=>X6ppppp hc.inv λpo B O U p q Z0 ho hlo hhi Y=>?_;clear hc;subst Z0;refine Subscript_ ((h _ ho s hs).out ?_);intro va Aa Ad Ah Ac z;obtain⟨a,ra,AO⟩:=z;show wpAny _ _ (do
  let l <- eC (evalOpt B F.env)
  let u <- holding [l] (eC (evalOpt O F.env))
  let s <- holding [l,u] (eC (evalOpt U F.env))
  newFields "slice" [l,u,s]) _ _ _
 refine ac ((optE AO hlo Ac).out ?_);intro vx Ab Ai Ao Ag z;obtain⟨x,rx,Bq⟩:=z;refine ac (bo ((optE Bq hhi Ag).out ?_));intro vy Ar BC AU AG z;obtain⟨y,ry,d⟩:=z;refine ac (bo (wpAny_of_eq (stp_ev Y.stp) (bL (Je Y.stp ?_) (by size_fits))))
 obtain⟨T,id,hl,hT,hg⟩:=Jp AG ((ra.st Ao Ag).st AU AG) (rx.st AU AG) ry d;exact⟨T,id,hl,hT,aR hg (λ_ _ ⟨V',st',h1,q⟩=>⟨V',((Ah.trans Ao).trans AU).trans st',h1,q⟩) λZ Z e=>e⟩
end
section
variable {S:Sta}{W:Wd}
theorem Sub.trans(a:Sub V s)(b:∀x o,s x=some o->t x=some o):Sub V t:=λx o h=>b x o (a x o h)
theorem Up.less{K:α->LS->Prop}{v:α}{s t:E0}(h:Up K v s)(b:∀x o,s x=some o->t x=some o):Up K v t:=by
 obtain⟨V,e,k,q⟩:=h;exact⟨V,e.trans b,k,q⟩
theorem Sub.at(h:Sub V s)(k:okS V)(q:slot V i=.at a o):s a=some o:=h _ _ (Ay k q)
theorem frW.freshS{K:KV}{mu:Option Nat}{o:L4}{Y:AV}(k:okS V)(hs:Sub V s)(h:frW mu o Y V K):Fresh s o Y (Up K):=by
 rcases h.fresh k with q|⟨i,q⟩
 .exact .inl (q.less hs)
 .refine .inr ⟨i,λa y=>(q a λd=>y ?_).less λx p e=>?_⟩
  .intro z
   cases e:Ax V a with|none=>exact d e|some u=>rw[hs _ _ e]at z;exact nS' z
  .by_cases z:x=a
   .clear y;subst z;rw[E0.set_self]at e ⊢;exact e
   .rw[E0.set_ne _ _ z]at e ⊢;exact hs _ _ e
section
variable {F:Fx S}{m:L1}{V:LS}{X:Value->ag->Prop}{K:KV}
theorem tyW_ok(k:okS V)(h:atW V a (tyW V a=some t/\P)):tyA (Ax V) a=some t/\P:=by
 cases a with
 |loc x i =>
  unfold atW at h;unfold tyA;dsimp only at h ⊢;unfold tyW at h;dsimp only at h
  cases q:slot V i with
  |no=>rw[q]at h;exact h.elim
  |«at» b o =>
   rw[q]at h;obtain⟨rfl,h,p⟩:=h;rw[Ay k q];refine⟨?_,p⟩
   cases o<;>exact h
 |_=>exact h
theorem atW.imp(g:P->Q)(h:atW V a P):atW V a Q:=by
 cases a with
 |loc x i =>
  unfold atW at h ⊢;dsimp only at h ⊢
  cases q:slot V i with|no=>rw[q]at h;exact h.elim|«at» b o=>rw[q]at h;exact⟨h.1,g h.2⟩
 |_=>exact g h
set_option tactic.hygienic true in
theorem isiW_ok(G:Good S W)(d:∀i,ex.contains i=true->W.U i=true)(k:okS V)(h:isiW ex a c V K):CT F m (Ax V) (.builtin "isinstance") [a,c] (Up K) X:=by
 cases c with
 |cls j =>
  have gen:atW V a (match isi? V a j with
   |some b=>K (.bool b) V
   |aa=>False)->CT F m (Ax V) (.builtin "isinstance") [a,.cls j] (Up K) X:=λh=>by
   cases z:isi? V a j with
   |none =>
    rw[z]at h;exact(tyW_ok (t:=.none) (P:=False) k (h.imp False.elim)).2.elim
   |some b =>
    rw[z]at h;refine X1pp (AF z) λt ht z=>X1pp (AF z) λu hu e=>Aq (tyW_ok k (h.imp λp=>⟨ht,p⟩)) λh1 h2=>?_;obtain rfl:=ae e;exact CT.isinst h1 (HU G hu).1 (HU G hu).2 (.now k h2)
  cases a with
  |exc c =>
   unfold isiW at h;dsimp only at h
   split at h
   .rename_i q
    simp only[bh,iJ]at q;obtain⟨⟨⟨⟨⟨Y,q2⟩,T⟩,y⟩,q5⟩,q6⟩:=q;exact X5pppp (G.exc _ T y (d _ Y)) λx C bm nid ini hix B O FB=>CT.isx B (G.exk _ C T y (d _ Y) B) (G.sub _ _ T y (d _ Y) q5 q6 (d _ q2)).2 (.now k h)
   .exact h.elim
  |_=>exact gen h
 |_=>exact h.elim
theorem lenW_ok(k:okS V)(h:lenW a V K):CT F m (Ax V) (.builtin "len") [a] (Up K) X:=by
 cases a with
 |str x=>exact CT.lenStr h.1 (.now k h.2)
 |tup l=>exact CT.lenTup h.1 (.now k h.2)
 |nums l=>exact CT.lenInts h.1 (.now k h.2)
 |list l=>exact CT.lenList rfl h.1 (.now k h.2)
 |dict l=>exact CT.lenDict rfl h.1 (.now k h.2)
 |loc ad i =>
  unfold lenW at h;dsimp only at h
  cases q:slot V i with
  |no=>rw[q]at h;exact h.elim
  |«at» b o =>
   rw[q]at h
   cases o with|list l=>refine Bm h λu Y z=>?_;subst u;exact CT.lenList (BU (Ay k q)) Y (.now k z)|dict l=>refine Bm h λO Y z=>?_;subst O;exact CT.lenDict (B7 (Ay k q)) Y (.now k z)|_=>exact h.elim
 |_=>exact h.elim
theorem listW_ok{mu:Option Nat}(hq:q=true->S.hx=aa)(k:okS V)(h:listW q mu a V K):CT F m (Ax V) (.type "list") [a] (Up K) X:=by
 cases a with
 |tup l=>exact CT.listTup h.1 (h.2.fresh k)
 |list l=>exact CT.listList rfl h.1 (h.2.fresh k)
 |dict l=>refine Bm (quiet.out h) λe Y z=>?_;exact CT.listDict (hq e) rfl Y (z.fresh k)
 |loc ad i =>
  unfold listW at h;dsimp only at h
  cases q:slot V i with
  |no=>rw[q]at h;exact h.elim
  |«at» b o =>
   rw[q]at h
   cases o with
   |list l=>refine Bm h λu Y z=>?_;subst u;exact CT.listList (BU (Ay k q)) Y (z.fresh k)
   |dict l=>obtain⟨rfl,h⟩:=h;obtain⟨e,Y,z⟩:=quiet.out h;exact CT.listDict (hq e) (B7 (Ay k q)) Y (z.fresh k)
   |_=>exact h.elim
 |_=>exact h.elim
theorem ints?_out:∀{y:List AV}{l:List Int},ints? y=some l->y=l.map .int
 |[],l,h=>by obtain rfl:=ae h;rfl
 |a::r,l,h=>by
  refine X1pp (AF (show a.int?.bind (λx=>(ints? r).bind λl=>some (x::l))=some l from h)) λx Y h=>X1pp (AF h) λk z h=>?_
  obtain rfl:=ae h;rw[AV.int?_out Y,ints?_out z];rfl
theorem KL(k:okS V)(h:KM avs V K):CT F m (Ax V) (.type "range") avs (Up K) X:=by
 unfold KM at h
 cases q:ints? avs with
 |none=>rw[q]at h;exact h.elim
 |some l =>
  rw[q]at h;rw[ints?_out q]
  cases l with
  |nil=>exact h.elim
  |cons a l =>
   cases l with
   |nil=>exact CT.range1 (.now k h)
   |cons b l =>
    cases l with
    |nil=>exact CT.range2 (.now k h)
    |cons c l =>
     cases l with|nil=>exact CT.range3 h.1 h.2.1 (.now k h.2.2)|cons _ _=>exact h.elim
theorem Cr{P:AV->Prop}(h:match avs with | [a]=>P a|_=>False):∃a,avs=[a]/\P a:=by
 cases avs with
 |nil=>exact h.elim
 |cons a r =>
  cases r with|nil=>exact⟨a,rfl,h⟩|cons _ _=>exact h.elim
theorem HV{P:AV->AV->Prop}(h:match avs with | [a,b]=>P a b|_=>False):∃a b,avs=[a,b]/\P a b:=by
 cases avs with
 |nil=>exact h.elim
 |cons a r =>
  cases r with
  |nil=>exact h.elim
  |cons b r =>
   cases r with|nil=>exact⟨a,b,rfl,h⟩|cons _ _=>exact h.elim
theorem nil_of{y:List AV}{P:Prop}(h:match y with | []=>P|_=>False):y=[]/\P:=by
 cases y with|nil=>exact⟨rfl,h⟩|cons _ _=>exact h.elim
def AllTo(P:Nat->Prop):Nat->Prop
 |0=>True
 |n+1=>AllTo P n/\P n
theorem AllTo.get:∀{n:Nat},AllTo P n->i<n->P i
 |0,_,q=>(ef _ q).elim
 |n+1,h,q=>(Nat.lt_or_eq_of_le (Nat.le_of_lt_succ q)).elim (λq=>h.1.get q) λq=>q▸h.2
theorem buW_ok{mu:Option Nat}{u:List AV}(G:Good S W)(hx:∀i,ex.contains i=true->W.U i=true)(hq:q=true->S.hx=aa)(k:okS V)(hi:i<17)(h:buW q ex mu i u V K):CT F m (Ax V) (bv i) u (Up K) X:=by
 refine AllTo.get (P:=λi=>∀u,buW q ex mu i u V K->CT F m (Ax V) (bv i) u (Up K) X) (n:=17) ⟨⟨⟨⟨⟨⟨⟨⟨⟨⟨⟨⟨⟨⟨⟨⟨⟨trivial,λZ h=>?_⟩,λZ h=>?_⟩,λZ h=>h.elim⟩,λZ h=>h.elim⟩,λZ h=>?_⟩,λZ h=>?_⟩,λZ h=>h.elim⟩,λZ h=>?_⟩,λZ h=>KL k h⟩,λZ h=>h.elim⟩,λZ h=>h.elim⟩,λZ h=>?_⟩,λZ h=>?_⟩,λZ h=>?_⟩,λZ h=>?_⟩,λZ h=>?_⟩,λZ h=>?_⟩ hi u h
 .refine X1pp (Cr h) λa Z0 h=>?_
  subst Z0;exact lenW_ok k h
 .refine X2pp (HV h) λa b Z1 h=>?_
  subst Z1;exact isiW_ok G hx k h
 .refine X1pp (Cr h) λa Z2 h=>?_
  subst Z2;exact X1ppp (h.out k) λl Y z B=>CT.tupList Y z (.now k B)
 .refine X1pp (Cr h) λa Z3 h=>?_
  subst Z3;exact listW_ok hq k h
 .refine X1pp (Cr h) λa Z4 h=>?_
  subst Z4
  rcases h with h|h
  .obtain⟨l,Y,⟨z,B,h4⟩,h⟩:=ddW.out k h
   exact CT.dictCopy Y z B h4 (h.fresh k)
  .refine Aq (quiet.out h) λe h=>X1pp (dlW.out k h) λZ Y d=>X1ppp d λl Z5 z h=>?_
   clear d;subst Z5;exact CT.dictOf (hq e) Y z.1 z.2 (h.fresh k)
 .refine X1pp (Cr h) λa Z6 h=>?_
  subst Z6;exact Aq (quiet.out h) λe h=>X1lp a (spotW.out h) λp h=>CT.sum2 (hq e) h.1.1 h.1.2 (.now k h.2)
 .exact h.elim
 .refine X2pp (HV h) λa b Z7 h=>?_
  subst Z7;exact Aq (quiet.out h) λe h=>X2llp a b (int2.out h) λx y h=>CT.min2' (hq e) (.now k h)
 .refine X2pp (HV h) λa b Z8 h=>?_
  subst Z8;exact Aq (quiet.out h) λe h=>X2llp a b (int2.out h) λx y h=>CT.max2' (hq e) (.now k h)
 .refine X1pp (Cr h) λa Z9 h=>?_
  subst Z9;refine Aq (quiet.out h) λe h=>X1pp (h.out k) λl Y T=>X1pp T λbs Y0 h=>?_;clear T;subst Y0;exact CT.all (hq e) Y (.now k h)
 .refine X1pp (Cr h) λa Y1 h=>?_
  subst Y1;refine Aq (quiet.out h) λe h=>X1pp (h.out k) λl Y O=>X1pp O λbs Y2 h=>?_;clear O;subst Y2;exact CT.any (hq e) Y (.now k h)
end
def Snd(S:Sta)(k:Nat)(fv:Value)(f:FS):Prop:=∀F:Fx S,k<=F.k->∀m mu avs V K X,okS V->Ch f mu avs V K X->CT F m (Ax V) fv avs (Up K) (XF F m (Up X))
structure L2(S:Sta)(W:Wd)(k:Nat)(Φ:Tab):Prop where
 good:Good S W
 q:Φ.q=true->S.hx=aa
 ex:∀i,Φ.ex.contains i=true->W.U i=true
 fn:∀i f,G1 Φ.fn i=some f->(W.U i=true/\i≠28)/\Snd S k (S.cv i) f
 me:∀n f,G1 Φ.me n=some f->∃fa,W.M n=some fa/\Snd S k (.ref fa) f
 ky:∀i f,G1 Φ.ky i=some f->W.U i=true/\∃fa kf,S.cv i=.ref fa/\kf+2<=k/\∀x,(f x).isSome=true->KeyT S kf (.ref fa) (Dy f) [x]
set_option tactic.hygienic true in
theorem callW_ok{F:Fx S}{m:L1}{V:LS}{X:XL}{K:KV}{mu:Option Nat}{i:Nat}{y:List AV}(T:L2 S W k Φ)(B:k<=F.k)(o:okS V)(h:callW Φ X mu i y V K) :
  (W.U i=true/\i≠28)/\CT F m (Ax V) (S.cv i) y (Up K) (XF F m (Up X)):=by
 unfold callW at h
 split at h
 .rename_i q
  have q:=ez.mp q;refine⟨⟨T.good.bu i q,λz=>lin [i] [] .no [.c V0 K17,.D (-1) V0 K28] rfl q z⟩,?_⟩;rw[T.good.base i q];exact buW_ok T.good T.ex T.q o q h
 .split at h
  .rename_i f O
   exact⟨(T.fn i f O).1,(T.fn i f O).2 F B m mu y V K X o h⟩
  .exact h.elim
inductive SlC(V:LS)(P:Addr->Nat->List AV->Prop)(P':Addr->Nat->List (Al×AV)->Prop):AV->Prop
 |l (x:Addr)(i:Nat)(l:List AV)(z:slot V i=.at x (.list l))(h:P x i l):SlC V P P' (.loc x i)
 |d (x:Addr)(i:Nat)(l:List (Al×AV))(z:slot V i=.at x (.dict l))(h:P' x i l):SlC V P P' (.loc x i)
theorem slotC.out(h:slotC V a P P'):SlC V P P' a:=by
 cases a with
 |loc x i =>
  unfold slotC at h;dsimp only at h
  cases q:slot V i with
  |no=>rw[q]at h;exact h.elim
  |«at» b o =>
   rw[q]at h
   cases o with
   |list l=>obtain⟨rfl,h⟩:=h;exact .l _ _ _ q h
   |dict l=>obtain⟨rfl,h⟩:=h;exact .d _ _ _ q h
   |_=>exact h.elim
 |_=>exact h.elim
theorem slotL.out(h:slotL V a P):∃x i l,a=.loc x i/\slot V i=.at x (.list l)/\P x i l:=by
 cases a with
 |loc x i =>
  unfold slotL at h;dsimp only at h
  cases q:slot V i with
  |no=>rw[q]at h;exact h.elim
  |«at» b o =>
   rw[q]at h
   cases o with|list l=>refine Aq h λu h=>?_;subst u;exact⟨_,_,_,rfl,q,h⟩|_=>exact h.elim
 |_=>exact h.elim
theorem obj?_out{s:Slot}{b:Addr×L4}(h:s.obj?=some b):s=.at b.1 b.2:=by
 cases s with
 |no=>exact nS h
 |«at» a o=>obtain rfl:=ae h;rfl
theorem E8{p:(Str×AV)×(Str×AV)}(q:two? l=some p)(u:p.1.1 = "texts")(e2:p.2.1 = "own"):l=FV p.1.2 p.2.2:=by
 rw[two?_out q];unfold FV;rw[<- u,<- e2]
theorem fields?_out{i:Nat}{f:(Addr×Addr)×Addr×List (Str×AV)}(h:fields? V i=some f):slot V i=.at f.1.1 (.inst f.1.2)/\slot V (i+1)=.at f.2.1 (.attrs f.2.2):=by
 refine X1pp (AF h) λb Y h=>X1pp (AF h) λd U h=>X1pp (AF h) λc B h=>X1pp (AF h) λl z h=>?_;obtain rfl:=ae h;exact⟨by rw[obj?_out Y,L4.inst?_out U],by rw[obj?_out B,L4.attrs?_out z]⟩
theorem instW.out{P:AV->AV->Prop}(k:okS V)(hs:Sub V s)(h:instW V a P):∃t o,Em s a=some (FV t o)/\P t o:=by
 cases a with
 |inst l =>
  have h:(match two? l with
   |some p=>(p.1.1 = "texts"/\p.2.1 = "own")/\P p.1.2 p.2.2
   |aa=>False):=h
  cases q:two? l with|none=>rw[q]at h;exact h.elim|some p=>rw[q]at h;rw[E8 q h.1.1 h.1.2];exact⟨_,_,rfl,h.2⟩
 |loc x i =>
  have h:(match fields? V i with
   |some f=>(match two? f.2.2 with
    |some p=>(f.1.1=x/\f.2.1=f.1.2/\p.1.1 = "texts"/\p.2.1 = "own")/\P p.1.2 p.2.2
    |aa=>False)
   |aa=>False):=h
  cases q:fields? V i with
  |none=>rw[q]at h;exact h.elim
  |some f =>
   rw[q]at h;dsimp only at h
   cases q2:two? f.2.2 with
   |none=>rw[q2]at h;exact h.elim
   |some p =>
    rw[q2]at h;obtain⟨⟨rfl,e2,B,O⟩,d⟩:=h;exact Aq (fields?_out q) λy T=>⟨_,_,(E3 (hs.at k y) (e2▸hs.at k T)).trans (congrArg some (E8 q2 B O)),d⟩
 |_=>exact h.elim
structure Sd(S:Sta)(k:Nat)(e:E)(f:WT)(X:XL):Prop where
 v:∀F:Fx S,k<=F.k->∀mu m V K,okS V->f.v mu m V K->ET F (vr m) (Ax V) e (Up K) (XF F (vr m) (Up X))
 t:∀F:Fx S,k<=F.k->∀m V K,okS V->f.t m V K->TT F (vr m) (Ax V) e (Up K) (XF F (vr m) (Up X))
class inductive SdL(S:Sta)(k:Nat)(X:XL):List E->List WT->Prop
 |nil:SdL S k X [] []
 |cons {e:E}{f:WT}{es:List E}{fs:List WT}(h:Sd S k e f X)(t:SdL S k X es fs):SdL S k X (e::es) (f::fs)
section
variable {k:Nat}{F:Fx S}{m:M}{X:XL}
theorem Sd.on(d:Sd S k e f X)(B:k<=F.k){mu:Option Nat}{K:KV}{Q:AV->E0->Prop}(o:okS V)(hs:Sub V s)(h:f.v mu m V K)(q:∀a Aa Ad,okS Aa->Sub Aa Ad->K a Aa->Q a Ad):ET F (vr m) s e Q (XF F (vr m) (Up X)) :=
 ET.less hs (ET.mono (d.v F B mu m V K o h) λa Ad z=>by obtain⟨Aa,e,u,z⟩:=z;exact q a Aa Ad u e z)
theorem Sd.onT(d:Sd S k e f X)(B:k<=F.k){K:KB}{Q:Bool->E0->Prop}(o:okS V)(hs:Sub V s)(h:f.t m V K)(q:∀a Aa Ad,okS Aa->Sub Aa Ad->K a Aa->Q a Ad):TT F (vr m) s e Q (XF F (vr m) (Up X)) :=
 TT.less hs (TT.mono (d.t F B m V K o h) λa Ad z=>by obtain⟨Aa,e,u,z⟩:=z;exact q a Aa Ad u e z)
theorem DP(B:k<=F.k){es:List E}{fs:List WT}(d:SdL S k X es fs):∀{V:LS}{s:E0}{K:List AV->LS->Prop}{Q:List AV->E0->Prop},okS V->Sub V s->GW fs m V K->(∀a Aa Ad,okS Aa->Sub Aa Ad->a.length=es.length->K a Aa->Q a Ad)->EsT F (vr m) s es Q (XF F (vr m) (Up X)):=by
 induction d with|nil=>exact λo hs h q=>EsT.nil (q _ _ _ o hs rfl h)|cons d _ y=>exact λo hs h q=>EsT.cons (d.on B o hs h λa Aa Ad u z Ac=>y u z Ac λl Ab O AK T Y U=>q _ Ab O AK T (congrArg f6 Y) U)
theorem Kv(B:k<=F.k){K:List AV->LS->Prop}{Q:List AV->E0->Prop}(d:SdL S k X es fs)(o:okS V)(hs:Sub V s)(h:GW fs m V K)(q:∀a Aa Ad,okS Aa->Sub Aa Ad->K a Aa->Q a Ad):EsT F (vr m) s es Q (XF F (vr m) (Up X)):=DP B d o hs h λa Aa Ad u z Z=>q a Aa Ad u z
theorem CG(B:k<=F.k){K:List AV->LS->Prop}{Q:List AV->E0->Prop}(d:SdL S k X es fs)(o:okS V)(hs:Sub V s)(h:GW fs m V K)(q:∀a Aa Ad,okS Aa->Sub Aa Ad->K a Aa->Q a Ad):ArgsT F (vr m) s es Q (XF F (vr m) (Up X)):=by
 induction d using SdL.casesOn with|nil=>exact q _ V s o hs h|cons d t=>exact Kv B (.cons d t) o hs h q
theorem andT_ok(B:k<=F.k){K:KB}{es:List E}{fs:List WT}(d:SdL S k X es fs):∀{V:LS}{s:E0},okS V->Sub V s->andT fs m V K->AndT F (vr m) (XF F (vr m) (Up X)) (Up K) es s:=by
 induction d with
 |nil=>exact λo hs h=>⟨_,hs,o,h⟩
 |cons d _ y =>
  exact λo hs h=>d.onT B o hs h λb Aa Ad u z Y=>by
   cases b with|true=>exact y u z Y|false=>exact⟨Aa,z,u,Y⟩
theorem orT_ok(B:k<=F.k){K:KB}{es:List E}{fs:List WT}(d:SdL S k X es fs):∀{V:LS}{s:E0},okS V->Sub V s->orT fs m V K->OrT F (vr m) (XF F (vr m) (Up X)) (Up K) es s:=by
 induction d with
 |nil=>exact λo hs h=>⟨_,hs,o,h⟩
 |cons d _ y =>
  exact λo hs h=>d.onT B o hs h λb Aa Ad u z Y=>by
   cases b with|true=>exact⟨Aa,z,u,Y⟩|false=>exact y u z Y
theorem andV_ok(B:k<=F.k){K:KV}{es:List E}{fs:List WT}(d:SdL S k X es fs):∀{V:LS}{s:E0},okS V->Sub V s->andV fs m V K->AndV F (vr m) (XF F (vr m) (Up X)) (Up K) es s:=by
 induction d with
 |nil=>exact λZ Z h=>h
 |cons d t y =>
  induction t using SdL.casesOn with
  |nil=>exact λo hs h=>d.on B o hs h λa Aa Ad u z Y=>⟨Aa,z,u,Y⟩
  |cons T t =>
   exact λo hs h=>d.on B o hs h λa Aa Ad u z Y=>by
    refine X1lp a (boolW.out Y) λb Y=>⟨b,rfl,?_⟩
    cases b with|true=>exact y u z Y|false=>exact⟨Aa,z,u,Y⟩
theorem orV_ok(B:k<=F.k){K:KV}{es:List E}{fs:List WT}(d:SdL S k X es fs):∀{V:LS}{s:E0},okS V->Sub V s->orV fs m V K->OrV F (vr m) (XF F (vr m) (Up X)) (Up K) es s:=by
 induction d with
 |nil=>exact λZ Z h=>h
 |cons d t y =>
  induction t using SdL.casesOn with
  |nil=>exact λo hs h=>d.on B o hs h λa Aa Ad u z Y=>⟨Aa,z,u,Y⟩
  |cons T t =>
   exact λo hs h=>d.on B o hs h λa Aa Ad u z Y=>by
    refine X1lp a (boolW.out Y) λb Y=>⟨b,rfl,?_⟩
    cases b with|true=>exact⟨Aa,z,u,Y⟩|false=>exact y u z Y
theorem pairW_ok(B:k<=F.k){K:List (AV×AV)->LS->Prop}{Q:List (AV×AV)->E0->Prop}(q:∀a Aa Ad,okS Aa->Sub Aa Ad->K a Aa->Q a Ad){ks:List E}{fs:List WT}(d:SdL S k X ks fs):∀{vs:List E}{gs:List WT}{r:List (AV×AV)}{V:LS}{s:E0},SdL S k X vs gs->okS V->Sub V s->pairW fs gs r m V K->E5 F (vr m) (XF F (vr m) (Up X)) Q ks vs r s:=by
 induction d with
 |nil =>
  intro vs gs r V s z o hs h
  induction z using SdL.casesOn with|nil=>exact q r V s o hs h|cons _ _=>exact h.elim
 |cons d _ y =>
  intro vs gs r V s z o hs h
  induction z using SdL.casesOn with|nil=>exact h.elim|cons z t=>exact d.on B o hs h λa Aa Ad u Y O=>z.on B u Y O λb Ab Ai AK T U=>y t AK T U
theorem noUp{m:L1}{e:Value}{s:ag}(x:XF F m (Up BV) e s):False:=by
 obtain⟨T,c,V',Aj,Y,d,B,⟨_,_,_,z⟩⟩:=x;exact z
theorem testW_ok(B:k<=F.k){K:KB}{Q:Bool->E0->Prop}(d:SdL S k BV es fs)(o:okS V)(hs:Sub V s)(h:G2 fs m V K)(q:∀a Aa Ad,okS Aa->Sub Aa Ad->K a Aa->Q a Ad):TestT F (vr m) s es Q:=by
 induction d using SdL.casesOn with
 |nil=>exact q _ V s o hs h
 |cons d t =>
  induction t using SdL.casesOn with|nil=>exact(d.onT B o hs h q).monoX λZ Z x=>noUp x|cons _ _=>exact h.elim
end
end
section
variable {S:Sta}{W:Wd}
structure Turn(ok:Option Nat)(okP:E0->E0->Prop)(I:LS->Prop):Prop where
 go:∀{AJ:LS}{Aj:E0}{Ab:LS}{Ai:E0}{P:Prop},okS AJ->okS Ab->Sub AJ Aj->Sub Ab Ai->I AJ->stays ok AJ Ab P->(okP Aj Ai/\I Ab)/\P
theorem Turn.free(h:∀s t,okP s t):Turn aa okP (λZ=>True):=⟨λZ Z Z Z Z p=>⟨⟨h _ _,trivial⟩,p⟩⟩
theorem Turn.loc:Turn (some i) (okL (.loc x j)) (λV=>slot V i=.at x o):=⟨λz O B U e p=>by
 have e2:=p.1.trans e;exact⟨⟨(U.at O e2).trans (B.at z e).symm,e2⟩,p.2⟩⟩
inductive Iters(F:Fx S)(s:E0)(a:AV)(V:LS)(G:KG):Prop
 |mk (items:List AV)(okP:E0->E0->Prop)(ok:Option Nat)(I:LS->Prop)(it:M6 F s a items okP)(tn:Turn ok okP I)(i:I V)(g:G items ok V):Iters F s a V G
theorem Iv{F:Fx S}{q:Bool}{a:AV}{V:LS}{s:E0}{G:KG}(hq:q=true->S.hx=aa)(o:okS V)(hs:Sub V s)(h:iterW q a V G):Iters F s a V G:=by
 cases a with
 |tup l=>refine Aq (quiet.out h) λe h=>?_;exact⟨_,_,_,_,M6.tup (hq e),.free λZ Z=>trivial,trivial,h⟩
 |list l=>refine Aq (quiet.out h) λe h=>?_;exact⟨_,_,_,_,M6.list (hq e) (dl_list _ _),.free λZ Z=>trivial,trivial,h⟩
 |str x=>refine Bm (quiet.out h) λe Y h=>?_;exact⟨_,_,_,_,M6.str (hq e) Y,.free λZ Z=>trivial,trivial,h⟩
 |dict l=>refine Aq (quiet.out h) λe h=>?_;exact⟨_,_,_,_,M6.dict (hq e),.free λZ Z=>trivial,trivial,h⟩
 |range a b c=>exact⟨_,_,_,_,M6.range h.1,.free λZ Z=>trivial,trivial,h.2⟩
 |loc x i =>
  unfold iterW at h;dsimp only at h
  cases z:slot V i with
  |no=>rw[z]at h;exact h.elim
  |«at» b p =>
   rw[z]at h
   cases p with
   |list l =>
    obtain⟨rfl,h⟩:=h;obtain⟨e,h⟩:=quiet.out h;exact⟨_,_,_,_,M6.list (hq e) (BU (hs.at o z)),.loc,z,h⟩
   |_=>exact h.elim
 |_=>exact h.elim
theorem FK{F:Fx S}{i:Nat}{Y:E}{f:WT}{cs:List E}{fs:List WT}{ok:Option Nat}{T:E0->E0->Prop}{I:LS->Prop}{m:M}{K:List AV->LS->Prop}{Q:List AV->E0->Prop}(d:Sd S k Y f BV)(dt:SdL S k BV cs fs)(B:k<=F.k)(tn:Turn ok T I)(q:∀a Aa Ad,okS Aa->Sub Aa Ad->K a Aa->Q a Ad) :
  ∀{items O:List AV}{V:LS}{s:E0},okS V->Sub V s->I V->Ec i (f.v aa) (G2 fs) ok m K items O V->FT F i Y cs T (vr m) Q items O s
 |[],O,V,s,o,hs,_,h=>q _ V s o hs h
 |x::r,O,V,s,o,hs,hi,h=>by
  refine(?_:TestT F ((vr m).set i x) s cs _);rw[<- Ew];refine testW_ok B dt o hs h λb Aa Ad Am Af Ac=>?_
  cases b with
  |true =>
   rw[if_pos rfl];refine(d.on B Am Af Ac λy Ab Ai AK Av Ag=>?_).monoX λZ Z x=>noUp x;obtain⟨⟨U,u⟩,z⟩:=tn.go o AK hs Av hi Ag;exact⟨U,FK d dt B tn q AK Av u z⟩
  |false =>
   rw[if_neg (by decide)]
   obtain⟨⟨U,u⟩,z⟩:=tn.go o Am hs Af hi Ac;exact⟨U,FK d dt B tn q Am Af u z⟩
theorem Fresh.mono(h:Fresh V o fz Q)(k:∀a s,Q a s->Q' a s):Fresh V o fz Q':=by
 rcases h with q|⟨i,q⟩
 .exact .inl (k _ _ q)
 .exact .inr ⟨i,λa d=>k _ _ (q a d)⟩
theorem FJ{F:Fx S}{m:M}{X:XL}{V:LS}{K:KV}{mu:Option Nat}{Y B:E}{i:Nat}{U:List E}{f g:WT}{fs:List WT}{p:Pat}(T:L2 S W k Φ)(hk:k<=F.k)(ds:Sd S k B g X)(d:Sd S k Y f BV)(dt:SdL S k BV U fs)(o:okS V)(q:∀a s,Up K a s->Q a s)
  (h:g.v aa m V (λa Aa=>iterW Φ.q a Aa (λitems ok Ab=>items.length<=big/\Ec i (f.v aa) (G2 fs) ok m (λz y=>frW mu (.list z) (.list z) y K) items [] Ab))) :
  M7 F (vr m) (Ax V) p B (λitems O s=>items.length<=big/\∀F':Fx S,F'.tb=F.tb->F'.k=F.k->FT F' i Y U O (vr m) (λz Ai=>Fresh Ai (.list z) (.list z) Q) items [] s) (XF F (vr m) (Up X)) :=
 M7.val (ds.on hk o Sub.rfl h λa Aa Ad u Af Ac=>by
  obtain⟨items,O,ok,I,it,tn,hi,hz,Ag⟩:=Iv (F:=F) T.q u Af Ac;exact⟨items,O,it,hz,λF' Z e=>FK d dt (by rwa [e]) tn (λz y BC Cz BI AG=>(AG.freshS Cz BI).mono q) u Af hi Ag⟩)
section
variable {k:Nat}{X:XL}{Φ:Tab}
theorem Sd.vt(d:Ib e=true)(h:∀F:Fx S,k<=F.k->∀mu m V K,okS V->f mu m V K->ET F (vr m) (Ax V) e (Up K) (XF F (vr m) (Up X))):Sd S k e (vt f) X :=
 ⟨h,λF B m V K o q=>TT.val d (ET.mono (h F B aa m V _ o q) λa s z=>by
  obtain⟨Aa,e,u,z⟩:=z;exact X1lp a (boolW.out z) λb z=>⟨b,rfl,Aa,e,u,z⟩)⟩
theorem Sd.no:Sd S k e ⟨λZ Z Z Z=>False,λZ Z Z=>False⟩ X:=⟨λZ Z Z Z Z Z Z h=>h.elim,λZ Z Z Z Z Z h=>h.elim⟩
set_option tactic.hygienic true in
theorem few.out(h:few l P):l.length<15/\P:=by
 unfold few at h
 split at h
 .rename_i q;exact⟨ez.mp q,h⟩
 .exact h.elim
theorem Lr(h:n<15):n<=big:=aw (c9 h) (by decide)
theorem tup_ok(d:SdL S k X es fs):Sd S k (.tup es) (Internal.vt λZ m V K=>few es (GW fs m V (λl V'=>K (.tup l) V'))) X :=
 Sd.vt rfl λF B mu m V K o h=>by
  exact Aq h.out λU h=>ET.tup (DP B d o Sub.rfl h λa Aa Ad u z Y T=>⟨by rw[Y];exact Lr U,Aa,z,u,T⟩)
theorem list_ok(d:SdL S k X es fs):Sd S k (.list es) (Internal.vt λmu m V K=>few es (GW fs m V (λl V'=>frW mu (.list l) (.list l) V' K))) X :=
 Sd.vt rfl λF B mu m V K o h=>by
  exact Aq h.out λU h=>ET.list (DP B d o Sub.rfl h λa Aa Ad u z Y T=>⟨by rw[Y];exact Lr U,T.freshS u z⟩)
theorem pairsX{X u:Value->ag->Prop}{Q:List (AV×AV)->E0->Prop}(x:∀e s,X e s->u e s):∀{ks vs:List E}{r:List (AV×AV)}{V:E0},E5 F m X Q ks vs r V->E5 F m u Q ks vs r V
 |[],[],_,_,h=>h
 |_::_,_::_,_,_,h=>(ET.monoX h x).mono λa Aa q=>(ET.monoX q x).mono λb z q=>pairsX x q
 |[],_::_,_,_,h=>h.elim
 |_::_,[],_,_,h=>h.elim
set_option tactic.hygienic true in
theorem dict_ok{ks vs:List E}{fs gs:List WT}(d:SdL S k BV ks fs)(U:SdL S k BV vs gs):Sd S k (.dict ks vs) (Internal.vt λmu m V K=>(match b5 ks.length vs.length && gY ks.length 15 with
  |true=>pairW fs gs [] m V (λps V'=>dictW mu ps V' K)
  |false=>False)) X :=
 Sd.vt rfl λF hk mu m V K o h=>by
  split at h
  .rename_i q
   refine Aq (aO.mp q) λy B=>?_;have y:=bI y;have B:=ez.mp B;have T:∀{F':Fx S}(ps:List (AV×AV))(Aa:LS)(Ad:E0),okS Aa->Sub Aa Ad->dictW mu ps Aa K->∃l,mkD ps []=some l/\ps.length<=15/\Fresh Ad (.dict l) (.dict l) (Up K):=λ{F'} ps Aa Ad u O Y=>by
    unfold dictW at Y
    split at Y
    .rename_i z
     split at Y
     .rename_i l e;exact⟨l,e,iJ.mp z,Y.freshS u O⟩
     .exact Y.elim
    .exact Y.elim
   induction d using SdL.casesOn with
   |nil =>
    induction U using SdL.casesOn with
    |nil =>
     refine X1ppp (T (F':=F) [] V (Ax V) o Sub.rfl h) λl e Z hf=>?_;obtain rfl:=ae e;exact ET.dict0 hf
    |cons _ _=>cases y
   |cons d t =>
    induction U using SdL.casesOn with
    |nil=>cases y
    |cons U t' =>
     exact(ET.dict (X:=NoX) (fm y) (Nat.lt_of_succ_lt B) λF' lk=>(pairsX (λZ Z x=>noUp x) (pairW_ok (F:=F') (by rwa [lk.2.2.2]) (λps Aa Ad u O Y=>T (F':=F') ps Aa Ad u O Y) (.cons d t) (.cons U t') o Sub.rfl h))).monoX λZ Z z=>z.elim
  .exact h.elim
theorem bin_ok(d:Sd S k l f X)(O:Sd S k r g X)(U:∀n:Int,r=.int n->g=Internal.vt λZ Z V K=>K (.int n) V):Sd S k (.bin op l r) (Internal.vt λmu m V K=>f.v aa m V (λa Aa=>g.v aa m Aa (λb Ab=>binW (lit r) mu op a b Ab K))) X :=
 Sd.vt rfl λF B mu m V K o h=>ET.bin (d.on B o Sub.rfl h λa Aa Ad u T Y=>by
  by_cases q:lit r=true
  .refine X1pp (lit_pos q) λn e hn=>?_
   rw[U _ e]at Y;clear O U h q;subst e;exact ET.int (BT.less T (ME u (λZ y e=>by cases e;exact⟨λz0=>lin [n] [] .no [.h (.c (.A V0 K1)) K0] rfl z0,by omega⟩) Y))
  .exact O.on B u T Y λb Ab Ai AK Av Ag=>BT.less Av (ME AK (λz=>absurd z q) Ag))
theorem sub_ok(d:Sd S k l f X)(U:Sd S k r g X)(O:∀n:Int,r=.int n->g=Internal.vt λZ Z V K=>K (.int n) V):Sd S k (.sub l r) (Internal.vt λZ m V K=>f.v aa m V (λa Aa=>g.v aa m Aa (λb y=>subW (lit0 r) a b y K))) X :=
 Sd.vt rfl λF B mu m V K o h=>ET.sub (d.on B o Sub.rfl h λa Aa Ad u T Y=>by
  by_cases q:lit0 r=true
  .refine X1pp (lit0_pos q) λn e hn=>?_
   rw[O _ e]at Y;clear U O h q;subst e;exact ET.int (IT.less T (Kf (λZ=>⟨n,rfl,hn⟩) u Y))
  .exact U.on B u T Y λb y Ai AK Av Ag=>IT.less Av (Kf (λz=>absurd z q) AK Ag))
theorem neg_ok(d:Sd S k x f X):Sd S k (.neg x) (Internal.vt λZ m V K=>f.v aa m V (λa Aa=>match a with
  |.int i=>K (.int (-i)) Aa
  |_=>False)) X :=
 Sd.vt rfl λF B mu m V K o h=>ET.neg (d.on B o Sub.rfl h λa Aa Ad u z Y=>by
  cases a with|int i=>exact⟨i,rfl,Aa,z,u,Y⟩|_=>exact Y.elim)
theorem not_ok(d:Sd S k x f X):Sd S k (.not x) ⟨λZ m V K=>f.v aa m V (λa Aa=>boolW a λb=>K (.bool (!b)) Aa),λm V K=>f.t m V (λb Aa=>K (!b) Aa)⟩ X :=
 ⟨λF B mu m V K o h=>ET.not (d.on B o Sub.rfl h λa Aa Ad u z Y=>by
  exact X1lp a (boolW.out Y) λb Y=>⟨b,rfl,Aa,z,u,Y⟩),λF B m V K o h=>TT.not (d.onT B o Sub.rfl h λa Aa Ad u z Y=>⟨Aa,z,u,Y⟩)⟩
theorem KT.mono{X:Value->ag->Prop}{op:CmpOp}{a b:AV}{Q z:Bool->E0->Prop}(h:KT F m V op a b Q X)(k:∀b V,Q b V->z b V):KT F m V op a b z X :=
 λY y s hs u T=>(h Y y s hs u T).mono λ_ _ _ _ _ ⟨c,e,q⟩=>⟨c,e,k _ _ q⟩
theorem cmp_ok{op:CmpOp}{l r:E}{f g:WT}(d:Sd S k l f X)(d':Sd S k r g X):Sd S k (.cmp op l r) ⟨λZ m V K=>f.v aa m V (λa Aa=>g.v aa m Aa (λb B=>cmpW op a b B λt=>K (.bool t) B)),
   λm V K=>f.v aa m V (λa Aa=>g.v aa m Aa (λb B=>cmpW op a b B λt=>K t B))⟩ X :=
 ⟨λF y mu m V K o h=>ET.cmp (d.on y o Sub.rfl h λa Aa Ad u Y O=>d'.on y u Y O λb B Ai AK T U=>KT.mono (KT.less T (FL (K:=λt V=>K (.bool t) V) AK U)) λt BC z=>by obtain⟨Ar,BI,Cz,z⟩:=z;exact⟨Ar,BI,Cz,z⟩),
 λF y m V K o h=>TT.cmp (d.on y o Sub.rfl h λa Aa Ad u Y O=>d'.on y u Y O λb B Ai AK T U=>KT.less T (FL AK U))⟩
theorem cmp2_ok{u O:CmpOp}{a b c:E}{f g h:WT}(d:Sd S k a f X)(d':Sd S k b g X)(d2:Sd S k c h X):Sd S k (.cmp2 u O a b c) ⟨λZ Z Z Z=>False,λm V K=>f.v aa m V (λx Aa=>g.v aa m Aa (λy U=>cmpW u x y U λt=>ifW t (h.v aa m U (λz B=>cmpW O y z B λt=>K t B)) (K false U)))⟩ X :=
 ⟨λZ Z Z Z Z Z Z h=>h.elim,λF T m V K o q=>TT.cmp2 (d.on T o Sub.rfl q λx Aa Ad Am Af Ac=>d'.on T Am Af Ac λy U Ai AK Av Ag =>
  KT.mono (KT.less Av (FL (K:=λt U=>ifW t (h.v aa m U (λz B=>cmpW O y z B λt=>K t B)) (K false U)) AK Ag)) λt BC z=>by
    obtain⟨B,BI,Y,z⟩:=z
    cases t with|true=>exact d2.on T Y BI z λz Cp BB KZ Gh Bu=>KT.less Gh (FL KZ Bu)|false=>exact⟨B,BI,Y,z⟩)⟩
theorem ite_ok{c a b:E}{f g h:WT}(d:Sd S k c f X)(d':Sd S k a g X)(d2:Sd S k b h X):Sd S k (.ite c a b) ⟨λmu m V K=>f.t m V (λt Aa=>ifW t (g.v mu m Aa K) (h.v mu m Aa K)),λZ Z Z=>False⟩ X :=
 ⟨λF B mu m V K o q=>ET.ite (d.onT B o Sub.rfl q λt Aa Ad y Y O=>by
  cases t with|true=>exact d'.on B y Y O λa z Ai u T U=>⟨z,T,u,U⟩|false=>exact d2.on B y Y O λa z Ai u T U=>⟨z,T,u,U⟩),λZ Z Z Z Z Z h=>h.elim⟩
theorem Km{mu:Option Nat}{K:KV}(o:okS V)(hs:Sub V s)(h:Kn mu a x y V K):SliceV s (Up K) a x y:=by
 have lst:(dlW V a λl=>∃l',l.length<=big/\cut l x y=some l'/\frW mu (.list l') (.list l') V K)->SliceV s (Up K) a x y:=λh=>by
  exact X1pp (h.out o) λl Y T=>X1ppp T λl' z B u=>.list (l:=l) (HI Y hs) z B (u.freshS o hs)
 cases a with|str t=>refine X1ppp h λd Y z B=>?_;exact .str Y z ⟨V,hs,o,B⟩|_=>exact lst h
theorem slice_ok{e z hi:E}{f g h:WT}(d:Sd S k e f X)(T:Sd S k z g X)(u:Sd S k hi h X):Sd S k (.slice e z hi .none) (Internal.vt λmu m V K=>f.v aa m V (λa Aa=>g.v aa m Aa (λx U=>h.v aa m U (λy Y=>Kn mu a x y Y K)))) X :=
 Sd.vt rfl λF B mu m V K o q=>ET.sliceAny (d.on B o Sub.rfl q λa Aa Ad Am Af Ac=>T.on B Am Af Ac λx U Ai AK Av Ag=>u.on B AK Av Ag λy Y BC O BI AG=>Km O BI AG)
theorem fget_t:L6 (FV t o) "texts"=some t:=by
 have e:(("texts":Str) == "texts")=true:=by decide +kernel
 simp only[L6,FV,dA,e,gf]
theorem fget_o:L6 (FV t o) "own"=some o:=by
 have e:(("texts":Str) == "own")=false:=by decide +kernel
 have y:(("own":Str) == "own")=true:=by decide +kernel
 simp only[L6,FV,dA,e,y,gf]
set_option tactic.hygienic true in
theorem attr_ok(T:L2 S W k Φ):Sd S k (.attr (.v i) n) (Internal.vt λZ m V K=>match m.getD i aa with
  |some a=>attrW n a V K
  |aa=>False) X :=
 Sd.vt rfl λF B mu m V K o h=>by
  split at h
  .rename_i a ha
   refine X2pp (instW.out o Sub.rfl h) λt O Y h=>?_
   split at h
   .exact ET.attr T.good.floor T.good.texts (LY (.inl rfl)) ha Y fget_t h.1 (.now o h.2)
   .exact ET.attr T.good.floor T.good.cells (LY (.inr rfl)) ha Y fget_o h.1 (.now o h.2)
   .exact h.elim
  .exact h.elim
theorem hasF_ok(T:L2 S W k Φ)(h:hasF Φ i=true):W.U i=true/\i≠28:=by
 rcases c8.mp h with q|q
 .have q:=ez.mp q;exact⟨T.good.bu i q,λz=>lin [i] [] .no [.c V0 K17,.D (-1) V0 K28] rfl q z⟩
 .refine X1p (bH.mp q) λf O=>?_;exact(T.fn i f O).1
set_option tactic.hygienic true in
theorem call_ok(T:L2 S W k Φ)(d:SdL S k X (e::es) fs):Sd S k (.call (.g i) (e::es)) (Internal.vt λmu m V K=>(match hasF Φ i with
  |true=>GW fs m V (λy Aa=>callW Φ X mu i y Aa K)
  |false=>False)) X :=
 Sd.vt rfl λF B mu m V K o h=>by
  split at h
  .rename_i q
   exact Aq (hasF_ok T q) λY z=>ET.callg (T.good.glob i Y) (Mv T.good Y z) (Kv B d o Sub.rfl h λa Aa Ad u U O=>CT.less U (callW_ok T B u O).2)
  .exact h.elim
theorem E.isN_ok{e:E}(h:e.isN=true):e=.none:=by
 cases e with|none=>rfl|_=>exact(aW h).elim
theorem E.one_ok{e:E}(h:e.one=true):e=.int 1:=by
 cases e with
 |int i =>
  cases i with
  |ofNat n=>rw[bI h];rfl
  |negSucc n=>cases h
 |_=>exact(aW h).elim
theorem E.negOne_ok{e:E}(h:e.negOne=true):e=.neg (.int 1):=by
 cases e with|neg x=>rw[E.one_ok (e:=x) h]|_=>exact(aW h).elim
theorem LE{z hi st:E}(h:LF z hi st=true):z=.none/\hi=.none/\st=.neg (.int 1):=by
 obtain⟨Y,h⟩:=aO.mp h;obtain⟨d,B⟩:=aO.mp h;exact⟨E.isN_ok Y,E.isN_ok d,E.negOne_ok B⟩
theorem back_ok{e z hi st:E}{f:WT}(d:Sd S k e f X):Sd S k (.slice e z hi st) (Internal.vt λZ m V K=>quiet (LF z hi st) (f.v aa m V (λa Aa=>backW a Aa K))) X :=
 Sd.vt rfl λF B mu m V K o h=>by
  refine Aq (quiet.out h) λq h=>X0lll z hi st (LE q) (ET.back (d.on B o Sub.rfl h λa Aa Ad u U Y=>?_))
  cases a with
  |tup l =>
   unfold backW at Y;dsimp only at Y
   cases q2:two? l with|none=>rw[q2]at Y;exact Y.elim|some p=>rw[q2]at Y;rw[two?_out q2];exact⟨_,_,rfl,Aa,U,u,Y⟩
  |_=>exact Y.elim
theorem dd_more(h:dd (Ax V) a=some l)(hs:Sub V s):dd s a=some l:=by
 cases a with
 |dict l'=>exact h
 |loc x i =>
  refine X1pp (AF (show (Ax V x).bind _=some l from h)) λo Y z=>?_
  show (s x).bind _=some l
  rwa [hs _ _ Y]
 |_=>exact(Ak rfl h).elim
theorem GZ(h:dd s a=some l):tyA s a=some .dict:=by
 cases a with
 |dict l'=>rfl
 |loc x i =>
  refine X1pp (AF (show (s x).bind _=some l from h)) λo Y z=>?_
  unfold tyA;dsimp only;rw[Y]
  cases o with|dict l'=>rfl|_=>exact(Ak rfl z).elim
 |_=>exact(Ak rfl h).elim
theorem slotD.out(h:slotD V a P):∃x i l,a=.loc x i/\slot V i=.at x (.dict l)/\P x i l:=by
 cases a with
 |loc x i =>
  unfold slotD at h;dsimp only at h
  cases q:slot V i with
  |no=>rw[q]at h;exact h.elim
  |«at» b o =>
   rw[q]at h
   cases o with
   |dict l=>obtain⟨rfl,h⟩:=h;exact⟨_,_,_,rfl,q,h⟩
   |_=>exact h.elim
 |_=>exact h.elim
structure MC(S:Sta)(k:Nat)(X:XL)(es:List E)(fs:List WT)(F:Fx S):Prop where
 d:SdL S k X es fs
 hk:k<=F.k
inductive MOk(S:Sta)(k n:Nat):Prop
 |mk (nm:Str)(h:ixS AT nm=some n)(r:∀{X:XL}{es:List E}{fs:List WT}{F:Fx S},MC S k X es fs F->∀{m:M}{V:LS}{s:E0}{a:AV}{K:KV},okS V->Sub V s->bmW n fs m a V K->∃t id,MO nm (Ty.name t) id/\tyA s a=some t/\ArgsT F (vr m) s es (λavs Ab=>CT F (vr m) Ab (.builtin id) (a::avs) (Up K) (XF F (vr m) (Up X))) (XF F (vr m) (Up X))):MOk S k n
theorem Kb(o:okS V)(hs:Sub V s)(z:slot V i=.at x (.list l)):tyA s (.loc x i)=some .list:=by
 unfold tyA;dsimp only;rw[hs.at o z]
theorem MOk.lst{U:String}(Y:ixS AT nm=some n)(O:MO nm (Ty.name .list) U)(B:∀{fs:List WT}{m:M}{a:AV}{V:LS}{K:KV},bmW n fs m a V K->slotL V a λZ Z Z=>GW fs m V (λy T=>methW n a y T K))
  (u:∀{F:Fx S}{m:L1}{X:Value->ag->Prop}{a:AV}{y:List AV}{V:LS}{K:KV},okS V->methW n a y V K->CT F m (Ax V) (.builtin U) (a::y) (Up K) X):MOk S k n :=
 ⟨nm,Y,λc m V s a K o hs h=>by
  refine X3ppp (slotL.out (B h)) λx i l Z0 z h=>?_;subst Z0;exact⟨.list,U,O,Kb o hs z,CG c.hk c.d o hs h λy T Ai AK Av Ag=>CT.less Av (u AK Ag)⟩⟩
theorem m0_ok:MOk S k 0:=.lst LD Hn (λh=>h) λo h=>by
 refine X1pp (Cr h) λx U h=>?_;subst U;refine X3pppp (slotL.out h) λad i l u z T O=>?_;clear h;subst u;exact CT.append (Ay o z) T (.upd o z O)
theorem m1_ok:MOk S k 1:=.lst ix_pop meth_pop (λh=>h) λo h=>by
 refine Aq (nil_of h) λu h=>?_;subst u;refine X3pppp (slotL.out h) λad i l U z T B=>X1pp B λx O Y=>?_;clear h;subst U;exact CT.pop (Ay o z) O T (.upd o z Y)
theorem m2_ok:MOk S k 2:=.lst LC Hl (λh=>h) λo h=>by
 refine X2pp (HV h) λi x u h=>?_;subst u;obtain⟨ad,j,l,rfl,z,h⟩:=slotL.out h
 cases i with|int y=>exact CT.insert (Ay o z) h.2.1 h.1.1 h.1.2 (.upd o z h.2.2)|_=>exact h.elim
theorem m3_ok:MOk S k 3:=⟨_,ix_clear,λc m V s a K o hs h=>by
 obtain⟨d,_⟩:=c
 induction d using SdL.casesOn with
 |nil =>
  cases slotC.out h with|l x i l z q=>exact⟨.list,_,JF,Kb o hs z,CT.less hs (CT.clear (Ay o z) q.1 (.upd o z q.2))⟩|d x i l z q=>exact⟨.dict,_,Hm,GZ (B7 (hs.at o z)),CT.less hs (CT.clearD (Ay o z) q.1 (.upd o z q.2))⟩
 |cons _ _=>exact h.elim⟩
theorem m6_ok:MOk S k 6:=⟨_,ix_get,λc m V s a K o hs h=>by
 refine X1pp (ddW.out o h) λl T h=>?_;refine⟨.dict,_,meth_get,GZ (dd_more T hs),CG c.hk c.d o hs h λy Y B u z U=>CT.less z ?_⟩;refine X1lp y (Cr U) λb U=>?_;refine X1pp (ddW.out u U) λl O U=>?_;refine X1lp b (spotW.out U) λkk U=>?_;exact CT.get O (.now u U)⟩
theorem SdL.two{X:XL}{es:List E}{f g:WT}(d:SdL S k X es [f,g]):∃a b,es=[a,b]/\Sd S k a f X/\Sd S k b g X:=by
 cases d with
 |cons d t =>
  cases t with
  |cons z t=>cases t;exact⟨_,_,rfl,d,z⟩
theorem m7_ok:MOk S k 7:=⟨_,LB,λc m V s a K o hs h=>by
 have h:sdW _ m a V K:=h;unfold sdW at h
 cases q:two? _ with
 |none=>rw[q]at h;exact h.elim
 |some g =>
  rw[q]at h;refine X3ppp (slotD.out h) λx i l B z h=>?_;subst B;have d:=c.d;rw[two?_out q]at d;refine X2ppp d.two λe1 e2 O T u=>?_;clear d;subst O;refine⟨.dict,_,Hk,GZ (B7 (hs.at o z)),EsT.cons (T.on c.hk o hs h λk Ab Ai AK Av U=>?_)⟩;obtain⟨kk,rfl,mu,U⟩:=spotW.out U;refine EsT.cons (u.on c.hk AK Av U λx Ar BC Y BI y=>EsT.nil (CT.less BI (X3pppp (slotD.out y) λZ Z l e z hz y=>?_)))
  cases e
  exact CT.setdef (Ay Y z) hz (λv g=>.now Y (by rw[g]at y;exact y)) λg=>.upd Y z (by rw[g]at y;exact y)⟩
theorem m8_ok:MOk S k 8:=⟨_,ix_join,λc m V s a K o hs h=>by
 cases a with
 |str x =>
  refine⟨.str,_,Lm,rfl,CG c.hk c.d o hs h λy Ab Ai u Av U=>CT.less Av (X1lp y (Cr U) λb U=>(X1pp (dlW.out u U) λl B O=>(X1ppp O λys z T Y=>?_)))⟩;clear O;subst z;exact CT.join B T (.now u Y)
 |_=>exact h.elim⟩
theorem isMe_ok(h:isMe n=true):MOk S k n:=by
 match n,h with
 |0,_=>exact m0_ok
 |1,_=>exact m1_ok
 |2,_=>exact m2_ok
 |3,_=>exact m3_ok
 |6,_=>exact m6_ok
 |7,_=>exact m7_ok
 |8,_=>exact m8_ok
theorem flds_in(h:p∈FV t o):p.1 = "texts"\/p.1 = "own":=by
 refine J1 p h ?_ λh=>?_
 .exact .inl rfl
 .exact J1 p h (.inr rfl) λh=>nM h
theorem meth_ok(T:L2 S W k Φ)(d:Sd S k e f X)(d':SdL S k X es fs):Sd S k (.meth e n es) (Internal.vt λmu m V K=>ifW (isMe n) (f.v aa m V (λa Aa=>bmW n fs m a Aa K)) (omW (G1 Φ.me n) f fs mu X m V K)) X :=
 Sd.vt rfl λF B mu m V K o h=>by
  cases q:isMe n with
  |true =>
   rw[q]at h;obtain⟨nm,h1,r⟩:=isMe_ok (S:=S) (k:=k) q;exact ET.meth h1 (d.on B o Sub.rfl h λa Aa Ad u U Y=>r ⟨d',B⟩ u U Y)
  |false =>
   rw[q]at h
   cases hf:G1 Φ.me n with
   |none=>rw[hf]at h;exact h.elim
   |some f' =>
    rw[hf]at h;exact X1pp (T.me n f' hf) λfa hfa z=>X1pppppp (T.good.meth n fa hfa) λnm hn n1 n2 y ht O=>ET.method T.good.floor hn y ht O (d.on B o Sub.rfl h λa Aa Ad u U Y=>(X2pp (instW.out u U Y) λt ow h5 Y=>⟨⟨_,h5,L5 (λp hp=>flds_in hp) n1 n2⟩,CG B d' u U Y λavs Ab Ai AK Av Ag=>CT.less Av (X2pp (instW.out AK Av Ag) λZ Z Z Ag=>(z F B (vr m) mu _ Ab K X AK Ag))⟩))
theorem comp_ok{Y B:E}{i:Nat}{U:List E}{f g:WT}{fs:List WT}(T:L2 S W k Φ)(ds:Sd S k B g X)(d:Sd S k Y f BV)(u:SdL S k BV U fs):Sd S k (.comp Y i B U) (Internal.vt λmu m V K=>g.v aa m V (λa Aa=>iterW Φ.q a Aa (λitems ok Ab=>items.length<=big/\Ec i (f.v aa) (G2 fs) ok m (λO Ar=>frW mu (.list O) (.list O) Ar K) items [] Ab))) X :=
 Sd.vt rfl λF y mu m V K o h=>ET.comp (FJ T y ds d u o (λZ Z z=>z) h)
set_option tactic.hygienic true in
theorem v_ok{i:Nat}:Sd S k (.v i) (Internal.vt λZ m V K=>match m.getD i aa with
  |some a=>K a V
  |aa=>False) X :=
 Sd.vt rfl λF B mu m V K o h=>by
  split at h
  .rename_i a ha;exact ET.v ha (.now o h)
  .exact h.elim
set_option tactic.hygienic true in
theorem g_ok{i:Nat}(T:L2 S W k Φ):Sd S k (.g i) (Internal.vt λZ Z V K=>gW Φ i V K) X :=
 Sd.vt rfl λF B mu m V K o h=>by
  unfold gW at h
  split at h
  .rename_i q
   have q:=bI q;subst q
   split at h
   .rename_i z
    refine X1p T.good.six λt e=>?_;have d:=T.good.glob 28 (T.ex 28 z);rw[e]at d;exact ET.g_int d (.now o h)
   .exact h.elim
  .split at h
   .rename_i q
    have y:W.U i=true:=by
     rcases c8.mp q with q|q
     .exact T.good.bu i (ez.mp q)
     .exact T.ex i q
    exact ET.cls (T.good.glob i y) (.now o h)
   .exact h.elim
set_option tactic.hygienic true in
theorem Kk{x:E}(T:L2 S W k Φ)(d:Sd S k x g X):Sd S k (.sorted x (.g i)) (Internal.vt λmu m V K=>match G1 Φ.ky i with
  |some f=>g.v aa m V (λa Aa=>dlW Aa a λL=>sortW f mu L Aa K)
  |aa=>False) X :=
 Sd.vt rfl λF U mu m V K o h=>by
  split at h
  .rename_i f hf
   refine Aq (T.ky i f hf) λhu Z0=>X2ppp Z0 λfa kf e O Y=>?_;have u:=T.good.glob i hu;rw[e]at u;have B:=T.good.glob 10 (T.good.bu 10 (by decide))
   rw[T.good.base 10 (by decide)]at B
   refine ET.sorted (key:=Dy f) u B (aw O U) (d.on U o Sub.rfl h λa Aa Ad y z Ac=>?_);obtain⟨L,hl,⟨h1,h2,h3⟩,h4⟩:=dlW.out y Ac;exact⟨L,HI hl z,λx hx=>Y x (h1 x hx) x (.head _),h2,h3,λL' p1 p2=>(frW.freshS y z (h4 L' ⟨p1,p2⟩))⟩
  .exact h.elim
mutual
theorem AM(T:L2 S W k Φ):∀(e:E)(X:XL),Sd S k e (wp Φ e X) X
 |.none,X=>Sd.vt rfl λF B mu m V K o h=>ET.none (.now o h)
 |.bool b,X=>Sd.vt rfl λF B mu m V K o h=>ET.bool (.now o h)
 |.int b,X=>Sd.vt rfl λF B mu m V K o h=>ET.int (.now o h)
 |.str b,X=>Sd.vt rfl λF B mu m V K o h=>ET.str (.now o h)
 |.v i,X=>v_ok
 |.g i,X=>g_ok T
 |.tup es,X=>tup_ok (BD T es X)
 |.list es,X=>list_ok (BD T es X)
 |.dict ks vs,X=>dict_ok (BD T ks BV) (BD T vs BV)
 |.bin op l r,X=>bin_ok (AM T l X) (AM T r X) λn e=>by rw[e];rfl
 |.neg x,X=>neg_ok (AM T x X)
 |.not x,X=>not_ok (AM T x X)
 |.and es,X=>⟨λF B mu m V K o h=>ET.and (andV_ok B (BD T es X) o Sub.rfl h),λF B m V K o h=>TT.and (andT_ok B (BD T es X) o Sub.rfl h)⟩
 |.or es,X=>⟨λF B mu m V K o h=>ET.or (orV_ok B (BD T es X) o Sub.rfl h),λF B m V K o h=>TT.or (orT_ok B (BD T es X) o Sub.rfl h)⟩
 |.cmp op l r,X=>cmp_ok (AM T l X) (AM T r X)
 |.cmp2 _ _ a b c,X=>cmp2_ok (AM T a X) (AM T b X) (AM T c X)
 |.ite c a b,X=>ite_ok (AM T c X) (AM T a X) (AM T b X)
 |.sub l r,X=>sub_ok (AM T l X) (AM T r X) λn e=>by rw[e];rfl
 |.slice o z hi st,X=>by
  cases st<;>first|exact slice_ok (AM T o X) (AM T z X) (AM T hi X)|exact back_ok (AM T o X)|exact Sd.no
 |.attr o n,X=>by
  cases o<;>first|exact Sd.no|exact attr_ok T
 |.call f es,X=>by
  cases f<;>first|exact Sd.no|(cases es<;>first|exact Sd.no|exact call_ok T (.cons (AM T _ X) (BD T _ X)))
 |.sorted x f,X=>by
  cases f<;>first|exact Sd.no|exact Kk T (AM T x X)
 |.meth o n es,X=>meth_ok T (AM T o X) (BD T es X)
 |.comp u i Y U,X=>comp_ok T (AM T Y X) (AM T u BV) (BD T U BV)
 |.mu l e,X=>⟨λF B mu m V K o h=>ET.mu ((AM T e X).v F B (some l) m V K o h),λF B m V K o h=>TT.mu ((AM T e X).t F B m V K o h)⟩
theorem BD(T:L2 S W k Φ):∀(es:List E)(X:XL),SdL S k X es (wpL Φ es X)
 |[],_=>.nil
 |e::es,X=>.cons (AM T e X) (BD T es X)
end
end
end
section
variable {S:Sta}{W:Wd}
theorem ST.raise{F:Fx S}{m:L1}{V:E0}{K:Fl->L1->E0->Prop}{X:KX}{i:Nat}{t:Str}(G:Good S W)(hu:W.U i=true)(h1:18<=i)(h2:i<=27)(hq:S.hx=aa)(hX:X i V):ST F m V (.raise (.call (.g i) [.str t])) K (XR F X):=by
 refine X5pppp (G.exc i h1 h2 hu) λx C bm nid ini hix B O FB=>X6p O.obj λtl N nm qn bs hdct Z3=>X6p Z3 λsn sub ab col dd k0 Z4=>X5pppp Z4 λk1 k2 k3 k5 mN hC hN z T=>?_;have h':EsT F m V [.str t] (λl V'=>l.length=1/\V'=V) (XR F X):=EsT.cons (ET.str (EsT.nil ⟨rfl,rfl⟩));refine λst hc s hs=>X2pp hc.inv λZ Z Z0 he=>?_;clear hc;subst Z0;refine X4pppp he.inv λx' q u p' Z1 Z hx ha=>?_;subst Z1;have y:=h' _ p' ha s hs;refine X2pppp ha.inv λZ Z Z2 hn Z Z=>?_;subst Z2
 refine wpAny_Raise_call_subT (C:=C) (nm:=nm) (q:=qn) (N:=N) (bs:=bs) (bm:=tl) (hdct:=hdct) (sn:=sn) (sub:=sub) (ab:=ab) (col:=col) (dd:=dd) (k0:=k0) (k1:=k1) (k2:=k2) (k3:=k3) (k5:=k5)
  FB (mN:=mN) (T.hasType FB.hasBase) (F.room.quiet hq) (Hh ha) z (Do hx (G.glob i hu) hs ⟨B,?_⟩)
 rw[AX hn]at y ⊢;refine Calls.evalArgs_plain (Internal.W.out y ?_);intro vals V' s' st' Y d;obtain⟨avs,r,hl,rfl⟩:=d;exact⟨rfl,by have:=r.length;show vals.length<=_;rw[this,hl];decide,Y.inv.keep _ _ hC,hN.keeps Y.inv.keep,T.keeps Y.inv.keep,λhh e hm=>⟨e,i,_,s',m,rfl,Y,hX,.inr ⟨_,by rwa [B],rfl,rfl,rfl⟩⟩⟩
structure Xo(F:Fx S)(X:XL)(Y:Value->ag->Prop):Prop where
 up:∀e s,XR F (Up X) e s->Y e s
 pass:iq (model S.prog S.w) F.A F.env Y
theorem Xo.xf(x:Xo F X Y)(e:Value)(s:ag)(h:XF F m (Up X) e s):Y e s:=x.up e s h.up
def SdS(S:Sta)(k:Nat)(st:Internal.S)(f:M->LS->KS->Prop)(X:XL):Prop:=∀F:Fx S,k<=F.k->∀Y,Xo F X Y->∀m V K,okS V->f m V K->ST F (vr m) (Ax V) st (UpS K) Y
def SdSs(S:Sta)(k:Nat)(ss:List Internal.S)(f:M->LS->KS->Prop)(X:XL):Prop:=∀F:Fx S,k<=F.k->∀Y,Xo F X Y->∀m V K,okS V->f m V K->SsT F (vr m) (Ax V) ss (UpS K) Y
theorem Sub.set(k:okS V)(h:Sub V s)(q:slot V i=.at a o):okS (V.set i (.at a p))/\Sub (V.set i (.at a p)) (s.set a p):=by
 have f:Fits V i (.at a p):=λZ Z e=>by cases e;exact .inr ⟨o,q⟩
 refine⟨DO k f,λb r e=>?_⟩
 have:=Fe k f b r e
 by_cases z:b=a
 .clear q f e;subst z;rw[E0.set_self]at this ⊢;exact this
 .rw[E0.set_ne _ _ z]at this ⊢;exact h _ _ this
inductive PatK(s:E0)(K:M->Prop)(m':L1)(s':E0):Prop
 |mk (m:M)(em:m'=vr m)(es:s'=s)(h:K m):PatK s K m' s'
set_option tactic.hygienic true in
mutual
theorem Hb{F:Fx S}{q:Bool}{Y:Value->ag->Prop}{s:E0}(hq:q=true->S.hx=aa):∀{p:Pat}{a:AV}{m:M}{K:M->Prop},patW q p a m K->PT F (vr m) s p a (PatK s K) Y
 |.v i,a,m,K,h=>PT.v ⟨_,(Ew m i a).symm,rfl,h⟩
 |.tup ps,a,m,K,h=>by
  refine Aq (quiet.out h) λe h=>?_
  cases a with
  |tup l =>
   dsimp only at h
   split at h
   .rename_i z;exact PT.tup (hq e) (bI z) (Ie hq h)
   .exact h.elim
  |_=>exact h.elim
theorem Ie{F:Fx S}{q:Bool}{Y:Value->ag->Prop}{s:E0}(hq:q=true->S.hx=aa):∀{ps:List Pat}{l:List AV}{m:M}{K:M->Prop},patsW q ps l m K->PTs F Y (PatK s K) ps l (vr m) s
 |[],[],m,K,h=>⟨m,rfl,rfl,h⟩
 |p::ps,a::as,m,K,h=>λpe d v u hs r=>aR (Hb hq h pe d v u hs r) (λ_ u' ⟨m',s',st,h',⟨mm,em,es,q⟩⟩=>by
   subst em;clear hs r;subst es;exact⟨_,_,st,h',Ie hq q⟩) λZ Z e=>e
 |[],_::_,_,_,h=>h.elim
 |_::_,[],_,_,h=>h.elim
end
theorem SsT.less{K:Fl->L1->E0->Prop}{Y:Value->ag->Prop}(hs:Sub V s)(h:SsT F m (Ax V) ss K Y):SsT F m s ss K Y:=h.weak (λZ Z e=>e) hs
theorem D4{F:Fx S}{q:Bool}{p:Pat}{body:List Internal.S}{f:M->LS->KS->Prop}{X:XL}{Y:Value->ag->Prop}{ok:Option Nat}{T:E0->E0->Prop}{I:LS->Prop}{K:KS}(hq:q=true->S.hx=aa)(d:SdSs S k body f X)(hk:k<=F.k)(hY:Xo F X Y)(tn:Turn ok T I) :
  ∀{items:List AV}{m:M}{V:LS}{s:E0},okS V->Sub V s->I V->Hw q p f ok K items m V->MP F p body T (UpS K) Y items (vr m) s
 |[],m,V,s,o,hs,_,h=>⟨m,V,rfl,hs,o,h⟩
 |x::r,m,V,s,o,hs,hi,h=>by
  refine λpe hc v u hu rx=>aR (Hb (Y:=Y) hq h pe hc v u hu rx) ?_ λZ Z e=>e;intro _ u' U;obtain⟨m',s',st,h',⟨mm,em,es,Ac⟩⟩:=U;subst em;clear hu rx;subst es;refine⟨_,_,st,h',SsT.mono (SsT.less hs (d F hk Y hY mm V _ o Ac)) λfl At Ai z=>?_⟩;obtain⟨m2,Ab,O,B,y,z⟩:=z;subst O
  cases fl with
  |next =>
   obtain⟨⟨h3,h4⟩,h5⟩:=tn.go o y hs B hi z;exact⟨h3,D4 hq d hk hY tn y B h4 h5⟩
  |ret v=>exact⟨m2,Ab,rfl,B,y,z⟩
section
variable {k:Nat}{X:XL}{Φ:Tab}
theorem for_ok(T:L2 S W k Φ)(d:Sd S k e f X)(y:SdSs S k body g X)(F:Fx S)(U:k<=F.k)(Y:Value->ag->Prop)(B:Xo F X Y)(m:M)(V:LS)(K:KS)(o:okS V)
  (h:f.v aa m V (λa Aa=>iterW Φ.q a Aa (λitems ok Ab=>Hw Φ.q p g ok K items m Ab))):ST F (vr m) (Ax V) (.for_ p e body) (UpS K) Y :=
 ST.for_ B.pass (M7.val ((d.on U o Sub.rfl h λa Aa Ad u z Ac=>by
  obtain⟨items,O,ok,I,it,tn,hi,Ag⟩:=Iv (F:=F) T.q u z Ac;exact⟨items,O,it,D4 T.q y U B tn u z hi Ag⟩).monoX B.xf))
theorem enum_ok(T:L2 S W k Φ)(d:Sd S k e f X)(d':SdSs S k body g X)(F:Fx S)(y:k<=F.k)(Y:Value->ag->Prop)(B:Xo F X Y)(m:M)(V:LS)(K:KS)(o:okS V)
  (h:f.v aa m V (λa Aa=>enumW Φ.q a Aa (λitems ok Ab=>Hw Φ.q (.tup ps) g ok K items m Ab))):ST F (vr m) (Ax V) (.for_ (.tup ps) (.call (.g 9) [e]) body) (UpS K) Y:=by
 have hg:Glob S 9 (.type "enumerate"):=by have:=T.good.glob 9 (T.good.bu 9 (by decide));rw[T.good.base 9 (by decide)]at this;exact this
 refine ST.for_ B.pass (M7.enum1 hg (EsT.cons ((d.on y o Sub.rfl h λa Aa Ad u O U=>EsT.nil ⟨a,rfl,?_⟩).monoX B.xf)))
 cases a with
 |str x=>refine Bm (quiet.out U) λe h2 U=>?_;exact⟨T.q e,.inr ⟨x,rfl,h2,D4 T.q d' y B (.free λZ Z=>trivial) u O trivial U⟩⟩
 |list l=>refine Aq (quiet.out U) λe U=>?_;exact⟨T.q e,.inl ⟨l,rfl,D4 T.q d' y B (.free λZ Z=>trivial) u O trivial U⟩⟩
 |loc x i =>
  unfold enumW at U;dsimp only at U
  cases z:slot Aa i with
  |no=>rw[z]at U;exact U.elim
  |«at» b p =>
   rw[z]at U
   cases p with
   |list l =>
    obtain⟨rfl,U⟩:=U;obtain⟨e,U⟩:=quiet.out U;exact⟨T.q e,.inl ⟨l,BU (O.at u z),D4 T.q d' y B .loc u O z U⟩⟩
   |_=>exact U.elim
 |_=>exact U.elim
inductive WInv(I:Nat->M->LS->Prop)(n:Nat)(m':L1)(s:E0):Prop
 |mk (m:M)(V:LS)(em:m'=vr m)(e:Sub V s)(k:okS V)(h:I n m V):WInv I n m' s
set_option tactic.hygienic true in
theorem while_ok(d:Sd S k c f X)(d':SdSs S k body g X):SdS S k (.while_ c body) (λm V K=>∃I:Nat->M->LS->Prop,(∃n,I n m V)/\∀n m V,I n m V->f.t m V (λt Aa=>ifW t (g m Aa (kWh n I K)) (K .next m Aa))) X:=by
 intro F T Y B m V K o u;obtain⟨I,⟨n,h0⟩,h⟩:=u;refine ST.while_ B.pass (WInv I) ?_ n ⟨m,V,rfl,Sub.rfl,o,h0⟩;intro n m' s u;obtain⟨m,V,rfl,hs,o,hI⟩:=u;refine(d.onT T o hs (h n m V hI) λt Aa Ad Am Af Ac=>?_).monoX B.xf
 cases t with
 |true =>
  rw[if_pos rfl];refine SsT.mono (SsT.less Af (d' F T Y B m Aa _ Am Ac)) λfl At Ai z=>?_;obtain⟨U,Ab,O,Av,AK,z⟩:=z;subst O
  cases fl with
  |next=>refine X1pp z λn' hn y=>?_;exact⟨n',hn,U,Ab,rfl,Av,AK,y⟩
  |ret v=>exact⟨U,Ab,rfl,Av,AK,z⟩
 |false=>rw[if_neg (by decide)];exact⟨m,Aa,rfl,Af,Am,Ac⟩
theorem ST.mu{K:Fl->L1->E0->Prop}{Y:Value->ag->Prop}(h:ST F m V (.assign p e) K Y):ST F m V (.assign p (.mu l e)) K Y:=λps U s hs=>by
 exact X3lpp ps U.inv λt pe T d y=>h _ (.assign d y) s hs
inductive AsgT:List Pat->E->Prop
 |un {ps:List Pat}{e:E}:(Ga e=true\/4<=ps.length)->AI e=true->AsgT ps e
 |two {i j:Nat}{a b:E}:i≠j->(DW 8 a || DW 8 b)=true->AsgT [.v i,.v j] (.tup [a,b])
theorem vOf_ok(h:vOf p=some i):p=.v i:=by
 cases p with
 |v j=>obtain rfl:=ae h;rfl
 |tup l=>exact nS h
theorem tupOf_ok(h:tupOf e=some es):e=.tup es:=by
 cases e with
 |tup l=>obtain rfl:=ae h;rfl
 |_=>exact(Ak rfl h).elim
theorem asg3_ok(h:asg3 p q a b=true):AsgT [p,q] (.tup [a,b]):=by
 unfold asg3 at h
 cases h1:vOf p with
 |none=>rw[h1]at h;exact nF h
 |some i =>
  rw[h1]at h;dsimp only at h
  cases h2:vOf q with
  |none=>rw[h2]at h;exact nF h
  |some j =>
   rw[h2]at h;refine Aq (aO.mp h) λy B=>?_;rw[vOf_ok h1,vOf_ok h2];refine .two (λe=>?_) B;clear h h2;subst e;rw[Nat.beq_refl]at y;exact nF y
theorem asg2_ok(h:asg2 ps es=true):AsgT ps (.tup es):=by
 unfold asg2 at h
 cases h1:two? ps with
 |none=>rw[h1]at h;exact nF h
 |some d =>
  rw[h1]at h;dsimp only at h
  cases h2:two? es with
  |none=>rw[h2]at h;exact nF h
  |some ab =>
   rw[h2]at h;rw[two?_out h1,two?_out h2];exact asg3_ok h
theorem asgT_ok(h:asgT ps e=true):AsgT ps e:=by
 unfold asgT at h
 cases h1:tupOf e with
 |none=>rw[h1]at h;refine Aq (aO.mp h) λy B=>?_;exact .un (.inl y) B
 |some es =>
  rw[h1]at h
  rcases c8.mp h with h|h
  .rw[tupOf_ok h1];exact asg2_ok h
  .refine Aq (aO.mp h) λy B=>?_;exact .un (.inr (aP y)) B
theorem Ka{K:KS}{m:M}{j:Nat}(a:AV)(s:E0)(z:Up (λa Aa=>K .next (Ff m j a) Aa) a s):UpS K .next (L1.set (vr m) j a) s:=by
 obtain⟨Aa,Y,u,z⟩:=z;exact⟨_,Aa,(Ew m j a).symm,Y,u,z⟩
set_option tactic.hygienic true in
theorem pat_up{F:Fx S}{Y:Value->ag->Prop}{q:Bool}{K:KS}{m:M}{p:Pat}(hq:q=true->S.hx=aa)(a:AV)(Aa:LS)(Ad:E0)(T:okS Aa)(U:Sub Aa Ad)(y:patW q p a m (λAp=>K .next Ap Aa)):PT F (vr m) Ad p a (λO B=>UpS K .next O B) Y:=λpe d v u hs r =>
 aR (Hb (Y:=Y) hq y pe d v u hs r) (λ_ u' ⟨m',s',st,h',⟨mm,em,es,z⟩⟩=>by
  subst em;clear hs r;subst es;exact⟨_,_,st,h',mm,Aa,rfl,U,T,z⟩) λZ Z e=>e
inductive Cmp:E->Prop
 |c (elt:E)(i:Nat)(src:E)(cs:List E):Cmp (.comp elt i src cs)
 |m (l:Nat)(elt:E)(i:Nat)(src:E)(cs:List E):Cmp (.mu l (.comp elt i src cs))
theorem Hg(h:DD e=false)(T:notMu e=true):∃elt i src cs,e=.comp elt i src cs:=by
 cases e with|comp a b c d=>exact⟨_,_,_,_,rfl⟩|mu l e=>exact nF T|_=>exact nT h
theorem cmp_of(h:AI e=false)(T:notMu2 e=true):Cmp e:=by
 unfold AI at h
 cases e with
 |mu l y =>
  exact X4l y (Hg (e:=y) h T) λY i B U=>.m _ _ _ _ _
 |comp Y i B U=>exact .c _ _ _ _
 |_=>exact nT h
set_option tactic.hygienic true in
theorem MG(T:L2 S W k Φ):SdS S k (.assign p e) (λm V K=>quiet (asgOk Φ.q p e) ((wp Φ e X).v aa m V (λa Aa=>patW Φ.q p a m (λAp=>K .next Ap Aa)))) X:=by
 refine λF U Y z m V K o h=>Aq h.out λq h=>?_
 cases p with
 |v j =>
  cases hc:AI e with
  |true=>exact ST.assign hc (((AM T e X).v F U _ m V _ o h).mono Ka |>.monoX z.xf)
  |false =>
   cases cmp_of hc q with|c d i B u=>exact ST.assignComp ((FJ (mu:=aa) T U (AM T B X) (AM T d BV) (BD T u BV) o Ka h).monoX z.xf)|m l d i B u=>exact ST.mu (ST.assignComp ((FJ (mu:=some l) T U (AM T B X) (AM T d BV) (BD T u BV) o Ka h).monoX z.xf))
 |tup ps =>
  refine Aq (aO.mp q) λqq q=>?_
  cases asgT_ok q with
  |un n1 n2=>exact ST.unpack n1 n2 (((AM T e X).on U o Sub.rfl h (pat_up T.q)).monoX z.xf)
  | @two i j a b O q2 =>
   have h:(wp Φ a X).v aa m V (λx Aa=>(wp Φ b X).v aa m Aa (λy Ab=>patW Φ.q (.tup [.v i,.v j]) (.tup [x,y]) m λAp=>K .next Ap Ab)):=h;exact ST.assign2 (T.q qq) O q2 (((AM T a X).on U o Sub.rfl h λx Aa Ad Am Af Ac=>((AM T b X).on U Am Af Ac λy Ab Ai AK Av Ag=>(Aq (quiet.out Ag) λZ Ag=>⟨_,Ab,by rw[Ew,Ew],Av,AK,Ag⟩)).monoX z.xf).monoX z.xf)
theorem slotI.out(h:slotI V a P):∃x i d fs,a=.loc x i/\slot V i=.at x (.inst d)/\slot V (i+1)=.at d (.attrs fs)/\P x i d fs:=by
 cases a with
 |loc x i =>
  have h:(match fields? V i with
   |some f=>(f.1.1=x/\f.2.1=f.1.2)/\P f.1.1 i f.2.1 f.2.2
   |aa=>False):=h
  cases q:fields? V i with
  |none=>rw[q]at h;exact h.elim
  |some f =>
   rw[q]at h;obtain⟨⟨rfl,e⟩,U⟩:=h;exact Aq (fields?_out q) λy B=>⟨_,_,_,_,rfl,e▸y,B,U⟩
 |_=>exact h.elim
set_option tactic.hygienic true in
theorem Jr(T:L2 S W k Φ)(d:Sd S k e f X)(d':Sd S k ob g X):SdS S k (.setattr ob n e) (λm V K=>quiet (AI e && (b5 n 11 || b5 n 12)) (f.v aa m V (λx Aa=>g.v aa m Aa (λa B=>slotI B a λZ i d fs=>fs.length<=100/\K .next m (B.set (i+1) (.at d (.attrs (J2 fs (fld n) x)))))))) X:=by
 refine λF hk Y hY m V K o h=>Aq h.out λO h=>?_;have O:AI e=true/\(n=11\/n=12):=by
  exact Aq (aO.mp O) λh1 h2=>⟨h1,(c8.mp h2).imp bI bI⟩
 refine ST.setattr T.good.floor (T.good.field O.2) (LY O.2) O.1 (((d.on hk o Sub.rfl h λx Aa Ad Am Af Ac=>(d'.on hk Am Af Ac λa B Ai y U u=>?_).monoX hY.xf)).monoX hY.xf);obtain⟨b,i,d,fs,rfl,z,z',hz,u⟩:=u.out;obtain⟨KZ,Gh⟩:=U.set (p:=.attrs (J2 fs (fld n) x)) y z';exact⟨b,i,d,fs,rfl,U.at y z,U.at y z',hz,m,_,rfl,Gh,KZ,u⟩
set_option tactic.hygienic true in
theorem Jq(d:Sd S k e f X)(d':Sd S k ob g X)(d2:Sd S k i h X):SdS S k (.setitem ob i e) (λm V K=>quiet (AI e) (f.v aa m V (λx Aa=>g.v aa m Aa (λa Ab=>h.v aa m Ab (λk U=>slotD U a λb j l=>l.length<=big/\spotW k λkk=>K .next m (U.set j (.at b (.dict (Bx l kk x))))))))) X:=by
 refine λF B Y O m V K o q=>Aq q.out λhn q=>ST.setitem hn (((d.on B o Sub.rfl q λx Aa Ad Am Af Ac=>((d'.on B Am Af Ac λa Ab Ai AK Av Ag=>((d2.on B AK Av Ag λkk U BC T u y=>?_).monoX O.xf)).monoX O.xf)).monoX O.xf));obtain⟨b,j,l,rfl,z,hz,y⟩:=y.out;obtain⟨kk,rfl,y⟩:=y.out;exact Aq (u.set (p:=.dict (Bx l kk x)) T z) λKZ Gh=>⟨b,j,l,kk,rfl,rfl,u.at T z,hz,m,_,rfl,Gh,KZ,y⟩
theorem E.g?_out{e:E}{i:Nat}(h:e.g?=some i):e=.g i:=by
 cases e with
 |g j=>obtain rfl:=ae h;rfl
 |_=>exact(Ak rfl h).elim
theorem E.str?_out{e:E}{i:Str}(h:e.str?=some i):e=.str i:=by
 cases e with
 |str j=>obtain rfl:=ae h;rfl
 |_=>exact(Ak rfl h).elim
theorem call1?_out(h:call1? e=some p):e=.call (.g p.1) [p.2]:=by
 cases e with
 |call f es =>
  refine X1pp (AF (show f.g?.bind (λi=>(one? es).bind λe=>some (i,e))=some p from h)) λi Y h=>X1pp (AF h) λa z h=>?_
  obtain rfl:=ae h;rw[one?_out z,E.g?_out Y]
 |_=>exact(Ak rfl h).elim
theorem JP(h:Mh e=some e'):e=.call (.g 9) [e']:=by
 refine X1pp (AF h) λp Y h=>?_
 cases q:b5 p.1 9 with
 |false=>rw[q]at h;exact nS h
 |true=>rw[q]at h;obtain rfl:=ae h;rw[call1?_out Y,bI q]
theorem xcOf_ok{e:E}{i:Nat}(h:xcOf e=some i):∃t,e=.call (.g i) [.str t]:=by
 refine X1pp (AF h) λp Y h=>X1pp (AF h) λt z h=>?_;obtain rfl:=ae h;exact⟨t,by rw[call1?_out Y,E.str?_out z]⟩
set_option tactic.hygienic true in
theorem srcS_ok(T:L2 S W k Φ)(z:SdSs S k body g X)(F:Fx S)(B:k<=F.k)(Y:Value->ag->Prop)(u:Xo F X Y)(m:M)(V:LS)(K:KS)(o:okS V)
  (h:srcS Φ X p e m V (λitems ok U=>Hw Φ.q p g ok K items m U)):ST F (vr m) (Ax V) (.for_ p e body) (UpS K) Y:=by
 unfold srcS at h
 split at h
 .rename_i O y
  split at h
  .rename_i d
   rw[JP y]
   cases p with|v i=>exact nF d|tup ps=>exact enum_ok T (AM T O X) z F B Y u m V K o h
  .exact h.elim
 .exact for_ok T (AM T e X) z F B Y u m V K o h
theorem raise_ok{e:E}(T:L2 S W k Φ)(F:Fx S)(U:k<=F.k)(Y:Value->ag->Prop)(B:Xo F X Y)(m:M)(V:LS)(K:KS)(o:okS V) (h:match xcOf e with
  |some i=>quiet (isXc Φ.ex i) (quiet Φ.q (X i V))
  |aa=>False):ST F (vr m) (Ax V) (.raise e) (UpS K) Y:=by
 cases hi:xcOf e with
 |none=>rw[hi]at h;exact h.elim
 |some i =>
  rw[hi]at h;refine Aq (quiet.out h) λu h=>X1p (xcOf_ok hi) λt y=>?_;clear hi;subst y;refine Aq (quiet.out h) λe h=>?_;unfold isXc at u;simp only[bh,iJ]at u;exact λps d s hs=>aR (ST.raise (K:=UpS K) (X:=Up X) T.good (T.ex i u.1.1) u.1.2 u.2 (T.q e) (.now o h) ps d s hs) (λZ Z z=>z) B.up
mutual
theorem wpS_ok(T:L2 S W k Φ):∀(st:Internal.S)(X:XL),SdS S k st (wpS Φ st X) X
 |.assign p e,X=>MG T
 |.setattr y n e,X=>Jr T (AM T e X) (AM T y X)
 |.setitem y i e,X=>Jq (AM T e X) (AM T y X) (AM T i X)
 |.expr e,X=>λF B Y u m V K o h=>ST.expr (quiet.out h).1 (((AM T e X).on B o Sub.rfl (quiet.out h).2 λa Aa Ad U z O=>⟨m,Aa,rfl,z,U,O⟩).monoX u.xf)
 |.ret e,X=>λF B Y u m V K o h=>ST.ret (((AM T e X).on B o Sub.rfl h λa Aa Ad U z O=>⟨m,Aa,rfl,z,U,O⟩).monoX u.xf)
 |.ite c a b,X=>λF B Y u m V K o h=>ST.ite (((AM T c X).onT B o Sub.rfl h λt Aa Ad U z O=>by
  cases t with|true=>exact SsT.less z (BY T a X F B Y u m Aa K U O)|false=>exact SsT.less z (BY T b X F B Y u m Aa K U O)).monoX u.xf)
 |.for_ p e body,X=>λF B Y u m V K o h=>srcS_ok T (BY T body X) F B Y u m V K o h
 |.while_ c body,X=>while_ok (AM T c X) (BY T body X)
 |.raise e,X=>λF B Y u m V K o h=>raise_ok T F B Y u m V K o h
 |.try_ _ _ _ _,X=>λF B Y u m V K o h=>h.elim
 |.pass,X=>λF B Y u m V K o h=>ST.pass ⟨m,V,rfl,Sub.rfl,o,h⟩
theorem BY(T:L2 S W k Φ):∀(y:List Internal.S)(X:XL),SdSs S k y (wpSs Φ y X) X
 |[],X=>λF B Y O m V K o h=>SsT.nil ⟨m,V,rfl,Sub.rfl,o,h⟩
 |s::r,X=>λF B Y O m V K o h=>SsT.cons ((wpS_ok T s X F B Y O m V _ o h).mono λfl Ap Ad z=>by
  obtain⟨U,Aa,em,d,u,z⟩:=z;subst em
  cases fl with
  |next=>exact SsT.less d (BY T r X F B Y O U Aa K u z)
  |ret v=>exact⟨U,Aa,rfl,d,u,z⟩)
end
end
end
section
variable {S:Sta}{W:Wd}
theorem M5.nf(r:M5 cv h D o a):∃ob,h.get? a=some ob/\∀vs,ob.data≠.fields vs:=by
 induction r using M5.casesOn with|list e _=>exact⟨_,e,λZ z=>by exact nDf rfl z⟩|dict e _ _ _=>exact⟨_,e,λZ z=>by exact nDf rfl z⟩|inst e _=>exact⟨_,e,λZ z=>by exact nDf rfl z⟩|attrs e _=>exact⟨_,e,λZ z=>by exact nDf rfl z⟩
inductive FrK(Aa V:E0){α:Type}(Q:α->E0->Prop)(v:α)(s:E0):Prop
 |mk (t:E0)(q:Q v t)(s1:∀a o,t a=some o->s a=some o)(s2:∀a o,V a=some o->Aa a=aa->s a=some o)(new:∀a,Dom t a->Dom Aa a\/V a=aa):FrK Aa V Q v s
theorem BA(e:V a=some o):Dom V a:=by unfold Dom;rw[e];simp
theorem Cs(d:Dom V a):∃o,V a=some o:=by
 cases e:V a with|none=>exact absurd e d|some o=>exact⟨o,rfl⟩
abbrev Hid(Aa V:E0)(a:Addr):Prop:=Dom V a/\¬Dom Aa a
open Classical in
noncomputable def Ft(Aa V t:E0):E0:=λa=>if Hid Aa V a then V a else t a
structure Framed(S:Sta)(N:Addr->Prop)(A:cX)(Aa V:E0)(s:ag)(t:E0)(s':ag):Prop where
 st:H2 (Frm A) noO V s (Ft Aa V t) s'
 i:Inv S N (Ft Aa V t) s'
 d:∀b,DN N (Ft Aa V t) b->DN (λa=>N a\/Hid Aa V a) t b
 nw:∀a,Dom t a->Dom Aa a\/V a=aa
theorem EI(u:∀a o,Aa a=some o->V a=some o)(O:Room S N k A)(hi:Inv S N V s)
  (st:H2 (Frm A) noO Aa s t s') (i:Inv S (λa=>N a\/Hid Aa V a) t s'):Framed S N A Aa V s t s':=by
 have hH:∀{a},Hid Aa V a->Ft Aa V t a=V a:=λh=>if_pos h;have hN:∀{a},¬Hid Aa V a->Ft Aa V t a=t a:=λh=>if_neg h;have U:∀{a},Dom Aa a->Dom V a:=λd=>by refine X1p (Cs d) λo e=>?_;exact BA (u _ _ e)
 have Y:∀{a},Dom (Ft Aa V t) a->Hid Aa V a\/Dom t a:=λ{a} d=>by
  by_cases h:Hid Aa V a
  .exact .inl h
  .right;unfold Dom at d ⊢;rw[hN h]at d;exact d
 have fN:∀{a},Frm A a->N a:=λ{a} ⟨l,el,e,he,hf⟩=>by
  refine X1pp O.fr λl' B hl=>?_;rw[el]at B;obtain rfl:=ae B;refine Aq (hl e he) λZ Z0=>X1ppp Z0 λL z h3 Z=>?_;rw[hf]at z;obtain rfl:=ae z;exact h3
 have dm:∀b,Dom (Ft Aa V t) b->Dom V b\/s.heap.get? b=aa:=λb d=>(Y d).elim (λh=>.inl h.1) λh=>(st.dom b h).imp U id;have dd:∀b,DN N (Ft Aa V t) b->DN (λa=>N a\/Hid Aa V a) t b:=λb d=>d.elim (λd=>(Y d).elim (λh=>.inr (.inr h)) .inl) λh=>.inr (.inl h);refine⟨⟨st.ext.mono λa h=>h.imp U id,λb o e p ho d=>st.frm b o e p ho λq=>d (U q),dm,st.there⟩,⟨i.keep,i.gens,i.drawn,i.os,λa d=>(Y d).elim (λh=>hi.σg a h.1) (i.σg a),λa d n=>(Y d).elim (λh=>hi.σN a h.1 n) λh=>i.σN a h (.inl n),λa n=>i.Nin a (.inl n),λa o e=>?_⟩,dd,λa d=>?_⟩
 .by_cases h:Hid Aa V a
  .rw[hH h]at e
   exact(hi.rep a o e).ext (D:=DN N V) (st.ext.mono λb q=>q.elim (λq=>.inl (U q)) λq=>q.elim (λq=>q.elim) λq=>.inr (fN q)) (λb d=>d.elim (λd=>(dm b d).imp .inl id) λd=>.inl (.inr d)) λT y=>st.ext.obj a T y λq=>q.elim h.2 λq=>q.elim (λq=>q.elim) λq=>hi.σN a h.1 (fN q)
  .rw[hN h]at e
   exact(i.rep a o e).ext (Ext.refl _ _) (λb d=>.inl (dd b d)) λZ q=>q
 .rcases st.dom a d with q|q
  .exact .inl q
  .refine .inr ?_
   cases e:V a with|none=>rfl|some o=>refine X1pp ((hi.rep a o e).there) λT y Z=>?_;rw[q]at y;exact nS y
theorem FrK.of(f:Framed S N A Aa V s t s')(i:Inv S (λa=>N a\/Hid Aa V a) t s')(q:Q v t):FrK Aa V Q v (Ft Aa V t):=by
 refine⟨t,q,λa o e=>?_,λa o e n=>?_,f.nw⟩
 .have:¬Hid Aa V a:=λh=>i.σN a (BA e) (.inr h)
  exact(if_neg this).trans e
 .exact(if_pos ⟨BA e,λd=>d n⟩).trans e
theorem M1.frame(u:∀a o,Aa a=some o->V a=some o)(h:M1 S k f avs Aa Q X):M1 S k f avs V (FrK Aa V Q) (FrK Aa V X):=by
 intro N A vals s O hi B;have U:∀{a},Dom Aa a->Dom V a:=λd=>by refine X1p (Cs d) λo e=>?_;exact BA (u _ _ e)
 have dd:∀b,DN (λa=>N a\/Hid Aa V a) Aa b->DN N V b:=λb d=>d.elim (λd=>.inl (U d)) λd=>d.elim .inr λd=>.inl d.1;have T:Inv S (λa=>N a\/Hid Aa V a) Aa s:=⟨hi.keep,hi.gens,hi.drawn,hi.os,λa d=>hi.σg a (U d),λa d n=>n.elim (hi.σN a (U d)) λn=>n.2 d,λa n=>n.elim (hi.Nin a) λn=>by
   exact X1p (Cs n.1) λo e=>(hi.rep a o e).nf,λa o e=>(hi.rep a o (u a o e)).ext (Ext.refl _ _) (λb d=>.inl (dd b d)) λZ q=>q⟩
 refine dD (h _ A vals s (O.wide λa n=>.inl n) T (B.less dd)) λr s' z=>?_
 cases r with
 |error e =>
  obtain⟨ea,c,t,Aj,h1,h2,h3,y,Y⟩:=z;have f:=EI u O hi h3 y;exact⟨ea,c,_,Aj,h1,h2,f.st,f.i,FrK.of f y Y⟩
 |ok fl =>
  cases fl with
  |ret v =>
   obtain⟨av,t,st,i,r,q⟩:=z;have f:=EI u O hi st i;exact⟨av,_,f.st,f.i,r.less f.d,FrK.of f i q⟩
  |_=>exact z
theorem Bj:∀{V:LS}{i j:Nat}{a:Addr}{o p:L4},okS V->slot V i=.at a o->slot V j=.at a p->i=j
 |[],i,j,a,o,p,_,h,_=>by cases h
 |x::r,0,0,a,o,p,_,_,_=>rfl
 |x::r,0,j+1,a,o,p,k,h,h'=>by
  have:x=.at a o:=h
  clear h;subst this
  have:=Ay k.2 (show slot r j=.at a p from h');rw[k.1]at this;exact nS this
 |x::r,i+1,0,a,o,p,k,h,h'=>by
  have:x=.at a p:=h'
  clear h';subst this
  have:=Ay k.2 (show slot r i=.at a o from h);rw[k.1]at this;exact nS this
 |x::r,i+1,j+1,a,o,p,k,h,h'=>by
  have O:okS r:=by cases x with|no=>exact k|«at» c q=>exact k.2
  exact congrArg f6 (Bj (V:=r) O h h')
theorem Ip:∀{V:LS}{a:Addr}{o:L4},.at a o∈V->∃i,slot V i=.at a o
 |x::r,a,o,h=>by
  rcases aA.mp h with q|q
  .exact⟨0,q.symm⟩
  .refine X1p (Ip q) λi e=>?_;exact⟨i+1,e⟩
theorem Bb(h:Ax V a=some o):∃i,slot V i=.at a o:=Ip (FZ h)
theorem EF:∀{V:LS},(∀i j a o p,slot V i=.at a o->slot V j=.at a p->i=j)->okS V
 |[],_=>trivial
 |.no::r,h=>EF (V:=r) λi j a o p Y y=>fm (h (i+1) (j+1) a o p Y y)
 |.at b q::r,h=>by
  refine⟨?_,EF (V:=r) λi j a o p Y y=>fm (h (i+1) (j+1) a o p Y y)⟩
  cases e:Ax r b with
  |none=>rfl
  |some o=>refine X1p (Bb e) λi z=>?_;cases h 0 (i+1) b q o rfl z
theorem H4(h:slot (V.set i s) j=.at a o):(j=i/\s=.at a o)\/(j≠i/\slot V j=.at a o):=by
 unfold slot at h ⊢;rw[aE,List.getElem?_set]at h
 by_cases q:i=j
 .subst q
  rw[if_pos rfl]at h
  by_cases z:i<V.length
  .rw[if_pos z]at h;exact .inl ⟨rfl,h⟩
  .rw[if_neg z]at h;cases h
 .rw[if_neg q]at h
  exact .inr ⟨λe=>q e.symm,by rwa [aE]⟩
theorem DT:∀{l:List Nat},Ik l=true->l.Nodup
 |[],_=>.nil
 |i::r,h=>by
  refine Aq (aO.mp h) λY z=>bF.mpr ⟨λq=>?_,DT z⟩
  have:r.any (b5 i)=true:=dP.mpr ⟨i,q,Nat.beq_refl i⟩
  rw[this]at Y;exact nF Y
theorem C9:∀{ix:List Nat}{V τ:LS}{j:Nat}{a:Addr}{o:L4},ix.Nodup->slot (wb V ix τ) j=.at a o->(j∉ix/\slot V j=.at a o)\/∃p,ix[p]?=some j/\slot τ p=.at a o
 |[],V,τ,j,a,o,_,h=>.inl ⟨bB,h⟩
 |i::r,V,s::τ,j,a,o,n,h=>by
  rw[bF]at n
  rcases C9 (ix:=r) n.2 h with⟨Y,y⟩|⟨p,Y,y⟩
  .rcases H4 y with⟨rfl,q⟩|⟨q,z⟩
   .exact .inr ⟨0,rfl,q⟩
   .exact .inl ⟨λm=>(aA.mp m).elim q Y,z⟩
  .exact .inr ⟨p+1,Y,y⟩
 |i::r,V,[],j,a,o,n,h=>by
  rw[bF]at n
  rcases C9 (ix:=r) n.2 h with⟨Y,y⟩|⟨p,Y,y⟩
  .rcases H4 y with⟨rfl,q⟩|⟨q,z⟩
   .cases q
   .exact .inl ⟨λm=>(aA.mp m).elim q Y,z⟩
  .cases y
theorem BN{ix:List Nat}{p:Nat}{a:Addr}{o:L4}(h:slot (ix.map (slot V)) p=.at a o):∃i,ix[p]?=some i/\slot V i=.at a o:=by
 unfold slot at h;rw[aE,a9]at h
 cases e:ix[p]? with
 |none=>rw[e]at h;cases h
 |some i=>rw[e]at h;exact⟨i,rfl,h⟩
theorem nodup_at{l:List Nat}{p q i:Nat}(n:l.Nodup)(Y:l[p]?=some i)(T:l[q]?=some i):p=q:=by
 have d:p<l.length:=by
  rcases bO p l.length with z|z
  .exact z
  .rw[be z]at Y;exact nS Y
 exact(List.getElem?_inj d n).mp (Y.trans T.symm)
theorem KQ{V:LS}{ix:List Nat}(k:okS V)(n:ix.Nodup):okS (ix.map (slot V))/\Sub (ix.map (slot V)) (Ax V):=by
 refine⟨EF λi j a o p Y U=>?_,λa o e=>?_⟩
 .refine X1pp (BN Y) λd u O=>X1pp (BN U) λy e2 T=>?_
  have:=Bj k O T
  clear T;subst this;exact nodup_at n u e2
 .exact X1p (Bb e) λp z=>X1pp (BN z) λi Z z=>Ay k z
theorem wb_ok{V τ:LS}{ix:List Nat}{s:E0}(k:okS V)(n:ix.Nodup)(kt:okS τ)(ht:Sub τ s)(B:∀a o,Ax V a=some o->Ax (ix.map (slot V)) a=aa->s a=some o)(nw:∀a,Dom (Ax τ) a->Dom (Ax (ix.map (slot V))) a\/Ax V a=aa):okS (wb V ix τ)/\Sub (wb V ix τ) s:=by
 have Y:∀{i a o p y},i∉ix->slot V i=.at a o->slot τ p=.at a y->False:=λ{i a o p y} hn d B=>by
  rcases nw a (BA (Ay kt B))with q|q
  .refine X1p (Cs q) λo2 e=>X1p (Bb e) λp' z=>X1pp (BN z) λi' u z=>?_
   have:=Bj k d z
   clear z;subst this;exact hn (af u)
  .rw[Ay k d]at q;exact nS' q
 refine⟨EF λi j a o p d B=>?_,λa o e=>?_⟩
 .rcases C9 n d with⟨U,O⟩|⟨p1,u,O⟩<;>rcases C9 n B with⟨n2,T⟩|⟨p2,e2,T⟩
  .exact Bj k O T
  .exact(Y U O T).elim
  .exact(Y n2 T O).elim
  .have:=Bj kt O T
   clear T;subst this;rw[u]at e2;exact ae e2
 .refine X1p (Bb e) λj z=>?_
  rcases C9 n z with⟨U,O⟩|⟨p1,u,O⟩
  .refine B a o (Ay k O) ?_
   cases q:Ax (ix.map (slot V)) a with
   |none=>rfl
   |some y =>
    refine X1p (Bb q) λp' z=>X1pp (BN z) λi' u z=>?_
    have:=Bj k O z
    clear z;subst this;exact(U (af u)).elim
  .exact ht a o (Ay kt O)
end
section
variable {S:Sta}{W:Wd}
noncomputable def isLD:L4->Bool
 |.list _=>true
 |.dict _=>true
 |_=>false
def newW(k:Nat)(V:LS)(v:AV)(js:List Nat)(os:List L4)(K:Sh->List Nat->List L4->Prop):Prop:=match v with
 |.loc a i=>(match slot V i with
  |.at b o=>(match isLD o && eU k i && !(js.any (b5 i))with
   |true=>b=a/\K (.new os.length) (js++[i]) (os++[o])
   |false=>False)
  |.no=>False)
 |_=>False
mutual
def convW(k:Nat)(V:LS):Rs->AV->List Nat->List L4->(Sh->List Nat->List L4->Prop)->Prop
 |.val,v,js,os,K=>K (.val v) js os
 |.new,v,js,os,K=>newW k V v js os K
 |.tup rs,v,js,os,K=>(match v with
  |.tup vs=>IX k V rs vs js os (λsh js os=>K (.tup sh) js os)
  |_=>False)
 |.list rs,v,js,os,K=>(match v with
  |.list vs=>IX k V rs vs js os (λsh js os=>K (.list sh) js os)
  |_=>False)
def IX(k:Nat)(V:LS):List Rs->List AV->List Nat->List L4->(List Sh->List Nat->List L4->Prop)->Prop
 |[],[],js,os,K=>K [] js os
 |r::rs,v::vs,js,os,K=>convW k V r v js os (λsh js os=>IX k V rs vs js os (λshs js os=>K (sh::shs) js os))
 |_,_,_,_,_=>False
end
def retW(rs:Rs)(k:Nat)(v:AV)(V:LS)(K:KR):Prop:=convW k V rs v [] [] (λsh Z os=>K ⟨os,sh⟩ (V.take k))
noncomputable def flV:Fl->AV
 |.ret v=>v
 |.next=>.none
def fnW(Φ:Tab)(c:As)(rs:Rs)(nv ns:Nat)(avs:List AV)(V:LS)(K:KR)(X:XL):Prop :=
 avs.length=c.n/\wpSs Φ c.body (λe τ=>X e (τ.take V.length)) (avs.map some++aH nv aa) (V++aH ns .no) (λfl Z τ=>retW rs V.length (flV fl) τ K)
mutual
inductive ShR(V:LS)(js:List Nat)(os:List L4):Sh->AV->Prop
 |val (v:AV):ShR V js os (.val v) v
 |new {j i:Nat}{a:Addr}{o:L4}:js[j]?=some i->slot V i=.at a o->os[j]?=some o->ShR V js os (.new j) (.loc a i)
 |tup {l:List Sh}{vs:List AV}:ShRL V js os l vs->ShR V js os (.tup l) (.tup vs)
 |list {l:List Sh}{vs:List AV}:ShRL V js os l vs->ShR V js os (.list l) (.list vs)
inductive ShRL(V:LS)(js:List Nat)(os:List L4):List Sh->List AV->Prop
 |nil:ShRL V js os [] []
 |cons {s:Sh}{v:AV}{l:List Sh}{vs:List AV}:ShR V js os s v->ShRL V js os l vs->ShRL V js os (s::l) (v::vs)
end
theorem Hv{l k:List α}{i:Nat}{x:α}(h:l[i]?=some x):(l++k)[i]?=some x:=by
 have:i<l.length:=by
  rcases bO i l.length with z|z
  .exact z
  .rw[be z]at h;exact nS h
 rwa [ce this]
theorem ShR.more{os os':List L4}{s:Sh}{v:AV}(h:ShR V js os s v):ShR V (js++js') (os++os') s v :=
 ShR.rec (motive_1:=λs v Z=>ShR V (js++js') (os++os') s v) (motive_2:=λl vs Z=>ShRL V (js++js') (os++os') l vs)
  (λv=>.val v) (λa b c=>.new (Hv a) b (Hv c)) (λZ h=>.tup h) (λZ h=>.list h) .nil (λZ Z a b=>.cons a b) h
structure Fine(k:Nat)(V:LS)(js:List Nat)(os:List L4):Prop where
 len:js.length=os.length
 nd:js.Nodup
 at_:∀(j i:Nat),js[j]?=some i->k<=i/\∃a o,slot V i=.at a o/\os[j]?=some o/\isLD o=true
inductive Conv(k:Nat)(V:LS)(js:List Nat)(os:List L4){α:Type}(R:α->List Nat->List L4->Prop)(K:α->List Nat->List L4->Prop):Prop
 |mk (sh:α)(js':List Nat)(os':List L4)(f:Fine k V (js++js') (os++os'))(r:R sh (js++js') (os++os'))(h:K sh (js++js') (os++os')):Conv k V js os R K
set_option tactic.hygienic true in
theorem newW_ok{T:List Nat}{os:List L4}{K:Sh->List Nat->List L4->Prop}(f:Fine k V T os)(h:newW k V v T os K):Conv k V T os (λs T os=>ShR V T os s v) K:=by
 unfold newW at h
 split at h
 .rename_i a i
  split at h
  .rename_i b o z
   split at h
   .rename_i q
    obtain⟨rfl,h⟩:=h;obtain⟨U,O⟩:=aO.mp q;obtain⟨U,Y⟩:=aO.mp U;refine⟨_,[i],[o],⟨?_,?_,?_⟩,.new (j:=os.length) ?_ z ?_,h⟩
    .rw[an,an,f.len];rfl
    .rw[bn]
     refine⟨f.nd,bF.mpr ⟨bB,.nil⟩,λx hx y u e=>?_⟩;have u:=aD.mp u;subst e;subst u
     have:T.any (b5 x)=true:=dP.mpr ⟨x,hx,Nat.beq_refl x⟩
     rw[this]at O;exact nF O
    .intro j i' d
     rcases bO j T.length with B|B
     .rw[ce B]at d
      exact Aq (f.at_ j i' d) λh1 Z0=>X2ppp Z0 λa' o' h2 h3 h4=>⟨h1,a',o',h2,Hv h3,h4⟩
     .rw[bj B]at d
      cases hjj:j - T.length with
      |zero =>
       rw[hjj]at d;obtain rfl:=ae d;refine⟨iJ.mp Y,b,o,z,?_,U⟩;rw[bj (by rw[<- f.len];exact B),<- f.len,hjj];rfl
      |succ n=>rw[hjj]at d;exact nS d
    .rw[<- f.len,bj (az _),fF];rfl
    .rw[bj (az _),fF];rfl
   .exact h.elim
  .exact h.elim
 .exact h.elim
mutual
theorem FH:∀{rs:Rs}{v:AV}{T:List Nat}{os:List L4}{K:Sh->List Nat->List L4->Prop},Fine k V T os->convW k V rs v T os K->Conv k V T os (λs T os=>ShR V T os s v) K
 |.val,v,T,os,K,f,h=>⟨_,[],[],by rwa [aN,aN],.val v,by rw[aN,aN];exact h⟩
 |.new,v,T,os,K,f,h=>newW_ok f h
 |.tup rs,v,T,os,K,f,h=>by
  cases v with
  |tup vs=>obtain⟨l,js',os',O,r,h⟩:=Eb f h;exact⟨_,js',os',O,.tup r,h⟩
  |_=>exact h.elim
 |.list rs,v,T,os,K,f,h=>by
  cases v with
  |list vs=>obtain⟨l,js',os',O,r,h⟩:=Eb f h;exact⟨_,js',os',O,.list r,h⟩
  |_=>exact h.elim
theorem Eb{V:LS}:∀{rs:List Rs}{v:List AV}{T:List Nat}{os:List L4}{K:List Sh->List Nat->List L4->Prop},Fine k V T os->IX k V rs v T os K->Conv k V T os (λs T os=>ShRL V T os s v) K
 |[],[],T,os,K,f,h=>⟨_,[],[],by rwa [aN,aN],.nil,by rw[aN,aN];exact h⟩
 |r::rs,v::vs,T,os,K,f,h=>by
  obtain⟨s,js',os',d,Y,h⟩:=FH f h;obtain⟨l,U,B,y,O,h⟩:=Eb d h;rw[aG,aG]at y O h;refine⟨_,js'++U,os'++B,y,.cons ?_ O,h⟩
  have:=Y.more (js':=U) (os':=B)
  rw[aG,aG]at this;exact this
 |[],_::_,_,_,_,_,h=>h.elim
 |_::_,[],_,_,_,_,h=>h.elim
end
theorem Fine.nil:Fine k V [] []:=⟨rfl,.nil,λZ Z h=>by exact nS h⟩
theorem ShR.rep{os:List L4}{f:Nat->AV}{s:Sh}{v:AV}(hr:ShR V js os s v)(hf:∀(j i:Nat)(a:Addr)(o:L4),js[j]?=some i->slot V i=.at a o->os[j]?=some o->Rep cv h D' (f j) (.ref a))
  (hl:∀{v u},Rep cv h D v u->Rep cv h D' v u) (O:∀a,D' a->D a):∀{u:Value},Rep cv h D v u->Rep cv h D' (s.with f) u :=
 ShR.rec (motive_1:=λs v Z=>∀{u:Value},Rep cv h D v u->Rep cv h D' (s.with f) u) (motive_2:=λl vs Z=>∀{z:List Value},RepL cv h D vs z->RepL cv h D' (Sh.withL f l) z)
  (λv u r=>hl r) (λa b c u r=>by rw[show u=bX _ from r.inv];exact hf _ _ _ _ a b c)
  (λZ y u r=>by obtain⟨a,vs,n,rfl,e,d,r⟩:=r.inv;exact .tup e (λq=>d (O _ q)) (y r)) (λZ y u r=>by obtain⟨a,vs,n,rfl,e,d,r⟩:=r.inv;exact .list e (λq=>d (O _ q)) (y r))
  (λr=>by rw[show _=([]:List Value) from r.inv];exact .nil) (λZ Z T B z r=>by refine X2lpp z r.inv λv rr Y U=>?_;exact .cons (T Y) (B U)) hr
inductive OutF(K:KR)(v:AV)(s:E0):Prop
 |mk (r:RT)(τ:LS)(e:v=r.sh.with (frzN r.os))(k:okS τ)(hs:Sub τ s)(h:K r τ):OutF K v s
noncomputable def JH:List Addr->Nat->List AV
 |[],_=>[]
 |a::r,i=>.loc a i::JH r (i+1)
theorem Gf:∀{as:List Addr}{i j:Nat}{a:Addr},as[j]?=some a->∃n,(JH as i).getD j .none=.loc a n
 |a::r,i,0,_,h=>by obtain rfl:=ae h;exact⟨i,rfl⟩
 |_::r,i,j+1,a,h=>Gf (as:=r) (i:=i+1) (j:=j) h
inductive OutM(i:Nat)(K:KR)(v:AV)(s:E0):Prop
 |mk (r:RT)(τ:LS)(as:List Addr)(e:v=r.sh.with (λj=>(JH as i).getD j .none))(k:okS τ)(hs:Sub τ s)(nd:as.Nodup)(len:as.length=r.os.length)(at_:∀(j:Nat)(o:L4),r.os[j]?=some o->∃a,as[j]?=some a/\s a=some o/\Ax τ a=aa)(h:K r τ):OutM i K v s
theorem BH(h:slot (V.take k) p=.at a o):p<k/\slot V p=.at a o:=by
 unfold slot at h ⊢;rw[aE,List.getElem?_take]at h
 by_cases q:p<k
 .rw[if_pos q]at h;exact⟨q,by rwa [aE]⟩
 .rw[if_neg q]at h;cases h
theorem DJ(o:okS V):okS (V.take k)/\∀a p,Ax (V.take k) a=some p->Ax V a=some p:=by
 exact⟨EF λi j a p q Y y=>Bj o (BH Y).2 (BH y).2,λa p e=>(X1p (Bb e) λi z=>(Ay o (BH z).2))⟩
theorem II:∀{os:List L4}{j:Nat}{o:L4},os[j]?=some o->frzN os j=frz o
 |o::os,0,_,h=>by obtain rfl:=ae h;rfl
 |_::os,j+1,o,h=>II (os:=os) h
theorem CH{K:KR}{m:L1}(o:okS V)(hs:Sub V s)(h:retW rs k (flV fl) V K):RetK S (OutF K) fl m s:=by
 intro N;obtain⟨sh,js,os,f,r,h⟩:=FH Fine.nil h;simp only[gr]at f r h
 let as:List Addr:=js.filterMap λi=>match slot V i with
  |.at a _=>some a
  |.no=>aa
 have mem:∀{i a p},i∈js->slot V i=.at a p->a∈as:=λ{i a p} hi z=>d6.mpr ⟨i,hi,by rw[z]⟩
 refine⟨sh.with (frzN os),s.dels as,?_,⟨os,sh⟩,V.take k,rfl,(DJ o).1,λa p e=>?_,h⟩
 .show View S N (flV fl) _ _ _
  refine λt u hi ru=>Aq (hi.drop (V':=s.dels as) λb p e=>(CU e).2) λi st=>⟨i,st,r.rep (D:=DN N s) (D':=DN N (s.dels as)) (λj O a p T z hp=>?_) (λr=>r.step st (λZ h=>h.elim) (λZ h=>h.elim)) (λa d=>d.imp (λd=>?_) id) ru⟩
  .have y:s a=some p:=hs.at o z
   have ia:a∈as:=mem (af T) z;rw[II hp];refine Aq (f.at_ j O T) λZ Z0=>X2ppp Z0 λa' o' B hp' hl=>?_;rw[z]at B;cases B
   cases p with
   |list l =>
    exact X2pp ((hi.rep a _ y).inv) λvs n e r=>.list e (λd=>d.elim (Ba ia) (hi.σN a (BA y))) (r.step st (λZ h=>h.elim) (λZ h=>h.elim))
   |dict l =>
    exact X2pppp ((hi.rep a _ y).inv) λvs n e sm nd r=>.dict e (λd=>d.elim (Ba ia) (hi.σN a (BA y))) sm nd (r.step st (λZ h=>h.elim) (λZ h=>h.elim))
   |_=>exact nF hl
  .refine X1p (Cs d) λp e=>?_;exact BA (CU e).2
 .refine X1p (Bb e) λi z=>Aq (BH z) λU z=>?_
  unfold E0.dels;rw[if_neg]
  .exact hs.at o z
  .refine λq=>X1pp (d6.mp q) λO Y e'=>X1p (gc Y) λj T=>Aq (f.at_ j O T) λhk Z1=>X2ppp Z1 λa' o' B Z Z=>?_
   rw[B]at e';obtain rfl:=ae e'
   have:=Bj o z B
   exact lin [i,k,O] [] .no [.c V0 V1,.b V1 V2,.D (-1) V0 V2] rfl U hk this
theorem Ia{K:KR}{m:L1}(o:okS V)(hs:Sub V s)(h:retW rs k (flV fl) V K):RetK S (OutM i K) fl m s:=by
 intro N;obtain⟨sh,T,os,f,r,h⟩:=FH Fine.nil h;simp only[gr]at f r h
 let ad:Nat->Addr:=λi=>match slot V i with
  |.at a _=>a
  |.no=>0
 have Y:∀{i a p},slot V i=.at a p->ad i=a:=λ{i a p} z=>by simp only[ad,z]
 refine⟨sh.with (λj=>(JH (T.map ad) i).getD j .none),s,?_,⟨os,sh⟩,V.take k,T.map ad,rfl,(DJ o).1,λa p e=>hs a p ((DJ o).2 a p e),?_,?_,λj p y=>?_,h⟩
 .show View S N (flV fl) _ _ _
  refine λt u hi ru=>⟨hi,H2.refl _ _ _ _,r.rep (λj O a p B z y=>(X1p (Gf (as:=T.map ad) (i:=i) (j:=j) (a:=a) (by rw[a9,B];exact congrArg some (Y z))) λn e=>?_)) (λr=>r) (λZ d=>d) ru⟩
  rw[e];exact .loc _ _
 .refine cA.mpr (List.Pairwise.imp_of_mem (λ{i j} hi B hne e=>(X1p (gc hi) λp y=>(X1p (gc B) λq hq=>(Aq (f.at_ p i y) λZ Z0=>(X2pp Z0 λa o1 z1 Z=>(Aq (f.at_ q j hq) λZ Z1=>(X2pp Z1 λb o2 z2 Z=>?_))))))) f.nd)
  rw[Y z1,Y z2]at e;subst e;exact hne (Bj o z1 z2)
 .rw[aj];exact f.len
 .have B:j<T.length:=by
   rw[f.len]
   rcases bO j os.length with z|z
   .exact z
   .have y:os[j]?=some p:=y
    rw[be z]at y;exact nS y
  obtain⟨O,hi'⟩:∃O,T[j]?=some O:=⟨_,aI B⟩;refine Aq (f.at_ j O hi') λhk Z2=>X2ppp Z2 λa o' z U Z=>?_;have y:os[j]?=some p:=y;rw[y]at U;obtain rfl:=ae U;refine⟨a,by rw[a9,hi'];exact congrArg some (Y z),hs.at o z,?_⟩
  cases e:Ax (V.take k) a with
  |none=>rfl
  |some p' =>
   refine X1p (Bb e) λq zq=>Aq (BH zq) λhq zq=>?_
   have:=Bj o zq z
   omega
end
section
variable {S:Sta}{W:Wd}
theorem Cx:∀{V:LS}{n:Nat},Ax (V++aH n .no)=Ax V
 |[],0=>rfl
 |[],n+1=>by funext a;exact congrFun (Cx (V:=[]) (n:=n)) a
 |.no::r,n=>by funext a;exact congrFun (Cx (V:=r) (n:=n)) a
 |.at b o::r,n=>by
  funext a
  have:=congrFun (Cx (V:=r) (n:=n)) a
  show (if a=b then some o else Ax (r++aH n .no) a)=if a=b then some o else Ax r a;rw[this]
theorem Dd:∀{V:LS}{n:Nat},okS V->okS (V++aH n .no)
 |[],0,_=>trivial
 |[],n+1,k=>Dd (V:=[]) (n:=n) k
 |.no::r,n,k=>Dd (V:=r) k
 |.at b o::r,n,k=>⟨(congrFun (Cx (V:=r) (n:=n)) b).trans k.1,Dd (V:=r) k.2⟩
theorem HR(m:M)(n:Nat):vr (m++aH n aa)=vr m:=by
 funext i
 unfold vr;rw[aE,aE]
 rcases bO i m.length with h|h
 .rw[ce h]
 .rw[bj h,be h]
  rw[dQ]
  split<;>rfl
theorem XR.mono(k:∀c V,X c V->X' c V)(h:XR F X e s):XR F X' e s:=by
 obtain⟨T,c,V',Aj,m',y,h,x,o⟩:=h;exact⟨T,c,V',Aj,m',y,h,k _ _ x,o⟩
theorem D6{K:KR}{X:XL}{Q:AV->E0->Prop}(T:L2 S W k Φ)(u:IsFn S fa c)(o:okS V)(h:fnW Φ c rs nv ns avs V K X)
  (y:∀{fl:Fl}{m:L1}{τ:LS}{s:E0},okS τ->Sub τ s->retW rs V.length (flV fl) τ K->RetK S Q fl m s):M1 S (k+1) (.ref fa) avs (Ax V) Q (Up X):=by
 refine M1.body u h.1 λF O ht Y d B=>?_;have x:Xo F (λe τ=>X e (τ.take V.length)) Y:=⟨λe s z=>d e s (z.mono λc t z=>by
  obtain⟨τ,hs,ok,z⟩:=z;exact⟨τ.take V.length,λa p e=>hs a p ((DJ ok).2 a p e),(DJ ok).1,z⟩),B⟩
 have:=BY T c.body _ F (dE O.symm) Y x _ _ _ (Dd (n:=ns) o) h.2
 rw[HR,E7,Cx]at this;refine SsT.mono this λfl m s z=>?_;obtain⟨U,τ,em,hs,ok,z⟩:=z;exact y ok hs z
theorem FQ:∀{os:List L4}{as:List Addr}{i:Nat}{τ:LS}{s:E0}{acc:List AV}{K:List AV->LS->Prop},okS τ->Sub τ s->as.Nodup->as.length=os.length->(∀(j:Nat)(o:L4),os[j]?=some o->∃a,as[j]?=some a/\s a=some o/\Ax τ a=aa)->MK os i τ acc K->∃B,okS B/\Sub B s/\K (acc++JH as i) B
 |[],[],i,τ,s,acc,K,k,hs,_,_,_,h=>⟨τ,k,hs,by rw[show JH [] i=[] from rfl,aN];exact h⟩
 |o::os,a::as,i,τ,s,acc,K,k,hs,nd,hl,ha,h=>by
  refine X1ppp (ha 0 o rfl) λa' e y T=>?_;obtain rfl:=ae e;rw[bF]at nd;have f:Fits τ i (.at a o):=λZ Z e=>by cases e;exact .inl T
  have sub:=Fe k f
  have:=FQ (os:=os) (as:=as) (i:=i+1) (s:=s) (DO k f) (λb p e=>by
   have:=sub b p e
   by_cases z:b=a
   .clear nd hl ha e T f sub;subst z;rw[E0.set_self]at this;obtain rfl:=ae this;exact y
   .rw[E0.set_ne _ _ z]at this;exact hs b p this) nd.2 (fm hl) (λj p u=>by
    refine X1ppp (ha (j+1) p u) λb O d nb=>⟨b,O,d,?_⟩
    cases e:Ax (τ.set i (.at a o)) b with
    |none=>rfl
    |some U =>
     have:=sub b U e
     have ne:b≠a:=λz=>nd.1 (by clear nd hl ha e y T f sub;subst z;exact af O)
     rw[E0.set_ne _ _ ne,nb]at this;exact nS this) (h a)
  exact X1ppp this λB k' Y h'=>⟨B,k',Y,by rw[aG]at h';exact h'⟩
 |[],_::_,_,_,_,_,_,_,_,_,hl,_,_=>by cases hl
 |_::_,[],_,_,_,_,_,_,_,_,hl,_,_=>by cases hl
theorem OutF.up{K:KV}{v:AV}{s:E0}(h:OutF (λr τ=>D1 aa r τ K) v s):Up K v s:=by
 obtain⟨r,τ,rfl,k,hs,h⟩:=h;exact⟨τ,hs,k,h⟩
theorem OutM.up{K:KV}{v:AV}{s:E0}(h:OutM i (λr τ=>D1 (some i) r τ K) v s):Up K v s:=by
 obtain⟨r,τ,as,rfl,k,hs,y,len,at_,h⟩:=h;exact X1ppp (FQ k hs y len at_ h) λB k' Y h=>⟨B,Y,k',h⟩
theorem CI:∀{y:List AV}{n:Nat}{vals:List Value},RepL cv h D y vals->RepL cv h D (A8 y n) vals
 |[],_,_,r=>r
 |x::l,n,vals,r=>by
  refine X2lpp vals r.inv λv d B O=>?_;unfold A8
  cases x with|loc a i=>rw[show v=.ref a from B.inv];exact .cons (.loc _ _) (CI O)|_=>exact .cons B (CI O)
theorem M1.relab(h:M1 S k f (A8 avs n) V Q X):M1 S k f avs V Q X:=λN A vals s O hi U=>h N A vals s O hi (CI U)
structure M0(Φ:Tab)(c:As)(rs:Rs)(nv ns:Nat)(f:FS):Prop where
 spec:∀avs V K X,f.spec avs V K X->fnW Φ c rs nv ns avs V K X
 pure:∀avs v,f.pure avs=some v->∀K:KR,K ⟨[],.val v⟩ []->fnW Φ c .val nv ns avs [] K BV
set_option tactic.hygienic true in
theorem Snd.of{k:Nat}{fv:Value}{f:FS}(h1:∀y V K X,okS V->f.spec y V K X->M1 S k fv y (Ax V) (OutF K) (Up X)/\∀i,M1 S k fv y (Ax V) (OutM i K) (Up X))
  (h2:∀y v,f.pure y=some v->M1 S k fv y (Ax []) (OutF λr Z=>r=⟨[],.val v⟩) (Up BV)):Snd S k fv f:=by
 intro F U m mu y V K X o q;unfold Ch at q
 split at q
 .rename_i v hv
  refine CT.own (M1.mono (M1.frame (V:=Ax V) (λa p e=>by exact nS e) (h2 y v hv)) (λa s z=>?_) λc s z=>?_) U
  .obtain⟨t,⟨r,τ,e,_,_,e'⟩,Y,T,_⟩:=z
   subst e';subst e;exact⟨V,λa p e=>T a p e rfl,o,q⟩
  .obtain⟨t,⟨τ,_,_,z⟩,_⟩:=z
   exact z.elim
 .split at q
  .have q:=h1 _ _ _ _ o q
   cases mu with|none=>exact CT.own (M1.mono q.1 (λa s z=>z.up) λc s z=>z) U|some i=>exact CT.own (M1.mono (q.2 i) (λa s z=>z.up) λc s z=>z) U
  .split at q
   .rename_i hn
    have n:=DT hn;refine Aq (KQ (ix:=AN y) o n) λkp hp=>?_;have q:=h1 _ _ _ _ kp q;have back:∀{τ:LS}{t s:E0},okS τ->Sub τ t->(∀a p,t a=some p->s a=some p)->(∀a p,Ax V a=some p->Ax ((AN y).map (slot V)) a=aa->s a=some p)->(∀a,Dom t a->Dom (Ax ((AN y).map (slot V))) a\/Ax V a=aa)->okS (wb V (AN y) τ)/\Sub (wb V (AN y) τ) s:=λ{τ t s} O ht Y T B =>
     wb_ok o n O (ht.trans Y) T λa d=>B a (by refine X1p (Cs d) λp e=>?_;exact BA (ht a p e))
    have xx:∀c s,FrK (Ax ((AN y).map (slot V))) (Ax V) (Up λc V'=>X c (wb V (AN y) V')) c s->Up X c s:=λc s z=>by
     obtain⟨t,⟨τ,ht,O,z⟩,Y,T,B⟩:=z;exact Aq (back O ht Y T B) λk1 u=>⟨_,u,k1,z⟩
    cases mu with
    |none =>
     refine CT.own (M1.mono (M1.frame hp (M1.relab q.1)) (λa s z=>?_) xx) U;obtain⟨t,⟨r,τ,e,O,ht,z⟩,Y,T,B⟩:=z;refine Aq (back O ht Y T B) λk1 u=>?_;subst e;exact⟨_,u,k1,z⟩
    |some i =>
     refine CT.own (M1.mono (M1.frame hp (M1.relab (q.2 i))) (λa s z=>?_) xx) U;obtain⟨t,⟨r,τ,as,e,O,ht,nd,len,at_,z⟩,Y,T,B⟩:=z;refine Aq (back O ht Y T B) λk1 u=>?_;subst e;obtain⟨τ',k',hs',z⟩:=FQ k1 u nd len (λj p hp=>by
      refine X1ppp (at_ j p hp) λa h2 h3 h4=>⟨a,h2,Y a p h3,?_⟩
      cases e:Ax (wb V (AN y) τ) a with
      |none=>rfl
      |some p' =>
       refine X1p (Bb e) λjj Z=>?_
       rcases C9 n Z with⟨n1,z1⟩|⟨p1,e1,z1⟩
       .rcases B a (BA h3)with w1|w1
        .refine X1p (Cs w1) λp2 e2=>X1p (Bb e2) λp3 z3=>X1pp (BN z3) λi' e4 z4=>?_
         have:=Bj o z1 z4
         clear z4;subst this;exact(n1 (af e4)).elim
        .rw[Ay o z1]at w1;exact nS' w1
       .rw[Ay O z1]at h4;exact nS' h4) z
     exact⟨τ',hs',k',z⟩
   .exact q.elim
theorem Snd.fn(T:L2 S W k Φ)(O:IsFn S fa c)(h:M0 Φ c rs nv ns f):Snd S (k+1) (.ref fa) f :=
 Snd.of (λy V K X o q=>⟨D6 T O o (h.spec _ _ _ _ q) λok hs z=>CH ok hs z,λi=>D6 T O o (h.spec _ _ _ _ q) λok hs z=>Ia ok hs z⟩)
  λy v B=>D6 (V:=[]) T O trivial (h.pure y v B _ rfl) λok hs z=>CH ok hs z
theorem KeyT.fn(T:L2 S W k Φ)(hf:IsFn S fa c)(h:M0 Φ c rs nv ns f)(e:∀x p,ky x=some p->f.pure [x]=some (sp p))(x:AV)(u:(ky x).isSome=true):KeyT S (k+1) (.ref fa) (Dy ky) [x]:=by
 intro B U V Q q;obtain rfl:=aD.mp U
 cases hp:ky B with
 |none=>rw[hp]at u;exact nF u
 |some p =>
  have hk:Dy ky B=p:=by unfold Dy;rw[hp]
  rw[hk]at q;have d:M1 S (k+1) (.ref fa) [B] (Ax []) (OutF λr Z=>r=⟨[],.val (sp p)⟩) (Up BV):=D6 (V:=[]) T hf trivial (h.pure [B] _ (e B p hp) _ rfl) λok hs z=>CH ok hs z;refine λN A vals s O hi rl=>dD (M1.frame (V:=V) (λa p e=>by exact nS e) d N A vals s O hi rl) λr s' z=>?_
  cases r with
  |error e =>
   obtain⟨ea,c,t,Aj,h1,d,h3,h4,y,⟨τ,_,_,z⟩,_⟩:=z;exact z.elim
  |ok fl =>
   cases fl with
   |ret v =>
    obtain⟨av,t,st,i,ra,y,⟨r,τ,e,_,_,e'⟩,s1,s2,_⟩:=z;subst e';subst e;exact Aq (i.drop (V':=V) λa p e=>s2 a p e rfl) λi2 Y=>⟨_,V,st.trans (Y.wide λZ h=>h.elim),i2,Rep.step Y (λZ h=>h.elim) (λZ h=>h.elim) ra,q⟩
   |_=>exact z.elim
end
section
end
section
variable {S:Sta}{W:Wd}
noncomputable def AV.loc?:AV->Option Addr
 |.loc a _=>some a
 |_=>aa
noncomputable def floor?(τ:LS):Option (((Addr×Addr)×Addr×List (Str×AV))×((Str×AV)×(Str×AV))×Addr×Addr×List (Al×AV)):=(fields? τ 0).bind λf=>(two? f.2.2).bind λp=>p.2.2.loc?.bind λe=>(slot τ 2).obj?.bind λg=>g.2.dict?.bind λl=>some (f,p,e,g.1,l)
def madeW(n:Nat)(x dx:Addr)(τ:LS)(K:KR):Prop:=match floor? τ with
 |some q=>(q.1.1.1=x/\q.1.1.2=dx/\q.1.2.1=dx/\q.2.2.2.1=q.2.2.1/\q.2.1.1.1 = "texts"/\q.2.1.2.1 = "own")/\K ⟨[],.val (.inst (FV q.2.1.1.2 (.dict q.2.2.2.2)))⟩ ((τ.drop 3).take n)
 |aa=>False
theorem AV.loc?_out{a:AV}{x:Addr}(h:a.loc?=some x):∃i,a=.loc x i:=by
 cases a with
 |loc y i=>obtain rfl:=ae h;exact⟨i,rfl⟩
 |_=>exact(Ak rfl h).elim
inductive MadeV(n:Nat)(x dx:Addr)(τ:LS)(K:KR):Prop
 |mk (t:AV)(e i:_)(l:List (Al×AV))(z0:slot τ 0=.at x (.inst dx))(z1:slot τ 1=.at dx (.attrs (FV t (.loc e i))))(z2:slot τ 2=.at e (.dict l))(h:K ⟨[],.val (.inst (FV t (.dict l)))⟩ ((τ.drop 3).take n)):MadeV n x dx τ K
theorem madeW.out{τ:LS}{K:KR}(h:madeW n x dx τ K):MadeV n x dx τ K:=by
 unfold madeW at h
 cases q:floor? τ with
 |none=>rw[q]at h;exact h.elim
 |some r =>
  rw[q]at h;refine X1pp (AF q) λf h1 q=>X1pp (AF q) λp h2 q=>X1pp (AF q) λe Y q=>X1pp (AF q) λg d q=>X1pp (AF q) λl u q=>?_;obtain rfl:=ae q;obtain⟨⟨rfl,rfl,B,y,T,U⟩,h⟩:=h;refine Aq (fields?_out h1) λz O=>?_;dsimp only at B y T U h;refine X1p (AV.loc?_out Y) λi e3=>⟨p.1.2,e,i,l,z,?_,?_,h⟩
  .rw[O,B,E8 h2 T U,e3]
  .rw[obj?_out d,y,L4.dict?_out u]
def makeW(Φ:Tab)(c:As)(nv ns:Nat)(avs:List AV)(V:LS)(K:KR)(X:XL):Prop :=
 avs.length+1=c.n/\∀x dx,wpSs Φ c.body (λe τ=>X e ((τ.drop 3).take V.length)) (some (.loc x 0)::avs.map some++aH nv aa) (.at x (.inst dx)::.at dx (.attrs [])::.no::V++aH ns .no) (λfl Z τ=>flV fl=.none/\madeW V.length x dx τ K)
inductive Made(n:Nat)(x dx:Addr)(K:KR)(v:AV)(s:E0):Prop
 |mk (τ:LS)(e:v=.none)(o:okS τ)(hs:Sub τ s)(h:madeW n x dx τ K):Made n x dx K v s
theorem LJ{K:KR}{X:XL}{x dx:Addr}(T:L2 S W k Φ)(O:IsFn S fa c)(o:okS (.at x (.inst dx)::.at dx (.attrs [])::.no::V))(h:makeW Φ c nv ns avs V K X) :
  M1 S (k+1) (.ref fa) (.loc x 0::avs) (Ax (.at x (.inst dx)::.at dx (.attrs [])::.no::V)) (Made V.length x dx K) (Up λe τ=>X e ((τ.drop 3).take V.length)):=by
 refine M1.body O h.1 λF U ht Y d B=>?_
 have:=BY T c.body _ F (dE U.symm) Y ⟨d,B⟩ _ _ _ (Dd (n:=ns) o) (h.2 x dx)
 rw[Cx,show (some (AV.loc x 0)::avs.map some++aH nv aa)=(AV.loc x 0::avs).map some++aH nv aa from rfl,HR,E7]at this
 refine SsT.mono this λfl m s z=>?_;obtain⟨u,τ,em,hs,ok,e,z⟩:=z;refine λN=>⟨flV fl,s,?_,τ,e,ok,hs,z⟩;show View S N (flV fl) s (flV fl) s;exact View.same
theorem Kl:slot (V.drop n) p=slot V (n+p):=by
 unfold slot;rw[aE,aE,List.getElem?_drop]
set_option tactic.hygienic true in
theorem Snd.make(T:L2 S W k Φ)(hi:eE S.K (.ref W.C) "__init__"=some (some (.ref fI)))(ht:isFn S.K (.ref fI)=true)(hf:IsFn S fI c)(hp:∀y,f.pure y=aa)(hw:f.whole=false)
  (h:∀y V K X,f.spec (A8 y 0) V K X->makeW Φ c nv ns (A8 y 3) V K X):Snd S (k+2) (.ref W.C) f:=by
 intro F hk m mu y V K X o q;unfold Ch at q;rw[hp,hw]at q;dsimp only at q
 split at q
 .rename_i hn
  have n:=DT hn;refine Aq (KQ (ix:=AN y) o n) λkp hps=>?_;have q:=h _ _ _ _ q;refine CT.make (k:=k+1) T.good.floor hi ht hk λx dx nx ndx hne=>?_;have zx:∀{i a p},slot V i=.at a p->a≠x/\a≠dx:=λz=>⟨λe=>nx (e▸BA (Ay o z)),λe=>ndx (e▸BA (Ay o z))⟩;have nL:∀{a p},Ax ((AN y).map (slot V)) a=some p->a≠x/\a≠dx:=λe=>by
   exact X1p (Bb e) λp z=>X1pp (BN z) λi Z z=>zx z
  have nn:∀{a},(a=x\/a=dx)->Ax ((AN y).map (slot V)) a=aa:=λ{a} e=>by
   cases z:Ax ((AN y).map (slot V)) a with|none=>rfl|some p=>exact(e.elim (nL z).1 (nL z).2).elim
  have oI:okS (.at x (.inst dx)::.at dx (.attrs [])::.no::(AN y).map (slot V)):=by
   refine⟨?_,nn (.inr rfl),kp⟩;show (if x=dx then _ else Ax ((AN y).map (slot V)) x)=_;rw[if_neg hne];exact nn (.inl rfl)
  have sI:∀a p,Ax (.at x (.inst dx)::.at dx (.attrs [])::.no::(AN y).map (slot V)) a=some p->((Ax V).set dx (.attrs [])).set x (.inst dx) a=some p:=λa p e=>by
   have e:(if a=x then some (L4.inst dx) else if a=dx then some (L4.attrs []) else Ax ((AN y).map (slot V)) a)=some p:=e
   by_cases z:a=x
   .rw[if_pos z]at e;rwa [z,E0.set_self]
   .rw[if_neg z]at e
    rw[E0.set_ne _ _ z]
    by_cases z':a=dx
    .rw[if_pos z']at e;rwa [z',E0.set_self]
    .rw[if_neg z']at e
     rw[E0.set_ne _ _ z'];exact hps _ _ e
  have lab:∀{l:List AV}{Q:AV->E0->Prop}{Y:KX}{s:E0},M1 S (k+1) (.ref fI) (.loc x 0::A8 l 3) s Q Y->M1 S (k+1) (.ref fI) (.loc x 0::l) s Q Y:=λ{l Q Y s} h N A vals u room hi rl=>h N A vals u room hi (by
   exact X2lpp vals rl.inv λv r r1 r2=>.cons r1 (CI r2))
  have hdel:∀{τ:LS}{t s:E0}{as:List Addr},okS τ->Sub τ t->(∀a p,t a=some p->s a=some p)->(∀a p,((Ax V).set dx (.attrs [])).set x (.inst dx) a=some p->Ax (.at x (.inst dx)::.at dx (.attrs [])::.no::(AN y).map (slot V)) a=aa->s a=some p)->(∀a,Dom t a->Dom (Ax (.at x (.inst dx)::.at dx (.attrs [])::.no::(AN y).map (slot V))) a\/((Ax V).set dx (.attrs [])).set x (.inst dx) a=aa) ->
    (∀a∈as,∃j p,j<3/\slot τ j=.at a p)->okS (wb V (AN y) ((τ.drop 3).take ((AN y).map (slot V)).length))/\Sub (wb V (AN y) ((τ.drop 3).take ((AN y).map (slot V)).length)) (s.dels as):=λ{τ t s as} O ht s1 s2 nw has=>by
   have zt:∀{p a q},slot ((τ.drop 3).take ((AN y).map (slot V)).length) p=.at a q->slot τ (3+p)=.at a q:=λz=>by
    have:=(BH z).2;rw[Kl]at this;exact this
   have kt':okS ((τ.drop 3).take ((AN y).map (slot V)).length):=EF λi j a p q h1 h2=>by
    have:=Bj O (zt h1) (zt h2);exact ax (lin [i,j] [] (.b V0 V1) [.d (.A K3 V0) (.A K3 V1)] rfl this) (lin [i,j] [] (.b V1 V0) [.D (-1) (.A K3 V0) (.A K3 V1)] rfl this)
   have dom1:∀{a p q},slot τ (3+p)=.at a q->Dom (Ax ((AN y).map (slot V))) a\/Ax V a=aa:=λ{a p q} z=>by
    have dt:Dom t a:=BA (ht.at O z)
    by_cases zx':a=x
    .exact .inr (by rw[zx'];exact De nx)
    by_cases zd:a=dx
    .exact .inr (by rw[zd];exact De ndx)
    rcases nw a dt with B|B
    .left
     refine X1p (Cs B) λp' e=>?_;have e:(if a=x then some (L4.inst dx) else if a=dx then some (L4.attrs []) else Ax ((AN y).map (slot V)) a)=some p':=e;rw[if_neg zx',if_neg zd]at e;exact BA e
    .rw[E0.set_ne _ _ zx',E0.set_ne _ _ zd]at B;exact .inr B
   refine wb_ok o n kt' (λa p e=>?_) (λa p e e'=>?_) λa d=>?_
   .refine X1p (Bb e) λi z=>?_
    have z:=zt z;unfold E0.dels;rw[if_neg]
    .exact s1 _ _ (ht.at O z)
    .refine λq=>X2pp (has a q) λj p' hj z'=>?_
     have:=Bj O z z';exact lin [j,i] [] .no [.c V0 K3,.d (.A K3 V1) V0] rfl hj this
   .have U:a≠x/\a≠dx:=by refine X1p (Bb e) λi z=>?_;exact zx z
    unfold E0.dels;rw[if_neg]
    .refine s2 a p (by rwa [E0.set_ne _ _ U.1,E0.set_ne _ _ U.2]) ?_
     show (if a=x then _ else if a=dx then _ else Ax ((AN y).map (slot V)) a)=_
     rwa [if_neg U.1,if_neg U.2]
    .refine λq=>X2pp (has a q) λj p' hj z'=>?_
     have dt:Dom t a:=BA (ht.at O z')
     rcases nw a dt with B|B
     .refine X1p (Cs B) λp2 e2=>?_
      have e2:(if a=x then some (L4.inst dx) else if a=dx then some (L4.attrs []) else Ax ((AN y).map (slot V)) a)=some p2:=e2;rw[if_neg U.1,if_neg U.2,e']at e2;exact nS e2
     .rw[E0.set_ne _ _ U.1,E0.set_ne _ _ U.2,e]at B;exact nS' B
   .exact X1p (Cs d) λp e=>X1p (Bb e) λi z=>dom1 (zt z)
  refine M1.mono (M1.frame sI (lab (LJ T hf oI q))) (λv s z=>?_) λc s z=>?_
  .obtain⟨t,⟨τ,e,O,ht,z⟩,s1,s2,nw⟩:=z
   refine⟨e,λN=>?_⟩;obtain⟨tx,f',i',l,z0,z1,z2,z⟩:=z.out
   ··.refine⟨_,_,View.inst (fs':=FV tx (.dict l)) (as:=[f']) (s1 _ _ (ht.at O z0)) (s1 _ _ (ht.at O z1)) (FrozeF.cons (as:=[]) (.same _) (FrozeF.cons (as:=[f']) (bs:=[]) (.dict (s1 _ _ (ht.at O z2))) .nil)),?_⟩
      obtain⟨k1,h1⟩:=hdel (as:=[x,dx,f']) O ht s1 s2 nw (λa ha=>by
       rcases aA.mp ha with rfl|ha
       .exact⟨0,_,by decide,z0⟩
       .rcases aA.mp ha with rfl|ha
        .exact⟨1,_,by decide,z1⟩
        .have:=aD.mp ha;clear z1 ha;subst this;exact⟨2,_,by decide,z2⟩)
      cases mu with|none=>exact⟨_,h1,k1,z⟩|some i=>exact⟨_,h1,k1,z⟩
  .obtain⟨t,⟨τ,ht,O,z⟩,s1,s2,nw⟩:=z
   obtain⟨k1,h1⟩:=hdel (as:=[]) O ht s1 s2 nw (λa ha=>by exact nM ha)
   exact⟨_,λa p e=>(CU (h1 a p e)).2,k1,z⟩
 .exact q.elim
end
section
variable {S:Sta}{W:Wd}
noncomputable def L1.del(m:L1)(i:Nat):L1:=λj=>if j=i then aa else m j
theorem Li{F:Fx S}{m:L1}{V:E0}{i:Nat}{x:Str}{pos:Pos}{s:ag}{X:Value->ag->Prop}{Q':Unit->ag->Prop}(hf:F.sc.lookup x≠some .free)(hx:IsV F.tb F.sc x i)(hs:F.St m V s)
  (hQ:∀s',H2 F.P F.O V s V s'->F.St (L1.del m i) V s'->Q' () s'):wpAny (model S.prog S.w) F.A (do bindName F.env x .none;unbindBehindTheSuite F.env x pos) Q' X s:=by
 refine ac (wpAny_bindName (BM (av:=.none) hf hx hs .none λAd Ah Ac=>?_));unfold unbindBehindTheSuite;refine wpAny_onRaise ?_;unfold unbindName;refine ac (wpAny_point (ac ?_));obtain⟨mc,cm,n,c,o,ap,cl,rr⟩:=Ac.loc;have kd:∀y,F.env.kindOf y=F.sc.lookup y:=λZ=>rfl;have ne:∀{y:Str}{j:Nat}{bv:AV},ixS F.tb y=some j->L1.del m i j=some bv->y≠x/\L1.set m i .none j=some bv:=by
  intro y j bv hj hm;unfold L1.del at hm
  by_cases q:j=i
  .rw[if_pos q]at hm;exact nS hm
  .rw[if_neg q]at hm
   exact⟨λe=>by clear hf;subst e;rw[hx.ix]at hj;exact q (ae hj).symm,by unfold L1.set;rwa [if_neg q]⟩
 have hxm:L1.set m i .none i=some .none:=if_pos rfl
 rcases hx.kind with q|q|q
 .have hp:(F.env.scope.kind == .class || (F.env.scope.kind == .module && F.env.locals != F.env.globals))=false:=by rw[F.fk];rfl
  have B:=rr x i .none hx.ix hxm;rw[kd,q]at B;refine X1pp B λv B Z=>?_;unfold deleteName;simp only[(kd x).trans q,hp];rw[if_neg (by decide)]
  refine ac (wpAny_nsDel_keeps n λh' v' hn u=>?_);rw[B];simp only[gH,Bool.not_true,cg,if_false];have hk:∀U oc,U≠F.env.locals->Ad.heap.get? U=some oc->h'.get? U=some oc:=λU oc ne e=>u.extBut U oc ne e;have hL:∃oo,h'.get? F.env.locals=some oo:=by refine X3pp hn λoo Z Z e Z=>?_;exact⟨oo,e⟩
  have e0:Ext (F.D V) Ad.heap h':=Ext.of_but λU oc d e=>hk U oc (λq=>d (.inr (q▸Ac.own _ (.inl rfl)))) e;have Y:Loc S.cv S.g F.tb F.env (L1.del m i) F.N V h':=by
   exact⟨_,cm,hn,λy U hy=>(X1pp (c y U hy) λob e hd=>⟨ob,hk U ob (cl y U hy) e,hd⟩),o,ap,cl,λy j bv hj hm=>(Aq (ne hj hm) λny hm'=>LocAt.map (rr y j bv hj hm') (λh2=>h2.ext e0 λZ h=>.inl h) (λZ h1=>(if_neg ny).trans h1) (λZ h1=>h1))⟩
  exact Aq (St.own_turn (tk:=Ad.toks) Ac (.inl rfl) hk hL Y) λst2 h2=>ai (wpAny_point (hQ _ (Ah.trans st2) h2))
 .refine X1p (F.fc x ((kd x).trans q)) λU T=>?_
  have B:=rr x i .none hx.ix hxm;rw[kd,q]at B;refine X2ppp B λv Z Z B Z=>?_;unfold deleteName;simp only[(kd x).trans q];refine ac (wpAny_cellOf T (ac (wpAny_cellGet (c x U T) ?_)));rw[B];simp only[gH,if_true];refine wpAny_cellSet (c x U T) λh' hv' u=>?_;have hk:∀d od,d≠U->Ad.heap.get? d=some od->h'.get? d=some od:=λd od ne e=>u.extBut d od ne e;have hL:∃oo,h'.get? U=some oo:=by refine X1pp hv' λoo e Z=>?_;exact⟨oo,e⟩
  have e0:Ext (F.D V) Ad.heap h':=Ext.of_but λd od dd e=>hk d od (λq=>dd (.inr (q▸Ac.own _ (.inr ⟨x,T⟩)))) e;have Y:Loc S.cv S.g F.tb F.env (L1.del m i) F.N V h':=by
   refine⟨mc,λy=>if y=x then aa else cm y,n.sameBut u (dC (cl x U T)),λy d hy=>?_,o,ap,cl,λy j bv hj hm=>?_⟩
   .by_cases e:y=x
    .clear hf hx ne q B;subst e;rw[T]at hy;obtain rfl:=ae hy;simp only[if_true];exact hv'
    .simp only[if_neg e]
     exact X1pp (c y d hy) λob eo hd=>⟨ob,hk d ob (λz=>e (ap y x d hy (z▸T))) eo,hd⟩
   .exact Aq (ne hj hm) λny hm'=>LocAt.map (rr y j bv hj hm') (λh2=>h2.ext e0 λZ h=>.inl h) (λZ h1=>h1) (λZ h1=>(if_neg ny).trans h1)
  exact Aq (St.own_turn (tk:=Ad.toks) Ac (.inr ⟨x,T⟩) hk hL Y) λst2 h2=>wpAny_point (hQ _ (Ah.trans st2) h2)
 .exact absurd q hf
open Classical in
noncomputable def IE(h:Heap)(P:Addr->Prop):Heap:=hideAll h ((br h.objs.size).filter λa=>decide (¬P a))
theorem Ci(e:h.get? a=some o)(p:P a):(IE h P).get? a=some o :=
 hideAll_get _ e λq=>by
  have:=(cu.mp q).2
  simp[p]at this
theorem DS(e:(IE h P).get? a=some o):h.get? a=some o/\P a:=by
 have y:=of_hideAll _ e;refine⟨y,eK λn=>?_⟩
 have:(IE h P).get? a=aa:=hideAll_none _ (cu.mpr ⟨fE.mpr (bf y),by simp[n]⟩)
 rw[this]at e;exact nS e
theorem St.land{F:Fx S}{m:L1}{V:E0}{Aj s':ag}{base:Heap}{l:List Env}(hs:F.St m V Aj)(hA:F.A.frames=some l)(U:∀b o,Aj.heap.get? b=some o->¬GV l b->base.get? b=some o)
  (stays:base.StaysIn s'.heap) (up:Aj.heap.UpToSlots s'.heap) (B:s'.gens=Aj.gens/\s'.drawn=Aj.drawn/\s'.os=Aj.os):F.St m V s':=by
 have keep:∀b o,Aj.heap.get? b=some o->¬F.P b->s'.heap.get? b=some o:=λb o e n=>stays b o (U b o e λq=>n ⟨l,hA,q⟩);have z:∀b o,Aj.heap.get? b=some o->F.P b->(∀vs,o.data≠.fields vs)/\∃u,s'.heap.get? b=some { o with slots:=u }:=λb o e p=>by
  refine X1pp (hs.inv.Nin b (hs.pN b p)) λo' y nf=>?_;rw[e]at y;obtain rfl:=ae y;exact⟨nf,up b o e nf⟩
 have st:H2 F.P noO V Aj V s':=by
  refine⟨⟨λb o e d=>keep b o e λq=>d (.inr (.inr q))⟩,λb o e p Z Z=>?_,λZ h=>.inl h,λb o e=>?_⟩
  .refine Aq (z b o e p) λZ Z0=>X1p Z0 λu y=>?_;exact⟨_,y,rfl,rfl,rfl⟩
  .by_cases p:F.P b
   .refine Aq (z b o e p) λZ Z1=>X1p Z1 λu y=>?_;exact⟨_,y⟩
   .exact⟨o,keep b o e p⟩
 have gP:∀{b o},S.g.get? b=some o->¬F.P b:=λ{b o} e p=>by
  refine X1pp F.room.fr λl' el h=>X1pp p λl2 Y Z2=>X1pp Z2 λev O hf=>?_;rw[el]at Y;obtain rfl:=ae Y;refine Aq (h ev O) λZ Z3=>X1ppp Z3 λL h2 Z h4=>?_;rw[hf]at h2;obtain rfl:=ae h2;rw[h4]at e;exact nS e
 refine hs.to st ⟨λb o e=>keep b o (hs.inv.keep b o e) (gP e),B.1.trans hs.inv.gens,B.2.1.trans hs.inv.drawn,B.2.2.trans hs.inv.os,hs.inv.σg,hs.inv.σN,λa q=>?_,λa o e=>?_⟩ λZ h=>h
 .refine X1pp (hs.inv.Nin a q) λo e nf=>?_
  by_cases p:F.P a
  .refine Aq (z a o e p) λZ Z4=>X1p Z4 λu y=>?_;exact⟨_,y,nf⟩
  .exact⟨o,keep a o e p,nf⟩
 .exact(hs.inv.rep a o e).ext (⟨λb T eb d=>keep b T eb λp=>d (.inr (hs.pN b p))⟩:Ext (DN F.N V) Aj.heap s'.heap) (λZ h=>.inl h)
   λT eo=>keep a T eo λp=>hs.inv.σN a (by unfold Dom;rw[e];simp) (hs.pN a p)
theorem Loc.atG(l:Loc cv g tb env m N V h)(k:∀a,Own env a->g'.get? a=aa):Loc cv g' tb env m N V h:=by
 obtain⟨u,U,n,c,o,Y,cl,r⟩:=l;exact⟨u,U,n,c,λa ha=>⟨(o a ha).1,k a ha⟩,Y,cl,r⟩
noncomputable def Fx.hand(F:Fx S){g':Heap}{k:∀b o,S.g.get? b=some o->g'.get? b=some o}{ea:Addr}{hx:∃o vs,g'.get? ea=some o/\o.data=.fields vs/\vs[2]?=some bA}(b':E0×ag)(room:Room (S.grow g' k ea hx) F.N F.k (F.A.mark (some (.ref ea)))):Fx (S.grow g' k ea hx) :=
 ⟨F.A.mark (some (.ref ea)),F.tb,F.env,b',F.N,F.k,room,F.fk,F.fg,F.fb,F.fc⟩
inductive Grown(F:Fx S)(m:L1)(V:E0)(s:ag)(ea:Addr):Prop
 |mk (g':Heap) (k:∀b o,S.g.get? b=some o->g'.get? b=some o) (hx:∃o vs,g'.get? ea=some o/\o.data=.fields vs/\vs[2]?=some bA) (b':E0×ag) (room:Room (S.grow g' k ea hx) F.N F.k (F.A.mark (some (.ref ea)))) (st:(F.hand b' room).St m V s)
   (back:∀At Ab Ai,(F.hand b' room).St At Ab Ai->F.St At Ab Ai):Grown F m V s ea
theorem St.grown{F:Fx S}{m:L1}{V:E0}{s:ag}{ea:Addr}{T:Obj}{vs:Array Value}(hs:F.St m V s)(he:s.heap.get? ea=some T)(hd:T.data=.fields vs)(h2:vs[2]?=some bA)
  (nD:¬Dom V ea) (nN:¬F.N ea) (nb:F.b.2.heap.get? ea=aa) :
  Grown F m V s ea:=by
 have k:∀b o,S.g.get? b=some o->(IE s.heap (λa=>S.g.get? a≠aa\/a=ea)).get? b=some o:=λb o e=>Ci (hs.inv.keep b o e) (.inl (by rw[e];simp))
 have hx:∃o vs,(IE s.heap (λa=>S.g.get? a≠aa\/a=ea)).get? ea=some o/\o.data=.fields vs/\vs[2]?=some bA:=⟨T,vs,Ci he (.inr rfl),hd,h2⟩;have B:∀{a},S.g.get? a=aa->a≠ea->(IE s.heap (λa=>S.g.get? a≠aa\/a=ea)).get? a=aa:=λ{a} h n=>by
  cases q:(IE s.heap (λa=>S.g.get? a≠aa\/a=ea)).get? a with|none=>rfl|some o=>exact((DS q).2.elim (λz=>z h) n).elim
 have u:∀{a},F.b.2.heap.get? a=aa->a≠ea->(IE s.heap (λa=>F.b.2.heap.get? a≠aa\/a=ea)).get? a=aa:=λ{a} h n=>by
  cases q:(IE s.heap (λa=>F.b.2.heap.get? a≠aa\/a=ea)).get? a with|none=>rfl|some o=>exact((DS q).2.elim (λz=>z h) n).elim
 have room:Room (S.grow _ k ea hx) F.N F.k (F.A.mark (some (.ref ea))):=by
  exact⟨rfl,X1pp F.room.fr λl el h=>⟨l,el,λev hev=>(Aq (h ev hev) λh1 Z0=>(X1ppp Z0 λL h2 h3 h4=>⟨h1,L,h2,h3,B h4 λz=>nN (z▸h3)⟩))⟩,F.room.dp,F.room.un⟩
 obtain⟨mc,cm,ns,cc,ow,ap,cl,rr⟩:=hs.loc;refine⟨_,k,hx,(F.b.1,{ F.b.2 with heap:=IE s.heap (λa=>F.b.2.heap.get? a≠aa\/a=ea) }),room,?_,?_⟩
 .refine⟨⟨λb o e=>(DS e).1,hs.inv.gens,hs.inv.drawn,hs.inv.os,λa d=>B (hs.inv.σg a d) λz=>nD (z▸d),hs.inv.σN,hs.inv.Nin,hs.inv.rep⟩,?_,?_,hs.pN,?_,hs.own,?_⟩
  .exact hs.loc.atG λa ha=>B (ow a ha).2 λz=>nN (z▸hs.own a ha)
  .exact H2.of_keeps (λb o e=>(DS e).1) λa d=>(hs.frm.dom a d).imp id λq=>u q λz=>nD (z▸d)
  .exact λa ha=>u (hs.new a ha) λz=>nN (z▸hs.own a ha)
  .intro a e
   cases q:(IE s.heap (λa=>S.g.get? a≠aa\/a=ea)).get? a with
   |none=>exact q
   |some o =>
    exfalso
    refine Aq (DS q) λq1 q2=>?_
    have:(IE s.heap (λa=>F.b.2.heap.get? a≠aa\/a=ea)).get? a=some o:=Ci q1 (q2.imp (λz y=>z (hs.gb a y)) id)
    have O:(IE s.heap (λa=>F.b.2.heap.get? a≠aa\/a=ea)).get? a=aa:=e;rw[this]at O;exact nS' O
 .refine λAt Ab Ai h=>⟨⟨λb o e=>h.inv.keep b o (k b o e),h.inv.gens,h.inv.drawn,h.inv.os,λa d=>?_,h.inv.σN,h.inv.Nin,h.inv.rep⟩,?_,?_,hs.pN,hs.new,hs.own,hs.gb⟩
  .cases q:S.g.get? a with|none=>rfl|some o=>have e1:=h.inv.σg a d;have e2:=k a o q;exact absurd (e2.symm.trans e1) (by simp)
  .exact h.loc.atG λa ha=>(ow a ha).2
  .have U:H2 F.P noO F.b.1 F.b.2 F.b.1 { F.b.2 with heap:=IE s.heap (λa=>F.b.2.heap.get? a≠aa\/a=ea) }:=by
    refine⟨⟨λb o e d=>Ci (hs.frm.ext.obj b o e d) (.inl (by rw[e];simp))⟩,λb o e p ho d=>?_,λZ h=>.inl h,λb o e=>?_⟩
    .refine X1pp (hs.frm.frm b o e p ho d) λY O r=>?_;exact⟨Y,Ci O (.inl (by rw[e];simp)),r⟩
    .refine X1p (hs.frm.there b o e) λY O=>?_;exact⟨Y,Ci O (.inl (by rw[e];simp))⟩
   exact U.trans h.frm
inductive Fell(F:Fx S)(m:L1)(X:KX)(g:Nat)(lt:List Env)(e:Value)(Ad:ag):Prop
 |mk (ea:Addr) (c:Nat) (V':E0) (Aj:ag) (base:Heap) (C:Addr) (he:e=.ref ea) (fly:FlyY base (F.env::lt) ea (S.cv c) .none Ad.heap) (hbase:∀b o,Aj.heap.get? b=some o->¬GV (F.env::lt) b->base.get? b=some o) (up:Aj.heap.UpToSlots Ad.heap)
   (rest:Ad.gens=Aj.gens/\Ad.drawn=Aj.drawn/\Ad.os=Aj.os) (st:F.St m V' Aj) (x:X c V') (sub:exmOne S.K (S.cv c) (S.cv g)=some true) (cls:S.cv c=.ref C):Fell F m X g lt e Ad
theorem XF.fell{F:Fx S}{m:L1}{X:KX}{g:Nat}{lt:List Env}{e:Value}{Ad:ag}(z:XF F m X e Ad)(Y:F.A.frames=some (F.env::lt))(u:∀c V',X c V'->exmOne S.K (S.cv c) (S.cv g)=some true/\∃C,S.cv c=.ref C):Fell F m X g lt e Ad:=by
 obtain⟨O,c,V',Aj,y,o,B1,d⟩:=z;refine X2ppp o.fly λbase l T fly U=>?_;obtain rfl:l=F.env::lt:=ae (T.symm.trans Y);exact X1p ((u c V' d).2) λC B=>⟨O,c,V',Aj,base,C,y,fly,U,o.up,o.rest,B1,d,(u c V' d).1,B⟩
theorem FlyY.looks(x:FlyY base l ea cls fl h):Looks (model S.prog S.w) h (typeOf (.ref ea)) cls:=by
 refine X5pppppp x.tr λU vs T Y O u y d B z Z=>?_;rw[<- y];exact(Looks.ld u).andThen .now
inductive Caught(F:Fx S)(m:L1)(V:E0)(s:ag)(ea:Addr)(c:Nat):Prop
 |mk (g:Grown F m V s ea)(rx:Rep S.cv s.heap (DN F.N V) (.exc c) (.ref ea)):Caught F m V s ea c
theorem caught{F:Fx S}{m:L1}{V:E0}{Aj s:ag}{base:Heap}{lt:List Env}{ea C:Addr}{c:Nat}{fl:Value}(elt:F.A.frames=some (F.env::lt))(B1:F.St m V Aj)(L:F.St m V s)(fly:FlyY base (F.env::lt) ea (S.cv c) fl s.heap)(U:∀b o,Aj.heap.get? b=some o->¬GV (F.env::lt) b->base.get? b=some o)
  (up:Aj.heap.UpToSlots s.heap) (hC:S.cv c=.ref C):Caught F m V s ea c:=by
 obtain⟨oe,vs,T,oT,ts,u,y,B,⟨hv2,hdc⟩,_⟩:=fly.tr;have Y:∀{b o},Aj.heap.get? b=some o->b≠ea:=λ{b o} O z=>by
  by_cases p:GV (F.env::lt) b
  .refine X1pp (B1.inv.Nin b (B1.pN b ⟨_,elt,p⟩)) λo' e' nf=>X1p (up b o' e' nf) λsl e4=>?_
   rw[z,u]at e4
   have:=ae e4
   exact nf vs (by rw[this]at B;exact B)
  .have:=U b o O p
   rw[z,fly.new]at this;exact nS this
 have nD:¬Dom V ea:=λd=>by refine X1p (B1.inv.dom_there d) λo O=>?_;exact Y O rfl
 have nN:¬F.N ea:=λd=>by refine X1pp (B1.inv.Nin ea d) λo O Z=>?_;exact Y O rfl
 have nbb:F.b.2.heap.get? ea=aa:=by
  cases z:F.b.2.heap.get? ea with|none=>rfl|some o=>refine X1p (B1.frm.there _ _ z) λo' O=>?_;exact(Y O rfl).elim
 exact⟨St.grown L u B hv2 nD nN nbb,.exc u y ⟨⟨_,B⟩,hdc⟩ (λd=>d.elim nD nN) ⟨C,hC⟩⟩
theorem M1.try_{c:As}{y:List AV}{V:E0}{Q:AV->E0->Prop}{X:KX}{e:E}{i g:Nat}{h0 r0:Internal.S}{hr:List Internal.S}(hf:IsFn S f c)(hn:y.length=c.n)(hne:AI e=true)(hb:c.body=[.try_ [.expr e] (.g g) (some i) (h0::hr),r0])
  (hg:Glob S g (S.cv g)) (B:∀c V',X c V'->exmOne S.K (S.cv c) (S.cv g)=some true/\∃C,S.cv c=.ref C)
  (he:∀F:Fx S,F.k=k->ET F (En y) V e (λZ Z=>False) (XF F (En y) X))
  (hh:∀c V',X c V'->∀g' kk x hx,∀F':Fx (S.grow g' kk x hx),F'.k=k->SsT F' (L1.set (En y) i (.exc c)) V' (h0::hr) (λfl At Ab=>(∃a,fl=.ret a)/\RetK S Q fl At Ab) NoX):M1 S (k+1) (.ref f) y V Q noX:=by
 refine M1.body0 hf hn λF hk ht Y y1 y2 ps hc s hs=>?_;rw[hb]at hc;refine X2ppp hc.inv λp pr ep hc1 hc2=>?_;clear hc;subst ep;refine X6pppppp hc1.inv λZ Z Z Z Z Z Z0 hcb hct z hv hch=>?_;clear hc1;subst Z0;refine X2pp hct.inv λZ Z Z1 hgx=>?_;subst Z1;refine X2ppp hch.inv λZ Z Z2 hc0 hcr=>?_;subst Z2;refine X1p ht.top λlt T=>?_;have hbd:SsT F (En y) V [.expr e] (λZ Z Z=>False) (XF F (En y) X):=SsT.cons (ST.expr hne ((he F hk).mono λZ Z q=>q.elim));refine wpAny_execs_cons (wpAny_Try_except (aR (hbd _ hcb s hs) ?_ ?_))
 .intro fl Ad hR1
  obtain⟨fl',m',V',_,h',hfr,d⟩:=hR1;exact d.elim
 intro ev Ad x;obtain⟨ea,c,V',Aj,base,C,hea,fly,U,up,rest,B1,hX,B,hC⟩:=x.fell T B;subst hea;refine F9 T ht.frame fly λAg fly₂ J8=>Fz fly₂ λAG Hx J7=>?_;have L3:F.St (En y) V' { Ad with heap:=AG }:=St.land B1 T U Hx.stays ((up.trans J8).trans J7) rest
 refine wpAny_handleBy_cons (codeAny_handlers_test ?_) (by intro q;cases q)
 refine Do hgx hg L3 ((exm_one (S.X.keeps L3.inv.keep) Hx.looks B).here ?_);show codeAny _ _ _ _ _;refine codeAny_handlers_suite_as (Fz Hx λBu LX O=>?_);obtain⟨⟨g',kk,hx,b',room,stF,back⟩,rx⟩:=caught (s:={ Ad with heap:=Bu }) T B1 (St.land B1 T U LX.stays (((up.trans J8).trans J7).trans O) rest) LX U (((up.trans J8).trans J7).trans O) hC
 refine BM (F:=F.hand b' room) z hv stF rx λFW Z Fu=>aR (hh c V' hX g' kk ea hx (F.hand b' room) hk _ (.cons hc0 hcr) FW Fu) ?_ λZ Z x=>x.elim;intro fl s₆ hR1;obtain⟨fl',At,Ab,_,h₆,hfr,⟨v,ev⟩,d⟩:=hR1;subst ev;refine Li (F:=F) z hv (back _ _ _ h₆) λs₇ st₇ h₇=>?_
 cases fl with|ret u=>exact⟨.ret v,_,Ab,h₇,Rep.st (F:=F) hfr st₇ h₇,d⟩|_=>exact hfr.elim
theorem Good.grow(G:Good S W):Good (S.grow g' k x hx) W:=by
 refine⟨λi hi=>⟨(G.glob i hi).at_⟩,G.bu,?_,G.base,G.six,⟨G.floor.cv,G.floor.get,G.floor.has,G.floor.setattr,G.floor.over,G.floor.make⟩,⟨G.texts.find,G.texts.take⟩,⟨G.cells.find,G.cells.take⟩,?_,G.exk,G.sub,G.meth⟩
 .intro i hi u y
  have:=G.own i hi u y
  exact λh kk=>this h λb o e=>kk b o (k b o e)
 .exact λi h1 d T=>X5pppp (G.exc i h1 d T) λx C bm z U Y B O FB=>⟨x,C,bm,z,U,Y,B,O.keeps k,FB⟩
theorem XR.no'(h:XR F (Up BV) e s'):False:=by
 obtain⟨T,c,V',Aj,m,Y,d,⟨_,_,_,B⟩,z⟩:=h;exact B
def retF(fl:Fl)(P:AV->Prop):Prop:=match fl with
 |.ret v=>P v
 |.next=>False
theorem retF.out(h:retF fl P):∃v,fl=.ret v/\P v:=by
 cases fl with
 |next=>exact h.elim
 |ret v=>exact⟨v,rfl,h⟩
def tryW(Φ Φh:Tab)(c:As)(e:E)(g i:Nat)(hs:List Internal.S)(rs:Rs)(nv ns:Nat)(avs:List AV)(V:LS)(K:KR):Prop :=
 avs.length=c.n/\(wp Φ e (λc τ=>(isXc Φ.ex c && J5 c g)=true/\wpSs Φh hs BV (Ff (avs.map some++aH nv aa) i (.exc c)) τ (λfl Z τ'=>retF fl λv=>retW rs V.length v τ' K))).v aa (avs.map some++aH nv aa) (V++aH ns .no) (λZ Z=>False)
theorem HX{K:KR}{Q:AV->E0->Prop}{X:XL}(T:L2 S W k Φ)(Th:∀g' kk x u,L2 (S.grow g' kk x u) W k Φh)(hf:IsFn S fa c)(y:AI e=true)(hb:c.body=[.try_ [.expr e] (.g g) (some i) (h0::hr),r0])(d:Φ.ex.contains g=true/\17<=g/\g<=27)
  (o:okS V) (h:tryW Φ Φh c e g i (h0::hr) rs nv ns avs V K) (ret:∀{fl:Fl}{m:L1}{τ:LS}{s:E0},okS τ->Sub τ s->retW rs V.length (flV fl) τ K->RetK S Q fl m s):M1 S (k+1) (.ref fa) avs (Ax V) Q (Up X):=by
 refine M1.mono (X:=noX) (M1.try_ (X:=Up (λc τ=>(isXc Φ.ex c && J5 c g)=true/\wpSs Φh (h0::hr) BV (Ff (avs.map some++aH nv aa) i (.exc c)) τ (λfl Z B=>retF fl λv=>retW rs V.length v B K))) hf h.1 y hb (T.good.glob g (T.ex g d.1)) (λc s z=>?_) (λF hk=>?_) λc s z g' kk x u F' hk=>?_) (λZ Z z=>z) λZ Z z=>z.elim
 .obtain⟨τ,_,_,z,_⟩:=z
  refine Aq (aO.mp z) λO z2=>?_;unfold isXc at O;simp only[bh,iJ]at O;exact⟨(T.good.sub c g O.1.2 O.2 (T.ex c O.1.1) d.2.1 d.2.2 (T.ex g d.1)).1.trans (by rw[z2]),X5ppp (T.good.exc c O.1.2 O.2 (T.ex c O.1.1)) λx C bm nid ini hix hcv Z=>⟨C,hcv⟩⟩
 .have:=(AM T e _).v F (dE hk.symm) _ _ _ _ (Dd (n:=ns) o) h.2
  rw[HR,E7,Cx]at this;exact this.mono λa s z=>by
   obtain⟨τ,hs,kt,z⟩:=z;exact z
 .obtain⟨τ,hs,kt,_,z⟩:=z
  have:=BY (Th g' kk x u) (h0::hr) BV F' (dE hk.symm) NoX ⟨λe s q=>q.no' ,PassesOwn.never⟩ _ τ _ kt z
  rw[Ew,HR,E7]at this;refine SsT.less hs (SsT.mono this λfl At Ai q=>?_);obtain⟨m1,B,em,Y,U,q⟩:=q;refine X1pp q.out λv ev q=>?_;subst ev;exact⟨⟨v,rfl⟩,ret (fl:=.ret v) U Y q⟩
theorem Snd.try_(T:L2 S W k Φ)(U:∀g' kk x hx,L2 (S.grow g' kk x hx) W k Φh)(O:IsFn S fa c)(d:AI e=true)(u:c.body=[.try_ [.expr e] (.g g) (some i) (h0::hr),r0])(Y:Φ.ex.contains g=true/\17<=g/\g<=27)
  (h:∀y V K X,f.spec y V K X->∃rs,tryW Φ Φh c e g i (h0::hr) rs nv ns y V K) (hp:∀y,f.pure y=aa):Snd S (k+1) (.ref fa) f :=
 Snd.of (λy V K X o q=>by
  exact X1p (h y V K X q) λrs w=>⟨HX T U O d u Y o w λok hs z=>CH ok hs z,λi=>HX T U O d u Y o w λok hs z=>Ia ok hs z⟩) λy v B=>by rw[hp]at B;exact nS B
end
section
section
variable {S:Sta}
noncomputable def func?:Data->Option gG
 |.func fd=>some fd
 |_=>aa
theorem func?_out(h:func? d=some fd):d=.func fd:=by
 cases d with|func x=>rw[ae h]|_=>exact(Ak rfl h).elim
noncomputable def fnD(K:Frag)(a:Addr):Option gG:=(K.lookup a).bind λo=>func? o.data
theorem fnD_out{K:Frag}{a:Addr}{fd:gG}(h:fnD K a=some fd):∃o,K.lookup a=some o/\o.data=.func fd:=by
 exact X1pp (AF h) λo Y z=>⟨o,Y,func?_out z⟩
noncomputable def bodyD(fd:gG):Option (List Stmt):=match fd.body with
 |.stmts b=>some b
 |_=>aa
noncomputable def nmOk(tb:List Nat)(sc:Nms)(names:List Str):Bool:=(br names.length).all λj=>match names[j]? with
 |some x=>ixS tb x == some j && (sc.lookup x == some .local || sc.lookup x == some .cell)
 |aa=>true
noncomputable def fnOk(K:Frag)(c:As)(names:List Str)(fd:gG):Bool :=
 decide (fd.globals=bV) && (decide (fd.builtins=builtinsNs) && (fd.scope.kind == .function && (!fd.scope.isCoroutine && (!fd.scope.isGenerator && (codeIn K fd.code fd.qualname && (names.length == c.n && (nmOk c.tb fd.scope.names names && decide ((cZ 0 fd.scope.names []).map (·.1)).Nodup)))))))
set_option tactic.hygienic true in
theorem IsFn.of{a:Addr}{c:As}(names:List Str){fd:gG}(h:fnD S.K a=some fd)(Y:fnOk S.K c names fd=true)(O:fd.closure=[])
  (y:(bodyD fd).map (λb=>(cSs c.tb 60 fd.scope.names b).map (·.1))=some (some (G5 c.body))) (h3:∀vals:List Value,vals.length=c.n->bindArgs fd ⟨vals,[]⟩=pure (names.zip vals)):IsFn S a c:=by
 refine X1pp (fnD_out h) λo T B=>?_;unfold fnOk at Y;simp only[bh,decide_eq_true_eq,beq_iff_eq,Bool.not_eq_true']at Y;refine GP Y λg1 g2 g3 g4 g5 g6 Z0=>Bm Z0 λg7 U g9=>?_
 cases hb:bodyD fd with
 |none=>rw[hb]at y;exact nS y
 |some b =>
  rw[hb]at y;have y:=ae y;have z:fd.body=.stmts b:=by
   unfold bodyD at hb
   split at hb
   .rename_i b' e;obtain rfl:=ae hb;exact e
   .exact nS hb
  refine⟨o,fd,b,names,S.X _ _ T,B,z,O,g1,g2,g3,g4,g5,codeRec_of S.X g6,g7,h3,λj x u=>?_,g9,Mz y⟩;unfold nmOk at U;have d:j<names.length:=(dz.mp u).1
  have:=cG.mp U j (fE.mpr d)
  rw[u]at this;simp only[bh,beq_iff_eq,d8]at this;exact⟨this.1,this.2⟩
end
noncomputable def goT(nx:SharedT->Thread->Option (SharedT×Thread))(ok:Thread->Bool):Nat->SharedT->Thread->Option SharedT
 |0,_,_=>aa
 |n+1,s,t=>match through t with
  |true=>some s
  |false=>match ok t with
   |false=>aa
   |true=>match nx s t with
    |some (s',t')=>goT nx ok n s' t'
    |aa=>aa
theorem IH{tb:String->Option dH}{p:dB}:∀(n:Nat)(s r:SharedT)(t:Thread),goT (stepT (denote tb) p w) (stepOk Hf ann) n s t=some r->topRun tb p w Hf ann n s.abs t=some r.abs
 |0,_,_,_,h=>by exact nS h
 |n+1,s,r,t,h=>by
  unfold goT at h;unfold topRun
  cases ht:through t with
  |true=>rw[ht]at h;obtain rfl:=ae h;rfl
  |false =>
   rw[ht]at h
   cases hk:stepOk Hf ann t with
   |false=>rw[hk]at h;exact nS h
   |true =>
    rw[hk]at h
    cases hs:stepT (denote tb) p w s t with
    |none=>rw[hs]at h;exact nS h
    |some x =>
     obtain⟨s',d⟩:=x;rw[hs]at h;rw[stepT_spec hs];exact IH n s' r d h
noncomputable def treeOf:List Obj->Nat->PySem.W.BT->PySem.W.BT
 |[],_,t=>t
 |o::l,n,t=>treeOf l (n+1) (t.ins n o)
noncomputable def JV(P:Params):PySem.W.BT:=treeOf (c5 P).objs.toList 0 .nil
noncomputable def seenT{α:Type}(H₀:Heap)(p q:dB)(Xt:ag->Bool)(Yf:ag->α)(s:ag) :=
 ((staticsOk (gt p.main.body) H₀ s.heap && namesBound p s.heap && gensDone s && laidKept H₀ s.heap),openSeen q [] (gt p.main.body) Xt true s,Yf s)
theorem left_of(e:opening p=plainProg p.main.scope.names)(hN:eU 600 N=true)(f:∀s,fenceModules? p s=some s)
  (B:∀P,absHeap (JV P) Hf life=c5 P) (size:∀P,((c5 P).isNs bV,(c5 P).objs.size,(c5 P).nsMap bV "__annotations__")=(true,Hf,ann))
  (run:∀w:World,(λos=>(goT (stepT (denote treeTable) p w) (stepOk Hf ann) N ⟨JV w.params,Hf,life,iO [],gQ,iC,os⟩ (topStub p)).map λr=>seenT (c5 w.params) p q Xt Yf r.abs)=λZ=>some (true,openGood q [],Ya w)) :
  LeftO p q [] Xt Yf Ya N true:=λw=>by
 obtain⟨⟨h,gs,d,k,os⟩,u,e2⟩:=aZ.mp (boot_open e hN f w);simp only[fY]at e2;refine Bt e2 λZ0 Y U y=>?_;clear e2;subst Z0;subst Y;subst U;subst y;have z:=size w.params;simp only[fY]at z;refine X1pp (aZ.mp (congrFun (run w) os)) λr g l=>?_;unfold seenT at l;simp only[fY]at l;have O:=IH _ _ _ _ g;have T:SharedT.abs ⟨JV w.params,Hf,life,iO [],gQ,iC,os⟩=⟨c5 w.params,iO [],gQ,iC,os⟩:=by
  show Shared.mk _ _ _ _ _=_;rw[B]
 rw[T]at O;have t:topFrom treeTable p w N ⟨c5 w.params,iO [],gQ,iC,os⟩=some r.abs:=by
  unfold topFrom;dsimp only;rw[z.1,z.2.1,z.2.2,O];show (match _ && _ && _ && _ with|true=>_|false=>_)=_
  rw[l.1]
 unfold openEnds;rw[u];show (topFrom treeTable p w N _).map _=_;rw[t];exact congrArg some (cH l.2.1 l.2.2)
noncomputable def D3(h:Heap):Frag:=(br h.objs.size).filterMap λa=>(h.get? a).map λo=>(a,o)
set_option tactic.hygienic true in
theorem JG{K:Frag}{a:Addr}{o:Obj}(h:K.lookup a=some o):(a,o)∈K:=by
 induction K with
 |nil=>exact nS h
 |cons x K y =>
  obtain⟨b,u⟩:=x;rw[cU]at h
  split at h
  .rename_i e;obtain rfl:=ae h;rw[eq_of_beq e];exact .head _
  .exact .tail _ (y h)
theorem LW(h:Heap):(D3 h).In h:=λa o e=>by
 refine X1pp (d6.mp (JG e)) λb Z z=>X1pp (aZ.mp z) λu Y y=>?_;obtain⟨rfl,rfl⟩:=cE y;exact Y
noncomputable def adr:Value->Addr
 |.ref a=>a
 |_=>0
noncomputable def ownV(K:Frag)(x:Str):Value:=match nsIn K bV x with
 |some (some v)=>v
 |_=>.none
structure Ent where
 a:Addr
 c:As
 nms:List Str
noncomputable def GL(K:Frag)(x:Ent):=(fnD K x.a).map λfd=>(bodyD fd).map λb=>(cSs x.c.tb 60 fd.scope.names b).map (·.1)
noncomputable def GM(K:Frag)(x:Ent)(v u t s:Value):=(fnD K x.a).map λfd=>bindArgs fd ⟨[v,u,t,s].take x.c.n,[]⟩
noncomputable def El(x:Ent)(v u t s:Value):Option (Sem (List (Str×Value))):=some (pure (x.nms.zip ([v,u,t,s].take x.c.n)))
noncomputable def entOk(K:Frag)(x:Ent):Bool:=decide (x.c.n<=4) && (fnD K x.a).any λfd=>fnOk K x.c x.nms fd && fd.closure.isEmpty
theorem take4:∀{vals:List Value},vals.length<=4->∃v u t s,[v,u,t,s].take vals.length=vals:=λ{vals} h=>by
 cases vals with
 |nil=>exact⟨.none,.none,.none,.none,rfl⟩
 |cons v r=>cases r with
  |nil=>exact⟨v,.none,.none,.none,rfl⟩
  |cons u r=>cases r with
   |nil=>exact⟨v,u,.none,.none,rfl⟩
   |cons t r=>cases r with
    |nil=>exact⟨v,u,t,.none,rfl⟩
    |cons s r=>cases r with|nil=>exact⟨v,u,t,s,rfl⟩|cons _ r=>exact absurd h (Nat.not_le_of_gt (Nat.le_add_left 5 r.length))
theorem IsFn.ent{S:Sta}{x:Ent}(Y:entOk S.K x=true)(T:GL S.K x=some (some (some (G5 x.c.body))))(d:GM S.K x=El x):IsFn S x.a x.c:=by
 refine Aq (aO.mp Y) λO Y=>?_
 cases e:fnD S.K x.a with
 |none=>rw[e]at Y;exact nF Y
 |some fd =>
  unfold GL at T;rw[e]at Y T;refine Aq (aO.mp Y) λy U=>IsFn.of x.nms e y (List.isEmpty_iff.mp U) (ae T) λvals B=>X4p (take4 (vals:=vals) (by rw[B];exact of_decide_eq_true O)) λv u t s z=>?_
  have:=congrFun (congrFun (congrFun (congrFun d v) u) t) s
  unfold GM El at this;rw[e,<- B,z]at this;exact ae this
end
section
noncomputable def nbL:List (Nat×Str):=[(0, "len"),(1, "isinstance"),(2, "int"),(3, "bool"),(4, "tuple"),(5, "list"),(6, "str"),(7, "dict"),(8, "range"),(9, "enumerate"),(10, "sorted"),(11, "sum"),(12, "abs"),(13, "min"),(14, "max"),(15, "all"),(16, "any"),(17, "ValueError")]
noncomputable def neL:List (Nat×Str):=[(18, "FloorError"),(19, "BadFloor"),(20, "Parted"),(21, "Holed"),(22, "NoCell"),(23, "BadLaying"),(24, "NoLaying"),(25, "NoHeights"),(26, "NoTurn"),(27, "BadText")]
structure LawD where
 nf:List (Nat×Str)
 ms:List (Nat×Str)
 es:List (Bool×Str×As×List Str)
 ne:List (Nat×Str)
noncomputable def LawD.no(D:LawD):List (Nat×Str):=D.ne++D.nf
section
variable (D:LawD)
noncomputable def cvK(K:Frag)(i:Nat):Value:=if i<17 then bv i else if i=17 then .type "ValueError" else match D.no.lookup i with
 |some x=>ownV K x
 |aa=>ownV K "MOST_LONG"
noncomputable def clsK(K:Frag):Addr:=adr (ownV K "Floor")
noncomputable def Ho(K:Frag)(x:Str):Addr:=match eE K (.ref (clsK K)) x with
 |some (some v)=>adr v
 |_=>0
noncomputable def WK(K:Frag):Wd where
 U:=λi=>eU i 17 || (D.no.lookup i).isSome || i == 28
 C:=clsK K
 M:=λn=>(D.ms.lookup n).map (Ho K)
noncomputable def entOf(K:Frag)(e:Bool×Str×As×List Str):Ent:=⟨(match e.1 with
 |true=>Ho K e.2.1
 |false=>adr (ownV K e.2.1)),e.2.2.1,e.2.2.2⟩
noncomputable def FC(K:Frag):List Ent:=D.es.map (entOf K)
noncomputable def refK(K:Frag)(x:Str):Bool:=decide (nsIn K bV x=some (some (.ref (adr (ownV K x)))))
noncomputable def excB(K:Frag)(C:Addr):Bool:=decide (eE K (.ref C) "__getattribute__"=some (some (.builtin "BaseException.__getattribute__"))) && (decide (eE K (.ref C) "__getattr__"=some aa) && ((clsIn K C).isSome && (decide (eE K (.ref C) "__class__"=some (some (.builtin "object.__class__"))) &&
 (decide (specialIn K (.builtin "object.__class__") "__get__"=some (some (.builtin "getset_descriptor.__get__"))) && (decide (takesIn K (.builtin "object.__class__")=some true) && (decide (mroIn K C (.type "object")=some true) && decide (subIn K (.ref C) (.type "BaseException")=some true)))))))
noncomputable def vBases:List Value:=[.type "ValueError",.type "Exception",.type "BaseException",.type "object"]
noncomputable def floorB(K:Frag)(C:Addr):Bool:=plainGet K C "texts" && (hasDictIn K C && (decide (eE K (.ref C) "__setattr__"=some (some (.builtin "object.__setattr__"))) && (plainOver K C && makesIn K C)))
noncomputable def EJ(K:Frag)(C:Addr)(x:Str):Bool:=decide (eE K (.ref C) x=some aa) && decide (takerIn K C x=some aa)
noncomputable def Hp(K:Frag)(x:Str):Bool:=decide (eE K (.ref (clsK K)) x=some (some (.ref (Ho K x)))) && (isFn K (.ref (Ho K x)) && keepIn K (.ref (Ho K x)))
noncomputable def sixB(v:Value):Bool:=match v with
 |.int 6 _=>true
 |_=>false
structure E6(K:Frag):Prop where
 blt:∀p∈nbL,nsIn K bV p.2=some aa
 own:∀p∈D.no,nsIn K bV p.2=some (some (.ref (adr (ownV K p.2))))/\keepIn K (.ref (adr (ownV K p.2)))=true
 law:nsIn K bV "law"=some (some (.ref (adr (ownV K "law"))))
 six:nsIn K bV "MOST_LONG"=some (some (ownV K "MOST_LONG"))/\sixB (ownV K "MOST_LONG")=true
 exc:∀p∈D.ne,excIn K (adr (ownV K p.2)) vBases "ValueError.__new__"=true/\excB K (adr (ownV K p.2))=true
 sub:∀c∈D.ne.map (·.1),∀j∈17::D.ne.map (·.1),exmOne K (cvK D K c) (cvK D K j)=some (J5 c j)/\kitOne K (cvK D K c) (cvK D K j)=some (J5 c j)
 floor:floorB K (clsK K)=true
 texts:EJ K (clsK K) "texts"=true
 cells:EJ K (clsK K) "own"=true
 init:Hp K "__init__"=true
 meth:∀p∈D.ms,Hp K p.2=true
 ent:∀x∈FC D K,entOk K x=true
noncomputable def Iq(K:Frag):List Bool:=[nbL.all λp=>decide (nsIn K bV p.2=some aa),D.no.all λp=>refK K p.2 && keepIn K (.ref (adr (ownV K p.2))),refK K "law",decide (nsIn K bV "MOST_LONG"=some (some (ownV K "MOST_LONG"))),sixB (ownV K "MOST_LONG"),
 D.ne.all λp=>excIn K (adr (ownV K p.2)) vBases "ValueError.__new__" && excB K (adr (ownV K p.2)),(D.ne.map (·.1)).all λc=>(17::D.ne.map (·.1)).all λj=>decide (exmOne K (cvK D K c) (cvK D K j)=some (J5 c j)) && decide (kitOne K (cvK D K c) (cvK D K j)=some (J5 c j)),
 floorB K (clsK K),EJ K (clsK K) "texts",EJ K (clsK K) "own",Hp K "__init__",D.ms.all λp=>Hp K p.2,(FC D K).all (entOk K)]
variable {D}
theorem Lq{K:Frag}(h:Iq D K=aH 13 true):E6 D K:=by
 unfold Iq at h;simp only[aH,List.cons.injEq,and_true,cG,bh,decide_eq_true_eq,refK]at h;obtain⟨h1,h2,h3,h4,U,O,y,d,u,B,Y,z,T⟩:=h;exact⟨h1,h2,h3,⟨h4,U⟩,O,y,d,u,B,Y,z,T⟩
variable (D)
noncomputable def obsK(K:Frag):=(Iq D K,(FC D K).map (GL K),(FC D K).map (GM K))
noncomputable def valK:List Bool×List (Option (Option (Option (List Internal.S))))×List (Value->Value->Value->Value->Option (Sem (List (Str×Value)))):=(aH 13 true,(FC D []).map λx=>some (some (some (G5 x.c.body))),(FC D []).map El)
structure Eu(K:Frag):Prop where
 L:E6 D K
 body:∀x∈FC D K,GL K x=some (some (some (G5 x.c.body)))
 bind:∀x∈FC D K,GM K x=El x
variable {D}
theorem start_of{K:Frag}(h:obsK D K=valK D):Eu D K:=by
 have u:(FC D []).map (λx=>some (some (some (G5 x.c.body))))=(FC D K).map λx=>some (some (some (G5 x.c.body))):=by
  unfold FC;rw[bc,bc];rfl
 have e2:(FC D []).map El=(FC D K).map El:=by
  unfold FC;rw[bc,bc];rfl
 unfold obsK valK at h;rw[u,e2]at h;simp only[fY]at h;exact⟨Lq h.1,List.map_inj_left.mp h.2.1,List.map_inj_left.mp h.2.2⟩
noncomputable def Gi(D:LawD):Hook:=⟨_,λs=>obsK D (D3 s.heap),λZ=>valK D,λZ h=>∃K:Frag,K.In h/\Eu D K,λZ s e=>⟨_,LW _,start_of e⟩,λ_ _ _ ⟨K,X,s⟩ k=>⟨K,X.keeps k,s⟩⟩
structure LawD.Ok(D:LawD):Prop where
 ix:∀p∈D.nf,ixS GT p.2=some p.1
 hi:∀p∈D.nf,29<=p.1
 ne:∀p∈D.ne,p∈neL
 floor:D.no.lookup 29=some "Floor"
 mix:∀p∈D.ms,ixS AT p.2=some p.1/\p.2 ≠ "texts"/\p.2 ≠ "own"
section
variable {S:Sta}
theorem Glob.own(hi:ixS GT nm=some i)(h:nsIn S.K bV nm=some (some v)):Internal.Glob S i v:=⟨λx u=>.inl (by rw[BQ u hi];exact mg_of S.X S.ng h)⟩
theorem Glob.built(hi:ixS GT nm=some i)(h:nsIn S.K bV nm=some aa)(z:S.mb nm=some v):Internal.Glob S i v:=⟨λx u=>.inr (by rw[BQ u hi];exact⟨mg_none_of S.X S.ng h,z⟩)⟩
theorem Fn:∀p∈nbL++neL++[(28,bW "MOST_LONG")],ixS GT p.2=some p.1:=by decide +kernel
theorem Lh:∀p∈nbL,bootBuiltins p.2=some (cvK ⟨[],[],[],[]⟩ [] p.1)/\p.2 ≠ "__name__":=by decide +kernel
set_option tactic.hygienic true in
theorem Bg{l:List (Nat×Str)}{i:Nat}{x:Str}(h:l.lookup i=some x):(i,x)∈l:=by
 induction l with
 |nil=>exact nS h
 |cons y l u =>
  obtain⟨b,O⟩:=y;rw[cU]at h
  split at h
  .rename_i e;obtain rfl:=ae h;rw[eq_of_beq e];exact .head _
  .exact .tail _ (u h)
theorem no_hi(O:D.Ok):∀p∈D.no,¬p.1<17/\¬p.1=17:=λp u=>by
 rcases aJ.mp u with h|h
 .have:∀p∈neL,¬p.1<17/\¬p.1=17:=by decide +kernel
  exact this p (O.ne p h)
 .have:=O.hi p h;exact⟨lin [p.fst] [] (.j V0 K17) [.b K29 V0] rfl this,λz=>lin [p.fst] [] .no [.b K29 V0,.d V0 K17] rfl this z⟩
theorem no_ix(O:D.Ok):∀p∈D.no,ixS GT p.2=some p.1:=λp d=>by
 rcases aJ.mp d with h|h
 .exact Fn p (aU _ (aM _ (O.ne p h)))
 .exact O.ix p h
theorem HK(O:D.Ok){K:Frag}{i:Nat}{x:Str}(h:D.no.lookup i=some x):cvK D K i=ownV K x:=by
 refine Aq (no_hi O _ (Bg h)) λY z=>?_;unfold cvK;rw[if_neg Y,if_neg z,h]
theorem cvK_blt{K:Frag}{i:Nat}(h:i<=17):cvK D K i=cvK ⟨[],[],[],[]⟩ [] i:=by
 unfold cvK
 by_cases Y:i<17
 .rw[if_pos Y,if_pos Y]
 .have:i=17:=ax h (Nat.le_of_not_lt Y)
  rw[if_neg Y,if_neg Y,if_pos this,if_pos this]
theorem usD{K:Frag}{i:Nat}(h:(WK D K).U i=true):i<=17\/(∃x,D.no.lookup i=some x)\/i=28:=by
 simp only[WK,d8,beq_iff_eq,bH]at h
 rcases h with(h|h)|h
 .exact .inl (aP h)
 .exact .inr (.inl h)
 .exact .inr (.inr h)
theorem blt_at:∀i,i<=17->∃x,(i,x)∈nbL:=λi hi=>by
 have:∀i,i<18->(nbL.lookup i).isSome=true:=by decide +kernel
 exact X1p (bH.mp (this i (Nat.lt_succ_of_le hi))) λx u=>⟨x,Bg u⟩
theorem IO(O:D.Ok){K:Frag}(i:Nat)(Y:18<=i)(z:i<=27)(h:(WK D K).U i=true):∃x,(i,x)∈D.ne/\D.no.lookup i=some x:=by
 rcases usD h with h|⟨x,h⟩|rfl
 .exact absurd (aw Y h) (by decide)
 .refine⟨x,(aJ.mp (Bg h)).resolve_right λq=>?_,h⟩
  have B:29<=i:=O.hi _ q;exact absurd (aw B z) (by decide)
 .exact absurd z (by decide)
theorem own_in{p:Nat×Str}(h:p∈D.ne):p∈D.no:=aU _ h
theorem cv28(O:D.Ok){K:Frag}:cvK D K 28=ownV K "MOST_LONG":=by
 have:D.no.lookup 28=aa:=by
  cases h:D.no.lookup 28 with
  |none=>rfl
  |some x =>
   rcases aJ.mp (Bg h)with q|q
   .have:∀p∈neL,p.1≠28:=by decide +kernel
    exact absurd rfl (this _ (O.ne _ q))
   .have z:29<=28:=O.hi _ q
    exact absurd z (by decide)
 unfold cvK;rw[if_neg (by decide),if_neg (by decide),this]
theorem ExcK.of{K:Frag}{C:Addr}(h:excB K C=true):ExcK K C:=by
 simp only[excB,bh,decide_eq_true_eq]at h;exact GP h λU y B z T O u=>Aq u λY d=>⟨U,y,B,z,T,O,Y,d⟩
theorem Field.of{C:Addr}{x:Str}(h:EJ S.K C x=true):Field S C x:=by
 simp only[EJ,bh,decide_eq_true_eq]at h;exact⟨h.1,h.2⟩
theorem K9{K:Frag}{x:Str}{v:Value}(h:nsIn K bV x=some (some v)):ownV K x=v:=by unfold ownV;rw[h]
theorem globD(O:D.Ok)(L:E6 D S.K)(Y:∀x:Str,x ≠ "__name__"->S.mb x=bootBuiltins x){i:Nat}(h:(WK D S.K).U i=true):Internal.Glob S i (cvK D S.K i):=by
 rcases usD h with h|⟨x,h⟩|rfl
 .obtain⟨x,u⟩:=blt_at i h
  have z:=Lh _ u;exact Glob.built (Fn (i,x) (aU _ (aU _ u))) (L.blt _ u) (by rw[Y x z.2,z.1,cvK_blt (K:=S.K) h])
 .have u:=Bg h
  rw[HK O h]
  have:=(L.own _ u).1
  exact Glob.own (no_ix O (i,x) u) (this.trans (congrArg (λv=>some (some v)) (K9 this).symm))
 .rw[cv28 O]
  exact Glob.own (Fn (28,_) (aM _ (.head _))) L.six.1
theorem ownD(O:D.Ok)(L:E6 D S.K){i:Nat}(h:(WK D S.K).U i=true)(y:i≠28)(u:17<=i):M3 S (cvK D S.K i):=by
 rcases usD h with h|⟨x,h⟩|rfl
 .have:i=17:=ax h u
  clear h y u;subst this;exact M3.type _
 .rw[HK O h]
  have:=L.own _ (Bg h)
  refine M3.own ?_;unfold ownV;rw[this.1];exact this.2
 .exact absurd rfl y
theorem refD(O:D.Ok){K:Frag}(L:E6 D K){i:Nat}{x:Str}(h:D.no.lookup i=some x):cvK D K i=.ref (adr (ownV K x)):=by
 rw[HK O h];exact K9 (L.own _ (Bg h)).1
set_option tactic.hygienic true in
theorem goodD{p:dB}{loose:List Str}(O:D.Ok)(L:E6 D S.K)(B:S.cv=cvK D S.K)(T:TopRead p loose S.mg S.mb S.g):Good S (WK D S.K) where
 glob:=λi hi=>by rw[B];exact globD O L T.builtins hi
 bu:=λi hi=>by
  show (_ || _ || _)=true;rw[Nat.ble_eq_true_of_le (c9 hi)];rfl
 own:=λi hi h17 h28=>by rw[B];exact ownD O L hi h28 h17
 base:=λi hi=>by rw[B];exact if_pos hi
 six:=by
  rw[B,cv28 O]
  have:=L.six.2
  revert this
  cases ownV S.K "MOST_LONG" with
  |int n t =>
   intro h;unfold sixB at h
   split at h
   .rename_i u e;exact⟨u,e⟩
   .exact nF h
  |_=>intro h;exact nF h
 floor:=by
  have h:=L.floor;simp only[floorB,bh,decide_eq_true_eq]at h;obtain⟨U,z,h3,h4,h5⟩:=h;exact⟨by rw[B];exact refD O L (i:=29) (x := "Floor") O.floor,U,z,h3,h4,h5⟩
 texts:=Field.of L.texts
 cells:=Field.of L.cells
 exc:=λi U z hu=>by
  refine X1pp (IO O i U z hu) λx Y hl=>?_;rw[B];exact⟨x,adr (ownV S.K x),_,_,_,no_ix O (i,x) (own_in Y),refD O L hl,own_of_in S.X T (L.own _ (own_in Y)).1 (L.exc _ Y).1,PySem.F.excBase_ValueError⟩
 exk:=λi C U z hu hC=>by
  refine X1pp (IO O i U z hu) λx Y hl=>?_;rw[B,refD O L hl]at hC;obtain rfl:=bx hC;exact ExcK.of (L.exc _ Y).2
 sub:=λc j U z hc h3 h4 hj=>by
  rw[B];refine X1pp (IO O c U z hc) λx Y Z=>L.sub c (aY.mpr ⟨_,Y,rfl⟩) j ?_
  rcases Nat.eq_or_lt_of_le h3 with e|e
  .rw[<- e];exact .head _
  .exact X1pp (IO O j e h4 hj) λy hy Z=>.tail _ (aY.mpr ⟨_,hy,rfl⟩)
 meth:=λn f hn=>by
  have key:∀x:Str,ixS AT x=some n->x ≠ "texts"->x ≠ "own"->Hp S.K x=true->Ho S.K x=f->∃nm,ixS AT nm=some n/\nm ≠ "texts"/\nm ≠ "own"/\eE S.K (.ref (WK D S.K).C) nm=some (some (.ref f))/\isFn S.K (.ref f)=true/\keepIn S.K (.ref f)=true:=by
   rintro x a b c d rfl
   simp only[Hp,bh,decide_eq_true_eq]at d;exact⟨x,a,b,c,d⟩
  refine X1pp (aZ.mp hn) λx Y e=>?_;have Y:=Bg Y;exact Bm (O.mix _ Y) λa b c=>key x a b c (L.meth _ Y) e
theorem JJ(st:Eu D S.K){e:Bool×Str×As×List Str}(y:e∈D.es):IsFn S (entOf S.K e).a e.2.2.1:=by
 have u:entOf S.K e∈FC D S.K:=cK y;exact IsFn.ent (st.L.ent _ u) (st.body _ u) (st.bind _ u)
end
end
end
section
section
variable {S:Sta}{W:Wd}{k k':Nat}
theorem Ke(h:G1 ((j,y)::r) i=some x):(i=j/\x=y)\/G1 r i=some x:=by
 have h:(match b5 i j with
  |true=>some y
  |false=>G1 r i)=some x:=h
 cases q:b5 i j with
 |false=>rw[q]at h;exact .inr h
 |true=>rw[q]at h;obtain rfl:=ae h;exact .inl ⟨bI q,rfl⟩
abbrev FnS(S:Sta)(W:Wd)(k i:Nat)(f:FS):Prop:=(W.U i=true/\i≠28)/\Snd S k (S.cv i) f
abbrev MeS(S:Sta)(W:Wd)(k n:Nat)(f:FS):Prop:=∃fa,W.M n=some fa/\Snd S k (.ref fa) f
abbrev KyS(S:Sta)(W:Wd)(k i:Nat)(f:AV->Option Al):Prop:=W.U i=true/\∃fa kf,S.cv i=.ref fa/\kf+2<=k/\∀x,(f x).isSome=true->KeyT S kf (.ref fa) (Dy f) [x]
theorem Snd.up(h:Snd S k fv f)(le:k<=k'):Snd S k' fv f:=λF B=>h F (aw le B)
theorem FnS.up(h:FnS S W k i f)(le:k<=k'):FnS S W k' i f:=⟨h.1,h.2.up le⟩
theorem MeS.up(h:MeS S W k i f)(le:k<=k'):MeS S W k' i f:=by
 refine X1pp h λB Y z=>?_;exact⟨B,Y,z.up le⟩
def AllP{α:Type}(P:Nat->α->Prop):List (Nat×α)->Prop
 |[]=>True
 |p::r=>P p.1 p.2/\AllP P r
theorem AllP.at:∀{l:List (Nat×α)},AllP P l->∀{i:Nat}{x:α},G1 l i=some x->P i x
 |[],_,_,_,h=>by exact nS h
 |(j,y)::r,a,i,x,h=>by
  rcases Ke h with⟨rfl,rfl⟩|h
  .exact a.1
  .exact a.2.at h
theorem L2.of{q:Bool}{ex:List Nat}{fn me:List (Nat×FS)}{ky:List (Nat×(AV->Option Al))}(G:Good S W)(hq:q=true->S.hx=aa)(hx:ex.all W.U=true)(O:AllP (FnS S W k) fn)(T:AllP (MeS S W k) me)(B:AllP (KyS S W k) ky):L2 S W k ⟨q,ex,fn,me,ky⟩ :=
 ⟨G,hq,λi hi=>cG.mp hx i (fP.mp hi),λi f h=>O.at h,λi f h=>T.at h,λi f h=>B.at h⟩
end
section
variable {S:Sta}{D:LawD}{k:Nat}{Φ:Tab}{c:As}{rs:Rs}{nv ns:Nat}{f:FS}
theorem no_28(O:D.Ok)(h:D.no.lookup i=some x):i≠28:=by
 rintro rfl
 rcases aJ.mp (Bg h)with q|q
 .have:∀p∈neL,p.1≠28:=by decide +kernel
  exact absurd rfl (this _ (O.ne _ q))
 .have z:29<=28:=O.hi _ q
  exact absurd z (by decide)
theorem U_of{K:Frag}{i:Nat}{x:Str}(h:D.no.lookup i=some x):(WK D K).U i=true:=by
 show (eU i 17 || (D.no.lookup i).isSome || i == 28)=true;rw[h];simp
theorem FnS.of(O:D.Ok)(st:Eu D S.K)(B:S.cv=cvK D S.K)(y:(false,nm,c,ps)∈D.es)(Y:D.no.lookup i=some nm)(h:M0 Φ c rs nv ns f)(T:L2 S (WK D S.K) k Φ):FnS S (WK D S.K) (k+1) i f :=
 ⟨⟨U_of Y,no_28 O Y⟩,by rw[B,refD O st.L Y];exact Snd.fn T (JJ st y) h⟩
theorem KyS.of(O:D.Ok)(st:Eu D S.K)(B:S.cv=cvK D S.K)(y:(false,nm,c,ps)∈D.es)(Y:D.no.lookup i=some nm)(h:M0 Φ c rs nv ns f)(e:∀x p,ky x=some p->f.pure [x]=some (sp p))(T:L2 S (WK D S.K) k Φ):KyS S (WK D S.K) (k+3) i ky :=
 ⟨U_of Y,_,k+1,by rw[B,refD O st.L Y];rfl,az _,KeyT.fn T (JJ st y) h e⟩
theorem MeS.of(st:Eu D S.K)(y:(true,nm,c,ps)∈D.es)(Y:D.ms.lookup n=some nm)(h:M0 Φ c rs nv ns f)(T:L2 S (WK D S.K) k Φ):MeS S (WK D S.K) (k+1) n f :=
 ⟨Ho S.K nm,by show (D.ms.lookup n).map _=_;rw[Y];rfl,Snd.fn T (JJ st y) h⟩
theorem FnS.make(O:D.Ok)(st:Eu D S.K)(B:S.cv=cvK D S.K)(y:(true,bW "__init__",c,ps)∈D.es)(d:∀avs,f.pure avs=aa)(u:f.whole=false)
  (h:∀avs V K X,f.spec (A8 avs 0) V K X->makeW Φ c nv ns (A8 avs 3) V K X) (T:L2 S (WK D S.K) k Φ):FnS S (WK D S.K) (k+2) 29 f:=by
 have hi:=st.L.init;simp only[Hp,bh,decide_eq_true_eq]at hi;refine⟨⟨U_of O.floor,by decide⟩,?_⟩
 rw[B,refD O st.L O.floor];exact Snd.make T hi.1 hi.2.1 (JJ st y) d u h
theorem FnS.try_(O:D.Ok)(st:Eu D S.K)(B:S.cv=cvK D S.K)(U:(false,nm,c,ps)∈D.es)(Y:D.no.lookup i=some nm)(h:∀avs V K X,f.spec avs V K X->∃rs,tryW Φ Φh c e g j (h0::hr) rs nv ns avs V K)(d:AI e=true)(z:c.body=[.try_ [.expr e] (.g g) (some j) (h0::hr),r0])
  (T:L2 S (WK D S.K) k Φ) (Th:∀g' kk x hx,L2 (S.grow g' kk x hx) (WK D S.K) k Φh) (y:Φ.ex.contains g=true/\17<=g/\g<=27) (u:∀avs,f.pure avs=aa):FnS S (WK D S.K) (k+1) i f :=
 ⟨⟨U_of Y,no_28 O Y⟩,by rw[B,refD O st.L Y];exact Snd.try_ T Th (JJ st U) d z y h u⟩
end
end
section
abbrev Sp:=Int×Int
noncomputable def A3(k:Sp):List Sp:=[(k.1,k.2 - 1),(k.1 - 1,k.2),(k.1+1,k.2),(k.1,k.2+1)]
inductive M2(P:List Sp)(a:Sp):Sp->Prop
 |refl:M2 P a a
 |step {b c:Sp}:M2 P a b->c∈A3 b->c∈P->M2 P a c
def Comp(P:List Sp)(a:Sp)(fs:List Sp):Prop:=fs.Nodup/\∀k,k∈fs↔M2 P a k
theorem sub_length:∀{l k:List Sp},l.Nodup->(∀x∈l,x∈k)->l.length<=k.length
 |[],_,_,_=>cL _
 |x::l,k,nd,h=>by
  rw[bF]at nd;have u:x∈k:=h x (.head _);have Y:=sub_length (k:=k.erase x) nd.2 λy z=>(List.mem_erase_of_ne (λ(e:y=x)=>nd.1 (by rwa [<- e]))).mpr (h y (.tail _ z))
  rw[List.length_erase_of_mem u]at Y
  have:0<k.length:=List.length_pos_of_mem u
  simp only[aL];exact lin [l.length,k.length - 1,k.length] [] (.b (.A V0 K1) V2) [.b V0 V1,.d (.A V1 K1) V2] rfl Y (aq (lin [k.length] [] (.b K1 V0) [.c K0 V0] rfl this))
theorem same_length{l k:List Sp}(Y:l.Nodup)(B:k.Nodup)(h:∀x,x∈l↔x∈k):l.length=k.length :=
 ax (sub_length Y λx u=>(h x).mp u) (sub_length B λx u=>(h x).mpr u)
theorem M2.mem(h:M2 P a k):k=a\/k∈P:=by
 induction h using M2.casesOn with|refl=>exact .inl rfl|step _ _ h=>exact .inr h
structure Dfs(N:Sp->Sp->Prop)(R:Sp->Prop)(a:Sp)(fs ws:List Sp):Prop where
 nd:fs.Nodup
 ha:a∈fs
 rc:∀k∈fs,R k
 wf:∀k∈ws,k∈fs
 cl:∀k∈fs,k∉ws->∀c,N k c->c∈fs
structure DfsAt(N:Sp->Sp->Prop)(R:Sp->Prop)(a:Sp)(fs ws:List Sp)(e:Sp)(r:List Sp):Prop where
 nd:fs.Nodup
 ha:a∈fs
 rc:∀k∈fs,R k
 wf:∀k∈ws,k∈fs
 he:e∈fs
 cl:∀k∈fs,k∉ws->∀c,N k c->c∈fs\/(k=e/\c∈r)
noncomputable def Gx(n:Nat)(fs ws:List Sp):Nat:=2 * (n+1 - fs.length)+ws.length
section
variable {N:Sp->Sp->Prop}{R:Sp->Prop}{a e c:Sp}{fs ws r:List Sp}
theorem nodup1(a:Sp):[a].Nodup:=.cons (λZ h=>by exact nM h) .nil
theorem Dfs.start(h:R a):Dfs N R a [a] [a] :=
 ⟨nodup1 a,.head _,λk h'=>by rwa [aD.mp h'],λk h=>h,λk h n=>absurd h n⟩
theorem Dfs.pop(h:Dfs N R a fs (ws++[e]))(y:∀c,N e c->c∈r):DfsAt N R a fs ws e r :=
 ⟨h.nd,h.ha,h.rc,λk B=>h.wf k (aU _ B),h.wf e (aM _ (.head _)),λk B O c d=>by
  by_cases q:k=e
  .clear h;subst q;exact .inr ⟨rfl,y c d⟩
  .exact .inl (h.cl k B (λz=>(aJ.mp z).elim O λz=>q (aD.mp z)) c d)⟩
theorem DfsAt.done(h:DfsAt N R a fs ws e []):Dfs N R a fs ws :=
 ⟨h.nd,h.ha,h.rc,h.wf,λk B O c d=>(h.cl k B O c d).elim id λq=>absurd q.2 bB⟩
theorem DfsAt.skip(h:DfsAt N R a fs ws e (c::r))(Y:N e c->c∈fs):DfsAt N R a fs ws e r :=
 ⟨h.nd,h.ha,h.rc,h.wf,h.he,λk B O d y=>by
  rcases h.cl k B O d y with q|⟨q,u⟩
  .exact .inl q
  .clear h;subst q
   rcases aA.mp u with rfl|u
   .exact .inl (Y y)
   .exact .inr ⟨rfl,u⟩⟩
theorem DfsAt.push(h:DfsAt N R a fs ws e (c::r))(hc:R c)(Y:c∉fs):DfsAt N R a (fs++[c]) (ws++[c]) e r:=by
 refine⟨?_,aU _ h.ha,λk B=>?_,λk B=>?_,aU _ h.he,λk B u d hd=>?_⟩
 .rw[bn]
  exact⟨h.nd,nodup1 c,λx U y O z=>Y (aD.mp O▸z▸U)⟩
 .rcases aJ.mp B with q|q
  .exact h.rc k q
  .rwa [aD.mp q]
 .exact aJ.mpr ((aJ.mp B).imp (h.wf k) id)
 .rcases aJ.mp B with q|q
  .rcases h.cl k q (λz=>u (aU _ z)) d hd with z|⟨z,T⟩
   .exact .inl (aU _ z)
   .exact(aA.mp T).elim (λy=>.inl (aM _ (y▸.head _))) λy=>.inr ⟨z,y⟩
  .exact absurd (aM _ q) u
theorem Gw(h:(fs++[c]).length<=n+1):Gx n (fs++[c]) (ws++[c])<=Gx n fs ws:=by
 unfold Gx;rw[an,bz]at h ⊢;rw[an,bz];exact lin [n,fs.length,n+1 - fs.length,n+1 - (fs.length+1),ws.length] [] (.b (.A (.M 2 V3) (.A V4 K1)) (.A (.M 2 V2) V4)) [.B 2 (.A V0 K1) (.A V1 V2),.D 2 (.A V3 (.A V1 K1)) (.A V0 K1)] rfl (au.mp (az ((n+1) - (fs.length)))) (aq (lin [fs.length,n] [] (.b (.A V0 K1) (.A V1 K1)) [.b (.A V0 K1) (.A V1 K1)] rfl h))
end
def nearN(P:List Sp)(k c:Sp):Prop:=c∈A3 k/\c∈P
theorem Kq{fs:List Sp}(y:fs.Nodup)(B:∀k∈fs,M2 P a k):fs.length<=P.length+1 :=
 sub_length (k:=a::P) y λk u=>by rcases(B k u).mem with q|q<;>simp[q]
theorem Dfs.end_(h:Dfs (nearN P) (M2 P a) a fs []):Comp P a fs :=
 ⟨h.nd,λk=>⟨h.rc k,λr=>by
  induction r with|refl=>exact h.ha|step _ O d y=>exact h.cl _ y bB _ ⟨O,d⟩⟩⟩
inductive Near(x y:Int):Sp->Prop
 |u:Near x y (x,y - 1)
 |l:Near x y (x - 1,y)
 |r:Near x y (x+1,y)
 |d:Near x y (x,y+1)
theorem DV(h:b∈A3 (x,y)):Near x y b:=by
 refine J1 b h ?_ λh=>?_
 .exact .u
 ·
  refine J1 b h ?_ λh=>?_
  .exact .l
  ·
   refine J1 b h ?_ λh=>?_
   .exact .r
   ·
    exact J1 b h .d λh=>nM h
theorem A2(h:Near x y b):b∈A3 (x,y):=by
 induction h using Near.casesOn with|u=>exact .head _|l=>exact .tail _ (.head _)|r=>exact .tail _ (.tail _ (.head _))|d=>exact .tail _ (.tail _ (.tail _ (.head _)))
theorem B3(h:b∈A3 a):a∈A3 b:=by
 cases DV h with|u=>refine A2 ?_;have:=Near.d (x:=a.1) (y:=a.2 - 1);rwa [bl]at this|l=>refine A2 ?_;have:=Near.r (x:=a.1 - 1) (y:=a.2);rwa [bl]at this|r=>refine A2 ?_;have:=Near.l (x:=a.1+1) (y:=a.2);rwa [bM]at this|d=>refine A2 ?_;have:=Near.u (x:=a.1) (y:=a.2+1);rwa [bM]at this
end
section
noncomputable def JK(s:List Sp)(k:Sp):List Sp:=if k∈s then s else s++[k]
theorem Ix:x∈JK s k↔x∈s\/x=k:=by
 unfold JK
 by_cases h:k∈s
 .rw[if_pos h];exact⟨.inl,λq=>q.elim id λe=>e▸h⟩
 .rw[if_neg h,aJ,aD]
section
variable (nb:Sp->List Sp)(col:Sp->Bool)
variable {nb col}
end
end
section
noncomputable def dark(k:Sp):Bool:=(k.1+k.2).fmod 2 == 0
noncomputable def nbP(P:List Sp)(a:Sp):List Sp:=if a∈P then (A3 a).filter (λc=>decide (c∈P)) else []
theorem nbP_mem:b∈nbP P a↔a∈P/\b∈A3 a/\b∈P:=by
 unfold nbP
 by_cases h:a∈P
 .rw[if_pos h,cu,decide_eq_true_eq]
  exact⟨λq=>⟨h,q⟩,λq=>q.2⟩
 .rw[if_neg h]
  exact⟨λq=>(bB q).elim,λq=>(h q.1).elim⟩
theorem F7(s:Int):(s+1) % 2=1 - s % 2:=by omega
theorem KW(s:Int):(s - 1) % 2=1 - s % 2:=by
 have:=F7 (s - 1)
 rw[bl]at this;rw[this,Int.sub_sub_self]
theorem DQ{s:Int}(h:¬s % 2=0):s % 2=1:=(Int.emod_two_eq s).resolve_left h
theorem DA{x b:Int}(q:(x - b) % 2=0):¬(x+1 - b) % 2=0:=by
 rw[show x+1 - b=x - b+1 by exact ah (lin [] [x,b] (.f (.S (.A V0 K1) V1) (.A (.S V0 V1) K1)) [] rfl) (lin [] [x,b] (.f (.A (.S V0 V1) K1) (.S (.A V0 K1) V1)) [] rfl),F7,q];decide
theorem Ih{x b:Int}(q:¬(x - b) % 2=0):(x - 1 - b) % 2=0:=by
 rw[show x - 1 - b=x - b - 1 by exact ah (lin [] [x,b] (.f (.S (.S V0 K1) V1) (.S (.S V0 V1) K1)) [] rfl) (lin [] [x,b] (.f (.S (.S V0 V1) K1) (.S (.S V0 K1) V1)) [] rfl),KW,DQ q];rfl
theorem par_add2{x b:Int}(q:(x - b) % 2=0):(x+1+1 - b) % 2=0:=by
 rw[show x+1+1 - b=x+1 - b+1 by exact ah (lin [] [x,b] (.f (.S (.A (.A V0 K1) K1) V1) (.A (.S (.A V0 K1) V1) K1)) [] rfl) (lin [] [x,b] (.f (.A (.S (.A V0 K1) V1) K1) (.S (.A (.A V0 K1) K1) V1)) [] rfl),F7,DQ (DA q)];rfl
theorem Hc(x b y:Int):(x+y) % 2=((x - b) % 2+(b+y) % 2) % 2:=by
 rw[<- Int.add_emod,<- dg,bl]
theorem Mm{s:Int}{b:Bool}(h:(s.fmod 2 == 0)=b):((s+1).fmod 2 == 0)=!b/\((s - 1).fmod 2 == 0)=!b:=by
 rw[du _ (by decide)]at h ⊢
 rw[du _ (by decide)]
 cases b with
 |true =>
  have:=eq_of_beq h
  exact⟨beq_eq_false_iff_ne.mpr (by rw[F7,this];decide),beq_eq_false_iff_ne.mpr (by rw[KW,this];decide)⟩
 |false =>
  have:=DQ (beq_eq_false_iff_ne.mp h)
  exact⟨beq_iff_eq.mpr (by rw[F7,this];rfl),beq_iff_eq.mpr (by rw[KW,this];rfl)⟩
theorem CV{a b:Sp}(h:b∈A3 a):dark b=!(dark a):=by
 refine Aq (Mm (s:=a.1+a.2) (b:=dark a) rfl) λY O=>?_
 cases DV h with|u=>rw[<- O];show ((a.1+(a.2 - 1)).fmod 2 == 0)=_;rw[<- Int.add_sub_assoc]|l=>rw[<- O];show ((a.1 - 1+a.2).fmod 2 == 0)=_;rw[show a.1 - 1+a.2=a.1+a.2 - 1 by exact ah (lin [] [a.fst,a.snd] (.f (.A (.S V0 K1) V1) (.S (.A V0 V1) K1)) [] rfl) (lin [] [a.fst,a.snd] (.f (.S (.A V0 V1) K1) (.A (.S V0 K1) V1)) [] rfl)]|r=>rw[<- Y];show ((a.1+1+a.2).fmod 2 == 0)=_;rw[show a.1+1+a.2=a.1+a.2+1 by exact ah (lin [] [a.fst,a.snd] (.f (.A (.A V0 K1) V1) (.A (.A V0 V1) K1)) [] rfl) (lin [] [a.fst,a.snd] (.f (.A (.A V0 V1) K1) (.A (.A V0 K1) V1)) [] rfl)]|d=>rw[<- Y];show ((a.1+(a.2+1)).fmod 2 == 0)=_;rw[<- dg]
theorem EA(n:s.Nodup)(h:k∉s):(s++[k]).Nodup:=by
 rw[bn];exact⟨n,bF.mpr ⟨bB,fG⟩,λa ha b z e=>h (by rwa [<- aD.mp z,<- e])⟩
noncomputable def FU(a b:Sp):Bool:=if a.2=b.2 then decide (a.1<b.1) else decide (a.2<b.2)
theorem ordB_iff:FU a b=true↔a.2<b.2\/(a.2=b.2/\a.1<b.1):=by
 unfold FU
 by_cases h:a.2=b.2
 .rw[if_pos h,decide_eq_true_eq];exact⟨λz=>.inr (⟨ah (lin [] [a.snd,b.snd] (.f V0 V1) [.h V0 V1] rfl h) (lin [] [a.snd,b.snd] (.f V1 V0) [.H (-1) V0 V1] rfl h),lin [] [a.fst,b.fst] (.g V0 V1) [.g V0 V1] rfl z⟩),λz=>z.elim (λO=>lin [] [a.snd,b.snd,a.fst,b.fst] (.G 0 V2 V3) [.H (-1) V0 V1,.g V0 V1] rfl h O) (λO=>lin [] [a.fst,b.fst] (.g V0 V1) [.g V0 V1] rfl O.2)⟩
 .rw[if_neg h,decide_eq_true_eq];exact⟨λz=>.inl (lin [] [a.snd,b.snd] (.g V0 V1) [.g V0 V1] rfl z),λz=>(aX h).elim (λO=>lin [] [a.snd,b.snd] (.g V0 V1) [.g V0 V1] rfl O) (λO=>z.elim (λT=>lin [] [a.snd,b.snd] (.g V0 V1) [.g V0 V1] rfl T) (λT=>lin [] [b.snd,a.snd] (.G 0 V1 V0) [.g V0 V1,.h V1 V0] rfl O T.1))⟩
noncomputable def Bl(l:List (Sp×Sp)):List Sp:=l.flatMap λq=>[q.1,q.2]
theorem F8(h:FU a b=true):FU b a≠true:=λh'=>by
 have h:=ordB_iff.mp h;have h':=ordB_iff.mp h';exact h.elim (λz=>h'.elim (λO=>lin [] [a.snd,b.snd] .no [.g V0 V1,.g V1 V0] rfl z O) (λO=>lin [] [a.snd,b.snd] .no [.g V0 V1,.h V1 V0] rfl z O.1)) (λz=>h'.elim (λO=>lin [] [a.snd,b.snd] .no [.h V0 V1,.g V1 V0] rfl z.1 O) (λO=>lin [] [a.fst,b.fst] .no [.g V0 V1,.g V1 V0] rfl z.2 O.2))
theorem ordB_tot(h:a≠b):FU a b=true\/FU b a=true:=by
 rw[ordB_iff,ordB_iff]
 rcases Int.lt_trichotomy a.2 b.2 with e|e|e
 .exact .inl (.inl e)
 .exact(aX λz=>h (cH z e)).elim (λz=>.inl (.inr ⟨e,z⟩)) λz=>.inr (.inr ⟨e.symm,z⟩)
 .exact .inr (.inl e)
theorem Gz{m:Sp->Sp}:∀{l:List Sp},l.Nodup->(∀a∈l,FU a (m a)=true/\m (m a)=a)->(Bl (l.map λc=>(c,m c))).Nodup
 |[],_,_=>.nil
 |a::l,nd,h=>by
  rw[bF]at nd;refine Aq (h a (.head _)) λT d=>?_;have ih:=Gz nd.2 λb Y=>h b (.tail _ Y);show ([a,m a]++Bl (l.map λc=>(c,m c))).Nodup;have ne:a≠m a:=λe=>by have:=ordB_iff.mp T;rw[<- e]at this;exact this.elim (λO=>lin [] [a.snd] .no [.g V0 V0] rfl O) (λO=>lin [] [a.fst] .no [.g V0 V0] rfl O.2)
  have key:∀x,x=a\/x=m a->∀b∈l,x=b\/x=m b->False:=λx U b Y u=>by
   refine Aq (h b (.tail _ Y)) λB b2=>?_;have ab:a≠b:=λe=>nd.1 (e▸Y)
   rcases U with rfl|rfl<;>rcases u with e|e
   .exact ab e
   .rw[e,b2]at T;exact F8 T B
   .rw[<- e,d]at B;exact F8 T B
   .exact ab (by rw[<- d,e,b2])
  refine bn.mpr ⟨bF.mpr ⟨λq=>ne (aD.mp q),bF.mpr ⟨bB,fG⟩⟩,ih,λx U y u e=>?_⟩;subst e;refine X1pp (dR.mp u) λq hq u=>?_;obtain⟨b,Y,rfl⟩:=aY.mp hq;refine key x ?_ b Y ?_
  .rcases aA.mp U with z|z
   .exact .inl z
   .exact .inr (aD.mp z)
  .rcases aA.mp u with z|z
   .exact .inl z
   .exact .inr (aD.mp z)
end
section
set_option tactic.hygienic true in
theorem IJ{K:KS}(J:List α->List α->M->LS->Prop)(y:∀d m V,J d [] m V->K .next m V)
  (hs:∀d x r m V,J d (x::r) m V->∀C:M->LS->Prop,(∀O z,J (d++[x]) r O z->C O z)->patW q p (g x) m (λAp=>body Ap V (DX ok V C K))):∀{r d:List α}{m:M}{V:LS},J d r m V->Hw q p body ok K (r.map g) m V
 |[],d,m,V,h=>y d m V h
 |x::r,d,m,V,h=>hs d x r m V h (Hw q p body ok K (r.map g)) λO z h=>IJ J y hs h
set_option tactic.hygienic true in
theorem AY{K:KS}{items:List AV}{r d:List α}{m:M}{V:LS}(e:items=r.map g)(J:List α->List α->M->LS->Prop)(y:∀d m V,J d [] m V->K .next m V)
  (hs:∀d x r m V,J d (x::r) m V->∀C:M->LS->Prop,(∀At Ab,J (d++[x]) r At Ab->C At Ab)->patW q p (g x) m (λAp=>body Ap V (DX ok V C K))) (h:J d r m V):Hw q p body ok K items m V:=by
 rw[e];exact IJ J y hs h
theorem ifT(e:b=true)(h:A):ifW b A B:=by subst e;exact h
theorem ifF(e:b=false)(h:B):ifW b A B:=by subst e;exact h
theorem ifB(h:b=true->A)(h':b=false->B):ifW b A B:=by
 cases b with|true=>exact h rfl|false=>exact h' rfl
def AllU(P:Nat->Prop):Nat->Nat->Prop
 |_,0=>True
 |i,k+1=>P i/\AllU P (i+1) k
theorem AllU.at:∀{k i j:Nat},AllU P i k->i<=j->j<i+k->P j
 |0,i,j,_,h1,h2=>absurd h2 (Nat.not_lt_of_le h1)
 |k+1,i,j,a,h1,h2=>(Nat.lt_or_eq_of_le h1).elim (λq=>AllU.at a.2 q (by rwa [Nat.add_right_comm])) λq=>q▸a.1
@[elab_as_elim] theorem upN{motive:Nat->Prop}(i k:Nat)(h:i<k)(a:AllU motive 0 k):motive i:=AllU.at a (cL i) (by rwa [fB])
noncomputable def tt(l:List Al):List (Al×AV):=l.map λp=>(p,.bool true)
theorem B6(l:List Al)(k:Al):(By (tt l) k).isSome=decide (k∈l):=by
 unfold By tt;rw[Option.isSome_map]
 induction l with
 |nil=>rfl
 |cons x r y =>
  rw[bp,dA]
  by_cases e:x=k
  .clear y;subst e;simp
  .have:decide (x=k)=false:=decide_eq_false e
   simp only[this];rw[y];simp[dC e]
theorem in_tt:InV V (sp k) (.dict (tt P)) (decide (k∈P)):=B6 P k
theorem in_ttl(e:slot V i=.at a (.dict (tt P))):InV V (sp k) (.loc a i) (decide (k∈P)):=by
 unfold InV;simp only[e];exact⟨trivial,B6 P k⟩
theorem HE(h:k∉l):Bx (tt l) k (.bool true)=tt (l++[k]):=by
 unfold Bx;rw[B6,decide_eq_false h,if_neg (by decide)]
 unfold tt;rw[aQ];rfl
theorem BZ(l:List Al):(tt l).length=l.length:=by unfold tt;rw[aj]
end
section
noncomputable def c_near:As:=⟨[0x3a8001c0000e200074,121,122],1,[.assign (.tup [.v 1,.v 2]) (.v 0),.ret (.list [.tup [.v 1,.bin .Sub (.v 2) (.int 1)],.tup [.bin .Sub (.v 1) (.int 1),.v 2],.tup [.bin .Add (.v 1) (.int 1),.v 2],.tup [.v 1,.bin .Add (.v 2) (.int 1)]])]⟩
noncomputable def c_spread:As:=⟨[0x750003a0001cc000d400067,0x330001b8000e000074,0x65000378001d8000e000067,0x1a0000de0006a0003a8001a8000c400078,0x3a8001c0000e200074],2,[.assign (.v 2) (.mu 4 (.dict [.v 0] [.bool true])),.assign (.v 3) (.mu 5 (.list [.v 0])),.while_ (.cmp .Gt (.call (.g 0) [.v 3]) (.int 0)) [.for_ (.v 4) (.call (.g 34) [.meth (.v 3) 1 []]) [.ite (.and [.cmp .In (.v 4) (.v 1),.cmp .NotIn (.v 4) (.v 2)]) [.setitem (.v 2) (.v 4) (.bool true),.expr (.meth (.v 3) 0 [.v 4])] []]],.ret (.v 2)]⟩
noncomputable def spot1?(avs:List AV):Option Al:=(one? avs).bind spot?
theorem spot1?_out(h:spot1? avs=some k):avs=[sp k]:=by
 refine X1pp (AF h) λa Y h=>?_;rw[one?_out Y,spot?_out h]
noncomputable def Ma:FS:=⟨λavs=>(spot1? avs).bind λk=>some (.list ((A3 k).map sp)),λZ Z Z Z=>False,false⟩
theorem near_ok:M0 ⟨true,ex,[],[],[]⟩ c_near .val 2 0 Ma:=by
 refine⟨λZ Z Z Z h=>h.elim,λy v h K U=>?_⟩;obtain⟨k,Y,h⟩:=AF h;obtain rfl:=ae h;obtain rfl:=spot1?_out Y;exact⟨rfl,U⟩
theorem Fs(h:n<=10000):n<=big:=aw h (by decide)
theorem Dfs.len(h:Gx k fs ws<=n):ws.length<=n:=by unfold Gx at h;exact lin [k+1 - fs.length,ws.length,n] [] (.b V1 V2) [.b (.A (.M 2 V0) V1) V2] rfl h
noncomputable def spM(p:Al)(v:AV)(a1 a2:Addr)(x:Option AV):M:=[some (sp p),some v,some (.loc a1 4),some (.loc a2 5),x]
noncomputable def spS(b0:Slot)(a1 a2:Addr)(F:List (Al×AV))(W:List AV)(tl:LS):LS:=b0::.no::.no::.no::.at a1 (.dict F)::.at a2 (.list W)::tl
inductive SpJ(P:List Al)(p:Al)(v:AV)(a1 a2:Addr)(b0:Slot)(tl:LS):Nat->M->LS->Prop
 |mk (fs ws:List Al)(x:Option AV)(F:List (Al×AV))(W:List AV)(hd:Dfs (nearN P) (M2 P p) p fs ws)(hM:Gx P.length fs ws<=2 * (P.length+1)+1)(eF:F=tt fs)(eW:W=ws.map sp):SpJ P p v a1 a2 b0 tl (Gx P.length fs ws) (spM p v a1 a2 x) (spS b0 a1 a2 F W tl)
inductive SpI(P:List Al)(p:Al)(v:AV)(a1 a2:Addr)(b0:Slot)(tl:LS)(e:Al)(n:Nat)(d r:List Al):M->LS->Prop
 |mk (fs ws:List Al)(x:Option AV)(F:List (Al×AV))(W:List AV)(hd:DfsAt (nearN P) (M2 P p) p fs ws e r)(hM:Gx P.length fs ws<n)(hr:∀c∈r,c∈A3 e)(eF:F=tt fs)(eW:W=ws.map sp):SpI P p v a1 a2 b0 tl e n d r (spM p v a1 a2 x) (spS b0 a1 a2 F W tl)
theorem G6{KK:KS}{a1 a2:Addr}{n:Nat}{m:M}{V:LS}(hP:P.length<=1000)(hn:n<=2 * (P.length+1)+1)(Y:∀(k:Al)(τ:LS),InV (b0::τ) (sp k) v (decide (k∈P)))
  (j:SpI P p v a1 a2 b0 tl e n d (c::r) m V) (C:M->LS->Prop) (hC:∀At Ab,SpI P p v a1 a2 b0 tl e n (d++[c]) r At Ab->C At Ab) :
  patW true (.v 4) (sp c) m (λAp=>wpSs ⟨true,ex,[(34,Ma)],[],[]⟩ [.ite (.and [.cmp .In (.v 4) (.v 1),.cmp .NotIn (.v 4) (.v 2)]) [.setitem (.v 2) (.v 4) (.bool true),.expr (.meth (.v 3) 0 [.v 4])] []] X Ap V (DX aa V C KK)):=by
 induction j using SpI.casesOn with
 |mk fs ws x F W y O hr U eW =>
  have u:∀c∈r,c∈A3 e:=λc z=>hr c (.tail _ z)
  by_cases h1:c∈P
  .refine⟨_,Y c _,ifT (decide_eq_true h1) ⟨_,⟨rfl,by rw[U];exact B6 fs c⟩,?_⟩⟩
   by_cases T:c∈fs
   .rw[decide_eq_true T]
    exact hC _ _ (.mk fs ws _ F W (y.skip λZ=>T) O u U eW)
   .rw[decide_eq_false T]
    have hf:=Kq y.nd y.rc;have hw:=Dfs.len (aw (c9 O) hn);refine⟨rfl,by rw[U,BZ];exact Fs (lin [P.length,fs.length] [] (.b V1 Ja) [.b V0 AL,.b V1 (.A V0 K1)] rfl hP hf),rfl,rfl,by rw[eW,aj];exact Fs (lin [P.length,ws.length] [] (.b V1 Ja) [.B 2 V0 AL,.b V1 (.A (.M 2 (.A V0 K1)) K1)] rfl hP hw),?_⟩
    have pu:=y.push (.step (y.rc e y.he) (hr c (.head _)) h1) T;exact hC _ _ (.mk (fs++[c]) (ws++[c]) _ _ _ pu (dZ (Gw (Kq pu.nd pu.rc)) O) u (by rw[U,HE T]) (by rw[eW,aQ];rfl))
  .exact⟨_,Y c _,ifF (decide_eq_false h1) (hC _ _ (.mk fs ws _ F W (y.skip λq=>absurd q.2 h1) O u U eW))⟩
theorem DK{KK:KS}(hP:P.length<=1000)(hin:∀(k:Al)(τ:LS),InV (b0::τ) (sp k) v (decide (k∈P)))
  (hK:∀fs a1 y m,Comp P p fs->KK (.ret (.loc a1 4)) m (b0::.no::.no::.no::.at a1 (.dict (tt fs))::.at y (.list [])::tl)) :
  wpSs ⟨true,ex,[(34,Ma)],[],[]⟩ c_spread.body X [some (sp p),some v,aa,aa,aa] (b0::.no::.no::.no::.no::.no::tl) KK:=by
 refine λa1 y=>⟨SpJ P p v a1 y b0 tl,⟨_,.mk [p] [p] _ _ _ (Dfs.start .refl) (by unfold Gx;rw[bz];exact lin [P.length+1 - 1,P.length] [] (.b (.A (.M 2 V0) K1) (.A (.M 2 (.A V1 K1)) K1)) [.B 2 V0 (.A V1 K1)] rfl (eY (P.length+1) (1))) rfl rfl⟩,λn m V j=>?_⟩
 induction j using SpJ.casesOn with
 |mk fs ws x F W hd Y eF U =>
  have O:W.length<=big:=by rw[U,aj];exact Fs (aw (Dfs.len Y) (lin [P.length] [] (.b (.A (.M 2 (.A V0 K1)) K1) Ja) [.B 2 V0 AL] rfl hP))
  refine⟨rfl,O,?_⟩
  rcases List.eq_nil_or_concat ws with rfl|⟨w,e,rfl⟩
  .subst eF;clear O;subst U
   exact hK fs a1 y _ hd.end_
  .rw[ej]at hd Y ⊢
   rw[ej,aQ]at U;have l1:(w++[e]).length=w.length+1:=an;refine ifT (decide_eq_true (by rw[U,an];exact iI.mpr (gx _))) ⟨rfl,rfl,O,sp e,by rw[U];exact List.getLast?_concat,AY (g:=sp) rfl (SpI P p v a1 y b0 tl e (Gx P.length fs (w++[e]))) (λd m τ j=>?_) (λd c r m τ j C hC=>G6 hP Y hin j C hC) (d:=[]) (.mk fs w _ _ _ (hd.pop λc z=>z.1) (by unfold Gx;rw[l1];exact lin [P.length+1 - fs.length,w.length] [] (.c (.A (.M 2 V0) V1) (.A (.M 2 V0) (.A V1 K1))) [] rfl) (λZ z=>z) eF (by rw[U];exact List.dropLast_concat))⟩
   induction j using SpI.casesOn with|mk fs' T x' F' W' hd' u _ eF' eW'=>exact⟨_,u,.mk fs' T _ _ _ hd'.done (aw (c9 u) Y) eF' eW'⟩
inductive QR(avs:List AV)(V:LS)(K:KR):Prop
 |mk (p:_)(P:List Sp)(c0:P.length<=1000)(c1:((avs=[sp p,.dict (tt P)]/\V=[]/\∀fs,Comp P p fs->K ⟨[.dict (tt fs)],.new 0⟩ [])\/∃a,avs=[sp p,.loc a 0]/\V=[.at a (.dict (tt P))]/\∀fs,Comp P p fs->K ⟨[.dict (tt fs)],.new 0⟩ [.at a (.dict (tt P))])):QR avs V K
noncomputable def L8:FS:=⟨λZ=>aa,λavs V K X=>QR avs V K,false⟩
theorem Kj{ex:List Nat}:M0 ⟨true,ex,[(34,Ma)],[],[]⟩ c_spread .new 3 6 L8:=by
 refine⟨λy V K X h=>?_,λy v h K U=>by exact nS h⟩
 obtain⟨p,P,d,⟨rfl,rfl,U⟩|⟨a,rfl,rfl,U⟩⟩:=h
 .exact⟨rfl,DK d (λk τ=>in_tt) λfs a1 z m h=>⟨rfl,U fs h⟩⟩
 .exact⟨rfl,DK d (λk τ=>in_ttl rfl) λfs a1 z m h=>⟨rfl,U fs h⟩⟩
end
section
def M4(d:Nat)(a:AV):Prop:=∃p,G0 a=some p/\p.canLay0=true/\p.depth<=d
theorem M4.mono(h:M4 d a)(le:d<=e):M4 e a:=by
 refine X1ppp h λp Y z B=>?_;exact⟨p,Y,z,aw B le⟩
theorem M4.eq(h:M4 d a)(le:d<=64):EqP a a true:=by
 refine X1ppp h λp Y z B=>?_;have s:d4 p=true:=by
  unfold d4;rw[z,decide_eq_true (aw B le)];rfl
 exact .py ⟨p,p,Y,Y,s,s,PySem.SeqAt.eqv_refl p z⟩
theorem M4.all:∀{l:List AV},(∀x∈l,M4 d x)->∃ps,DI l=some ps/\cC ps=true/\cr ps<=d
 |[],_=>⟨[],rfl,by simp[cC],by simp[cr]⟩
 |x::l,h=>by
  refine X1ppp (h x (.head _)) λp U z Y=>X1ppp (M4.all λy u=>h y (.tail _ u)) λps O B T=>⟨p::ps,?_,?_,?_⟩
  .show (G0 x).bind _=_
   rw[U,O];rfl
  .rw[cC,z,B];rfl
  .rw[cr];exact Nat.max_le.mpr ⟨Y,T⟩
theorem M4.list(h:∀x∈l,M4 d x):M4 (d+1) (.list l):=by
 refine X1ppp (M4.all h) λps y B T=>⟨.list ps,?_,?_,?_⟩
 .show (DI l).map _=_
  rw[y];rfl
 .rwa [dT]
 .rw[fH];exact lin [cr ps,d] [] (.b (.A V0 K1) (.A V1 K1)) [.b V0 V1] rfl T
theorem M4.tup(h:∀x∈l,M4 d x):M4 (d+1) (.tup l):=by
 refine X1ppp (M4.all h) λps y B T=>⟨.tuple ps,?_,?_,?_⟩
 .show (DI l).map _=_
  rw[y];rfl
 .rwa [dT]
 .rw[fH];exact lin [cr ps,d] [] (.b (.A V0 K1) (.A V1 K1)) [.b V0 V1] rfl T
theorem M4.int(i:Int):M4 0 (.int i):=⟨.int i,rfl,by simp[dT],by simp[fH]⟩
theorem M4.bool(b:Bool):M4 0 (.bool b):=⟨.bool b,rfl,by simp[dT],by simp[fH]⟩
theorem M4.none:M4 0 .none:=⟨.none,rfl,by simp[dT],by simp[fH]⟩
theorem M4.sp(k:Al):M4 1 (sp k):=M4.tup λx u=>by
 rcases aA.mp u with rfl|u
 .exact M4.int _
 .rw[aD.mp u];exact M4.int _
noncomputable def Fd(k:Al):PyData:=.tuple [.int k.1,.int k.2]
theorem IP(a b:Al):eV (Fd a) (Fd b)=decide (a=b):=by
 obtain⟨a1,T⟩:=a;obtain⟨z,B⟩:=b;have e:∀x y:Int,(x == y)=decide (x=y):=λZ Z=>rfl;simp[Fd,eV,PyData.eqvAll,Prod.ext_iff,e]
theorem any_sp(P:List Al)(k:Al):((P.map Fd).any λy=>eV y (Fd k))=decide (k∈P):=by
 induction P with
 |nil=>rfl
 |cons a P u =>
  rw[bp,fZ,IP,u]
  by_cases e:a=k
  .clear u;subst e;simp
  .simp[e,dC e]
theorem toPyL_sp(P:List Al):DI (P.map sp)=some (P.map Fd):=by
 induction P with|nil=>rfl|cons k P y=>show (G0 (sp k)).bind _=_;rw[y];rfl
theorem lay_sp(P:List Al):cC (P.map Fd)=true:=by
 induction P with|nil=>rfl|cons k P y=>rw[bp,cC,y];simp[Fd,dT,cC]
theorem InP.spots(P:List Al)(k:Al):InP (sp k) (.list (P.map sp)) (decide (k∈P)) :=
 ⟨Fd k,P.map Fd,rfl,.inl (by show (DI _).map _=_;rw[toPyL_sp];rfl),lay_sp P,by simp[Fd,dT,cC],by simp[Fd,fH,cr],any_sp P k⟩
end
section
noncomputable def Mw:As:=⟨[0x68000378001a8000d200075],1,[.ret (.and [.call (.g 1) [.v 0,.g 2],.not (.call (.g 1) [.v 0,.g 3])])]⟩
noncomputable def c_spot:As:=⟨[0x68000378001a8000d200075],1,[.ret (.and [.call (.g 1) [.v 0,.g 4],.cmp .Eq (.call (.g 0) [.v 0]) (.int 2),.call (.g 30) [.sub (.v 0) (.int 0)],.call (.g 30) [.sub (.v 0) (.int 1)]])]⟩
noncomputable def EU:As:=⟨[0x3a8001c0000e200074],1,[.ret (.tup [.sub (.v 0) (.int 1),.sub (.v 0) (.int 0)])]⟩
noncomputable def GH:As:=⟨[0x368001b4000cc00064],1,[.ret (.cmp .Eq (.bin .Mod (.bin .Add (.sub (.v 0) (.int 0)) (.sub (.v 0) (.int 1))) (.int 2)) (.int 0))]⟩
noncomputable def My:As:=⟨[0x338001b4000cc00074,0x6600032000188000da00071],2,[.ret (.and [.call (.g 31) [.v 1],.cmp .In (.v 1) (.attr (.v 0) 12)])]⟩
noncomputable def I7:As:=⟨[0x338001b4000cc00074],1,[.ret (.mu 4 (.call (.g 5) [.attr (.v 0) 12]))]⟩
noncomputable def EX:As:=⟨[0x1d4000e20006a00039800190000e8000600003c000188000da00060,0xd8000600003c000188000da00060],2,[.ite (.cmp .Lt (.v 1) (.call (.g 0) [.v 0])) [.ret (.sub (.v 0) (.v 1))] [],.ret (.int 0)]⟩
noncomputable def I3:As:=⟨[0x1cc000cc00063000370001d8000de000600003c000188000da00060,0xd8000600003c000188000da00060],2,[.ret (.bin .Mod (.bin .Add (.bin .Add (.bin .Mult (.v 0) (.int 48271)) (.bin .Mult (.int 7919) (.v 1))) (.int 11)) (.int 2147483647))]⟩
noncomputable def I4:As:=⟨[0xe600070000398001cc000cc000600003c000188000da00060,0xca0006f0003b0001c0000ce000600003c000188000da00060],1,[.assign (.v 1) (.list [.call (.g 1) [.v 0,.g 19],.call (.g 1) [.v 0,.g 20],.call (.g 1) [.v 0,.g 21]]),.assign (.v 1) (.bin .Add (.v 1) (.list [.call (.g 1) [.v 0,.g 22],.call (.g 1) [.v 0,.g 23],.call (.g 1) [.v 0,.g 24]])),.assign (.v 1) (.bin .Add (.v 1) (.list [.call (.g 1) [.v 0,.g 25],.call (.g 1) [.v 0,.g 26],.call (.g 1) [.v 0,.g 27]])),.ret (.bin .Add (.v 1) (.list [.call (.g 1) [.v 0,.g 18],.call (.g 1) [.v 0,.g 17]]))]⟩
noncomputable def I6:As:=⟨[0xe600070000398001cc000cc000600003c000188000da00060,0xcc00064000310001b4000e2000600003c000188000da00060,0xd8000600003c000188000da00060],2,[.ret (.cmp .Eq (.call (.g 78) [.v 0]) (.comp (.or [.cmp .Eq (.v 2) (.v 1),.cmp .Gt (.v 2) (.int 8)]) 2 (.call (.g 8) [.int 11]) []))]⟩
noncomputable def I2:As:=⟨[0xcc00064000310001b4000e2000600003c000188000da00060],1,[.ret (.tup [.sub (.v 0) (.int 1),.sub (.v 0) (.int 0)])]⟩
theorem An(h:n<=1000):n<=big:=by unfold big;exact lin [n] [] (.b V0 AC) [.b V0 AL] rfl h
noncomputable def pureF(f:List AV->Option AV):FS:=⟨f,λZ Z Z Z=>False,false⟩
noncomputable def specF(f:List AV->LS->KR->XL->Prop):FS:=⟨λZ=>aa,f,false⟩
theorem M0.pureF(h:∀avs v,f avs=some v->∀K:KR,K ⟨[],.val v⟩ []->fnW Φ c .val nv ns avs [] K BV):M0 Φ c .val nv ns (pureF f):=⟨λZ Z Z Z h=>h.elim,h⟩
theorem M0.specF(h:∀avs V K X,f avs V K X->fnW Φ c rs nv ns avs V K X):M0 Φ c rs nv ns (specF f):=⟨h,λZ Z h=>by exact nS h⟩
noncomputable def whole?:AV->Option Bool
 |.int _=>some true
 |.bool _=>some false
 |.str _=>some false
 |_=>aa
noncomputable def fWhole:FS:=pureF λavs=>(one? avs).bind λa=>(whole? a).bind λb=>some (.bool b)
theorem whole_ok:M0 ⟨true,ex,[],[],[]⟩ Mw .val 0 0 fWhole:=by
 refine .pureF λy v h K U=>X1pp (AF h) λa Y h=>X1pp (AF h) λb z h=>?_;obtain rfl:=ae h;obtain rfl:=one?_out Y
 cases a<;>first|(obtain rfl:=ae z;exact⟨rfl,U⟩)|cases z
inductive Odd:AV->Prop
 |none:Odd .none
 |str (s:Str):Odd (.str s)
 |list (l:List AV):Odd (.list l)
 |dict (l:List (Al×AV)):Odd (.dict l)
 |one (x:Int):Odd (.tup [.int x])
 |bi (b:Bool)(x:Int):Odd (.tup [.bool b,.int x])
 |is (x:Int)(s:Str):Odd (.tup [.int x,.str s])
 |three (x y z:Int):Odd (.tup [.int x,.int y,.int z])
theorem Odd.ix(h:Odd v):AN [v]=[]/\∀n,A8 [v] n=[v]:=by
 induction h using Odd.casesOn<;>exact⟨rfl,λZ=>rfl⟩
inductive QQ(avs:List AV)(V:LS)(K:KR):Prop
 |mk (v:_)(c0:avs=[v])(c1:V=[])(c2:((∃k,v=sp k/\K ⟨[],.val (.bool true)⟩ [])\/(Odd v/\K ⟨[],.val (.bool false)⟩ []))):QQ avs V K
noncomputable def fSpot:FS:=specF λavs V K Z=>QQ avs V K
theorem spot_ok:M0 ⟨true,ex,[(30,fWhole)],[],[]⟩ c_spot .val 0 0 fSpot:=by
 refine .specF λy V K X h=>?_;obtain⟨v,rfl,rfl,⟨k,rfl,U⟩|⟨o,U⟩⟩:=h
 .exact⟨rfl,An (aP rfl),U⟩
 .induction o using Odd.casesOn<;>first|exact⟨rfl,U⟩|exact⟨rfl,An (aP rfl),U⟩
theorem ownW_no{mu:Option Nat}{K:KV}{X:XL}(Y:AN avs=[])(z:A8 avs 0=avs)(h:f avs [] (λr V'=>D1 mu r V K) (λc V'=>X c V)):Ch (specF f) mu avs V K X:=by
 show (match Ik (AN avs)with
  |true=>f (A8 avs 0) ((AN avs).map (slot V)) (λr V'=>D1 mu r (wb V (AN avs) V') K) (λc V'=>X c (wb V (AN avs) V'))
  |false=>False)
 rw[Y,z];exact h
theorem Odd.own1{mu:Option Nat}{K:KV}{X:XL}(o:Odd v)(h:f [v] [] (λr V'=>D1 mu r V K) (λc V'=>X c V)):Ch (specF f) mu [v] V K X:=ownW_no o.ix.1 (o.ix.2 0) h
theorem Odd.own2{mu:Option Nat}{K:KV}{X:XL}(o:Odd v)(h:f [.inst fs,v] [] (λr V'=>D1 mu r V K) (λc V'=>X c V)):Ch (specF f) mu [.inst fs,v] V K X :=
 ownW_no (show AN [v]=[] from o.ix.1) (congrArg (AV.inst fs::·) (o.ix.2 0)) h
noncomputable def keyF(avs:List AV):Option AV:=(spot1? avs).bind λk=>some (sp (k.2,k.1))
theorem M0.spot{g:Al->AV}(h:∀(k:Al)(K:KR),K ⟨[],.val (g k)⟩ []->fnW Φ c .val nv ns [sp k] [] K BV):M0 Φ c .val nv ns (Internal.pureF λy=>(spot1? y).bind λk=>some (g k)) :=
 .pureF λy v e K U=>by
  refine X1pp (AF e) λk Y e=>?_;obtain rfl:=ae e;obtain rfl:=spot1?_out Y;exact h k K U
theorem EE:M0 ⟨true,ex,[],[],[]⟩ EU .val 0 0 (pureF keyF):=.spot λk K U=>⟨rfl,U⟩
theorem Lo:M0 ⟨true,ex,[],[],[]⟩ I2 .val 0 0 (pureF keyF):=.spot λk K U=>⟨rfl,U⟩
noncomputable def fDark:FS:=pureF λavs=>(spot1? avs).bind λk=>some (.bool ((k.1+k.2).fmod 2 == 0))
theorem dark_ok:M0 ⟨true,ex,[],[],[]⟩ GH .val 0 0 fDark:=.spot λk K U=>⟨rfl,U⟩
noncomputable def EK:FS:=pureF λavs=>(two? avs).bind λp=>(int2? p.1 p.2).bind λk=>some (.int ((k.1 * 48271+7919 * k.2+11).fmod 2147483647))
end
section
theorem Di{K:List AV->LS->Prop}{P:α->Bool}{f:α->AV}{V:LS}:∀{r:List α}{O:List AV},
  (∀x∈r,∀(O:List AV)(C:List AV->LS->Prop),(P x=true->C (O++[f x]) V)->(P x=false->C O V)->tst (Ff m i (g x)) V (λb Aa=>ifW b (elt (Ff m i (g x)) Aa (λy z=>stays ok V z (C (O++[y]) z))) (stays ok V Aa (C O Aa)))) ->
  K (O++(r.filter P).map f) V->Ec i elt tst ok m K (r.map g) O V
 |[],O,_,hK=>by rw[iN,List.map_nil,aN]at hK;exact hK
 |x::r,O,h,hK=>h x (.head _) O (λO V=>Ec i elt tst ok m K (r.map g) O V)
  (λe=>Di (λy u=>h y (.tail _ u)) (by rw[fi e,bp]at hK;rwa [aG]))
  (λe=>Di (λy u=>h y (.tail _ u)) (by rw[fj (by rw[e];decide)]at hK;exact hK))
theorem GB{K:List AV->LS->Prop}{P:α->Bool}{f:α->AV}{V:LS}{items:List AV}{r:List α}(e:items=r.map g)
  (h:∀x∈r,∀(O:List AV)(C:List AV->LS->Prop),(P x=true->C (O++[f x]) V)->(P x=false->C O V)->tst (Ff m i (g x)) V (λb Aa=>ifW b (elt (Ff m i (g x)) Aa (λy z=>stays ok V z (C (O++[y]) z))) (stays ok V Aa (C O Aa))))
  (U:K ((r.filter P).map f) V):Ec i elt tst ok m K items [] V:=by
 rw[e];exact Di h U
theorem Jn(h:P):stays ok V V P:=by
 cases ok with|none=>exact h|some i=>exact⟨rfl,h⟩
theorem EO{K:List AV->LS->Prop}{f:α->AV}{V:LS}:∀{r:List α}{O:List AV},
  (∀x∈r,∀C:KV,C (f x) V->elt (Ff m i (g x)) V C)->K (O++r.map f) V->Ec i elt (G2 []) ok m K (r.map g) O V
 |[],O,_,hK=>by rw[List.map_nil,aN]at hK;exact hK
 |x::r,O,h,hK=>h x (.head _) _ (Jn (EO (λy u=>h y (.tail _ u)) (by rwa [aG])))
theorem B9{K:List AV->LS->Prop}{f:α->AV}{V:LS}{items:List AV}{r:List α}(e:items=r.map g)
  (h:∀x∈r,∀C:KV,C (f x) V->elt (Ff m i (g x)) V C) (U:K (r.map f) V):Ec i elt (G2 []) ok m K items [] V:=by
 rw[e];exact EO h U
noncomputable def ivs(a:Int):Nat->List Int
 |0=>[]
 |n+1=>a::ivs (a+1) n
theorem AD(a:Int):∀n,(ivs a n).length=n
 |0=>rfl
 |n+1=>by rw[ivs,aL,AD (a+1) n]
theorem ivs_mem:∀{n:Nat},x∈ivs a n↔a<=x/\x<a+n
 |0=>by simp[ivs]
 |n+1=>by rw[ivs,aA,ivs_mem (n:=n)];exact⟨λy=>⟨y.elim (λO=>lin [] [x,a] (.f V1 V0) [.H (-1) V0 V1] rfl O) (λO=>lin [] [a,x] (.f V0 V1) [.f (.A V0 K1) V1] rfl O.1),y.elim (λO=>lin [n] [x,a] (.g V0 (.A V1 (.c (.A V0 K1)))) [.h V0 V1] rfl O) (λO=>lin [n] [x,a] (.g V0 (.A V1 (.c (.A V0 K1)))) [.g V0 (.A (.A V1 K1) (.c V0))] rfl O.2)⟩,λy=>cb λO=>(aX (λz=>O (.inl z))).elim (λT=>lin [] [a,x] .no [.f V0 V1,.g V1 V0] rfl y.1 T) (λT=>(ba.mp (λz=>O (.inr z))).elim (λY=>lin [] [a,x] .no [.g V0 V1,.k (.A V0 K1) V1] rfl T Y) (λY=>lin [n] [x,a] .no [.g V0 (.A V1 (.c (.A V0 K1))),.l V0 (.A (.A V1 K1) (.c V0))] rfl y.2 Y))⟩
theorem Dn:∀(n:Nat)(a:Int),A1 a 1 n=(ivs a n).map .int
 |0,_=>rfl
 |n+1,a=>by
  unfold A1;rw[List.range_succ_eq_map,bp,bc];have y:=Dn n (a+1);unfold A1 at y;rw[ivs,bp,<- y]
  congr 1
  .simp
  .apply cJ
   intro i _;simp only[Function.comp_def]
   congr 1
   exact ah (lin [i] [a] (.f (.A V0 (.M 1 (.c (.A V0 K1)))) (.A (.A V0 K1) (.M 1 (.c V0)))) [] rfl) (lin [i] [a] (.f (.A (.A V0 K1) (.M 1 (.c V0))) (.A V0 (.M 1 (.c (.A V0 K1))))) [] rfl)
theorem EC(a b:Int):aT a b 1=max (b - a) 0:=by
 unfold aT;rw[if_pos (show (1:Int) > 0 by decide)]
 by_cases q:a<b
 .rw[if_pos q,Int.ediv_one];exact ah (lin [] [b,a,max (b - a) 0] (.f (.A (.S (.S V0 V1) K1) K1) V2) [.f (.S V0 V1) V2] rfl (Int.le_max_left (b - a) (0))) ((CA (b - a) (0)).elim (λz=>lin [] [max (b - a) 0,b,a] (.f V0 (.A (.S (.S V1 V2) K1) K1)) [.h V0 (.S V1 V2)] rfl z) (λz=>lin [] [a,b,max (b - a) 0] (.f V2 (.A (.S (.S V1 V0) K1) K1)) [.g V0 V1,.h V2 K0] rfl q z))
 .rw[if_neg q];exact ah (lin [] [max (b - a) 0] (.f K0 V0) [.f K0 V0] rfl (dr (b - a) (0))) ((CA (b - a) (0)).elim (λz=>lin [] [a,b,max (b - a) 0] (.f V2 K0) [.l V0 V1,.h V2 (.S V1 V0)] rfl q z) (λz=>lin [] [max (b - a) 0] (.f V0 K0) [.h V0 K0] rfl z))
theorem KC(a b:Int):A1 a 1 (Bd a b 1)=(ivs a (b - a).toNat).map .int:=by
 have e:Bd a b 1=(b - a).toNat:=by
  unfold Bd;rw[EC];exact ax ((HY (b - a)).elim (λz=>(CA (b - a) (0)).elim (λO=>lin [(b - a).toNat,(max (b - a) 0).toNat] [b,a,max (b - a) 0] (.b V1 V0) [.f (.S V0 V1) (.c V0),.h (.c V1) V2,.h V2 (.S V0 V1)] rfl (aK (b - a)) (ao (lin [] [max (b - a) 0] (.f K0 V0) [.f K0 V0] rfl (dr (b - a) (0)))) O) (λO=>lin [(max (b - a) 0).toNat,(b - a).toNat] [max (b - a) 0] (.b V0 V1) [.h (.c V0) V0,.h V0 K0] rfl (ao (lin [] [max (b - a) 0] (.f K0 V0) [.f K0 V0] rfl (dr (b - a) (0)))) O)) (λz=>(CA (b - a) (0)).elim (λO=>lin [(max (b - a) 0).toNat,(b - a).toNat] [max (b - a) 0,b,a] (.B 0 V0 V1) [.f K0 V0,.g (.S V1 V2) K0,.h V0 (.S V1 V2)] rfl (dr (b - a) (0)) z.1 O) (λO=>lin [(max (b - a) 0).toNat,(b - a).toNat] [max (b - a) 0] (.b V0 V1) [.h (.c V0) V0,.h V0 K0] rfl (ao (lin [] [max (b - a) 0] (.f K0 V0) [.f K0 V0] rfl (dr (b - a) (0)))) O))) ((HY (b - a)).elim (λz=>lin [(max (b - a) 0).toNat,(b - a).toNat] [max (b - a) 0,b,a] (.b V1 V0) [.f V0 (.c V0),.f (.S V1 V2) V0,.h (.c V1) (.S V1 V2)] rfl (aK (max (b - a) 0)) (Int.le_max_left (b - a) (0)) z.2) (λz=>lin [(b - a).toNat,(max (b - a) 0).toNat] [] (.b V0 V1) [.d V0 K0] rfl z.2))
 rw[e,Dn]
theorem B2(Y:-1000000<=a)(U:a<=1000000)(B:-1000000<=b)(d:b<=1000000):cz a b 1=true:=by
 have T:∀i:Int,-10000000<=i->i<=10000000->gy i=true:=λi Y U=>by
  unfold gy;rw[bh,decide_eq_true_eq,decide_eq_true_eq];exact⟨de (by decide) Y,eX U (by decide)⟩
 unfold cz;rw[EC,T a (lin [] [a] (.f Cm V0) [.f Bp V0] rfl Y) (lin [] [a] (.f V0 Cb) [.f V0 AC] rfl U),T b (lin [] [b] (.f Cm V0) [.f Bp V0] rfl B) (lin [] [b] (.f V0 Cb) [.f V0 AC] rfl d),T 1 (by decide) (by decide),T _ (by exact lin [] [max (b - a) 0] (.f Cm V0) [.f K0 V0] rfl (dr (b - a) (0))) (by exact(CA (b - a) (0)).elim (λz=>lin [] [a,b,max (b - a) 0] (.f V2 Cb) [.f Bp V0,.f V1 AC,.h V2 (.S V1 V0)] rfl Y d z) (λz=>lin [] [max (b - a) 0] (.f V0 Cb) [.h V0 K0] rfl z):max (b - a) 0<=10000000)]
 rw[if_pos (show (1:Int) > 0 by decide)]
 rw[T (b+(1 - 1)) (lin [] [b] (.f Cm (.A V0 (.S K1 K1))) [.f Bp V0] rfl B) (lin [] [b] (.f (.A V0 (.S K1 K1)) Cb) [.f V0 AC] rfl d),Bool.or_true]
 rfl
theorem H7(n:Nat):A1 0 1 (Bd 0 n 1)=(ivs 0 n).map .int:=by
 rw[KC,show ((n:Int) - 0).toNat=n by rw[fJ];rfl]
theorem mixed_ok:M0 ⟨true,ex,[],[],[]⟩ I3 .val 0 0 EK:=by
 refine .pureF λy v h K U=>X1pp (AF h) λp Y h=>X1pp (AF h) λk z h=>?_;obtain rfl:=ae h;obtain rfl:=two?_out Y;rw[(int2?_out z).1,(int2?_out z).2];exact⟨rfl,IntMulOk.of_right (by decide +kernel),iD (by decide +kernel),by decide,U⟩
inductive Q3(avs:List AV)(V:LS)(K:KR):Prop
 |mk (l:List Int)(j:Nat)(c0:avs=[.nums l,.int j])(c1:l.length<=1000)(c2:V=[])(c3:K ⟨[],.val (.int (l.getD j 0))⟩ []):Q3 avs V K
noncomputable def fAt:FS:=specF λavs V K Z=>Q3 avs V K
theorem at_ok:M0 ⟨true,ex,[],[],[]⟩ EX .val 0 0 fAt:=by
 refine .specF λy V K X h=>?_;obtain⟨l,j,rfl,Y,rfl,U⟩:=h;refine⟨rfl,An Y,?_⟩
 by_cases z:j<l.length
 .refine ifT (by rw[decide_eq_true_eq];exact lin [j,l.length] [] (.g (.c V0) (.c V1)) [.c V0 V1] rfl z) ⟨⟨lin [j] [] (.f K0 (.c V0)) [] rfl,lin [l.length,j] [] (.g (.c V1) AC) [.b V0 AL,.c V1 V0] rfl Y z⟩,l.getD j 0,?_,U⟩
  rw[show ((j:Int)).toNat=j from rfl,aI z,aE,aI z];rfl
 .refine ifF (by rw[decide_eq_false_iff_not];exact lin [j,l.length] [] (.l (.c V0) (.c V1)) [.j V0 V1] rfl z) ?_
  have:l.getD j 0=0:=by rw[aE,be (by exact lin [j,l.length] [] (.b V1 V0) [.j V0 V1] rfl z)];rfl
  rw[this]at U;exact U
noncomputable abbrev Au(t:AV)(P:List Al):AV:=.inst (FV t (.dict (tt P)))
theorem E9(P:List Al):((tt P).map λp=>sp p.1)=P.map sp:=by unfold tt;rw[bc];rfl
inductive QF(avs:List AV)(V:LS)(K:KR):Prop
 |mk (t:AV)(P:List Sp)(k:_)(b:_)(c0:avs=[Au t P,sp k])(c1:V=[])(c2:decide (k∈P)=b)(c3:K ⟨[],.val (.bool b)⟩ []):QF avs V K
noncomputable def fHas:FS:=specF λavs V K Z=>QF avs V K
theorem has_ok:M0 ⟨true,ex,[(31,fSpot)],[],[]⟩ My .val 0 0 fHas:=by
 refine .specF λy V K X h=>?_;obtain⟨t,P,k,b,rfl,rfl,e,U⟩:=h;exact⟨rfl,_,rfl,rfl,.inl ⟨k,rfl,⟨rfl,rfl⟩,rfl,b,(B6 P k).trans e,U⟩⟩
inductive Q7(avs:List AV)(V:LS)(K:KR):Prop
 |mk (t:AV)(P:List Sp)(c0:avs=[Au t P])(c1:P.length<=1000)(c2:V=[])(c3:K ⟨[.list (P.map sp)],.new 0⟩ []):Q7 avs V K
noncomputable def IN:FS:=specF λavs V K Z=>Q7 avs V K
theorem cells_ok:M0 ⟨true,ex,[],[],[]⟩ I7 .new 0 5 IN:=by
 refine .specF λy V K X h=>?_;obtain⟨t,P,rfl,Y,rfl,U⟩:=h;exact⟨rfl,⟨rfl,rfl⟩,rfl,An (by rwa [BZ]),λa=>⟨rfl,by rw[E9];exact U⟩⟩
end
section
noncomputable def E1:As:=⟨[0x338001b4000cc00074,0x65000378001d8000e000067,121,122,0x3a8001c0000e200074],1,[.assign (.v 1) (.mu 4 (.dict [] [])),.for_ (.tup [.v 2,.v 3]) (.attr (.v 0) 12) [.for_ (.v 4) (.list [.tup [.v 2,.v 3],.tup [.bin .Add (.v 2) (.int 1),.v 3],.tup [.v 2,.bin .Add (.v 3) (.int 1)],.tup [.bin .Add (.v 2) (.int 1),.bin .Add (.v 3) (.int 1)]]) [.setitem (.v 1) (.v 4) (.bool true)]],.ret (.mu 5 (.sorted (.call (.g 5) [.v 1]) (.g 32)))]⟩
noncomputable def ins(fs:List Al)(k:Al):List Al:=if k∈fs then fs else fs++[k]
theorem ins_mem:x∈ins fs k↔x∈fs\/x=k:=by
 unfold ins
 by_cases h:k∈fs
 .rw[if_pos h]
  exact⟨.inl,λq=>q.elim id λe=>e▸h⟩
 .rw[if_neg h,aJ,aD]
theorem LG(n:fs.Nodup):(ins fs k).Nodup:=by
 unfold ins
 by_cases h:k∈fs
 .rwa [if_pos h]
 .rw[if_neg h,bn]
  exact⟨n,bF.mpr ⟨bB,fG⟩,λa ha b z e=>h (by rwa [<- aD.mp z,<- e])⟩
theorem IU(n:fs.Nodup):Bx (tt fs) k (.bool true)=tt (ins fs k):=by
 unfold ins
 by_cases h:k∈fs
 .rw[if_pos h]
  unfold Bx;rw[B6,decide_eq_true h,if_pos rfl];unfold tt;rw[bc];apply cJ;intro x _
  by_cases e:x=k
  .simp[e]
  .simp[e]
 .rw[if_neg h];exact HE h
noncomputable def Bv(k:Al):List Al:=[(k.1,k.2),(k.1+1,k.2),(k.1,k.2+1),(k.1+1,k.2+1)]
noncomputable def BW(P:List Al):List Al:=P.foldl (λfs c=>(Bv c).foldl ins fs) []
theorem BR:∀{ks fs:List Al},x∈ks.foldl ins fs↔x∈fs\/x∈ks
 |[],fs=>by simp
 |k::ks,fs=>by rw[cT,BR,ins_mem,aA,or_assoc]
theorem Bi:∀{ks fs:List Al},fs.Nodup->(ks.foldl ins fs).Nodup
 |[],_,n=>n
 |k::ks,fs,n=>by rw[cT];exact Bi (LG n)
theorem EM:∀{P fs:List Al},x∈P.foldl (λfs c=>(Bv c).foldl ins fs) fs↔x∈fs\/∃c∈P,x∈Bv c
 |[],fs=>by simp
 |p::P,fs=>by
  rw[cT,EM,BR,or_assoc]
  simp
theorem Du:∀{P fs:List Al},fs.Nodup->(P.foldl (λfs c=>(Bv c).foldl ins fs) fs).Nodup
 |[],_,n=>n
 |p::P,fs,n=>by rw[cT];exact Du (Bi n)
theorem cornF_mem:x∈BW P↔∃c∈P,x∈Bv c:=by unfold BW;rw[EM];simp
theorem Ea(P:List Al):(BW P).Nodup:=Du fG
def lt2(a b:Al):Prop:=a.2<b.2\/(a.2=b.2/\a.1<b.1)
theorem Hq(a:Al):¬lt2 a a:=by unfold lt2;exact λz=>z.elim (λO=>lin [] [a.snd] .no [.g V0 V0] rfl O) (λO=>lin [] [a.fst] .no [.g V0 V0] rfl O.2)
theorem lt2_asym(h:lt2 a b):¬lt2 b a:=by unfold lt2 at *;exact λz=>h.elim (λO=>z.elim (λT=>lin [] [a.snd,b.snd] .no [.g V0 V1,.g V1 V0] rfl O T) (λT=>lin [] [a.snd,b.snd] .no [.g V0 V1,.h V1 V0] rfl O T.1)) (λO=>z.elim (λT=>lin [] [a.snd,b.snd] .no [.h V0 V1,.g V1 V0] rfl O.1 T) (λT=>lin [] [a.fst,b.fst] .no [.g V0 V1,.g V1 V0] rfl O.2 T.2))
theorem A7{l:List Al}(h:l.Pairwise lt2):l.Nodup:=h.imp λq e=>by subst e;exact Hq _ q
theorem GY:∀{l k:List Al},l.Pairwise lt2->k.Pairwise lt2->(∀x,x∈l↔x∈k)->l=k
 |[],[],_,_,_=>rfl
 |[],b::k,_,_,h=>by have:=(h b).mpr (.head _);exact nM this
 |a::l,[],_,_,h=>by have:=(h a).mp (.head _);exact nM this
 |a::l,b::k,hl,hk,h=>by
  rw[eZ]at hl hk;have e:a=b:=by
   rcases aA.mp ((h a).mp (.head _))with q|q
   .exact q
   .rcases aA.mp ((h b).mpr (.head _))with z|z
    .exact z.symm
    .exact absurd (hk.1 a q) (lt2_asym (hl.1 b z))
  subst e
  congr 1
  refine GY hl.2 hk.2 λx=>⟨λu=>?_,λu=>?_⟩
  .rcases aA.mp ((h x).mp (.tail _ u))with q|q
   .clear hk h;subst q;exact absurd (hl.1 x u) (Hq _)
   .exact q
  .rcases aA.mp ((h x).mpr (.tail _ u))with q|q
   .clear hl h;subst q;exact absurd (hk.1 x u) (Hq _)
   .exact q
noncomputable def kyF(x:AV):Option Al:=(spot? x).bind λk=>some (k.2,k.1)
theorem lt2_key(h:AQ (Dy kyF (sp a)) (Dy kyF (sp b))=true):lt2 a b:=by
 exact pairLt_iff.mp (show AQ (a.2,a.1) (b.2,b.1)=true from h)
theorem sortW.spots{mu:Option Nat}{fs C:List Al}{V:LS}{K:KV}(n:fs.Nodup)(B:C.Pairwise lt2)(T:∀x,x∈fs↔x∈C)(d:C.length<64)(h:frW mu (.list (C.map sp)) (.list (C.map sp)) V K):sortW kyF mu (fs.map sp) V K:=by
 refine⟨⟨λx u=>by refine X1pp (aY.mp u) λk Z Z0=>?_;subst Z0;rfl,?_,?_⟩,λY O=>?_⟩
 .rwa [aj,same_length n (A7 B) T]
 .rw[bc]
  refine cA.mpr (n.imp λq e=>q ?_);have e:((_,_):Al)=(_,_):=e;exact cH (cE e).2 (cE e).1
 .refine Aq O λp O=>?_
  have:∃D:List Al,Y=D.map sp:=by
   refine⟨Y.map λx=>let k:=Dy kyF x;(k.2,k.1),?_⟩;rw[bc];refine(ie Y).symm.trans (cJ λx u=>(X1pp (aY.mp (p.mem_iff.mp u)) λk Z Z1=>?_));clear u;subst Z1
   rfl
  refine X1p this λD U=>?_;subst U;have y:D.Pairwise lt2:=(cA.mp O).imp lt2_key;have inj:∀a b:Al,sp a=sp b->a=b:=λa b e=>by
   have e:=AV.tup.inj e;exact cH (AV.int.inj (eS e).1) (AV.int.inj (eS (eS e).2).1)
  have:D=C:=GY y B λx=>by
   rw[<- T]
   constructor
   .refine λu=>X1pp (aY.mp (p.mem_iff.mp (cK u))) λk z e=>?_
    rwa [<- inj _ _ e]
   .intro u
    obtain⟨k,z,e⟩:=aY.mp (p.mem_iff.mpr (cK u))
    rwa [<- inj _ _ e]
  clear B T d;subst this;exact h
structure Cor(P C:List Al):Prop where
 up:C.Pairwise lt2
 mem:∀k,k∈C↔∃c∈P,k∈Bv c
 few:C.length<64
theorem Cor.fold(h:Cor P C)(x:Al):x∈BW P↔x∈C:=cornF_mem.trans (h.mem x).symm
theorem CR:∀{ks fs:List Al},(ks.foldl ins fs).length<=fs.length+ks.length
 |[],fs=>az _
 |k::ks,fs=>by
  rw[cT];refine aw CR ?_
  have:(ins fs k).length<=fs.length+1:=by
   unfold ins
   split<;>simp
  rw[aL];exact lin [(ins fs k).length,fs.length,ks.length] [] (.b (.A V0 V2) (.A V1 (.A V2 K1))) [.b V0 (.A V1 K1)] rfl this
theorem JR(d:List Al)(c:Al):BW (d++[c])=(Bv c).foldl ins (BW d):=by unfold BW;rw[ig];rfl
theorem EN:∀{P fs:List Al},(P.foldl (λfs c=>(Bv c).foldl ins fs) fs).length<=fs.length+4 * P.length
 |[],fs=>az _
 |p::P,fs=>by
  rw[cT];refine aw EN ?_
  have:=CR (ks:=Bv p) (fs:=fs)
  have e:(Bv p).length=4:=rfl;rw[aL];exact lin [(iL ins fs (Bv p)).length,fs.length,(Bv p).length,P.length] [] (.b (.A V0 (.M 4 V3)) (.A V1 (.M 4 (.A V3 K1)))) [.b V0 (.A V1 V2),.d V2 K4] rfl this e
theorem GA(P:List Al):(BW P).length<=4 * P.length:=by
 have:=EN (P:=P) (fs:=[])
 unfold BW;rw[c6]at this;exact lin [(iL (λfs c=>iL ins fs (Bv c)) [] P).length,P.length] [] (.b V0 (.M 4 V1)) [.b V0 (.A K0 (.M 4 V1))] rfl this
theorem iterW.tt(h:G (P.map sp) aa V):iterW true (.dict (tt P)) V G:=by
 rw[<- E9]at h;exact h
theorem listW.tt{mu:Option Nat}{K:KV}{a:Addr}{i:Nat}(e:slot V i=.at a (.dict (Internal.tt P)))(Y:P.length<=1000)(h:frW mu (.list (P.map sp)) (.list (P.map sp)) V K):listW true mu (.loc a i) V K:=by
 rw[<- E9]at h;unfold listW;simp only[e];exact⟨trivial,An (by rwa [BZ]),h⟩
inductive Q8(avs:List AV)(V:LS)(K:KR):Prop
 |mk (t:AV)(P:List Sp)(C:List Sp)(c0:avs=[Au t P])(c1:V=[])(c2:P.length<=100)(c3:Cor P C)(c4:K ⟨[.list (C.map sp)],.new 0⟩ []):Q8 avs V K
noncomputable def FA:FS:=specF λavs V K X=>Q8 avs V K
theorem JQ:M0 ⟨true,ex,[],[],[(32,kyF)]⟩ E1 .new 4 6 FA:=by
 refine .specF λavs V K X h=>?_;obtain⟨t,P,C,rfl,rfl,hP,hC,hK⟩:=h;refine⟨rfl,λa=>⟨⟨rfl,rfl⟩,rfl,iterW.tt (AY (g:=sp) rfl (λd r m V=>d++r=P/\∃x y z,m=[some (Au t P),some (.loc a 4),x,y,z]/\V=[.no,.no,.no,.no,.at a (.dict (tt (BW d))),.no]) ?_ ?_ (d:=[]) ⟨rfl,_,_,_,rfl,rfl⟩)⟩⟩
 .intro d m V u
  obtain⟨O,x,y,z,rfl,rfl⟩:=u;rw[aN]at O;subst O;show listW true aa (.loc a 4) [.no,.no,.no,.no,.at a (.dict (tt (BW d))),.no] _;refine listW.tt (P:=BW d) ?_ (by have:=GA d;exact lin [d.length,(BW d).length] [] (.b V1 AL) [.B 4 V0 FR,.b V1 (.M 4 V0)] rfl hP this) ?_
  .rfl
  refine sortW.spots (Ea d) hC.up hC.fold hC.few λb=>⟨rfl,hK⟩
 .intro d k r m V u C' U
  obtain⟨O,x,y,z,rfl,rfl⟩:=u;have hl:d.length+r.length+1=P.length:=by rw[<- O];simp;exact ax (lin [d.length,r.length] [] (.b (.A (.A V0 V1) K1) (.A V0 (.A V1 K1))) [] rfl) (lin [d.length,r.length] [] (.b (.A V0 (.A V1 K1)) (.A (.A V0 V1) K1)) [] rfl)
  refine AY (r:=Bv k) (g:=sp) rfl (λe s m V=>e++s=Bv k/\∃z,m=[some (Au t P),some (.loc a 4),some (.int k.1),some (.int k.2),z]/\V=[.no,.no,.no,.no,.at a (.dict (tt (e.foldl ins (BW d)))),.no]) ?_ ?_ (d:=[]) ⟨rfl,_,rfl,rfl⟩
  .intro e m V u
   obtain⟨T,z,rfl,rfl⟩:=u;rw[aN]at T;subst T;exact U _ _ ⟨by rwa [aG],_,_,_,rfl,by rw[JR]⟩
  .intro e c s m V u C2 Y
   obtain⟨T,z,rfl,rfl⟩:=u;have h4:e.length+s.length+1=4:=by
    have:=congrArg bU T
    rw[an,aL]at this;have e4:(Bv k).length=4:=rfl;exact ax (lin [e.length,s.length,(Bv k).length] [] (.b (.A (.A V0 V1) K1) K4) [.d (.A V0 (.A V1 K1)) V2,.d V2 K4] rfl this e4) (lin [e.length,s.length,(Bv k).length] [] (.b K4 (.A (.A V0 V1) K1)) [.D (-1) (.A V0 (.A V1 K1)) V2,.D (-1) V2 K4] rfl this e4)
   refine⟨rfl,An ?_,?_⟩
   .rw[BZ]
    have h1:=CR (ks:=e) (fs:=BW d);have h2:=GA d;exact lin [P.length,d.length,r.length,e.length,s.length,(iL ins (BW d) e).length,(BW d).length] [] (.b V5 AL) [.B 4 V0 FR,.D 4 (.A (.A V1 V2) K1) V0,.d (.A (.A V3 V4) K1) K4,.b V5 (.A V6 V3),.b V6 (.M 4 V1)] rfl hP hl h4 h1 h2
   .refine Y _ _ ⟨by rwa [aG],_,rfl,?_⟩
    rw[ig];exact congrArg (λz=>([.no,.no,.no,.no,.at a (.dict z),.no]:LS)) (IU (Bi (Ea d)))
end
section
end
section
abbrev exC:Nat:=23
abbrev exP:Nat:=4
noncomputable def exs:List Nat:=[17,18,19,20,21,22,23,24,25,26,27]
noncomputable def marksOf(c:Nat):List AV:=[19,20,21,22,23,24,25,26,27,18,17].map λj=>.bool (J5 c j)
noncomputable def AV.exc?:AV->Option Nat
 |.exc c=>some c
 |_=>aa
theorem AV.exc?_out{a:AV}{x:Nat}(h:a.exc?=some x):a=.exc x:=by
 cases a with
 |exc y=>obtain rfl:=ae h;rfl
 |_=>exact(Ak rfl h).elim
noncomputable def Mb(c:Nat):FS:=pureF λavs=>(one? avs).bind λa=>a.exc?.bind λd=>match b5 d c with
 |true=>some (.list (marksOf c))
 |false=>aa
theorem marks_ok:M0 ⟨false,exs,[],[],[]⟩ I4 .val 1 0 (Mb exC):=by
 refine .pureF λy v h K U=>X1pp (AF h) λa Y g=>X1pp (AF g) λd z O=>?_;obtain rfl:=one?_out Y;rw[AV.exc?_out z]
 cases q:b5 d exC with
 |false=>rw[q]at O;exact nS O
 |true =>
  rw[q]at O;obtain rfl:=ae O;rw[bI q];exact⟨rfl,An (aP rfl),An (aP rfl),An (aP rfl),U⟩
noncomputable def Me(c p:Nat):FS:=pureF λavs=>(two? avs).bind λq=>q.1.exc?.bind λd=>q.2.int?.bind λi=>match b5 d c && (i == Int.ofNat p)with
 |true=>some (.bool true)
 |false=>aa
theorem alone_ok:M0 ⟨false,exs,[(78,Mb exC)],[],[]⟩ I6 .val 1 0 (Me exC exP):=by
 refine .pureF λavs v h K U=>X1pp (AF h) λp O g=>X1pp (AF g) λd z u=>X1pp (AF u) λi Y T=>?_;obtain rfl:=two?_out O;rw[AV.exc?_out z,AV.int?_out Y]
 cases q:b5 d exC && (i == Int.ofNat exP)with
 |false=>rw[q]at T;exact nS T
 |true =>
  rw[q]at T;obtain rfl:=ae T;refine Aq (aO.mp q) λy B=>?_;rw[bI y,eq_of_beq B];exact⟨rfl,rfl,An (aP rfl),true,.py ⟨_,_,rfl,rfl,rfl,rfl,rfl⟩,U⟩
end
section
open PySem PySem.Builtin PySem.Builtin.Str
noncomputable def Br(s sub:Str)(hi i:Nat)(r:Array Nat×Nat):Id (ForInStep (Array Nat×Nat)) :=
 if (decide (r.1.size<1) && decide (r.2<=i) && decide (i+sub.length<=hi) && subAt s sub i)=true then pure (.yield (r.1.push i,i+sub.length)) else pure (.yield (r.1,r.2))
theorem DB(s sub:Str)(hi:Nat):∀(L:List Nat)(f:Array Nat)(Y:Nat),(f=#[]->Y=0) ->
  (Id.run (forIn (m:=Id) L ((f,Y):Array Nat×Nat) (Br s sub hi))).1.isEmpty=(f.isEmpty && !(L.any λi=>decide (i+sub.length<=hi) && subAt s sub i))
 |[],f,Y,h=>by simp
 |i::L,f,Y,h=>by
  rw[d9]
  by_cases q:f=#[]
  .obtain rfl:=q
   obtain rfl:=h rfl
   by_cases p:(decide (i+sub.length<=hi) && subAt s sub i)=true
   .have e:Br s sub hi i (#[],0)=pure (.yield (#[i],i+sub.length)):=by
     unfold Br;rw[if_pos (by simp;simpa using p)];rfl
    rw[e];show (Id.run (forIn (m:=Id) L ((#[i],i+sub.length):Array Nat×Nat) (Br s sub hi))).1.isEmpty=_;rw[DB s sub hi L _ _ (λz=>by simp at z)]
    rw[fZ,p];simp
   .have e:Br s sub hi i (#[],0)=pure (.yield (#[],0)):=by
     unfold Br;rw[if_neg (by simp;simpa using p)]
    rw[e];show (Id.run (forIn (m:=Id) L ((#[],0):Array Nat×Nat) (Br s sub hi))).1.isEmpty=_;rw[DB s sub hi L _ _ (λZ=>rfl)];have O:(decide (i+sub.length<=hi) && subAt s sub i)=false:=by simpa using p
    rw[fZ,O,Bool.false_or]
  .have e:Br s sub hi i (f,Y)=pure (.yield (f,Y)):=by
    unfold Br
    have:¬f.size<1:=λz=>q (Array.eq_empty_of_size_eq_zero (ax (lin [f.size] [] (.b V0 K0) [.c V0 K1] rfl z) (lin [f.size] [] (.b K0 V0) [] rfl)))
    rw[if_neg (by simp[this])]
   rw[e];show (Id.run (forIn (m:=Id) L ((f,Y):Array Nat×Nat) (Br s sub hi))).1.isEmpty=_;rw[DB s sub hi L _ _ h]
   have:f.isEmpty=false:=by
    cases z:f.isEmpty with|false=>rfl|true=>exact absurd (Array.isEmpty_iff.mp z) q
   simp[this]
theorem D8(a:Array Nat)(i:Nat)(h:i<a.size):a.extract i (i+1)=#[a[i]]:=by
 apply Array.ext
 .simp;exact ax ((sub_sp (ey (i+1) a.size) i).elim (λz=>lin [ey (i+1) a.size,i,ey (i+1) a.size - i] [] (.b V2 K1) [.b V0 (.A V1 K1),.d (.A V2 V1) V0] rfl (Nat.min_le_left (i+1) a.size) z.2) (λz=>lin [ey (i+1) a.size - i] [] (.b V0 K1) [.d V0 K0] rfl z.2)) ((sub_sp (ey (i+1) a.size) i).elim (λz=>(Hi (i+1) a.size).elim (λO=>lin [ey (i+1) a.size,i,ey (i+1) a.size - i] [] (.b K1 V2) [.b V0 (.A V1 V2),.D (-1) V0 (.A V1 K1)] rfl (au.mp (az ((ey (i+1) a.size) - (i)))) O) (λO=>lin [i,a.size,ey (i+1) a.size,ey (i+1) a.size - i] [] (.b K1 V3) [.c V0 V1,.b V2 (.A V0 V3),.D (-1) V2 V1] rfl h (au.mp (az ((ey (i+1) a.size) - (i)))) O)) (λz=>(Hi (i+1) a.size).elim (λO=>lin [ey (i+1) a.size,i,ey (i+1) a.size - i] [] (.B 0 K1 V2) [.c V0 V1,.D (-1) V0 (.A V1 K1)] rfl z.1 O) (λO=>lin [i,a.size,ey (i+1) a.size,ey (i+1) a.size - i] [] (.B 0 K1 V3) [.c V0 V1,.c V2 V0,.D (-1) V2 V1] rfl h z.1 O)))
 .intro j y Y
  have:j=0:=by simp at Y;exact ax (lin [j] [] (.b V0 K0) [.d V0 K0] rfl Y) (lin [j] [] (.b K0 V0) [] rfl)
  subst this
  simp
theorem FI(x:Str):eI x "#"=x.cps.any (· == 35):=by
 have e:eI x "#"=!(Id.run (forIn (m:=Id) [0:x.length+1] ((#[],0):Array Nat×Nat) (Br x "#" x.length))).1.isEmpty:=by
  unfold eI occurrences;show (!(Id.run (forIn (m:=Id) [0:x.length+1] ((#[],0):Array Nat×Nat) (Br x "#" x.length))).1.toList.isEmpty)=_;rw[Array.isEmpty_toList]
 rw[e,Std.Legacy.Range.forIn_eq_forIn_range',DB x "#" x.length _ _ _ (λZ=>rfl)];simp only[Array.isEmpty_empty,Bool.true_and,Bool.not_not];rw[Bool.eq_iff_iff,dP,Array.any_eq_true];have Y:("#":Str).length=1:=by decide
 have d:("#":Str).cps=#[35]:=by decide
 constructor
 .intro u
  obtain⟨i,hi,h⟩:=u;simp only[Y,bh,decide_eq_true_eq,subAt,d,beq_iff_eq]at h;refine Aq h λB z=>?_;have lt:i<x.cps.size:=B;refine⟨i,lt,?_⟩;rw[D8 _ _ lt]at z;simp at z ⊢;exact z
 .intro u
  obtain⟨i,hi,h⟩:=u;refine⟨i,by simp[Str.length];exact lin [i,x.cps.size] [] (.c V0 (.A V1 K1)) [.c V0 V1] rfl hi,?_⟩
  simp only[Y,bh,decide_eq_true_eq,subAt,d,beq_iff_eq];refine⟨hi,?_⟩;rw[D8 _ _ hi];simp at h ⊢;exact h
end
section
open PySem PySem.Builtin PySem.Builtin.Str
theorem E4(x y:Str):(x++y).cps.toList=x.cps.toList++y.cps.toList:=by
 show (Str.append x y).cps.toList=_;unfold Str.append
 simp
theorem app_len(x y:Str):(x++y).length=x.length+y.length:=by
 show (Str.append x y).cps.size=x.cps.size+y.cps.size;unfold Str.append
 simp
theorem D5(b:Array Nat):∀(n:Nat)(a:Array Nat),((aH n b).foldl (·++·) a).toList=a.toList++(aH n b.toList).flatten
 |0,a=>by simp
 |n+1,a=>by
  rw[gv,cT,D5 b n];simp[gv]
set_option tactic.hygienic true in
theorem JE(x:Str)(n:Int):(d3 x n).cps.toList=(aH n.toNat x.cps.toList).flatten:=by
 unfold d3
 split
 .rw[show n.toNat=0 by omega];rfl
 .split
  .rename_i q
   rw[d8,beq_iff_eq,beq_iff_eq]at q
   rcases q with rfl|q
   .simp
   .have:x.cps.toList=[]:=by
     have h:x.cps.size=0:=q
     rwa [<- List.length_eq_zero_iff,gu]
    rw[this];simp
  .rw[D5];simp
theorem Fq(c:Nat)(n:Int):(d3 ⟨#[c]⟩ n).cps.toList=aH n.toNat c:=by
 rw[JE];simp[List.flatten_replicate_singleton]
theorem mul_ok(u:x.length<=100)(Y:n<=100)(O:-100<=n):MulOk x n:=by
 refine⟨?_,λz Z=>?_,λz Z=>?_⟩
 .simp;exact⟨lin [] [n] (.f Ca V0) [.f Km100 V0] rfl O,lin [] [n] (.g V0 Co) [.f V0 FR] rfl Y⟩
 .have:(2 ^ 63 - 1) / n >= 92233720368547758:=by
   have:(92233720368547758:Int)<=(2 ^ 63 - 1) / n:=by
    rw[Int.le_ediv_iff_mul_le (by exact lin [] [n] (.g K0 V0) [.l V0 K1] rfl z)]
    have:92233720368547758 * n<=92233720368547758 * 100:=Int.mul_le_mul_of_nonneg_left Y (by decide)
    omega
   exact this
  exact lin [x.length] [(2 ^ 63 - 1) / n] (.l V0 (.c V0)) [.b V0 FR,.f C6 V0] rfl u this
 .unfold tooLong
  have:x.length * n.toNat<=100 * 100:=dU u (lin [n.toNat] [n] (.b V0 FR) [.f V0 FR,.h (.c V0) V0] rfl Y (ao (lin [] [n] (.f K0 V0) [.l V0 K1] rfl z)))
  simp[gF];exact lin [x.length * n.toNat] [] (.b V0 A6) [.b V0 (.M 100 FR)] rfl this
theorem Gk(O:List Str):(Txt.join "" O).cps.toList=(O.map (·.cps.toList)).flatten:=by
 have u:("":Str).cps=#[]:=by decide +kernel
 have key:∀(l:List Str)(a:Array Nat),(l.foldl (λacc p=>acc++("":Str).cps++p.cps) a).toList=a.toList++(l.map (·.cps.toList)).flatten:=by
  intro l
  induction l with|nil=>intro a;simp|cons p l Y=>intro a;rw[cT,Y,u];simp
 unfold Txt.join glued
 cases O with|nil=>rfl|cons y r=>simp only[List.headD_cons,List.drop_one,List.tail_cons];rw[key];simp
end
section
noncomputable def sgn:Bool->Nat
 |true=>35
 |false=>46
noncomputable def Ce(r:List Bool):Str:=⟨(r.map sgn).toArray⟩
abbrev Gr:=List (List Bool)
noncomputable def AB(G:Gr):List AV:=G.map λr=>.str (Ce r)
structure Nb(G:Gr)(w:Nat):Prop where
 h1:1<=G.length
 h6:G.length<=6
 w1:1<=w
 w6:w<=6
 len:∀r∈G,r.length=w
theorem A4(r:List Bool):(Ce r).length=r.length:=by
 show (Ce r).cps.size=_;unfold Ce;simp
theorem EB(r:List Bool):(Ce r).cps.all (·<128)=true:=by
 rw[Array.all_eq_true_iff_forall_mem];intro c d
 have:c∈r.map sgn:=by unfold Ce at d;simpa using d
 refine X1pr c (aY.mp this) λb Z=>?_
 cases b<;>rfl
theorem Ky(r:List Bool):eI (Ce r) "#"=r.any id:=by
 rw[FI]
 have:(Ce r).cps.any (· == 35)=(r.map sgn).any (· == 35):=by unfold Ce;simp
 rw[this,List.any_map]
 congr 1
 funext b
 cases b<;>rfl
noncomputable def Cq(y x:Int):List Bool->List Sp
 |[]=>[]
 |b::r=>match b with
  |true=>(x,y)::Cq y (x+1) r
  |false=>Cq y (x+1) r
noncomputable def BK(y:Int):Gr->List Sp
 |[]=>[]
 |r::G=>Cq y 0 r++BK (y+1) G
noncomputable def Ae(G:Gr):List Sp:=BK 0 G
theorem Fg:∀{r:List Bool}{x:Int},(Cq y x r).length<=r.length
 |[],_=>az _
 |b::r,x=>by
  have:=Fg (y:=y) (r:=r) (x:=x+1)
  cases b
  .show (Cq y (x+1) r).length<=r.length+1;exact lin [(Cq y (x+1) r).length,r.length] [] (.b V0 (.A V1 K1)) [.b V0 V1] rfl this
  .show (Cq y (x+1) r).length+1<=r.length+1;exact lin [(Cq y (x+1) r).length,r.length] [] (.b (.A V0 K1) (.A V1 K1)) [.b V0 V1] rfl this
theorem Cl:∀{G:Gr}{y:Int},(∀r∈G,r.length=w)->(BK y G).length<=G.length * w
 |[],_,_=>cL _
 |r::G,y,h=>by
  rw[BK,an,aL,Nat.succ_mul];have Y:=Fg (y:=y) (r:=r) (x:=0);have z:=Cl (y:=y+1) λs hs=>h s (.tail _ hs);have B:=h r (.head _);exact lin [(Cq y 0 r).length,r.length,(BK (y+1) G).length,G.length * w,w] [] (.b (.A V0 V2) (.A V3 V4)) [.b V0 V1,.b V2 V3,.d V1 V4] rfl Y z B
theorem Nb.cells(g:Nb G w):(Ae G).length<=36:=by
 have Y:=Cl (y:=0) g.len;have z:G.length * w<=6 * 6:=dU g.h6 g.w6;unfold Ae;exact lin [(BK 0 G).length,bU G * w] [] (.b V0 K36) [.b V0 V1,.b V1 (.M 6 K6)] rfl Y z
def bit(r:List Bool)(x:Int):Prop:=0<=x/\r[x.toNat]?=some true
theorem rowC_mem:∀{r:List Bool}{x:Int},k∈Cq y x r↔k.2=y/\bit r (k.1 - x)
 |[],x=>by
  constructor
  .intro h;cases h
  .rintro ⟨_,_,h⟩;exact nS h
 |b::r,x=>by
  have T:=rowC_mem (y:=y) (k:=k) (r:=r) (x:=x+1);have key:k.2=y/\bit (b::r) (k.1 - x)↔(k=(x,y)/\b=true)\/(k.2=y/\bit r (k.1 - (x+1))):=by
   unfold bit
   by_cases e:k.1=x
   .have O:(k.1 - x).toNat=0:=by exact ax (lin [(k.fst - x).toNat] [k.fst,x] (.b V0 K0) [.h V0 V1,.h (.c V0) (.S V0 V1)] rfl e (ao (lin [] [k.fst,x] (.f K0 (.S V0 V1)) [.H (-1) V0 V1] rfl e))) (lin [(k.fst - x).toNat] [] (.b K0 V0) [] rfl)
    rw[O]
    constructor
    .exact λu=>Bm u λY Z z=>.inl ⟨cH e Y,ae z⟩
    .rintro (⟨Y,z⟩|⟨_,z,_⟩)
     .clear T e O;subst Y;subst z;exact⟨rfl,lin [] [(x,y).fst] (.f K0 (.S V0 V0)) [] rfl,rfl⟩
     .omega
   .constructor
    .refine λu=>Bm u λY z U=>.inr ⟨Y,(aX e).elim (λd=>lin [] [k.fst,x] (.F 0 K0 (.S V0 (.A V1 K1))) [.f K0 (.S V0 V1),.g V0 V1] rfl z d) (λd=>lin [] [x,k.fst] (.f K0 (.S V1 (.A V0 K1))) [.g V0 V1] rfl d),?_⟩
     rw[show (k.1 - x).toNat=(k.1 - (x+1)).toNat+1 by exact ax (lin [(k.fst - (x+1)).toNat,(k.fst - x).toNat] [k.fst,x] (.b V1 (.A V0 K1)) [.f (.S V0 (.A V1 K1)) (.c V0),.h (.c V1) (.S V0 V1)] rfl (aK (k.fst - (x+1))) (ao (lin [] [k.fst,x] (.f K0 (.S V0 V1)) [.f K0 (.S V0 V1)] rfl z))) ((aX e).elim (λd=>lin [(k.fst - (x+1)).toNat,(k.fst - x).toNat] [k.fst,x] (.B 0 (.A V0 K1) V1) [.f K0 (.S V0 V1),.g V0 V1] rfl z d) (λd=>lin [(k.fst - x).toNat,(k.fst - (x+1)).toNat] [k.fst,x] (.b (.A V1 K1) V0) [.f (.S V0 V1) (.c V0),.h (.c V1) (.S V0 (.A V1 K1))] rfl (aK (k.fst - x)) (ao (lin [] [x,k.fst] (.f K0 (.S V1 (.A V0 K1))) [.g V0 V1] rfl d))))]at U
     exact U
    .rintro (⟨Y,_⟩|⟨Y,z,U⟩)
     .exact absurd (congrArg gR Y) e
     .refine⟨Y,lin [] [k.fst,x] (.f K0 (.S V0 V1)) [.f K0 (.S V0 (.A V1 K1))] rfl z,?_⟩
      rw[show (k.1 - x).toNat=(k.1 - (x+1)).toNat+1 by exact ax (lin [(k.fst - (x+1)).toNat,(k.fst - x).toNat] [k.fst,x] (.b V1 (.A V0 K1)) [.f (.S V0 (.A V1 K1)) (.c V0),.h (.c V1) (.S V0 V1)] rfl (aK (k.fst - (x+1))) (ao (lin [] [k.fst,x] (.f K0 (.S V0 V1)) [.f K0 (.S V0 (.A V1 K1))] rfl z))) (lin [(k.fst - x).toNat,(k.fst - (x+1)).toNat] [k.fst,x] (.b (.A V1 K1) V0) [.f (.S V0 V1) (.c V0),.h (.c V1) (.S V0 (.A V1 K1))] rfl (aK (k.fst - x)) (ao (lin [] [k.fst,x] (.f K0 (.S V0 (.A V1 K1))) [.f K0 (.S V0 (.A V1 K1))] rfl z)))]
      exact U
  rw[key,<- T]
  cases b
  .show k∈Cq y (x+1) r↔_
   simp
  .show k∈(x,y)::Cq y (x+1) r↔_
   rw[aA];simp
def has(G:Gr)(k:Sp):Prop:=0<=k.2/\∃r,G[k.2.toNat]?=some r/\bit r k.1
theorem cellsF_mem:∀{G:Gr}{y:Int},k∈BK y G↔has G (k.1,k.2 - y)
 |[],y=>by
  constructor
  .intro h;cases h
  .rintro ⟨_,r,h,_⟩;exact nS h
 |r::G,y=>by
  rw[BK,aJ,rowC_mem,cellsF_mem (G:=G)];unfold has;dsimp only;rw[fJ]
  by_cases e:k.2=y
  .have U:(k.2 - y).toNat=0:=by exact ax (lin [(k.snd - y).toNat] [k.snd,y] (.b V0 K0) [.h V0 V1,.h (.c V0) (.S V0 V1)] rfl e (ao (lin [] [k.snd,y] (.f K0 (.S V0 V1)) [.H (-1) V0 V1] rfl e))) (lin [(k.snd - y).toNat] [] (.b K0 V0) [] rfl)
   rw[U]
   constructor
   .rintro (⟨_,h⟩|⟨h,_⟩)
    .exact⟨lin [] [k.snd,y] (.f K0 (.S V0 V1)) [.H (-1) V0 V1] rfl e,r,rfl,h⟩
    .omega
   .exact λu=>Aq u λZ Z0=>X1pp Z0 λO Y T=>.inl ⟨e,by rw[ae Y];exact T⟩
  .constructor
   .rintro (⟨h,_⟩|⟨h,O,Y,T⟩)
    .exact absurd h e
    .refine⟨lin [] [k.snd,y] (.f K0 (.S V0 V1)) [.f K0 (.S V0 (.A V1 K1))] rfl h,O,?_,T⟩
     rw[show (k.2 - y).toNat=(k.2 - (y+1)).toNat+1 by exact ax (lin [(k.snd - (y+1)).toNat,(k.snd - y).toNat] [k.snd,y] (.b V1 (.A V0 K1)) [.f (.S V0 (.A V1 K1)) (.c V0),.h (.c V1) (.S V0 V1)] rfl (aK (k.snd - (y+1))) (ao (lin [] [k.snd,y] (.f K0 (.S V0 V1)) [.f K0 (.S V0 (.A V1 K1))] rfl h))) (lin [(k.snd - y).toNat,(k.snd - (y+1)).toNat] [k.snd,y] (.b (.A V1 K1) V0) [.f (.S V0 V1) (.c V0),.h (.c V1) (.S V0 (.A V1 K1))] rfl (aK (k.snd - y)) (ao (lin [] [k.snd,y] (.f K0 (.S V0 (.A V1 K1))) [.f K0 (.S V0 (.A V1 K1))] rfl h)))];exact Y
   .refine λu=>Aq u λh d=>X1pp d λO Y T=>.inr ⟨(aX e).elim (λz=>lin [] [k.snd,y] (.F 0 K0 (.S V0 (.A V1 K1))) [.f K0 (.S V0 V1),.g V0 V1] rfl h z) (λz=>lin [] [y,k.snd] (.f K0 (.S V1 (.A V0 K1))) [.g V0 V1] rfl z),O,?_,T⟩
    rw[show (k.2 - y).toNat=(k.2 - (y+1)).toNat+1 by exact ax (lin [(k.snd - (y+1)).toNat,(k.snd - y).toNat] [k.snd,y] (.b V1 (.A V0 K1)) [.f (.S V0 (.A V1 K1)) (.c V0),.h (.c V1) (.S V0 V1)] rfl (aK (k.snd - (y+1))) (ao (lin [] [k.snd,y] (.f K0 (.S V0 V1)) [.f K0 (.S V0 V1)] rfl h))) ((aX e).elim (λz=>lin [(k.snd - (y+1)).toNat,(k.snd - y).toNat] [k.snd,y] (.B 0 (.A V0 K1) V1) [.f K0 (.S V0 V1),.g V0 V1] rfl h z) (λz=>lin [(k.snd - y).toNat,(k.snd - (y+1)).toNat] [k.snd,y] (.b (.A V1 K1) V0) [.f (.S V0 V1) (.c V0),.h (.c V1) (.S V0 (.A V1 K1))] rfl (aK (k.snd - y)) (ao (lin [] [y,k.snd] (.f K0 (.S V1 (.A V0 K1))) [.g V0 V1] rfl z))))]at Y;exact Y
theorem cellsOf_mem:k∈Ae G↔has G k:=by
 unfold Ae;rw[cellsF_mem,fJ]
theorem Nb.in(g:Nb G w)(h:k∈Ae G):0<=k.1/\k.1<w/\0<=k.2/\k.2<G.length:=by
 refine Aq (cellsOf_mem.mp h) λT d=>X1ppp d λr y Y B=>?_;have u:k.2.toNat<G.length:=by
  rcases bO k.2.toNat G.length with z|z
  .exact z
  .rw[be z]at y;exact nS y
 have e2:k.1.toNat<r.length:=by
  rcases bO k.1.toNat r.length with z|z
  .exact z
  .rw[be z]at B;exact nS B
 rw[g.len r (af y)]at e2;exact⟨lin [] [k.fst] (.f K0 V0) [.f K0 V0] rfl Y,⟨lin [k.fst.toNat,w] [k.fst] (.g V0 (.c V1)) [.c V0 V1,.f V0 (.c V0)] rfl e2 (aK k.fst),⟨lin [] [k.snd] (.f K0 V0) [.f K0 V0] rfl T,lin [k.snd.toNat,bU G] [k.snd] (.g V0 (.c V1)) [.c V0 V1,.f V0 (.c V0)] rfl u (aK k.snd)⟩⟩⟩
end
section
noncomputable def GI:As:=⟨[0x3a0001e0000e000073,527765816213619,0x378001a0000d400074],1,[.ite (.or [.not (.call (.g 1) [.v 0,.g 5]),.not (.cmp2 .LtE .LtE (.int 1) (.call (.g 0) [.v 0]) (.g 28))]) [.ret (.bool false)] [],.for_ (.v 1) (.v 0) [.ite (.or [.not (.call (.g 1) [.v 1,.g 6]),.not (.cmp2 .LtE .LtE (.int 1) (.call (.g 0) [.v 1]) (.g 28))]) [.ret (.bool false)] []],.for_ (.v 1) (.v 0) [.ite (.or [.cmp .NotEq (.call (.g 0) [.v 1]) (.call (.g 0) [.sub (.v 0) (.int 0)]),.not (.call (.g 15) [.comp (.cmp .In (.v 2) (.tup [.str "#",.str "."])) 2 (.v 1) []])]) [.ret (.bool false)] []],.ret (.call (.g 16) [.comp (.cmp .In (.str "#") (.v 1)) 1 (.v 0) []])]⟩
noncomputable def c_Finit:As:=⟨[0x338001b4000cc00074,0x3a0001e0000e000073,122,527765816213619,121,0x378001a0000d400074,0xca0006f0003b0001c0000e600062],2,[.ite (.not (.call (.g 36) [.v 1])) [.raise (.call (.g 19) [.str "no rows of a floor"])] [],.setattr (.v 0) 11 (.call (.g 5) [.v 1]),.setattr (.v 0) 12 (.mu 2 (.dict [] [])),.for_ (.tup [.v 2,.v 3]) (.call (.g 9) [.v 1]) [.for_ (.tup [.v 4,.v 5]) (.call (.g 9) [.v 3]) [.ite (.cmp .Eq (.v 5) (.str "#")) [.setitem (.attr (.v 0) 12) (.tup [.v 4,.v 2]) (.bool true)] []]],.ite (.cmp .NotEq (.call (.g 0) [.call (.g 35) [.sub (.call (.g 5) [.attr (.v 0) 12]) (.int 0),.attr (.v 0) 12]]) (.call (.g 0) [.attr (.v 0) 12])) [.raise (.call (.g 20) [.str "the cells don't hang together"])] [],.assign (.v 6) (.meth (.v 0) 13 []),.ite (.cmp .NotEq (.call (.g 0) [.call (.g 35) [.tup [.neg (.int 1),.neg (.int 1)],.v 6]]) (.call (.g 0) [.v 6])) [.raise (.call (.g 21) [.str "the floor has a hole"])] []]⟩
noncomputable def GJ:As:=⟨[0x338001b4000cc00074,0x65000378001d8000e000067,122,121],1,[.assign (.v 1) (.mu 4 (.dict [] [])),.for_ (.v 2) (.call (.g 8) [.neg (.int 1),.bin .Add (.call (.g 0) [.attr (.v 0) 11]) (.int 1)]) [.for_ (.v 3) (.call (.g 8) [.neg (.int 1),.bin .Add (.call (.g 0) [.sub (.attr (.v 0) 11) (.int 0)]) (.int 1)]) [.ite (.cmp .NotIn (.tup [.v 3,.v 2]) (.attr (.v 0) 12)) [.setitem (.v 1) (.tup [.v 3,.v 2]) (.bool true)] []]],.ret (.v 1)]⟩
noncomputable def Ct:As:=⟨[0x740003c0001c0000e6000600003c000188000da00060,0x3c0001c0000e6000600003c000188000da00060,0xf2000600003c000188000da00060],1,[.ret (.comp (.meth (.str "") 8 [.comp (.sub (.v 1) (.v 2)) 1 (.v 0) []]) 2 (.call (.g 8) [.call (.g 0) [.sub (.v 0) (.int 0)]]) [])]⟩
noncomputable def EV:As:=⟨[0x6d00036800198000c8000600003c000188000da00060,0x66000398001c0000dc000600003c000188000da00060,0x6f000330001dc000cc000600003c000188000da00060,0xd200075000328001a8000f0000600003c000188000da00060,0x740003c0001c0000e6000600003c000188000da00060,0x3c0001c0000da000600003c000188000da00060,0x69000340001a8000d2000600003c000188000da00060,0xf4000600003c000188000da00060,0x1cc000cc00063000370001d8000de000600003c000188000da00060,0x660003d8001a8000e8000600003c000188000da00060,0xea0007400031000198000da000600003c000188000da00060,0xde0006a00034000198000c6000600003c000188000da00060],3,[.assign (.v 3) (.bin .Add (.int 2) (.bin .Mod (.v 0) (.int 5))),.assign (.v 4) (.mu 4 (.list [])),.assign (.tup [.v 5,.v 6]) (.tup [.int 0,.bin .Sub (.v 3) (.int 1)]),.for_ (.v 7) (.call (.g 8) [.bin .Add (.int 1) (.bin .Mod (.bin .FloorDiv (.v 0) (.int 5)) (.int 6))]) [.assign (.v 8) (.call (.g 73) [.v 1,.v 7]),.assign (.v 9) (.ite (.v 2) (.bin .Mult (.int 2) (.bin .Add (.int 1) (.bin .Mod (.v 8) (.bin .FloorDiv (.v 3) (.int 2))))) (.bin .Add (.int 1) (.bin .Mod (.v 8) (.v 3)))),.assign (.v 10) (.call (.g 14) [.int 0,.bin .Add (.bin .Sub (.v 5) (.v 9)) (.int 1)]),.assign (.v 11) (.bin .Add (.v 10) (.bin .Mod (.bin .FloorDiv (.v 8) (.int 30)) (.bin .Add (.bin .Sub (.call (.g 13) [.bin .Sub (.v 3) (.v 9),.v 6]) (.v 10)) (.int 1)))),.expr (.meth (.v 4) 0 [.bin .Add (.bin .Add (.bin .Mult (.str ".") (.v 11)) (.bin .Mult (.str "#") (.v 9))) (.bin .Mult (.str ".") (.bin .Sub (.bin .Sub (.v 3) (.v 11)) (.v 9)))]),.assign (.tup [.v 5,.v 6]) (.tup [.v 11,.bin .Sub (.bin .Add (.v 11) (.v 9)) (.int 1)])],.ret (.v 4)]⟩
theorem sign_in(b:Bool):InP (.str ⟨#[sgn b]⟩) (.tup [.str "#",.str "."]) true:=by
 cases b
 .exact⟨_,_,rfl,.inr rfl,by decide +kernel,by decide +kernel,by decide +kernel,by decide +kernel⟩
 .exact⟨_,_,rfl,.inr rfl,by decide +kernel,by decide +kernel,by decide +kernel,by decide +kernel⟩
theorem DM(r:List Bool):Dc (Ce r)=r.map λb=>.str ⟨#[sgn b]⟩:=by
 unfold Dc Ce;show ((r.map sgn).map _)=_;rw[bc];rfl
inductive Q1(avs:List AV)(V:LS)(K:KR):Prop
 |mk (a:_)(G:Gr)(w:_)(c0:avs=[.loc a 0])(c1:V=[.at a (.list (AB G))])(c2:Nb G w)(c3:(G.any λr=>r.any id)=true)(c4:K ⟨[],.val (.bool true)⟩ [.at a (.list (AB G))]):Q1 avs V K
noncomputable def fArows:FS:=specF λavs V K X=>Q1 avs V K
noncomputable def arM(a:Addr)(x:Option AV):M:=[some (.loc a 0),x,aa]
noncomputable def arL(a:Addr)(G:Gr):LS:=[.at a (.list (AB G))]
inductive ArwJ(a:Addr)(G:Gr)(d r:Gr):M->LS->Prop
 |mk (hs:∀x∈r,x∈G)(x:Option AV):ArwJ a G d r (arM a x) (arL a G)
noncomputable abbrev tAr:Tab:=⟨true,[28],[],[],[]⟩
theorem Nb.fst(g:Nb G w):∃d,(AB G)[0]?=some (.str (Ce d))/\d.length=w:=by
 have h1:=g.h1;have len:=g.len;clear g
 cases G with|nil=>exact absurd h1 (by decide)|cons d G=>exact⟨d,rfl,len d (.head _)⟩
theorem G9(e:r.length=w)(h:w<=6):(Ce r).length<=big:=by rw[A4,e];exact An (aw h (by decide))
theorem arows_1{KK:KS}{a:Addr}{G d s:Gr}{r:List Bool}{w:Nat}{m:M}{V:LS}{C:M->LS->Prop}(g:Nb G w)(j:ArwJ a G d (r::s) m V)(B:∀At Ab,ArwJ a G (d++[r]) s At Ab->C At Ab) :
  patW true (.v 1) (.str (Ce r)) m (λAp=>wpSs tAr [.ite (.or [.not (.call (.g 1) [.v 1,.g 6]),.not (.cmp2 .LtE .LtE (.int 1) (.call (.g 0) [.v 1]) (.g 28))]) [.ret (.bool false)] []] X Ap V (DX (some 0) V C KK)):=by
 induction j using ArwJ.casesOn with
 |mk hs x =>
  have U:=g.len r (hs r (.head _));have w6:=g.w6;have w1:=g.w1;exact⟨G9 U w6,ifT (by rw[A4,decide_eq_true_eq];exact lin [r.length,w] [] (.f K1 (.c V0)) [.D (-1) V0 V1,.b K1 V1] rfl U w1) (ifF (by rw[A4,Bool.not_eq_false',decide_eq_true_eq];exact lin [r.length,w] [] (.f (.c V0) K6) [.d V0 V1,.b V1 K6] rfl U w6) ⟨rfl,B _ _ (.mk (λy u=>hs y (.tail _ u)) _)⟩)⟩
theorem arows_2{KK:KS}{a:Addr}{G d s:Gr}{r:List Bool}{w:Nat}{m:M}{V:LS}{C:M->LS->Prop}(g:Nb G w)(j:ArwJ a G d (r::s) m V)(B:∀At Ab,ArwJ a G (d++[r]) s At Ab->C At Ab) :
  patW true (.v 1) (.str (Ce r)) m (λAp=>wpSs tAr [.ite (.or [.cmp .NotEq (.call (.g 0) [.v 1]) (.call (.g 0) [.sub (.v 0) (.int 0)]),.not (.call (.g 15) [.comp (.cmp .In (.v 2) (.tup [.str "#",.str "."])) 2 (.v 1) []])]) [.ret (.bool false)] []] X Ap V (DX (some 0) V C KK)):=by
 induction j using ArwJ.casesOn with
 |mk hs x =>
  have U:=g.len r (hs r (.head _));have w6:=g.w6;refine X1pp g.fst λO Y u=>⟨G9 U w6,rfl,_,Y,G9 u w6,ifF (by rw[A4,A4,U,u,beq_self_eq_true];rfl) ⟨EB r,An (by rw[DM,aj,U];exact aw w6 (by decide)),B9 (r:=r) (g:=λb=>.str ⟨#[sgn b]⟩) (f:=λZ=>.bool true) (DM r) (λb T C h=>⟨_,sign_in b,h⟩) ⟨r.map λZ=>true,by rw[bc];rfl,?_⟩⟩⟩
  rw[List.all_map,show (r.all (id ∘ λZ=>true))=true by simp]
  exact⟨rfl,B _ _ (.mk (λy z=>hs y (.tail _ z)) _)⟩
theorem arows_ok:M0 tAr GI .val 2 0 fArows:=by
 refine .specF λy V K X h=>?_;obtain⟨a,G,w,rfl,rfl,g,T,U⟩:=h;have Y:(AB G).length=G.length:=by unfold AB;rw[aj]
 have h1:=g.h1;have h6:=g.h6;have z:(AB G).length<=big:=by rw[Y];exact An (aw h6 (by decide))
 refine⟨rfl,rfl,rfl,z,ifT (by rw[Y,decide_eq_true_eq];exact lin [bU G] [] (.f K1 (.c V0)) [.b K1 V0] rfl h1) (ifF (by rw[Y,Bool.not_eq_false',decide_eq_true_eq];exact lin [bU G] [] (.f (.c V0) K6) [.b V0 K6] rfl h6) ⟨rfl,AY (r:=G) (g:=λr=>.str (Ce r)) rfl (ArwJ a G) (λd m V j=>?_) (λd r s m V j C B=>arows_1 g j B) (d:=[]) (.mk (λZ h=>h) _)⟩)⟩
 induction j using ArwJ.casesOn with
 |mk _ x =>
  refine⟨rfl,AY (r:=G) (g:=λr=>.str (Ce r)) rfl (ArwJ a G) (λd m V j=>?_) (λd r s m V j C B=>arows_2 g j B) (d:=[]) (.mk (λZ h=>h) _)⟩
  induction j using ArwJ.casesOn with
  |mk _ x =>
   refine⟨rfl,z,B9 (r:=G) (g:=λr=>.str (Ce r)) (f:=λr=>.bool (r.any id)) rfl (λr u C h=>⟨_,Ky r,h⟩) ⟨G.map λr=>r.any id,by rw[bc];rfl,?_⟩⟩
   rw[List.any_map,show (id ∘ λr:List Bool=>r.any id)=λr=>r.any id from rfl,T]
   exact U
end
section
noncomputable def JO(i:Nat):List AV->List AV
 |[]=>[]
 |x::r=>.tup [.int i,x]::JO (i+1) r
theorem Dt:∀(l:List AV)(i:Nat),(l.mapIdx λj x=>(.tup [.int ((i+j:Nat):Int),x]:AV))=JO i l
 |[],_=>rfl
 |x::r,i=>by
  rw[List.mapIdx_cons];have u:=Dt r (i+1);rw[JO,<- u,Nat.add_zero]
  congr 1
  apply eu;intro j;rw[f7,f7]
  congr 1
  funext y
  congr 3
  exact ah (lin [i,j] [] (.f (.c (.A V0 (.A V1 K1))) (.c (.A (.A V0 K1) V1))) [] rfl) (lin [i,j] [] (.f (.c (.A (.A V0 K1) V1)) (.c (.A V0 (.A V1 K1)))) [] rfl)
theorem HA(l:List AV):CB l=JO 0 l:=by
 rw[<- Dt l 0];unfold CB
 simp
set_option tactic.hygienic true in
theorem Fy{α:Type}{g:α->AV}{q:Bool}{p:Pat}{body:M->LS->KS->Prop}{ok:Option Nat}{K:KS}(J:List α->List α->M->LS->Prop)(y:∀d m V,J d [] m V->K .next m V)
  (hs:∀d x r m V,J d (x::r) m V->∀C:M->LS->Prop,(∀O z,J (d++[x]) r O z->C O z)->patW q p (.tup [.int d.length,g x]) m (λAp=>body Ap V (DX ok V C K))):∀{r d:List α}{m:M}{V:LS},J d r m V->Hw q p body ok K (JO d.length (r.map g)) m V
 |[],d,m,V,h=>y d m V h
 |x::r,d,m,V,h=>hs d x r m V h (Hw q p body ok K (JO (d.length+1) (r.map g))) λO z h=>by
  have:=Fy J y hs h
  rw[an]at this;exact this
theorem F2{y:Int}{b:Bool}:∀{e:List Bool}{x:Int},Cq y x (e++[b])=Cq y x e++Cq y (x+e.length) [b]
 |[],x=>by rw[gr,c6];show _=Cq y (x+0) [b];rw[cO]
 |c::e,x=>by
  have u:=F2 (y:=y) (b:=b) (e:=e) (x:=x+1);rw[aL,show x+((e.length+1:Nat):Int)=x+1+e.length by exact ah (lin [e.length] [x] (.f (.A V0 (.c (.A V0 K1))) (.A (.A V0 K1) (.c V0))) [] rfl) (lin [e.length] [x] (.f (.A (.A V0 K1) (.c V0)) (.A V0 (.c (.A V0 K1)))) [] rfl)]
  cases c
  .exact u
  .show (x,y)::Cq y (x+1) (e++[b])=(x,y)::(Cq y (x+1) e++_)
   rw[u]
theorem CD{r:List Bool}:∀{d:Gr}{y:Int},BK y (d++[r])=BK y d++Cq (y+d.length) 0 r
 |[],y=>by
  rw[gr];show Cq y 0 r++[]=[]++Cq (y+0) 0 r;rw[aN,cO];rfl
 |c::d,y=>by
  have Y:=CD (r:=r) (d:=d) (y:=y+1);rw[aL,show y+((d.length+1:Nat):Int)=y+1+d.length by exact ah (lin [d.length] [y] (.f (.A V0 (.c (.A V0 K1))) (.A (.A V0 K1) (.c V0))) [] rfl) (lin [d.length] [y] (.f (.A (.A V0 K1) (.c V0)) (.A V0 (.c (.A V0 K1)))) [] rfl)]
  show Cq y 0 c++BK (y+1) (d++[r])=(Cq y 0 c++BK (y+1) d)++_;rw[Y,aG]
theorem JM{d:Gr}{e:List Bool}:(((e.length:Int),(d.length:Int)):Al)∉Ae d++Cq d.length 0 e:=by
 intro h
 rcases aJ.mp h with h|h
 .refine Aq (cellsOf_mem.mp h) λZ u=>X1pp u λr Y Z=>?_
  rw[show ((e.length:Int),(d.length:Int)).2.toNat=d.length from b6 _,be (az _)]at Y
  exact nS Y
 .refine Bm (rowC_mem.mp h) λZ Z Y=>?_
  rw[show (((e.length:Int),(d.length:Int)).1 - 0).toNat=e.length by show ((e.length:Int) - 0).toNat=_;rw[fJ];rfl,be (az _)]at Y
  exact nS Y
noncomputable def Cn(P vs:List Al):List Al:=(vs.filter λk=>!decide (k∈P)).foldl ins []
theorem LV{P vs:List Al}{k:Al}:k∈Cn P vs↔k∈vs/\k∉P:=by
 unfold Cn;rw[BR,cu]
 simp
theorem D2{P vs:List Al}:(Cn P vs).Nodup:=Bi fG
theorem freeF_in{P vs:List Al}{k:Al}(h:k∈P):Cn P (vs++[k])=Cn P vs:=by
 unfold Cn;rw[gS,fj (by simp[h]),iN,aN]
theorem LU{P vs:List Al}{k:Al}(h:k∉P):Cn P (vs++[k])=ins (Cn P vs) k:=by
 unfold Cn;rw[gS,fi (by simp[h]),iN,ig];rfl
theorem Gm{P vs:List Al}:(Cn P vs).length<=vs.length:=by
 unfold Cn;have Y:=CR (ks:=vs.filter λk=>!decide (k∈P)) (fs:=[]);have z:=dy (λk=>!decide (k∈P)) vs;rw[c6]at Y;exact lin [(iL ins [] (List.filter (λk=>!decide (k∈P)) vs)).length,(List.filter (λk=>!decide (k∈P)) vs).length,vs.length] [] (.b V0 V2) [.b V0 (.A K0 V1),.b V1 V2] rfl Y z
noncomputable def box(xs ys:List Int):List Al:=ys.flatMap λy=>xs.map λx=>(x,y)
theorem HL(xs O:List Int):(box xs O).length=O.length * xs.length:=by
 unfold box
 induction O with|nil=>simp|cons y O Y=>rw[List.flatMap_cons,an,Y,aj,aL,Nat.succ_mul,iM]
theorem box_mem{xs ys:List Int}{k:Al}:k∈box xs ys↔k.1∈xs/\k.2∈ys:=by
 unfold box;rw[dR]
 constructor
 .exact λu=>X1pp u λy z h=>X1pr k (aY.mp h) λx O=>⟨O,z⟩
 .exact λu=>Aq u λO z=>⟨k.2,z,aY.mpr ⟨k.1,O,rfl⟩⟩
theorem box_snoc(xs O:List Int)(y:Int):box xs (O++[y])=box xs O++xs.map λx=>(x,y):=by
 unfold box;rw[gw];simp
noncomputable def AP(P:List Al)(w h:Nat):List Al:=Cn P (box (ivs (-1) (w+2)) (ivs (-1) (h+2)))
theorem around_mem{P:List Al}{w h:Nat}{k:Al}:k∈AP P w h↔((-1<=k.1/\k.1<=w)/\(-1<=k.2/\k.2<=h))/\k∉P:=by
 unfold AP;rw[LV,box_mem,ivs_mem,ivs_mem]
 constructor
 .intro u
  obtain⟨⟨⟨y,Y⟩,B,z⟩,O⟩:=u;exact⟨⟨⟨lin [] [k.fst] (.f Km1 V0) [.f Km1 V0] rfl y,lin [w] [k.fst] (.f V0 (.c V0)) [.g V0 (.A Km1 (.c (.A V0 K2)))] rfl Y⟩,⟨lin [] [k.snd] (.f Km1 V0) [.f Km1 V0] rfl B,lin [h] [k.snd] (.f V0 (.c V0)) [.g V0 (.A Km1 (.c (.A V0 K2)))] rfl z⟩⟩,O⟩
 .intro u
  obtain⟨⟨⟨y,Y⟩,B,z⟩,O⟩:=u;exact⟨⟨⟨lin [] [k.fst] (.f Km1 V0) [.f Km1 V0] rfl y,lin [w] [k.fst] (.g V0 (.A Km1 (.c (.A V0 K2)))) [.f V0 (.c V0)] rfl Y⟩,⟨lin [] [k.snd] (.f Km1 V0) [.f Km1 V0] rfl B,lin [h] [k.snd] (.g V0 (.A Km1 (.c (.A V0 K2)))) [.f V0 (.c V0)] rfl z⟩⟩,O⟩
theorem JX{P:List Al}{G:Gr}{w:Nat}(g:Nb G w):(AP P w G.length).length<=64:=by
 refine aw Gm ?_;rw[HL,AD,AD];exact dU (show G.length+2<=8 by have:=g.h6;exact lin [bU G] [] (.b (.A V0 K2) K8) [.b V0 K6] rfl this) (show w+2<=8 by have:=g.w6;exact lin [w] [] (.b (.A V0 K2) K8) [.b V0 K6] rfl this)
inductive Q0(avs:List AV)(V:LS)(K:KR):Prop
 |mk (x:_)(dx:_)(o:_)(G:Gr)(w:_)(P:List Sp)(tl:_)(c0:avs=[.loc x 0])(c1:V=[.at x (.inst dx),.at dx (.attrs (FV (.list (AB G)) (.loc o 2))),.at o (.dict (tt P)),tl])(c2:Nb G w)(c3:K ⟨[.dict (tt (AP P w G.length))],.new 0⟩ V):Q0 avs V K
noncomputable def Md:FS:=⟨λZ=>aa,λavs V K X=>Q0 avs V K,true⟩
theorem Nb.first{G:Gr}{w:Nat}(g:Nb G w):∃d,G[0]?=some d/\d.length=w:=by
 have h1:=g.h1;have len:=g.len;clear g
 cases G with|nil=>exact absurd h1 (by decide)|cons d G=>exact⟨d,rfl,len d (.head _)⟩
theorem gridA_at{G:Gr}{n:Nat}{r:List Bool}(h:G[n]?=some r):(AB G)[n]?=some (.str (Ce r)):=by
 unfold AB;rw[a9,h];rfl
theorem CQ{G:Gr}{w:Nat}(g:Nb G w):(AB G).length<=1000:=by
 unfold AB;rw[aj];exact aw g.h6 (by decide)
theorem IG(G:Gr):(AB G).length=G.length:=by unfold AB;rw[aj]
theorem rowS_big{r:List Bool}{w:Nat}(e:r.length=w)(h:w<=6):(Ce r).length<=big:=by
 rw[A4,e];exact An (aw h (by decide))
theorem F0{n:Nat}(h:n<=6):cz (-1) ((n:Int)+1) 1=true:=B2 (by decide) (by decide) (lin [n] [] (.f Bp (.A (.c V0) K1)) [] rfl) (lin [n] [] (.f (.A (.c V0) K1) AC) [.b V0 K6] rfl h)
theorem KA(n:Nat):A1 (-1) 1 (Bd (-1) ((n:Int)+1) 1)=(ivs (-1) (n+2)).map .int:=by
 rw[KC,show ((n:Int)+1 - -1)=((n+2:Nat):Int) by exact ah (lin [n] [] (.f (.S (.A (.c V0) K1) Km1) (.c (.A V0 K2))) [] rfl) (lin [n] [] (.f (.c (.A V0 K2)) (.S (.A (.c V0) K1) Km1)) [] rfl),b6]
noncomputable abbrev arS'(x dx o a:Addr)(G:Gr)(P:List Al)(tl:Slot)(F:List (Al×AV)):LS:=[.at x (.inst dx),.at dx (.attrs (FV (.list (AB G)) (.loc o 2))),.at o (.dict (tt P)),tl,.at a (.dict F)]
noncomputable abbrev arS(x dx o a:Addr)(G:Gr)(P:List Al)(tl:Slot)(F:List Al):LS:=[.at x (.inst dx),.at dx (.attrs (FV (.list (AB G)) (.loc o 2))),.at o (.dict (tt P)),tl,.at a (.dict (tt F))]
inductive ArJ(x dx o a:Addr)(G:Gr)(w:Nat)(P:List Al)(tl:Slot)(d r:List Int):M->LS->Prop
 |mk (hd:d++r=ivs (-1) (G.length+2))(u v:Option AV):ArJ x dx o a G w P tl d r [some (.loc x 0),some (.loc a 4),u,v] (arS x dx o a G P tl (Cn P (box (ivs (-1) (w+2)) d)))
inductive ArI(x dx o a:Addr)(G:Gr)(w:Nat)(P:List Al)(tl:Slot)(y:Int)(B:List Al)(d r:List Int):M->LS->Prop
 |mk (hd:d++r=ivs (-1) (w+2))(v:Option AV):ArI x dx o a G w P tl y B d r [some (.loc x 0),some (.loc a 4),some (.int y),v] (arS x dx o a G P tl (Cn P (B++d.map λx=>(x,y))))
theorem Iu{a:Int}{n:Nat}{d r:List Int}{x:Int}(h:d++x::r=ivs a n):d.length<n:=by
 have:=congrArg bU h
 rw[an,aL,AD]at this;exact lin [d.length,r.length,n] [] (.c V0 V2) [.d (.A V0 (.A V1 K1)) V2] rfl this
theorem HN{ex:List Nat}{X:XL}{x dx o a:Addr}{G:Gr}{w:Nat}{P:List Al}{tl:Slot}{y z:Int}{B:List Al}{d r:List Int}{m:M}{V:LS}{C:M->LS->Prop}{KK:KS}(hB:B.length+w+2<=1000)(j:ArI x dx o a G w P tl y B d (z::r) m V)(T:∀At Ab,ArI x dx o a G w P tl y B (d++[z]) r At Ab->C At Ab) :
  wpSs ⟨true,ex,[],[],[]⟩ [.ite (.cmp .NotIn (.tup [.v 3,.v 2]) (.attr (.v 0) 12)) [.setitem (.v 1) (.tup [.v 3,.v 2]) (.bool true)] []] X (Ff m 3 (.int z)) V (DX aa V C KK):=by
 induction j using ArI.casesOn with
 |mk u v =>
  have U:=Iu u;refine⟨⟨rfl,rfl,rfl,rfl⟩,rfl,_,⟨rfl,B6 P (z,y)⟩,?_⟩;have e:B++(d++[z]).map (λx=>(x,y))=(B++d.map λx=>(x,y))++[(z,y)]:=by rw[aQ,<- aG];rfl
  have Y:∀F,F=Cn P (B++(d++[z]).map λx=>(x,y))->C [some (.loc x 0),some (.loc a 4),some (.int y),some (.int z)] (arS x dx o a G P tl F):=λF O=>by
   subst O;exact T _ _ (.mk (by rwa [aG]) _)
  rw[e]at Y
  by_cases hz:(z,y)∈P
  .exact ifF (by rw[decide_eq_true hz];rfl) (Y _ (freeF_in hz).symm)
  .refine ifT (by rw[decide_eq_false hz];rfl) ⟨rfl,An ?_,?_⟩
   .rw[BZ]
    refine aw Gm ?_;rw[an,aj];clear Y e u;exact lin [B.length,w,d.length] [] (.b (.A V0 V2) AL) [.b (.A (.A V0 V1) K2) AL,.c V2 (.A V1 K2)] rfl hB U
   .have:=Y _ (LU hz).symm
    show C _ (arS' x dx o a G P tl (Bx (tt (Cn P (B++d.map λx=>(x,y)))) (z,y) (.bool true)));rw[IU D2];exact this
theorem MI{ex:List Nat}:M0 ⟨true,ex,[],[],[]⟩ GJ .new 3 1 Md:=by
 refine⟨λavs V K X h=>?_,λZ Z h=>by exact nS h⟩
 obtain⟨x,dx,o,G,w,P,tl,rfl,rfl,g,hK⟩:=h;have h6:=g.h6;have w6:=g.w6;refine X1pp g.first λr0 U T=>⟨rfl,λa=>⟨⟨rfl,rfl,rfl,rfl⟩,rfl,An (CQ g),⟨by rw[IG];exact F0 h6,AY (g:=.int) ((congrArg (λn:Nat=>A1 (-1) 1 (Bd (-1) ((n:Int)+1) 1)) (IG G)).trans (KA _)) (ArJ x dx o a G w P tl) ?_ ?_ (d:=[]) (.mk rfl _ _)⟩⟩⟩
 .intro d m V j
  induction j using ArJ.casesOn with
  |mk O u v =>
   rw[aN]at O;subst O;exact⟨rfl,hK⟩
 .intro d y r m V j C Y
  induction j using ArJ.casesOn with
  |mk O u v =>
   have hl:=Iu O;refine⟨⟨rfl,rfl,rfl,rfl⟩,rfl,_,gridA_at U,rowS_big T w6,⟨by rw[A4,T];exact F0 w6,?_⟩⟩
   have hB:(box (ivs (-1) (w+2)) d).length+w+2<=1000:=by
    rw[HL,AD]
    have:d.length * (w+2)<=8 * 8:=dU (by clear O U T;exact lin [bU G,d.length] [] (.b V1 K8) [.b V0 K6,.c V1 (.A V0 K2)] rfl h6 hl) (by clear O U T;exact lin [w] [] (.b (.A V0 K2) K8) [.b V0 K6] rfl w6)
    clear O U T;exact lin [w,d.length * (w+2)] [] (.b (.A (.A V1 V0) K2) AL) [.b V0 K6,.b V1 (.M 8 K8)] rfl w6 this
   refine AY (g:=.int) ((congrArg (λn:Nat=>A1 (-1) 1 (Bd (-1) ((n:Int)+1) 1)) ((A4 r0).trans T)).trans (KA _)) (ArI x dx o a G w P tl y (box (ivs (-1) (w+2)) d)) ?_ ?_ (d:=[]) ?_
   .intro e m V j
    induction j using ArI.casesOn with
    |mk he v =>
     rw[aN]at he;subst he;rw[<- box_snoc];exact Y _ _ (.mk (by rwa [aG]) _ _)
   .exact λe z s m V j C Y=>HN hB j Y
   .have:=ArI.mk (x:=x) (dx:=dx) (o:=o) (a:=a) (G:=G) (w:=w) (P:=P) (tl:=tl) (y:=y) (B:=box (ivs (-1) (w+2)) d) (d:=[]) (r:=ivs (-1) (w+2)) rfl v
    rw[List.map_nil,aN]at this;exact this
theorem LN(b:Bool):EqP (.str ⟨#[sgn b]⟩) (.str "#") b:=by
 cases b
 .exact .py ⟨_,_,rfl,rfl,by decide +kernel,by decide +kernel,by decide +kernel⟩
 .exact .py ⟨_,_,rfl,rfl,by decide +kernel,by decide +kernel,by decide +kernel⟩
theorem fset_fl(t o:AV):J2 (J2 [] (fld 11) t) (fld 12) o=FV t o:=by
 show (if (("texts":Str) == ("own":Str))=true then _ else _)=_;rw[if_neg (by decide +kernel)]
 rfl
def M8(P:List Al)(a:Al):Prop:=∀k∈P,M2 P a k
theorem M8.len{P fs:List Al}{a:Al}(h:M8 P a)(ha:a∈P)(n:P.Nodup)(c:Comp P a fs):fs.length=P.length :=
 same_length c.1 n λk=>(c.2 k).trans ⟨λq=>q.mem.elim (λe=>e▸ha) id,h k⟩
theorem Kz{y:Int}:∀{r:List Bool}{x:Int},(Cq y x r).Pairwise lt2
 |[],_=>.nil
 |b::r,x=>by
  have u:=Kz (y:=y) (r:=r) (x:=x+1)
  cases b
  .exact u
  .exact eZ.mpr ⟨λk B=>(Bm (rowC_mem.mp B) λY z Z=>(.inr ⟨Y.symm,lin [] [k.fst,x] (.g V1 V0) [.f K0 (.S V0 (.A V1 K1))] rfl z⟩)),u⟩
theorem GD:∀{G:Gr}{y:Int},(BK y G).Pairwise lt2
 |[],_=>.nil
 |r::G,y=>by
  exact List.pairwise_append.mpr ⟨Kz,GD,λa ha b Y=>(Aq (rowC_mem.mp ha) λO Z=>(Aq (cellsF_mem.mp Y) λz Z=>(.inl (by dsimp only at z;exact lin [] [a.snd,y,b.snd] (.g V0 V2) [.h V0 V1,.f K0 (.S V2 (.A V1 K1))] rfl O z))))⟩
theorem IZ(G:Gr):(Ae G).Pairwise lt2:=GD
structure Flo(G:Gr)(w:Nat):Prop where
 g:Nb G w
 ne:∃a P',Ae G=a::P'/\M8 (Ae G) a
 out:M8 (AP (Ae G) w G.length) (-1,-1)
theorem Flo.some{G:Gr}{w:Nat}(f:Flo G w):(G.any λr=>r.any id)=true:=by
 refine X2pp f.ne λa U e Z=>?_;have ha:a∈Ae G:=by rw[e];exact .head _
 refine Aq (cellsOf_mem.mp ha) λZ u=>X1ppp u λr Y Z z=>?_;rw[dP];exact⟨r,af Y,dP.mpr ⟨true,af z,rfl⟩⟩
inductive QB(avs:List AV)(V:LS)(K:KR):Prop
 |mk (a:_)(G:Gr)(w:_)(c0:avs=[.loc a 0])(c1:V=[.at a (.list (AB G))])(c2:Flo G w)(c3:K ⟨[],.val (Au (.list (AB G)) (Ae G))⟩ [.at a (.list (AB G))]):QB avs V K
noncomputable def fFloor:FS:=specF λavs V K X=>QB avs V K
noncomputable abbrev tInit:Tab:=⟨true,[28,19,20,21],[(36,fArows),(35,L8)],[(13,Md)],[]⟩
noncomputable abbrev inS(x dx o a:Addr)(G:Gr)(P:List (Al×AV)):LS:=[.at x (.inst dx),.at dx (.attrs (FV (.list (AB G)) (.loc o 2))),.at o (.dict P),.at a (.list (AB G))]
inductive InJ(x dx o a:Addr)(G:Gr)(d r:Gr):M->LS->Prop
 |mk (hd:d++r=G)(u1 u2 u3 u4:Option AV):InJ x dx o a G d r [some (.loc x 0),some (.loc a 3),u1,u2,u3,u4,aa] (inS x dx o a G (tt (Ae d)))
inductive InI(x dx o a:Addr)(G d:Gr)(r:List Bool)(e t:List Bool):M->LS->Prop
 |mk (he:e++t=r)(u1 u2:Option AV):InI x dx o a G d r e t [some (.loc x 0),some (.loc a 3),some (.int d.length),some (.str (Ce r)),u1,u2,aa] (inS x dx o a G (tt (Ae d++Cq d.length 0 e)))
theorem Cj{α:Type}{d r G:List α}{x:α}(h:d++x::r=G):d.length<G.length:=by
 rw[<- h,an,aL];exact lin [d.length,r.length] [] (.c V0 (.A V0 (.A V1 K1))) [] rfl
theorem LI{X:XL}{x dx o a:Addr}{G d:Gr}{w:Nat}{r e t:List Bool}{b:Bool}{m:M}{V:LS}{C:M->LS->Prop}{KK:KS}(O:(Ae d).length<=36)(T:r.length<=6)(j:InI x dx o a G d r e (b::t) m V)(B:∀At Ab,InI x dx o a G d r (e++[b]) t At Ab->C At Ab) :
  wpSs tInit [.ite (.cmp .Eq (.v 5) (.str "#")) [.setitem (.attr (.v 0) 12) (.tup [.v 4,.v 2]) (.bool true)] []] X (Ff (Ff m 4 (.int e.length)) 5 (.str ⟨#[sgn b]⟩)) V (DX aa V C KK):=by
 induction j using InI.casesOn with
 |mk u u1 u2 =>
  have z:=Cj u;have Y:∀q,q=tt (Ae d++Cq d.length 0 (e++[b]))->C [some (.loc x 0),some (.loc a 3),some (.int d.length),some (.str (Ce r)),some (.int e.length),some (.str ⟨#[sgn b]⟩),aa] (inS x dx o a G q):=λq hq=>by
   subst hq;exact B _ _ (.mk (by rwa [aG]) _ _)
  rw[F2]at Y;refine⟨b,LN b,?_⟩
  cases b
  .rw[show Cq (d.length:Int) (0+e.length) [false]=[] from rfl,aN]at Y
   exact Y _ rfl
  .refine⟨⟨rfl,rfl,rfl,rfl⟩,rfl,rfl,An ?_,Y _ ?_⟩
   .rw[BZ,an]
    have U:=Fg (y:=d.length) (r:=e) (x:=0);clear Y u;exact lin [(Ae d).length,r.length,e.length,(Cq (↑(bU d)) 0 e).length] [] (.b (.A V0 V3) AL) [.b V0 K36,.b V1 K6,.c V2 V1,.b V3 V2] rfl O T z U
   .rw[show Cq (d.length:Int) (0+e.length) [true]=[(0+(e.length:Int),(d.length:Int))] from rfl,cF,<- aG]
    exact HE JM
theorem init_end{K:KR}{X:XL}{x dx o a:Addr}{G:Gr}{w:Nat}{u1 Y y B:Option AV}(f:Flo G w)(hK:K ⟨[],.val (Au (.list (AB G)) (Ae G))⟩ [.at a (.list (AB G))]) :
  wpSs tInit (c_Finit.body.drop 4) X [some (.loc x 0),some (.loc a 3),u1,Y,y,B,aa] (inS x dx o a G (tt (Ae G))) (λfl Z τ=>flV fl=.none/\madeW 1 x dx τ K):=by
 refine X2pp f.ne λu P' z hh=>?_;have g:=f.g;have d:(Ae G).length<=1000:=aw g.cells (by decide)
 have O:(AP (Ae G) w G.length).length<=1000:=aw (JX g) (by decide)
 have h0:((tt (Ae G)).map λp=>sp p.1)[0]?=some (sp u):=by rw[E9,z];rfl
 have tl:∀{P:List Al},P.length<=1000->(tt P).length<=big:=λh=>An (by rwa [BZ])
 refine⟨⟨rfl,rfl,rfl,rfl⟩,rfl,rfl,tl d,sp u,h0,⟨rfl,rfl,rfl,rfl⟩,rfl,u,Ae G,d,.inr ⟨o,rfl,rfl,λfs hc=>?_⟩⟩;have U:=hh.len (by rw[z];exact .head _) (A7 (IZ G)) hc
 refine⟨tl (U▸d),⟨rfl,rfl,rfl,rfl⟩,rfl,rfl,tl d,ifF (by rw[BZ,BZ,U,beq_self_eq_true];rfl) ⟨⟨rfl,rfl,rfl,rfl⟩,⟨rfl,rfl,rfl,rfl⟩,x,dx,o,G,w,Ae G,_,rfl,rfl,g,⟨(-1,-1),AP (Ae G) w G.length,O,.inl ⟨rfl,rfl,λfs2 T=>?_⟩⟩⟩⟩
 have m1:((-1,-1):Al)∈AP (Ae G) w G.length:=around_mem.mpr ⟨⟨⟨by decide,de (by decide) (dX _)⟩,by decide,de (by decide) (dX _)⟩,λq=>by have:=(g.in q).1;exact absurd this (by decide)⟩
 have e2:=f.out.len m1 D2 T;exact⟨tl (e2▸O),tl O,ifF (by rw[BZ,BZ,e2,beq_self_eq_true];rfl) ⟨rfl,⟨rfl,rfl,rfl,rfl,rfl,rfl⟩,hK⟩⟩
noncomputable def locHd?(l:List AV):Option Addr:=match l with
 |[]=>aa
 |x::_=>(match x with
  |.loc a _=>some a
  |_=>aa)
theorem KD{y:List AV}{a:Addr}(h:A8 y 0=[.loc a 0]):A8 y 3=[.loc a 3]:=by
 cases y with
 |nil=>exact(Ak rfl (congrArg locHd? h)).elim
 |cons v r =>
  cases v with
  |loc b i =>
   obtain rfl:b=a:=ae (congrArg locHd? h)
   cases r with
   |nil=>rfl
   |cons v r =>
    have e2:=(eS h).2
    cases v<;>exact(List.cons_ne_nil _ _ e2).elim
  |_=>exact(Ak rfl (congrArg locHd? h)).elim
theorem JT{G d r:Gr}{w:Nat}(g:Nb G w)(z:d++r=G):(Ae d).length<=36:=by
 have Y:=Cl (w:=w) (G:=d) (y:=0) λq hq=>g.len q (by rw[<- z];exact aU _ hq)
 have B:d.length * w<=6 * 6:=dU (aw (by rw[<- z,an];exact dL _ _) g.h6) g.w6
 exact aw Y B
theorem init_ok(z:List AV)(V:LS)(K:KR)(X:XL)(h:fFloor.spec (A8 z 0) V K X):makeW tInit c_Finit 5 0 (A8 z 3) V K X:=by
 obtain⟨a,G,w,ha,rfl,f,hK⟩:=h;have g:=f.g;rw[KD ha];refine⟨rfl,λx dx=>⟨a,G,w,rfl,rfl,g,f.some,⟨rfl,An (CQ g),⟨rfl,rfl⟩,aP rfl,λo=>⟨⟨rfl,rfl⟩,aP rfl,rfl,?_⟩⟩⟩⟩;rw[HA];refine Fy (r:=G) (g:=λr=>.str (Ce r)) (InJ x dx o a G) ?_ ?_ (d:=[]) ?_
 .intro d m V j
  induction j using InJ.casesOn with
  |mk y B U u O =>
   rw[aN]at y;clear g;subst y;exact init_end f hK
 .intro d r s m V j C Y
  induction j using InJ.casesOn with
  |mk y B U u O =>
   have T:r.length<=6:=by rw[g.len r (by rw[<- y];exact aM _ (.head _))];exact g.w6
   refine⟨EB r,?_⟩;rw[HA,DM];refine Fy (r:=r) (g:=λb=>.str ⟨#[sgn b]⟩) (InI x dx o a G d r) ?_ ?_ (d:=[]) ?_
   .intro e m V j
    induction j using InI.casesOn with
    |mk he B U =>
     rw[aN]at he;clear T;subst he
     have:=InJ.mk (x:=x) (dx:=dx) (o:=o) (a:=a) (G:=G) (d:=d++[e]) (r:=s) (by rwa [aG]) (some (.int d.length)) (some (.str (Ce e))) B U
     unfold Ae at this;rw[CD,cF]at this;exact⟨rfl,Y _ _ this⟩
   .exact λe b t m V j C Y=>LI (w:=w) (JT g y) T j Y
   .have:=InI.mk (x:=x) (dx:=dx) (o:=o) (a:=a) (G:=G) (d:=d) (r:=r) (e:=[]) (t:=r) rfl u O
    rw[show Cq (d.length:Int) 0 []=[] from rfl,aN]at this
    exact this
 .have:=InJ.mk (x:=x) (dx:=dx) (o:=o) (a:=a) (G:=G) (d:=[]) (r:=G) rfl aa aa aa aa
  have e:=fset_fl (.list (AB G)) (.loc o 2);rw[inS,<- e]at this;exact this
end
section
theorem ivs_at:∀{d:List Int}{x a:Int}{r:List Int}{n:Nat},d++x::r=ivs a n->x=a+d.length/\d.length<n
 |[],x,a,r,0,h=>by cases h
 |[],x,a,r,n+1,h=>by
  exact X0lp x (eS h) λZ=>⟨(cO _).symm,gx _⟩
 |z::d,x,a,r,0,h=>by cases h
 |z::d,x,a,r,n+1,h=>by
  refine Aq (eS h) λu h=>?_;subst u;refine Aq (ivs_at h) λY T=>?_;rw[aL];exact⟨ah (lin [d.length] [x,z] (.f V0 (.A V1 (.c (.A V0 K1)))) [.h V0 (.A (.A V1 K1) (.c V0))] rfl Y) (lin [d.length] [x,z] (.f (.A V1 (.c (.A V0 K1))) V0) [.H (-1) V0 (.A (.A V1 K1) (.c V0))] rfl Y),lin [d.length,n] [] (.c (.A V0 K1) (.A V1 K1)) [.c V0 V1] rfl T⟩
theorem Cy:∀{r:List Bool}{x:Int},Cq y x r=((ivs x r.length).filter λz=>r.getD (z - x).toNat false).map λz=>(z,y)
 |[],_=>rfl
 |b::r,x=>by
  have Y:=Cy (y:=y) (r:=r) (x:=x+1);have e:((ivs (x+1) r.length).filter λz=>(b::r).getD (z - x).toNat false)=(ivs (x+1) r.length).filter λz=>r.getD (z - (x+1)).toNat false:=by
   apply List.filter_congr;intro z hz;rw[ivs_mem]at hz;rw[show (z - x).toNat=(z - (x+1)).toNat+1 by exact ax (lin [(z - (x+1)).toNat,(z - x).toNat] [z,x] (.b V1 (.A V0 K1)) [.f (.S V0 (.A V1 K1)) (.c V0),.h (.c V1) (.S V0 V1)] rfl (aK (z - (x+1))) (ao (lin [] [x,z] (.f K0 (.S V1 V0)) [.f (.A V0 K1) V1] rfl hz.1))) (lin [(z - x).toNat,(z - (x+1)).toNat] [z,x] (.b (.A V1 K1) V0) [.f (.S V0 V1) (.c V0),.h (.c V1) (.S V0 (.A V1 K1))] rfl (aK (z - x)) (ao (lin [] [x,z] (.f K0 (.S V1 (.A V0 K1))) [.f (.A V0 K1) V1] rfl hz.1)))]
   rfl
  rw[aL,ivs,List.filter_cons];have U:(b::r).getD (x - x).toNat false=b:=by rw[Int.sub_self];rfl
  rw[U,e]
  cases b
  .rw[if_neg (by decide),<- Y];rfl
  .rw[if_pos rfl,bp,<- Y];rfl
theorem row_at(h:n<r.length):(Ce r).cps[n]?=some (sgn (r.getD n false)):=by
 show ((r.map sgn).toArray)[n]?=_;rw[List.getElem?_toArray,a9,aI h,aE,aI h];rfl
theorem LT{n:Nat}{r:List Bool}(h:G[n]?=some r):(AB G)[n]?=some (.str (Ce r)):=by
 unfold AB;rw[a9,h];rfl
theorem CN(G:Gr):(AB G).length=G.length:=by unfold AB;rw[aj]
theorem DL{n:Nat}(h:n<=6):cz 0 n 1=true:=B2 (by decide) (by decide) (lin [n] [] (.f Bp (.c V0)) [] rfl) (lin [n] [] (.f (.c V0) AC) [.b V0 K6] rfl h)
theorem rng_grid(G:Gr):A1 0 1 (Bd 0 (AB G).length 1)=(ivs 0 G.length).map .int:=by rw[CN,H7]
theorem Fh(r:List Bool):A1 0 1 (Bd 0 (Ce r).length 1)=(ivs 0 r.length).map .int:=by rw[A4,H7]
noncomputable def colG(G:Gr)(x:Int):List Bool:=G.map λr=>r.getD x.toNat false
noncomputable def trG(G:Gr)(w:Nat):Gr:=(ivs 0 w).map (colG G)
theorem Kh{x y:Str}(h:x.cps.toList=y.cps.toList):x=y:=by
 obtain⟨⟨a⟩⟩:=x;obtain⟨⟨b⟩⟩:=y
 have:a=b:=h
 rw[this]
theorem IK(f:α->β):∀l:List α,(l.map λx=>[f x]).flatten=l.map f
 |[]=>rfl
 |x::l=>by rw[bp,List.flatten_cons,IK f l];rfl
inductive QV(avs:List AV)(V:LS)(K:KR):Prop
 |mk (G:Gr)(w:_)(c0:avs=[.list (AB G)])(c1:V=[])(c2:Nb G w)(c3:K ⟨[],.val (.list (AB (trG G w)))⟩ []):QV avs V K
noncomputable def L7:FS:=specF λavs V K X=>QV avs V K
theorem Kc{ex:List Nat}:M0 ⟨true,ex,[],[],[]⟩ Ct .val 2 0 L7:=by
 refine .specF λavs V K X h=>?_;obtain⟨G,w,rfl,rfl,g,O⟩:=h;have h1:=g.h1;have h6:=g.h6;have w6:=g.w6;have h0:∃y,G[0]?=some y/\y.length=w:=by
  cases G with|nil=>exact absurd h1 (by decide)|cons y G=>exact⟨y,rfl,g.len y (.head _)⟩
 obtain⟨y,e0,B⟩:=h0;refine⟨rfl,_,LT e0,An (by rw[A4];exact lin [w,y.length] [] (.b V1 AL) [.b V0 K6,.d V1 V0] rfl w6 B),DL (by rw[A4];exact aw (dE B) w6),⟨An (by rw[Fh,aj,AD,B];exact aw w6 (by decide)),B9 (g:=.int) (f:=λx=>.str (Ce (colG G x))) ((Fh y).trans (by rw[B])) (λx u C h=>?_) ?_⟩⟩
 .rw[ivs_mem]at u
  refine⟨An (by rw[CN];exact lin [bU G] [] (.b V0 AL) [.b V0 K6] rfl h6),B9 (r:=G) (g:=λr=>.str (Ce r)) (f:=λr=>.str ⟨#[sgn (r.getD x.toNat false)]⟩) rfl (λr Y C2 z=>?_) ?_⟩
  .have T:=g.len r Y
   exact⟨⟨lin [] [x] (.f K0 V0) [.f K0 V0] rfl u.1,lin [w] [x] (.g V0 AC) [.b V0 K6,.g V0 (.A K0 (.c V0))] rfl w6 u.2⟩,_,row_at (lin [w,r.length,x.toNat] [x] (.c V2 V1) [.g V0 (.A K0 (.c V0)),.D (-1) V1 V0,.h (.c V2) V0] rfl u.2 T (ao (lin [] [x] (.f K0 V0) [.f K0 V0] rfl u.1))),z⟩
  .refine⟨G.map λr=>⟨#[sgn (r.getD x.toNat false)]⟩,by rw[bc];rfl,?_,?_⟩
   .rw[bc,aj]
    have e1:(G.map ((λx:Str=>x.length) ∘ λr=>(⟨#[sgn (r.getD x.toNat false)]⟩:Str))).sum=G.length:=by
     rw[show ((λx:Str=>x.length) ∘ λr:List Bool=>(⟨#[sgn (r.getD x.toNat false)]⟩:Str))=λZ=>1 from rfl,List.map_const',List.sum_replicate_nat];exact ax (lin [bU G] [] (.b (.U V0 1) V0) [] rfl) (lin [bU G] [] (.b V0 (.U V0 1)) [] rfl)
    rw[e1,show ("":Str).length=0 from rfl];exact lin [bU G] [] (.b (.A V0 (.U V0 0)) AC) [.b V0 K6] rfl h6
   .have e2:Txt.join "" (G.map λr=>(⟨#[sgn (r.getD x.toNat false)]⟩:Str))=Ce (colG G x):=by
     apply Kh;rw[Gk,bc];show (G.map λr=>[sgn (r.getD x.toNat false)]).flatten=(colG G x).map sgn;unfold colG;rw[bc,IK]
     rfl
    rw[e2];exact h
 .have e3:(ivs 0 w).map (λx=>AV.str (Ce (colG G x)))=AB (trG G w):=by unfold AB trG;rw[bc];rfl
  rw[e3];exact O
end
section
noncomputable def AH(w:Nat)(p:Nat×Nat):List Bool:=aH p.1 false++(aH p.2 true++aH (w - p.1 - p.2) false)
structure M9(ev:Bool)(w:Nat)(L:List (Nat×Nat)):Prop where
 ok:∀p∈L,1<=p.2/\p.1+p.2<=w/\(ev=true->p.2 % 2=0)
 ch:∀(i:Nat)(p q:Nat×Nat),L[i]?=some p->L[i+1]?=some q->p.1<q.1+q.2/\q.1<p.1+p.2
theorem M9.nil{ev:Bool}{w:Nat}:M9 ev w []:=⟨λZ h=>(nM h),λZ Z Z h=>(nS h)⟩
theorem M9.snoc{ev:Bool}{w:Nat}{L:List (Nat×Nat)}{q:Nat×Nat}(h:M9 ev w L)(hq:1<=q.2/\q.1+q.2<=w/\(ev=true->q.2 % 2=0))(Y:∀p,L.getLast?=some p->p.1<q.1+q.2/\q.1<p.1+p.2):M9 ev w (L++[q]):=by
 refine⟨λp u=>?_,λi p r u y=>?_⟩
 .rcases aJ.mp u with z|z
  .exact h.ok p z
  .rwa [aD.mp z]
 .rcases Nat.lt_trichotomy (i+1) L.length with z|z|z
  .rw[ce (by omega)]at u y
   exact h.ch i p r u y
  .rw[ce (by exact lin [i,L.length] [] (.c V0 V1) [.d (.A V0 K1) V1] rfl z)]at u
   rw[bj (by exact lin [i,L.length] [] (.b V1 (.A V0 K1)) [.D (-1) (.A V0 K1) V1] rfl z),show i+1 - L.length=0 by exact ax (lin [i,L.length,i+1 - L.length] [] (.b V2 K0) [.d (.A V0 K1) V1,.d (.A V2 V1) (.A V0 K1)] rfl z (aq (lin [i,L.length] [] (.b V1 (.A V0 K1)) [.D (-1) (.A V0 K1) V1] rfl z))) (lin [i+1 - L.length] [] (.b K0 V0) [] rfl)]at y
   obtain rfl:=ae y;refine Y p ?_;rw[List.getLast?_eq_getElem?,show L.length - 1=i by exact ax (lin [i,L.length,L.length - 1] [] (.b V2 V0) [.D (-1) (.A V0 K1) V1,.d (.A V2 K1) V1] rfl z (aq (lin [i,L.length] [] (.b K1 V1) [.d (.A V0 K1) V1] rfl z))) (lin [i,L.length,L.length - 1] [] (.b V0 V2) [.d (.A V0 K1) V1,.b V1 (.A K1 V2)] rfl z (au.mp (az ((L.length) - (1)))))];exact u
  .rw[bj (by exact lin [L.length,i] [] (.b V0 (.A V1 K1)) [.c V0 (.A V1 K1)] rfl z),show i+1 - L.length=(i - L.length)+1 by exact ax (lin [i,L.length,i - L.length,i+1 - L.length] [] (.b V3 (.A V2 K1)) [.b V0 (.A V1 V2),.d (.A V3 V1) (.A V0 K1)] rfl (au.mp (az ((i) - (L.length)))) (aq (lin [L.length,i] [] (.b V0 (.A V1 K1)) [.c V0 (.A V1 K1)] rfl z))) (lin [i,L.length,i+1 - L.length,i - L.length] [] (.b (.A V3 K1) V2) [.b (.A V0 K1) (.A V1 V2),.d (.A V3 V1) V0] rfl (au.mp (az ((i+1) - (L.length)))) (aq (lin [L.length,i] [] (.b V0 V1) [.c V0 (.A V1 K1)] rfl z)))]at y
   exact nS y
theorem Bn{a b:Int}(z:0<b):0<=a.fmod b/\a.fmod b<b:=⟨fK _ z,gT _ z⟩
theorem s_hash:("#":Str)=⟨#[35]⟩:=by decide +kernel
theorem s_dot:(".":Str)=⟨#[46]⟩:=by decide +kernel
theorem Lk(c:Nat)(n:Int):(d3 ⟨#[c]⟩ n).length=n.toNat:=by
 have:(d3 ⟨#[c]⟩ n).cps.toList.length=(d3 ⟨#[c]⟩ n).length:=gu
 rw[<- this,Fq,bQ]
theorem Jk(w b s:Nat)(h:b+s<=w):d3 "." b++d3 "#" s++d3 "." ((w:Int) - b - s)=Ce (AH w (b,s)):=by
 apply Kh;rw[s_hash,s_dot,E4,E4,Fq,Fq,Fq];show _=(AH w (b,s)).map sgn;unfold AH;rw[aQ,aQ,gU,gU,gU,b6,b6,show ((w:Int) - b - s).toNat=w - b - s by rw[Int.sub_sub,<- Int.natCast_add,Int.toNat_sub,Nat.sub_sub],aG]
 rfl
theorem I8{T:Bool}{mu:Option Nat}{x y z:Int}{V:LS}{K:KV}(e:x+y=z)(h:K (.int z) V):binW T mu .Add (.int x) (.int y) V K:=by subst e;exact h
theorem pick_lo{w z B hi m f:Int}(Y:1<=z)(U:z<=w)(u:B<=hi)(O:hi<=w - 1)(T:m=max 0 (B - z+1))(d:0<=hi):0<=m/\B<=m+z - 1/\m<=w - z/\m<=hi:=by exact⟨lin [] [m,max 0 (B - z+1)] (.f K0 V0) [.H (-1) V0 V1,.f K0 V1] rfl T (Int.le_max_left (0) (B - z+1)),⟨lin [] [m,max 0 (B - z+1),B,z] (.f V2 (.S (.A V0 V3) K1)) [.H (-1) V0 V1,.f (.A (.S V2 V3) K1) V1] rfl T (dr (0) (B - z+1)),⟨(CA (0) (B - z+1)).elim (λy=>lin [] [z,w,m,max 0 (B - z+1)] (.f V2 (.S V1 V0)) [.f V0 V1,.h V2 V3,.h V3 K0] rfl U T y) (λy=>lin [] [B,hi,w,m,max 0 (B - z+1),z] (.f V3 (.S V2 V5)) [.f V0 V1,.f V1 (.S V2 K1),.h V3 V4,.h V4 (.A (.S V0 V5) K1)] rfl u O T y),(CA (0) (B - z+1)).elim (λy=>lin [] [m,max 0 (B - z+1),hi] (.f V0 V2) [.h V0 V1,.f K0 V2,.h V1 K0] rfl T d y) (λy=>lin [] [z,B,hi,m,max 0 (B - z+1)] (.f V3 V2) [.f K1 V0,.f V1 V2,.h V3 V4,.h V4 (.A (.S V1 V0) K1)] rfl Y u T y)⟩⟩⟩
theorem Jm{w sz:Nat}{z hi N:Int}(s1:1<=sz)(s2:sz<=w)(h1:0<=z)(h2:z<=hi)(h3:hi<=(w:Int) - 1) :
  ∃U:Nat,min ((w:Int) - sz) hi - max 0 (z - sz+1)+1≠0/\max 0 (z - sz+1)+N.fmod (min ((w:Int) - sz) hi - max 0 (z - sz+1)+1)=U/\U+sz<=w/\(U:Int)<=hi/\z<U+sz:=by
 refine Bt (pick_lo (f:=0) (dY.mpr s1) (dY.mpr s2) h2 h3 rfl (de h1 h2)) λy T q3 q4=>?_;have B:max 0 (z - sz+1)<=min ((w:Int) - sz) hi:=Int.le_min.mpr ⟨q3,q4⟩;have Y:min ((w:Int) - sz) hi<=(w:Int) - sz:=Int.min_le_left _ _;have d:min ((w:Int) - sz) hi<=hi:=Int.min_le_right _ _;generalize max 0 (z - sz+1)=m at *;generalize min ((w:Int) - sz) hi=u at *;clear q3 q4 h1 h2 h3 s1 s2;have O:=Bn (a:=N) (b:=u - m+1) (by clear y T Y d;exact lin [] [m,u] (.g K0 (.A (.S V1 V0) K1)) [.f V0 V1] rfl B)
 generalize N.fmod (u - m+1)=r at O;refine X1p (bY (Int.add_nonneg y O.1)) λU e=>⟨U,by clear e O y T Y d;exact λz0=>lin [] [m,u] .no [.f V0 V1,.h (.A (.S V1 V0) K1) K0] rfl B z0,e,?_,?_,?_⟩
 .clear y T B d;exact lin [w,sz,U] [u,r,m] (.b (.A V2 V1) V0) [.f V0 (.S (.c V0) (.c V1)),.g V1 (.A (.S V0 V2) K1),.H (-1) (.A V2 V1) (.c V2)] rfl Y O.2 e
 .clear y T B Y;exact lin [U] [u,hi,r,m] (.f (.c V0) V1) [.f V0 V1,.g V2 (.A (.S V0 V3) K1),.H (-1) (.A V3 V2) (.c V0)] rfl d O.2 e
 .clear y B Y d;exact lin [sz,U] [z,m,r] (.g V0 (.A (.c V1) (.c V0))) [.f V0 (.S (.A V1 (.c V0)) K1),.f K0 V2,.h (.A V1 V2) (.c V1)] rfl T O.1 e
theorem Jl{ev:Bool}{w:Nat}{N:Int}(u:2<=w):∃z:Nat,(1<=z/\z<=w/\(ev=true->z % 2=0))/\((w:Int)≠0/\(w:Int).fdiv 2≠0)/\(match ev with
  |true=>2 * (1+N.fmod ((w:Int).fdiv 2))=(z:Int)
  |false=>1+N.fmod w=(z:Int)):=by
 have y:1<=(w:Int).fdiv 2/\2 * (w:Int).fdiv 2<=w:=by
  rw[Int.fdiv_eq_ediv_of_nonneg _ (by decide)];omega
 have ne:(w:Int)≠0/\(w:Int).fdiv 2≠0:=by omega
 cases ev
 .have hs:=Bn (a:=N) (b:=w) (lin [w] [] (.g K0 (.c V0)) [.b K2 V0] rfl u)
  obtain⟨z,hz⟩:=bY (show 0<=1+N.fmod w by clear y ne;exact lin [] [N.fmod ↑w] (.f K0 (.A K1 V0)) [.f K0 V0] rfl hs.1)
  refine⟨z,⟨?_,?_,λh=>(nF h)⟩,ne,hz⟩<;>(clear y ne;omega)
 .have hs:=Bn (a:=N) (b:=(w:Int).fdiv 2) (by omega)
  obtain⟨z,hz⟩:=bY (show 0<=1+N.fmod ((w:Int).fdiv 2) by clear y ne;omega)
  refine⟨2 * z,⟨?_,?_,λZ=>Nat.mul_mod_right _ _⟩,ne,?_⟩
  .clear y ne;omega
  .clear ne;omega
  .dsimp only;rw[hz];rfl
inductive QO(avs:List AV)(V:LS)(K:KR):Prop
 |mk (a:_)(b:_)(ev:_)(c0:avs=[.int a,.int b,.bool ev])(c1:V=[])(c2:∀w L,2<=w->w<=6->1<=L.length->L.length<=6->M9 ev w L->K ⟨[.list (AB (L.map (AH w)))],.new 0⟩ []):QO avs V K
noncomputable def L9:FS:=specF λavs V K X=>QO avs V K
noncomputable abbrev rbM(a b:Int)(ev:Bool)(w:Nat)(f:Addr)(lo hi:Int)(u7 u8 u9 u10 u11:Option AV):M:=[some (.int a),some (.int b),some (.bool ev),some (.int w),some (.loc f 4),some (.int lo),some (.int hi),u7,u8,u9,u10,u11]
noncomputable abbrev rbS(w:Nat)(f:Addr)(L:List (Nat×Nat)):LS:=[.no,.no,.no,.no,.at f (.list (AB (L.map (AH w))))]
inductive RbJ(a b:Int)(ev:Bool)(w n:Nat)(f:Addr)(d r:List Int):M->LS->Prop
 |mk (hn:d.length+r.length=n)(L:List (Nat×Nat))(lo hi:Int)(u7 u8 u9 u10 u11:Option AV)(hL:L.length=d.length)(st:M9 ev w L)(h1:0<=lo)(h2:lo<=hi)(h3:hi<=(w:Int) - 1)(hl:∀p,L.getLast?=some p->lo=p.1/\hi=p.1+p.2 - 1):RbJ a b ev w n f d r (rbM a b ev w f lo hi u7 u8 u9 u10 u11) (rbS w f L)
theorem rb_last{L:List (Nat×Nat)}{U z:Nat}{y hi:Int}(Y:∀p,L.getLast?=some p->y=p.1/\hi=p.1+p.2 - 1)(u:(U:Int)<=hi)(T:y<U+z)(p:Nat×Nat)(d:L.getLast?=some p):p.1<U+z/\U<p.1+p.2:=by
 refine Aq (Y p d) λB e2=>?_;clear d Y
 constructor
 .clear e2 u;exact lin [U,z,p.fst] [y] (.c V2 (.A V0 V1)) [.g V0 (.A (.c V0) (.c V1)),.H (-1) V0 (.c V2)] rfl T B
 .clear B T;exact lin [U,p.fst,p.snd] [hi] (.c V0 (.A V1 V2)) [.f (.c V0) V0,.h V0 (.S (.A (.c V1) (.c V2)) K1)] rfl u e2
theorem rb_step{ex:List Nat}{X:XL}{a b:Int}{ev:Bool}{w n:Nat}{f:Addr}{lo hi y N:Int}{L:List (Nat×Nat)}{u9 u10 u11:Option AV}{sz:Nat}{KK:KS}(w6:w<=6)(d:L.length<=6)(T:1<=sz)(z:sz<=w)(h1:0<=lo)(h2:lo<=hi)(h3:hi<=(w:Int) - 1)
  (h:∀U:Nat,U+sz<=w->(U:Int)<=hi->lo<U+sz->∀u10 u11,KK .next (rbM a b ev w f U (U+sz - 1) (some (.int y)) (some (.int N)) (some (.int sz)) u10 u11) (rbS w f (L++[(U,sz)]))) :
  wpSs ⟨true,ex,[(73,EK)],[],[]⟩ [.assign (.v 10) (.call (.g 14) [.int 0,.bin .Add (.bin .Sub (.v 5) (.v 9)) (.int 1)]),.assign (.v 11) (.bin .Add (.v 10) (.bin .Mod (.bin .FloorDiv (.v 8) (.int 30)) (.bin .Add (.bin .Sub (.call (.g 13) [.bin .Sub (.v 3) (.v 9),.v 6]) (.v 10)) (.int 1)))),.expr (.meth (.v 4) 0 [.bin .Add (.bin .Add (.bin .Mult (.str ".") (.v 11)) (.bin .Mult (.str "#") (.v 9))) (.bin .Mult (.str ".") (.bin .Sub (.bin .Sub (.v 3) (.v 11)) (.v 9)))]),.assign (.tup [.v 5,.v 6]) (.tup [.v 11,.bin .Sub (.bin .Add (.v 11) (.v 9)) (.int 1)])] X
   (rbM a b ev w f lo hi (some (.int y)) (some (.int N)) (some (.int sz)) u10 u11) (rbS w f L) KK:=by
 refine X1ppppp (Jm (N:=N.fdiv 30) T z h1 h2 h3) λU ne e O B Y=>⟨ne,I8 e ?_⟩;have bw:U<=6:=aw (aw (dL _ _) O) w6;have sw:sz<=6:=aw z w6;have m0:∀n:Int,-100<=n->n<=100->MulOk "." n:=λn h1 h2=>mul_ok (by decide) h2 h1
 have l0:∀n:Int,(d3 "." n).length=n.toNat:=λn=>by rw[s_dot];exact Lk _ _
 have l1:(d3 "#" sz).length=sz:=by rw[s_hash,Lk,b6]
 clear ne e h1 h2 h3;have u:-100<=(w:Int) - U - sz/\(w:Int) - U - sz<=100:=by clear B Y T z d;exact⟨lin [U,sz,w] [] (.f Km100 (.S (.S (.c V2) (.c V0)) (.c V1))) [.b (.A V0 V1) V2] rfl O,lin [w,U,sz] [] (.f (.S (.S (.c V0) (.c V1)) (.c V2)) FR) [.b V0 K6] rfl w6⟩
 refine⟨rfl,m0 _ (by clear u O B Y T z d;exact lin [U] [] (.f Km100 (.c V0)) [] rfl) (by clear u O B Y T z d;exact lin [U] [] (.f (.c V0) FR) [.b V0 K6] rfl bw),mul_ok (by decide) (by clear u O B Y T z d;exact lin [sz] [] (.f (.c V0) FR) [.b V0 K6] rfl sw) (by clear u O B Y T z d;exact lin [sz] [] (.f Km100 (.c V0)) [] rfl),An ?_,m0 _ u.1 u.2,An ?_,rfl,An ?_,?_⟩
 .rw[l0,l1,b6];exact aw (Nat.add_le_add bw sw) (by decide)
 .rw[app_len,l0,l1,l0,b6];clear B Y T z d;omega
 .rw[CN,aj];exact aw d (by decide)
 .have:=h U O B Y (some (.int (max 0 (lo - sz+1)))) (some (.int U))
  have e:rbS w f (L++[(U,sz)])=[.no,.no,.no,.no,.at f (.list (AB (L.map (AH w))++[.str (d3 "." U++d3 "#" sz++d3 "." ((w:Int) - U - sz))]))]:=by
   rw[Jk w U sz O];show ([.no,.no,.no,.no,.at f (.list (AB ((L++[(U,sz)]).map (AH w))))]:LS)=_;rw[aQ];unfold AB;rw[aQ]
   rfl
  rw[e]at this;exact this
theorem rb_count{a:Int}:∃n:Nat,1+(a.fdiv 5).fmod 6=(n:Int)/\1<=n/\n<=6:=by
 have:=Bn (a:=a.fdiv 5) (b:=6) (by decide)
 obtain⟨n,O⟩:=bY (show 0<=1+(a.fdiv 5).fmod 6 by exact lin [] [(a.fdiv 5).fmod 6] (.f K0 (.A K1 V0)) [.f K0 V0] rfl this.1)
 exact⟨n,O,lin [n] [(a.fdiv 5).fmod 6] (.b K1 V0) [.f K0 V0,.h (.A K1 V0) (.c V0)] rfl this.1 O,lin [n] [(a.fdiv 5).fmod 6] (.b V0 K6) [.g V0 K6,.H (-1) (.A K1 V0) (.c V0)] rfl this.2 O⟩
theorem rb_width{a:Int}:∃n:Nat,2+a.fmod 5=(n:Int)/\2<=n/\n<=6:=by
 have:=Bn (a:=a) (b:=5) (by decide)
 obtain⟨n,O⟩:=bY (show 0<=2+a.fmod 5 by exact lin [] [a.fmod 5] (.f K0 (.A K2 V0)) [.f K0 V0] rfl this.1)
 exact⟨n,O,lin [n] [a.fmod 5] (.b K2 V0) [.f K0 V0,.h (.A K2 V0) (.c V0)] rfl this.1 O,lin [n] [a.fmod 5] (.b V0 K6) [.g V0 K5,.H (-1) (.A K2 V0) (.c V0)] rfl this.2 O⟩
theorem small_to{n:Nat}(h:n<=1000):cz 0 n 1=true:=B2 (by decide) (by decide) (lin [n] [] (.f Bp (.c V0)) [] rfl) (lin [n] [] (.f (.c V0) AC) [.b V0 AL] rfl h)
theorem Kx{ex:List Nat}:M0 ⟨true,ex,[(73,EK)],[],[]⟩ EV .new 9 5 L9:=by
 refine .specF λavs V K X h=>?_;obtain⟨a,b,ev,rfl,rfl,hK⟩:=h;refine X1ppp (rb_width (a:=a)) λw u Y w6=>X1ppp (rb_count (a:=a)) λn O n1 n6=>⟨rfl,λf=>⟨by rw[O];exact small_to (aw n6 (by decide)),?_⟩⟩
 rw[O,u];refine AY (g:=.int) (H7 n) (RbJ a b ev w n f) ?_ ?_ (d:=[]) (.mk (by rw[AD];exact fB _) [] 0 ((w:Int) - 1) _ _ _ _ _ rfl M9.nil (by decide) (by clear u O;exact lin [w] [] (.f K0 (.S (.c V0) K1)) [.b K2 V0] rfl Y) (e7 _) λZ h=>(nS h))
 .intro d m V j
  induction j using RbJ.casesOn with
  |mk z L lo hi u7 u8 u9 u10 u11 T st _ _ _ _ =>
   rw[c6,Nat.add_zero,<- T]at z;clear O;subst z;exact⟨rfl,hK w L Y w6 n1 n6 st⟩
 .intro d y r m V j C hC
  induction j using RbJ.casesOn with
  |mk z L lo hi u7 u8 u9 u10 u11 T st h1 h2 h3 hl =>
   obtain⟨B,⟨s1,s2,s3⟩,⟨ne1,ne2⟩,hs⟩:=Jl (ev:=ev) (N:=(b * 48271+7919 * y+11).fmod 2147483647) Y;have go:=rb_step (ex:=ex) (X:=λe τ=>X e (bZ ([]:LS).length τ)) (a:=a) (b:=b) (ev:=ev) (n:=n) (f:=f) (y:=y) (N:=(b * 48271+7919 * y+11).fmod 2147483647) (u9:=u9) (u10:=u10) (u11:=u11) (KK:=DX aa (rbS w f L) C (kSeq (wpSs ⟨true,ex,[(73,EK)],[],[]⟩ [.ret (.v 4)] λe τ=>X e (bZ ([]:LS).length τ)) λfl Z τ=>retW .new ([]:LS).length (flV fl) τ K)) w6 (by rw[T];clear O u;exact lin [n,d.length,(y::r).length] [] (.b V1 K6) [.b V0 K6,.d (.A V1 V2) V0] rfl n6 z) s1 s2 h1 h2 h3 λU b1 b2 b3 v10 v11=>hC _ _ (.mk (by rw[an];clear O u;exact(Nat.add_assoc _ _ _).trans ((congrArg _ (iM _ _)).trans z)) (L++[(U,B)]) U (U+B - 1) _ _ _ _ _ (by rw[an,an,T];rfl) (st.snoc ⟨s1,b1,s3⟩ (rb_last hl b2 b3)) (lin [U] [] (.f K0 (.c V0)) [] rfl) (by clear O u;exact lin [B,U] [] (.f (.c V1) (.S (.A (.c V1) (.c V0)) K1)) [.b K1 V0] rfl s1) (by clear O u;exact lin [U,B,w] [] (.f (.S (.A (.c V0) (.c V1)) K1) (.S (.c V2) K1)) [.b (.A V0 V1) V2] rfl b1) λp hp=>by
     rw[List.getLast?_append,List.getLast?_singleton,Option.some_or]at hp;obtain rfl:=ae hp;exact⟨rfl,rfl⟩)
   cases ev
   .refine⟨ne1,I8 hs go⟩
   .refine⟨ne2,⟨iD (by decide +kernel),?_⟩⟩
    rw[show (2:Int) * (1+((b * 48271+7919 * y+11).fmod 2147483647).fmod ((w:Int).fdiv 2))=_ from hs]
    exact go
end
section
theorem M2.trans(h:M2 P a b)(g:M2 P b c):M2 P a c:=by
 induction g with|refl=>exact h|step _ n m y=>exact .step y n m
theorem M2.symm(ha:a∈P)(h:M2 P a b):M2 P b a:=by
 induction h with
 |refl=>exact .refl
 |step g n m y =>
  exact M2.trans (.step .refl (B3 n) (g.mem.elim (λe=>e▸ha) id)) y
theorem M2.into(f:Sp->Sp)(B:∀c∈P,f c∈Q)(O:∀c k,c∈A3 k->f c∈A3 (f k))(h:M2 P a b):M2 Q (f a) (f b):=by
 induction h with|refl=>exact .refl|step _ n m y=>exact .step y (O _ _ n) (B _ m)
noncomputable def sw(k:Sp):Sp:=(k.2,k.1)
theorem G3(c k:Sp)(h:c∈A3 k):sw c∈A3 (sw k):=by
 cases DV h with|u=>exact A2 .l|l=>exact A2 .u|r=>exact A2 .d|d=>exact A2 .r
theorem Im:(x - 1,y)∈A3 (x,y):=.tail _ (.head _)
theorem Il:(x,y - 1)∈A3 (x,y):=.head _
theorem near_d:(x,y+1)∈A3 (x,y):=.tail _ (.tail _ (.tail _ (.head _)))
theorem Hu:∀{n:Nat}{x:Int},(∀i:Nat,i<=n->(x - i,y)∈P)->M2 P (x,y) (x - n,y)
 |0,x,_=>by rw[show x - ((0:Nat):Int)=x by exact ah (lin [] [x] (.f (.S V0 (.c K0)) V0) [] rfl) (lin [] [x] (.f V0 (.S V0 (.c K0))) [] rfl)];exact .refl
 |n+1,x,h=>by
  refine .step (Hu (n:=n) λi hi=>h i (lin [i,n] [] (.b V0 (.A V1 K1)) [.b V0 V1] rfl hi)) ?_ (h (n+1) (az _));rw[show x - ((n+1:Nat):Int)=x - n - 1 by exact ah (lin [n] [x] (.f (.S V0 (.c (.A V0 K1))) (.S (.S V0 (.c V0)) K1)) [] rfl) (lin [n] [x] (.f (.S (.S V0 (.c V0)) K1) (.S V0 (.c (.A V0 K1)))) [] rfl)]
  exact Im
theorem go_up:∀{n:Nat}{y:Int},(∀i:Nat,i<=n->(x,y - i)∈P)->M2 P (x,y) (x,y - n)
 |0,y,_=>by rw[show y - ((0:Nat):Int)=y by exact ah (lin [] [y] (.f (.S V0 (.c K0)) V0) [] rfl) (lin [] [y] (.f V0 (.S V0 (.c K0))) [] rfl)];exact .refl
 |n+1,y,h=>by
  refine .step (go_up (n:=n) λi hi=>h i (lin [i,n] [] (.b V0 (.A V1 K1)) [.b V0 V1] rfl hi)) ?_ (h (n+1) (az _));rw[show y - ((n+1:Nat):Int)=y - n - 1 by exact ah (lin [n] [y] (.f (.S V0 (.c (.A V0 K1))) (.S (.S V0 (.c V0)) K1)) [] rfl) (lin [n] [y] (.f (.S (.S V0 (.c V0)) K1) (.S V0 (.c (.A V0 K1)))) [] rfl)]
  exact Il
theorem Gj(h:∀u,(z<=u/\u<=x)\/(x<=u/\u<=z)->(u,y)∈P):M2 P (x,y) (z,y):=by
 by_cases q:z<=x
 .have:=Hu (P:=P) (y:=y) (n:=(x - z).toNat) (x:=x) λi hi=>h _ (.inl (⟨lin [i,(x - z).toNat] [x,z] (.f V1 (.S V0 (.c V0))) [.b V0 V1,.h (.c V1) (.S V0 V1)] rfl hi (ao (lin [] [z,x] (.f K0 (.S V1 V0)) [.f V0 V1] rfl q)),lin [i] [x] (.f (.S V0 (.c V0)) V0) [] rfl⟩))
  rw[show x - ((x - z).toNat:Int)=z by exact ah (lin [(x - z).toNat] [x,z] (.f (.S V0 (.c V0)) V1) [.f (.S V0 V1) (.c V0)] rfl (aK (x - z))) (lin [(x - z).toNat] [x,z] (.f V1 (.S V0 (.c V0))) [.h (.c V0) (.S V0 V1)] rfl (ao (lin [] [z,x] (.f K0 (.S V1 V0)) [.f V0 V1] rfl q)))]at this;exact this
 .have:=Hu (P:=P) (y:=y) (n:=(z - x).toNat) (x:=z) λi hi=>h _ (.inr (⟨lin [i,(z - x).toNat] [z,x] (.f V1 (.S V0 (.c V0))) [.b V0 V1,.h (.c V1) (.S V0 V1)] rfl hi (ao (lin [] [z,x] (.f K0 (.S V0 V1)) [.k V0 V1] rfl q)),lin [i] [z] (.f (.S V0 (.c V0)) V0) [] rfl⟩))
  rw[show z - ((z - x).toNat:Int)=x by exact ah (lin [(z - x).toNat] [z,x] (.f (.S V0 (.c V0)) V1) [.f (.S V0 V1) (.c V0)] rfl (aK (z - x))) (lin [(z - x).toNat] [z,x] (.f V1 (.S V0 (.c V0))) [.h (.c V0) (.S V0 V1)] rfl (ao (lin [] [z,x] (.f K0 (.S V0 V1)) [.k V0 V1] rfl q)))]at this
  exact this.symm (h z (.inr (⟨lin [] [z,x] (.f V1 V0) [.k V0 V1] rfl q,lin [] [z] (.f V0 V0) [] rfl⟩)))
theorem go_col(hz:z<=y)(h:∀u,z<=u/\u<=y->(x,u)∈P):M2 P (x,y) (x,z):=by
 have:=go_up (P:=P) (x:=x) (n:=(y - z).toNat) (y:=y) λi hi=>h _ (⟨lin [i,(y - z).toNat] [y,z] (.f V1 (.S V0 (.c V0))) [.b V0 V1,.h (.c V1) (.S V0 V1)] rfl hi (ao (lin [] [z,y] (.f K0 (.S V1 V0)) [.f V0 V1] rfl hz)),lin [i] [y] (.f (.S V0 (.c V0)) V0) [] rfl⟩)
 rw[show y - ((y - z).toNat:Int)=z by exact ah (lin [(y - z).toNat] [y,z] (.f (.S V0 (.c V0)) V1) [.f (.S V0 V1) (.c V0)] rfl (aK (y - z))) (lin [(y - z).toNat] [y,z] (.f V1 (.S V0 (.c V0))) [.h (.c V0) (.S V0 V1)] rfl (ao (lin [] [z,y] (.f K0 (.S V1 V0)) [.f V0 V1] rfl hz)))]at this;exact this
theorem Ek(h:p.1+p.2<=w):bit (AH w p) x↔(p.1:Int)<=x/\x<p.1+p.2:=by
 unfold bit AH;have key:∀n:Nat,(aH p.1 false++(aH p.2 true++aH (w - p.1 - p.2) false))[n]?=some true↔p.1<=n/\n<p.1+p.2:=λn=>by
  rcases bO n p.1 with z|z
  .rw[ce (by rw[bQ];exact z),dQ,if_pos z]
   exact⟨λh=>(by cases h),λh=>(Nat.not_le_of_lt z h.1).elim⟩
  .rw[bj (by rw[bQ];exact z),bQ]
   rcases bO (n - p.1) p.2 with T|T
   .rw[ce (by rw[bQ];exact T),dQ,if_pos T]
    exact⟨λZ=>⟨z,lin [n - p.fst,p.snd,n,p.fst] [] (.c V2 (.A V3 V1)) [.c V0 V1,.b V2 (.A V3 V0)] rfl T (au.mp (az ((n) - (p.fst))))⟩,λZ=>rfl⟩
   .rw[bj (by rw[bQ];exact T),bQ,dQ]
    refine⟨λy=>?_,λy=>(cR.mpr T (lin [n,p.fst,p.snd,n - p.fst] [] (.c V3 V2) [.c V0 (.A V1 V2),.d (.A V3 V1) V0] rfl y.2 (aq (lin [p.fst,n] [] (.b V0 V1) [.b V0 V1] rfl z)))).elim⟩
    by_cases q:n - p.1 - p.2<w - p.1 - p.2
    .rw[if_pos q]at y;cases y
    .rw[if_neg q]at y;exact nS y
 rw[key];exact⟨λO=>⟨lin [p.fst,x.toNat] [x] (.f (.c V0) V0) [.b V0 V1,.h (.c V1) V0] rfl O.2.1 (ao (lin [] [x] (.f K0 V0) [.f K0 V0] rfl O.1)),lin [x.toNat,p.fst,p.snd] [x] (.g V0 (.A (.c V1) (.c V2))) [.c V0 (.A V1 V2),.f V0 (.c V0)] rfl O.2.2 (aK x)⟩,λO=>⟨lin [p.fst] [x] (.f K0 V0) [.f (.c V0) V0] rfl O.1,⟨lin [p.fst,x.toNat] [x] (.b V0 V1) [.f (.c V0) V0,.f V0 (.c V1)] rfl O.1 (aK x),lin [p.fst,p.snd,x.toNat] [x] (.c V2 (.A V0 V1)) [.g V0 (.A (.c V0) (.c V1)),.h (.c V2) V0] rfl O.2 (ao (lin [p.fst] [x] (.f K0 V0) [.f (.c V0) V0] rfl O.1))⟩⟩⟩
theorem Kg(h:p.1+p.2<=w):(AH w p).length=w:=by
 unfold AH;rw[an,an,bQ,bQ,bQ];exact ax (lin [w - p.fst - p.snd,p.snd,w - p.fst,p.fst,w] [] (.b (.A V3 (.A V1 V0)) V4) [.d (.A V0 V1) V2,.d (.A V2 V3) V4] rfl (aq (lin [p.fst,p.snd,w,w - p.fst] [] (.b V1 V3) [.b (.A V0 V1) V2,.b V2 (.A V0 V3)] rfl h (au.mp (az ((w) - (p.fst)))))) (aq (lin [p.fst,p.snd,w] [] (.b V0 V2) [.b (.A V0 V1) V2] rfl h))) (lin [w - p.fst,p.snd,w - p.fst - p.snd,w,p.fst] [] (.b V3 (.A V4 (.A V1 V2))) [.b V0 (.A V1 V2),.b V3 (.A V4 V0)] rfl (au.mp (az ((w - p.fst) - (p.snd)))) (au.mp (az ((w) - (p.fst)))))
theorem AS(st:M9 ev w L):k∈Ae (L.map (AH w))↔0<=k.2/\∃p,L[k.2.toNat]?=some p/\(p.1:Int)<=k.1/\k.1<p.1+p.2:=by
 rw[cellsOf_mem];unfold has
 constructor
 .refine λu=>Aq u λh T=>X1pp T λr Y z=>?_
  rw[a9]at Y
  cases hp:L[k.2.toNat]? with
  |none=>rw[hp]at Y;exact nS Y
  |some p =>
   rw[hp]at Y;obtain rfl:=ae Y;exact⟨h,p,rfl,(Ek (st.ok p (af hp)).2.1).mp z⟩
 .exact λu=>Aq u λh O=>X1pp O λp Y z=>⟨h,AH w p,by rw[a9,Y];rfl,(Ek (st.ok p (af Y)).2.1).mpr z⟩
theorem G4(st:M9 ev w L)(Y:1<=L.length)(O:L.length<=6)(u:2<=w)(y:w<=6):Nb (L.map (AH w)) w:=by
 exact⟨by rwa [aj],by rw[aj];exact O,lin [w] [] (.b K1 V0) [.b K2 V0] rfl u,y,λr z=>(X1pr r (aY.mp z) λp d=>(Kg (st.ok p d).2.1))⟩
def MQ(P:List Sp):Prop:=∀a∈P,∀b∈P,M2 P a b
theorem Ey(st:M9 ev w L)(ha:a∈Ae (L.map (AH w)))(d:b∈Ae (L.map (AH w)))(e:a.2=b.2):M2 (Ae (L.map (AH w))) a b:=by
 obtain⟨x,y⟩:=a;obtain⟨z,v⟩:=b;dsimp only at e;subst e;refine Aq ((AS st).mp ha) λY Z0=>X1pp Z0 λp U B=>Aq ((AS st).mp d) λZ Z1=>X1pp Z1 λq k2 k3=>?_;dsimp only at U k2 B k3;rw[U]at k2;obtain rfl:=ae k2;refine Gj λu T=>(AS st).mpr ⟨Y,p,U,?_⟩;dsimp only;exact⟨T.elim (λO=>lin [p.fst] [z,u] (.f (.c V0) V1) [.f (.c V0) V0,.f V0 V1] rfl k3.1 O.1) (λO=>lin [p.fst] [x,u] (.f (.c V0) V1) [.f (.c V0) V0,.f V0 V1] rfl B.1 O.1),T.elim (λO=>lin [p.fst,p.snd] [x,u] (.g V1 (.A (.c V0) (.c V1))) [.g V0 (.A (.c V0) (.c V1)),.f V1 V0] rfl B.2 O.2) (λO=>lin [p.fst,p.snd] [z,u] (.g V1 (.A (.c V0) (.c V1))) [.g V0 (.A (.c V0) (.c V1)),.f V1 V0] rfl k3.2 O.2)⟩
theorem Cw(st:M9 ev w L):∀(n:Nat){a b:Sp},a∈Ae (L.map (AH w))->b∈Ae (L.map (AH w))->b.2=a.2+n->M2 (Ae (L.map (AH w))) a b
 |0,a,b,ha,hb,e=>Ey st ha hb (ah (lin [] [b.snd,a.snd] (.f V1 V0) [.H (-1) V0 (.A V1 (.c K0))] rfl e) (lin [] [b.snd,a.snd] (.f V0 V1) [.h V0 (.A V1 (.c K0))] rfl e))
 |n+1,a,b,ha,hb,e=>by
  refine Aq ((AS st).mp ha) λY Z0=>X1pp Z0 λp T O=>Aq ((AS st).mp hb) λk1 Z1=>X1pp Z1 λq k2 k3=>?_;have hl:a.2.toNat+1<L.length:=by
   rcases bO b.2.toNat L.length with z|z
   .exact lin [n,b.snd.toNat,L.length,a.snd.toNat] [b.snd,a.snd] (.c (.A V3 K1) V2) [.H (-1) V0 (.A V1 (.c (.A V0 K1))),.c V1 V2,.f V0 (.c V1),.h (.c V3) V1] rfl e z (aK b.snd) (ao (lin [] [a.snd] (.f K0 V0) [.f K0 V0] rfl Y))
   .rw[be z]at k2;exact nS k2
  have y:L[a.2.toNat+1]?=some L[a.2.toNat+1]:=aI hl;generalize L[a.2.toNat+1]=r at y;have U:=st.ch _ p r T y;have u:=st.ok r (af y);have pok:=st.ok p (af T);obtain⟨x,hx⟩:∃x:Nat,x=max p.1 r.1:=⟨_,rfl⟩;have c1:((x:Int),a.2)∈Ae (L.map (AH w)):=(AS st).mpr ⟨Y,p,T,by dsimp only;exact⟨lin [x,max p.fst r.fst,p.fst] [] (.f (.c V2) (.c V0)) [.D (-1) V0 V1,.b V2 V1] rfl hx (Nat.le_max_left p.fst r.fst),(Lg p.fst r.fst).elim (λB=>lin [p.fst,p.snd,x,max p.fst r.fst] [a.fst] (.g (.c V2) (.A (.c V0) (.c V1))) [.f (.c V0) V0,.g V0 (.A (.c V0) (.c V1)),.d V2 V3,.d V3 V0] rfl O.1 O.2 hx B) (λB=>lin [r.fst,p.fst,p.snd,x,max p.fst r.fst] [] (.g (.c V3) (.A (.c V1) (.c V2))) [.c V0 (.A V1 V2),.d V3 V4,.d V4 V0] rfl U.2 hx B)⟩⟩
  have c2:((x:Int),a.2+1)∈Ae (L.map (AH w)):=(AS st).mpr ⟨by dsimp only;exact lin [] [a.snd] (.f K0 (.A V0 K1)) [.f K0 V0] rfl Y,r,by dsimp only;rw[show (a.2+1).toNat=a.2.toNat+1 by exact ax (lin [a.snd.toNat,(a.snd+1).toNat] [a.snd] (.b V1 (.A V0 K1)) [.f V0 (.c V0),.h (.c V1) (.A V0 K1)] rfl (aK a.snd) (ao (lin [] [a.snd] (.f K0 (.A V0 K1)) [.f K0 V0] rfl Y))) (lin [(a.snd+1).toNat,a.snd.toNat] [a.snd] (.b (.A V1 K1) V0) [.f (.A V0 K1) (.c V0),.h (.c V1) V0] rfl (aK (a.snd+1)) (ao (lin [] [a.snd] (.f K0 V0) [.f K0 V0] rfl Y)))];exact y,by dsimp only;exact⟨lin [x,max p.fst r.fst,r.fst] [] (.f (.c V2) (.c V0)) [.D (-1) V0 V1,.b V2 V1] rfl hx (Nat.le_max_right p.fst r.fst),(Lg p.fst r.fst).elim (λB=>lin [p.fst,r.fst,r.snd,x,max p.fst r.fst] [] (.g (.c V3) (.A (.c V1) (.c V2))) [.c V0 (.A V1 V2),.d V3 V4,.d V4 V0] rfl U.1 hx B) (λB=>lin [r.snd,x,max p.fst r.fst,r.fst] [] (.g (.c V1) (.A (.c V3) (.c V0))) [.b K1 V0,.d V1 V2,.d V2 V3] rfl u.1 hx B)⟩⟩
  exact M2.trans (.step (Ey st ha c1 rfl) near_d c2) (Cw st n c2 hb (by dsimp only;exact ah (lin [n] [b.snd,a.snd] (.f V0 (.A (.A V1 K1) (.c V0))) [.h V0 (.A V1 (.c (.A V0 K1)))] rfl e) (lin [n] [b.snd,a.snd] (.f (.A (.A V1 K1) (.c V0)) V0) [.H (-1) V0 (.A V1 (.c (.A V0 K1)))] rfl e)))
theorem CF(st:M9 ev w L):MQ (Ae (L.map (AH w))):=by
 intro a ha b z
 by_cases h:a.2<=b.2
 .exact Cw st (b.2 - a.2).toNat ha z (ah (lin [(b.snd - a.snd).toNat] [b.snd,a.snd] (.f V0 (.A V1 (.c V0))) [.f (.S V0 V1) (.c V0)] rfl (aK (b.snd - a.snd))) (lin [(b.snd - a.snd).toNat] [b.snd,a.snd] (.f (.A V1 (.c V0)) V0) [.h (.c V0) (.S V0 V1)] rfl (ao (lin [] [a.snd,b.snd] (.f K0 (.S V1 V0)) [.f V0 V1] rfl h))))
 .exact(Cw st (a.2 - b.2).toNat z ha (ah (lin [(a.snd - b.snd).toNat] [a.snd,b.snd] (.f V0 (.A V1 (.c V0))) [.f (.S V0 V1) (.c V0)] rfl (aK (a.snd - b.snd))) (lin [(a.snd - b.snd).toNat] [a.snd,b.snd] (.f (.A V1 (.c V0)) V0) [.h (.c V0) (.S V0 V1)] rfl (ao (lin [] [a.snd,b.snd] (.f K0 (.S V0 V1)) [.k V0 V1] rfl h))))).symm z
theorem Ez(st:M9 ev w L)(hk:k∈AP (Ae (L.map (AH w))) w L.length):M2 (AP (Ae (L.map (AH w))) w L.length) k (-1,-1):=by
 obtain⟨x,y⟩:=k;obtain⟨⟨⟨x1,x2⟩,y1,y2⟩,hn⟩:=around_mem.mp hk;dsimp only at x1 x2 y1 y2;have out:∀u v:Int,-1<=u->u<=w->-1<=v->v<=L.length->(u<0\/(w:Int)<=u\/v<0\/(L.length:Int)<=v)->(u,v)∈AP (Ae (L.map (AH w))) w L.length:=λu v a b c d e=>by
  refine around_mem.mpr ⟨⟨⟨a,b⟩,c,d⟩,λq=>(Aq ((AS st).mp q) λq1 Z0=>(X1pp Z0 λp q2 q3=>?_))⟩;dsimp only at q1 q2 q3;have pok:=st.ok p (af q2)
  have:v.toNat<L.length:=by
   rcases bO v.toNat L.length with z|z
   .exact z
   .rw[be z]at q2;exact nS q2
  exact e.elim (λU=>lin [p.fst] [u] .no [.f (.c V0) V0,.g V0 K0] rfl q3.1 U) (λU=>U.elim (λO=>lin [p.fst,p.snd,w] [u] .no [.g V0 (.A (.c V0) (.c V1)),.b (.A V0 V1) V2,.f (.c V2) V0] rfl q3.2 pok.2.1 O) (λO=>O.elim (λB=>lin [] [v] .no [.f K0 V0,.g V0 K0] rfl q1 B) (λB=>lin [v.toNat,L.length] [v] .no [.c V0 V1,.f V0 (.c V0),.f (.c V1) V0] rfl this (aK v) B)))
 have left:∀v:Int,-1<=v->v<=L.length->M2 (AP (Ae (L.map (AH w))) w L.length) (-1,v) (-1,-1):=λv a b=>go_col a λu T=>out _ _ (lin [] [] (.f Km1 Km1) [] rfl) (lin [w] [] (.f Km1 (.c V0)) [] rfl) (lin [] [u] (.f Km1 V0) [.f Km1 V0] rfl T.1) (lin [L.length] [v,u] (.f V1 (.c V0)) [.f V0 (.c V0),.f V1 V0] rfl b T.2) (.inl (lin [] [] (.g Km1 K0) [] rfl))
 by_cases Y:0<=y/\y<L.length
 .have hl:y.toNat<L.length:=by exact lin [L.length,y.toNat] [y] (.c V1 V0) [.g V0 (.c V0),.h (.c V1) V0] rfl Y.2 (ao (lin [] [y] (.f K0 V0) [.f K0 V0] rfl Y.1))
  have hp:L[y.toNat]?=some L[y.toNat]:=aI hl;generalize L[y.toNat]=p at hp;have free:∀u:Int,-1<=u->u<=w->¬((p.1:Int)<=u/\u<p.1+p.2)->(u,y)∈AP (Ae (L.map (AH w))) w L.length:=λu a b c=>by
   refine around_mem.mpr ⟨⟨⟨a,b⟩,by dsimp only;exact lin [] [y] (.f Km1 V0) [.f K0 V0] rfl Y.1,by dsimp only;exact lin [L.length] [y] (.f V0 (.c V0)) [.g V0 (.c V0)] rfl Y.2⟩,λq=>(Aq ((AS st).mp q) λZ Z1=>(X1pp Z1 λp' q2 q3=>?_))⟩
   dsimp only at q2 q3;rw[hp]at q2;obtain rfl:=ae q2;exact c q3
  have nx:¬((p.1:Int)<=x/\x<p.1+p.2):=λq=>hn ((AS st).mpr ⟨Y.1,p,hp,q⟩)
  by_cases hx:x<p.1
  .exact M2.trans (Gj λu T=>free u (by exact(ba.mp nx).elim (λU=>T.elim (λO=>lin [] [u] (.f Km1 V0) [.f Km1 V0] rfl O.1) (λO=>lin [] [x,u] (.f Km1 V1) [.f Km1 V0,.f V0 V1] rfl x1 O.1)) (λU=>lin [p.fst,p.snd] [x,u] (.F 0 Km1 V1) [.g V0 (.c V0),.l V0 (.A (.c V0) (.c V1))] rfl hx U)) (by exact(ba.mp nx).elim (λU=>T.elim (λO=>lin [w] [x,u] (.f V1 (.c V0)) [.f V0 (.c V0),.f V1 V0] rfl x2 O.2) (λO=>lin [w] [u] (.f V0 (.c V0)) [.f V0 Km1] rfl O.2)) (λU=>lin [p.fst,p.snd,w] [x,u] (.F 0 V1 (.c V2)) [.g V0 (.c V0),.l V0 (.A (.c V0) (.c V1))] rfl hx U)) (by exact λU=>(ba.mp nx).elim (λO=>T.elim (λB=>lin [p.fst] [x,u] .no [.g V0 (.c V0),.f (.c V0) V1,.f V1 V0] rfl hx U.1 B.2) (λB=>lin [p.fst] [u] .no [.f (.c V0) V0,.f V0 Km1] rfl U.1 B.2)) (λO=>lin [p.fst,p.snd] [x] .no [.g V0 (.c V0),.l V0 (.A (.c V0) (.c V1))] rfl hx O))) (left y (by exact lin [] [y] (.f Km1 V0) [.f K0 V0] rfl Y.1) (by exact lin [L.length] [y] (.f V0 (.c V0)) [.g V0 (.c V0)] rfl Y.2))
  .refine M2.trans (b:=((w:Int),y)) (Gj λu T=>free u ((ba.mp nx).elim (λU=>lin [p.fst] [x,u] (.F 0 Km1 V1) [.l V0 (.c V0),.k (.c V0) V0] rfl hx U) (λU=>T.elim (λO=>lin [w] [u] (.f Km1 V0) [.f (.c V0) V0] rfl O.1) (λO=>lin [p.fst] [x,u] (.f Km1 V1) [.l V0 (.c V0),.f V0 V1] rfl hx O.1))) ((ba.mp nx).elim (λU=>lin [p.fst,w] [x,u] (.F 0 V1 (.c V1)) [.l V0 (.c V0),.k (.c V0) V0] rfl hx U) (λU=>T.elim (λO=>lin [w] [x,u] (.f V1 (.c V0)) [.f V0 (.c V0),.f V1 V0] rfl x2 O.2) (λO=>lin [w] [u] (.f V0 (.c V0)) [.f V0 (.c V0)] rfl O.2))) (λU=>(ba.mp nx).elim (λO=>lin [p.fst] [x] .no [.l V0 (.c V0),.k (.c V0) V0] rfl hx O) (λO=>T.elim (λB=>lin [w,p.fst,p.snd] [x,u] .no [.f V0 (.c V0),.g V1 (.A (.c V1) (.c V2)),.l V0 (.A (.c V1) (.c V2)),.f (.c V0) V1] rfl x2 U.2 O B.1) (λB=>lin [p.fst,p.snd] [u,x] .no [.g V0 (.A (.c V0) (.c V1)),.l V1 (.A (.c V0) (.c V1)),.f V1 V0] rfl U.2 O B.1)))) ?_
   exact M2.trans (b:=((w:Int),-1)) (go_col (lin [] [y] (.f Km1 V0) [.f K0 V0] rfl Y.1) λu T=>out _ _ (lin [w] [] (.f Km1 (.c V0)) [] rfl) (lin [w] [] (.f (.c V0) (.c V0)) [] rfl) (lin [] [u] (.f Km1 V0) [.f Km1 V0] rfl T.1) (lin [L.length] [y,u] (.f V1 (.c V0)) [.g V0 (.c V0),.f V1 V0] rfl Y.2 T.2) (.inr (.inl (lin [w] [] (.f (.c V0) (.c V0)) [] rfl)))) (Gj λu T=>out _ _ ((ba.mp nx).elim (λU=>lin [p.fst] [x,u] (.F 0 Km1 V1) [.l V0 (.c V0),.k (.c V0) V0] rfl hx U) (λU=>T.elim (λO=>lin [] [u] (.f Km1 V0) [.f Km1 V0] rfl O.1) (λO=>lin [w] [u] (.f Km1 V0) [.f (.c V0) V0] rfl O.1))) ((ba.mp nx).elim (λU=>lin [p.fst,w] [x,u] (.F 0 V1 (.c V1)) [.l V0 (.c V0),.k (.c V0) V0] rfl hx U) (λU=>T.elim (λO=>lin [w] [u] (.f V0 (.c V0)) [.f V0 (.c V0)] rfl O.2) (λO=>lin [w] [u] (.f V0 (.c V0)) [.f V0 Km1] rfl O.2))) (lin [] [] (.f Km1 Km1) [] rfl) (lin [L.length] [] (.f Km1 (.c V0)) [] rfl) (.inr (.inr (.inl (lin [] [] (.g Km1 K0) [] rfl)))))
 .refine M2.trans (b:=(-1,y)) (Gj λu T=>out _ _ ((ba.mp Y).elim (λU=>T.elim (λO=>lin [] [u] (.f Km1 V0) [.f Km1 V0] rfl O.1) (λO=>lin [] [x,u] (.f Km1 V1) [.f Km1 V0,.f V0 V1] rfl x1 O.1)) (λU=>T.elim (λO=>lin [] [u] (.f Km1 V0) [.f Km1 V0] rfl O.1) (λO=>lin [] [x,u] (.f Km1 V1) [.f Km1 V0,.f V0 V1] rfl x1 O.1))) ((ba.mp Y).elim (λU=>T.elim (λO=>lin [w] [x,u] (.f V1 (.c V0)) [.f V0 (.c V0),.f V1 V0] rfl x2 O.2) (λO=>lin [w] [u] (.f V0 (.c V0)) [.f V0 Km1] rfl O.2)) (λU=>T.elim (λO=>lin [w] [x,u] (.f V1 (.c V0)) [.f V0 (.c V0),.f V1 V0] rfl x2 O.2) (λO=>lin [w] [u] (.f V0 (.c V0)) [.f V0 Km1] rfl O.2))) (lin [] [y] (.f Km1 V0) [.f Km1 V0] rfl y1) (lin [L.length] [y] (.f V0 (.c V0)) [.f V0 (.c V0)] rfl y2) (.inr (.inr (cb λU=>(ba.mp Y).elim (λO=>lin [] [y] .no [.l V0 K0,.k K0 V0] rfl (λz=>U (.inl z)) O) (λO=>lin [L.length] [y] .no [.k (.c V0) V0,.l V0 (.c V0)] rfl (λz=>U (.inr z)) O))))) (left y (lin [] [y] (.f Km1 V0) [.f Km1 V0] rfl y1) (lin [L.length] [y] (.f V0 (.c V0)) [.f V0 (.c V0)] rfl y2))
end
section
theorem Flo.of(g:Nb G w)(d:Ae G≠[])(j:MQ (Ae G))(o:∀k∈AP (Ae G) w G.length,M2 (AP (Ae G) w G.length) k (-1,-1)):Flo G w:=by
 refine⟨g,?_,λk B=>(o k B).symm B⟩
 cases e:Ae G with
 |nil=>exact absurd e d
 |cons a U =>
  refine⟨a,U,rfl,λk B=>?_⟩;rw[<- e]at B ⊢;exact j a (by rw[e];exact .head _) k B
theorem Jj(u:2<=w)(y:w<=6)(Y:1<=L.length)(O:L.length<=6)(st:M9 ev w L):Flo (L.map (AH w)) w:=by
 refine Flo.of (G4 st Y O u y) ?_ (CF st) λk B=>?_
 .cases L with
  |nil=>exact absurd Y (by decide)
  |cons p L =>
   have T:=st.ok p (.head _);intro e
   have:((p.1:Int),(0:Int))∈Ae ((p::L).map (AH w)):=(AS st).mpr ⟨e7 _,p,rfl,by dsimp only;exact⟨lin [p.fst] [] (.f (.c V0) (.c V0)) [] rfl,lin [p.snd,p.fst] [] (.g (.c V1) (.A (.c V1) (.c V0))) [.b K1 V0] rfl T.1⟩⟩
   rw[e]at this;exact nM this
 .rw[aj]at B ⊢
  exact Ez st B
theorem Ht:∀{n i:Nat},i<n->(ivs a n)[i]?=some (a+i)
 |0,_,h=>absurd h (ef _)
 |n+1,0,_=>by show some a=_;rw[show a+((0:Nat):Int)=a by exact ah (lin [] [a] (.f (.A V0 (.c K0)) V0) [] rfl) (lin [] [a] (.f V0 (.A V0 (.c K0))) [] rfl)]
 |n+1,i+1,h=>by
  show (ivs (a+1) n)[i]?=_;rw[Ht (d7 h)]
  congr 1
  exact ah (lin [i] [a] (.f (.A (.A V0 K1) (.c V0)) (.A V0 (.c (.A V0 K1)))) [] rfl) (lin [i] [a] (.f (.A V0 (.c (.A V0 K1))) (.A (.A V0 K1) (.c V0))) [] rfl)
theorem Kd(g:Nb G w):Nb (trG G w) G.length:=by
 have h1:=g.w1;have z:=g.w6;refine⟨?_,?_,g.h1,g.h6,λr y=>?_⟩
 .unfold trG;rwa [aj,AD]
 .unfold trG;rwa [aj,AD]
 .refine X1pr r (aY.mp y) λx Z=>?_
  unfold colG;rw[aj]
theorem Dm(g:Nb G w):k∈Ae (trG G w)↔sw k∈Ae G:=by
 constructor
 .refine λh=>Bt ((Kd g).in h) λY z U d=>?_
  have u:(trG G w).length=w:=by unfold trG;rw[aj,AD]
  rw[u]at d;refine Aq (cellsOf_mem.mp h) λZ T=>X1ppp T λr y Z B=>?_;unfold trG at y;rw[a9,Ht (by exact lin [w,k.snd.toNat] [k.snd] (.c V1 V0) [.g V0 (.c V0),.h (.c V1) V0] rfl d (ao (lin [] [k.snd] (.f K0 V0) [.f K0 V0] rfl U)))]at y
  obtain rfl:=ae y;unfold colG at B;rw[a9]at B;refine cellsOf_mem.mpr ⟨Y,?_⟩
  cases e:G[k.1.toNat]? with
  |none=>rw[e]at B;exact nS B
  |some r =>
   rw[e]at B;have B:r.getD (0+(k.2.toNat:Int)).toNat false=true:=ae B;rw[show (0+(k.2.toNat:Int)).toNat=k.2.toNat by rw[cF];rfl]at B
   refine⟨r,e,U,?_⟩;rw[aE]at B;show r[k.2.toNat]?=some true
   cases e2:r[k.2.toNat]? with|none=>rw[e2]at B;exact nF B|some b=>rw[e2]at B;rw[show b=true from B]
 .refine λh=>Bt (g.in h) λY z U d=>Aq (cellsOf_mem.mp h) λZ O=>X1ppp O λr y Z B=>?_
  have Y:0<=k.2:=Y;have z:k.2<w:=z;have y:G[k.1.toNat]?=some r:=y;have B:r[k.2.toNat]?=some true:=B;refine cellsOf_mem.mpr ⟨Y,colG G (0+(k.2.toNat:Int)),?_,U,?_⟩
  .unfold trG;rw[a9,Ht (by exact lin [w,k.snd.toNat] [k.snd] (.c V1 V0) [.g V0 (.c V0),.h (.c V1) V0] rfl z (ao (lin [] [k.snd] (.f K0 V0) [.f K0 V0] rfl Y)))];rfl
  .unfold colG
   rw[a9,y];show some (r.getD (0+(k.2.toNat:Int)).toNat false)=some true;rw[show (0+(k.2.toNat:Int)).toNat=k.2.toNat by rw[cF];rfl,aE,B];rfl
theorem Jg(k:Sp):sw (sw k)=k:=rfl
theorem tr_flo(g:Nb G w)(d:Ae G≠[])(j:MQ (Ae G))(o:∀k∈AP (Ae G) w G.length,M2 (AP (Ae G) w G.length) k (-1,-1)):Flo (trG G w) G.length:=by
 have u:(trG G w).length=w:=by unfold trG;rw[aj,AD]
 refine Flo.of (Kd g) ?_ (λa ha b z=>?_) λk B=>?_
 .intro e
  cases e2:Ae G with
  |nil=>exact d e2
  |cons a U =>
   have:sw a∈Ae (trG G w):=(Dm g).mpr (by rw[Jg,e2];exact .head _)
   rw[e]at this;exact nM this
 .have:=M2.into (Q:=Ae (trG G w)) sw (λc d=>(Dm g).mpr (by rwa [Jg])) G3 (j _ ((Dm g).mp ha) _ ((Dm g).mp z))
  rwa [Jg,Jg]at this
 .rw[u]at B ⊢
  have mem:∀c,c∈AP (Ae (trG G w)) G.length w↔sw c∈AP (Ae G) w G.length:=λc=>by
   rw[around_mem,around_mem,Dm g];exact⟨λh=>⟨⟨h.1.2,h.1.1⟩,h.2⟩,λh=>⟨⟨h.1.2,h.1.1⟩,h.2⟩⟩
  have:=M2.into (Q:=AP (Ae (trG G w)) G.length w) sw (λc d=>(mem _).mpr (by rwa [Jg])) G3 (o _ ((mem k).mp B))
  rwa [Jg]at this
noncomputable def grow(P fs:List Sp):List Sp:=P.foldl (λfs k=>if (!(fs.contains k) && fs.any λc=>(A3 c).contains k)=true then fs++[k] else fs) fs
noncomputable def growN(P:List Sp):Nat->List Sp->List Sp
 |0,fs=>fs
 |n+1,fs=>growN P n (grow P fs)
set_option tactic.hygienic true in
theorem LQ:∀{Q fs:List Sp},(∀k∈Q,k∈P)->(∀k∈fs,M2 P a k)->∀k∈Q.foldl (λfs k=>if (!(fs.contains k) && fs.any λc=>(A3 c).contains k)=true then fs++[k] else fs) fs,M2 P a k
 |[],fs,_,h,k,hk=>h k hk
 |q::Q,fs,hQ,h,k,hk=>by
  rw[cT]at hk;refine LQ (Q:=Q) (λz hz=>hQ z (.tail _ hz)) (λz hz=>?_) k hk
  split at hz
  .rename_i c
   rcases aJ.mp hz with O|O
   .exact h z O
   .rw[aD.mp O]
    exact X1pp (dP.mp (aO.mp c).2) λB d y=>.step (h B d) (fP.mp y) (hQ q (.head _))
  .exact h z hz
theorem growN_ok:∀{n:Nat}{fs:List Sp},(∀k∈fs,M2 P a k)->∀k∈growN P n fs,M2 P a k
 |0,fs,h=>h
 |n+1,fs,h=>growN_ok (n:=n) (LQ (λZ h=>h) h)
noncomputable def hangB(P:List Sp)(a:Sp):Bool:=P.all λk=>(growN P 10 [a]).contains k
theorem ID(h:hangB P a=true):M8 P a:=λk B =>
 growN_ok (n:=10) (fs:=[a]) (λk B=>by rw[aD.mp B];exact .refl) k (fP.mp (cG.mp h k B))
noncomputable def floB(G:Gr)(w:Nat):Bool:=(decide (1<=G.length/\G.length<=6/\1<=w/\w<=6) && G.all λr=>r.length == w) && ((match Ae G with
 |[]=>false
 |a::_=>hangB (Ae G) a) && hangB (AP (Ae G) w G.length) (-1,-1))
theorem Flo.ofB(h:floB G w=true):Flo G w:=by
 unfold floB at h;rw[bh,bh,bh,decide_eq_true_eq]at h;obtain⟨⟨⟨U,u,B,z⟩,T⟩,O,Y⟩:=h;refine⟨⟨U,u,B,z,λr y=>eq_of_beq (cG.mp T r y)⟩,?_,ID Y⟩
 cases e:Ae G with|nil=>rw[e]at O;exact nF O|cons a d=>rw[e]at O;exact⟨a,d,rfl,ID O⟩
noncomputable def gOf(l:List String):Gr:=l.map λs=>s.toList.map λc=>c == '#'
end
section
theorem DF{l:List String}{G:Gr}(h:l.map bW=G.map Ce):(l.map λs=>AV.str (bW s))=AB G:=by
 have:=congrArg (gV AV.str) h
 rw[bc,bc]at this;exact this
theorem four{x:Int}(h:0<=x/\x<4):x.toNat=0\/x.toNat=1\/x.toNat=2\/x.toNat=3:=by
 obtain⟨n,rfl⟩:=bY h.1
 match n,h.2 with
 |0,_=>exact .inl rfl
 |1,_=>exact .inr (.inl rfl)
 |2,_=>exact .inr (.inr (.inl rfl))
 |3,_=>exact .inr (.inr (.inr rfl))
 |n+4,h=>exact absurd (iI.mp h) (cR.mpr (Nat.le_add_left 4 n))
noncomputable def corC(G:Gr)(w:Nat):List Al:=(box (ivs 0 (w+1)) (ivs 0 (G.length+1))).filter λk=>decide (k∈BW (Ae G))
theorem ivs_up:∀{n:Nat},(ivs a n).Pairwise (·<·)
 |0=>.nil
 |n+1=>eZ.mpr ⟨λx u=>by rw[ivs_mem]at u;exact lin [] [a,x] (.g V0 V1) [.f (.A V0 K1) V1] rfl u.1,ivs_up⟩
theorem box_up(u:xs.Pairwise (·<·)):∀{O:List Int},O.Pairwise (·<·)->(box xs O).Pairwise lt2
 |[],_=>.nil
 |y::O,hy=>by
  rw[eZ]at hy;show ((xs.map λx=>(x,y))++box xs O).Pairwise lt2;exact List.pairwise_append.mpr ⟨cA.mpr (u.imp λh=>.inr ⟨rfl,h⟩),box_up u hy.2,λa ha b z=>(X1pr a (aY.mp ha) λx Z=>(.inl (hy.1 _ (box_mem.mp z).2)))⟩
theorem Nb.cor(g:Nb G w):Cor (Ae G) (corC G w):=by
 have h6:=g.h6;have w6:=g.w6;refine⟨(box_up ivs_up ivs_up).filter _,λk=>?_,?_⟩
 .unfold corC
  rw[cu,decide_eq_true_eq,cornF_mem];refine⟨λh=>h.2,λh=>⟨X1pp h λc d B=>(Bt (g.in d) λO U T y=>?_),h⟩⟩;rw[box_mem,ivs_mem,ivs_mem];unfold Bv at B;simp only[aA,bB,or_false]at B
  rcases B with rfl|rfl|rfl|rfl<;>dsimp only<;>omega
 .refine dZ (dy _ _) ?_
  rw[HL,AD,AD];exact dZ (dU (show G.length+1<=7 by exact lin [bU G] [] (.b (.A V0 K1) K7) [.b V0 K6] rfl h6) (show w+1<=7 by exact lin [w] [] (.b (.A V0 K1) K7) [.b V0 K6] rfl w6)) (by decide)
end
section
noncomputable def sg(k:Sp):Int:=match dark k with
 |true=>1
 |false=>-1
theorem G8(h:b∈A3 a):sg b=- sg a:=by
 unfold sg;rw[CV h]
 cases dark a<;>rfl
def Mt(P:List Sp)(m:Sp->Sp):Prop:=∀x∈P,m x∈nbP P x/\m (m x)=x
noncomputable def stp(P:List Sp)(m:Sp->Sp)(l r:Sp):Int:=if l∈P/\m l=r then -3 * sg l else sg l
theorem HZ(M:Mt P m)(n:r∈A3 l):stp P m r l=- stp P m l r:=by
 have e:=G8 n;unfold stp
 by_cases q:l∈P/\m l=r
 .have:r∈P/\m r=l:=⟨q.2▸(nbP_mem.mp (M l q.1).1).2.2,q.2▸(M l q.1).2⟩
  rw[if_pos q,if_pos this,e];exact ah (lin [] [sg l] (.f (.M (-3) (.N V0)) (.N (.M (-3) V0))) [] rfl) (lin [] [sg l] (.f (.N (.M (-3) V0)) (.M (-3) (.N V0))) [] rfl)
 .have:¬(r∈P/\m r=l):=λz=>q ⟨z.2▸(nbP_mem.mp (M r z.1).1).2.2,z.2▸(M r z.1).2⟩
  rw[if_neg q,if_neg this,e]
structure HT(P:List Sp)(m:Sp->Sp)(h:Sp->Int):Prop where
 r:∀x y,(x,y - 1)∈P\/(x,y)∈P->h (x+1,y) - h (x,y)=stp P m (x,y - 1) (x,y)
 d:∀x y,(x,y)∈P\/(x - 1,y)∈P->h (x,y+1) - h (x,y)=stp P m (x,y) (x - 1,y)
inductive Hd(x y:Int):Sp->Sp->Sp->Sp->Prop
 |r:Hd x y (1,0) (x+1,y) (x,y - 1) (x,y)
 |d:Hd x y (0,1) (x,y+1) (x,y) (x - 1,y)
 |l:Hd x y (-1,0) (x - 1,y) (x - 1,y) (x - 1,y - 1)
 |u:Hd x y (0,-1) (x,y - 1) (x - 1,y - 1) (x,y - 1)
def Fo(x y:Int)(k:Sp):Prop:=(k.1=x - 1\/k.1=x)/\(k.2=y - 1\/k.2=y)
noncomputable def mir(x y:Int):Bool->Sp->Sp
 |false,k=>(2 * x - 1 - k.1,k.2)
 |true,k=>(k.1,2 * y - 1 - k.2)
theorem Io(h:Fo x y k):Fo x y (mir x y v k):=by
 refine Aq h λu d=>?_
 cases v with|false=>exact⟨by show 2 * x - 1 - k.1=_\/2 * x - 1 - k.1=_;exact cb λB=>u.elim (λO=>d.elim (λT=>(aX (λz=>B (.inr z))).elim (λY=>lin [] [k.fst,x] .no [.h V0 (.S V1 K1),.g (.S (.S (.M 2 V1) K1) V0) V1] rfl O Y) (λY=>lin [] [k.fst,x] .no [.H (-1) V0 (.S V1 K1),.g V1 (.S (.S (.M 2 V1) K1) V0)] rfl O Y)) (λT=>(aX (λz=>B (.inr z))).elim (λY=>lin [] [k.fst,x] .no [.h V0 (.S V1 K1),.g (.S (.S (.M 2 V1) K1) V0) V1] rfl O Y) (λY=>lin [] [k.fst,x] .no [.H (-1) V0 (.S V1 K1),.g V1 (.S (.S (.M 2 V1) K1) V0)] rfl O Y))) (λO=>d.elim (λT=>(aX (λz=>B (.inl z))).elim (λU=>lin [] [k.fst,x] .no [.h V0 V1,.g (.S (.S (.M 2 V1) K1) V0) (.S V1 K1)] rfl O U) (λU=>lin [] [k.fst,x] .no [.H (-1) V0 V1,.g (.S V1 K1) (.S (.S (.M 2 V1) K1) V0)] rfl O U)) (λT=>(aX (λz=>B (.inl z))).elim (λU=>lin [] [k.fst,x] .no [.h V0 V1,.g (.S (.S (.M 2 V1) K1) V0) (.S V1 K1)] rfl O U) (λU=>lin [] [k.fst,x] .no [.H (-1) V0 V1,.g (.S V1 K1) (.S (.S (.M 2 V1) K1) V0)] rfl O U))),d⟩|true=>exact⟨u,by show 2 * y - 1 - k.2=_\/2 * y - 1 - k.2=_;exact cb λB=>u.elim (λO=>d.elim (λT=>(aX (λz=>B (.inr z))).elim (λY=>lin [] [k.snd,y] .no [.h V0 (.S V1 K1),.g (.S (.S (.M 2 V1) K1) V0) V1] rfl T Y) (λY=>lin [] [k.snd,y] .no [.H (-1) V0 (.S V1 K1),.g V1 (.S (.S (.M 2 V1) K1) V0)] rfl T Y)) (λT=>(aX (λz=>B (.inl z))).elim (λU=>lin [] [k.snd,y] .no [.h V0 V1,.g (.S (.S (.M 2 V1) K1) V0) (.S V1 K1)] rfl T U) (λU=>lin [] [k.snd,y] .no [.H (-1) V0 V1,.g (.S V1 K1) (.S (.S (.M 2 V1) K1) V0)] rfl T U))) (λO=>d.elim (λT=>(aX (λz=>B (.inr z))).elim (λY=>lin [] [k.snd,y] .no [.h V0 (.S V1 K1),.g (.S (.S (.M 2 V1) K1) V0) V1] rfl T Y) (λY=>lin [] [k.snd,y] .no [.H (-1) V0 (.S V1 K1),.g V1 (.S (.S (.M 2 V1) K1) V0)] rfl T Y)) (λT=>(aX (λz=>B (.inl z))).elim (λU=>lin [] [k.snd,y] .no [.h V0 V1,.g (.S (.S (.M 2 V1) K1) V0) (.S V1 K1)] rfl T U) (λU=>lin [] [k.snd,y] .no [.H (-1) V0 V1,.g (.S V1 K1) (.S (.S (.M 2 V1) K1) V0)] rfl T U)))⟩
theorem Ll:mir x y v (mir x y v k)=k:=by
 cases v with|false=>exact cH (by show 2 * x - 1 - (2 * x - 1 - k.1)=k.1;exact ah (lin [] [x,k.fst] (.f (.S (.S (.M 2 V0) K1) (.S (.S (.M 2 V0) K1) V1)) V1) [] rfl) (lin [] [k.fst,x] (.f V0 (.S (.S (.M 2 V1) K1) (.S (.S (.M 2 V1) K1) V0))) [] rfl)) rfl|true=>exact cH rfl (by show 2 * y - 1 - (2 * y - 1 - k.2)=k.2;exact ah (lin [] [y,k.snd] (.f (.S (.S (.M 2 V0) K1) (.S (.S (.M 2 V0) K1) V1)) V1) [] rfl) (lin [] [k.snd,y] (.f V0 (.S (.S (.M 2 V1) K1) (.S (.S (.M 2 V1) K1) V0))) [] rfl))
theorem mir_near(h:Fo x y k):mir x y v k∈A3 k:=by
 obtain⟨a,b⟩:=k;refine Aq h λY z=>?_;dsimp only at Y z
 cases v with
 |false =>
  show (2 * x - 1 - a,b)∈_
  rcases Y with e|e
  .rw[show 2 * x - 1 - a=a+1 by exact ah (lin [] [a,x] (.f (.S (.S (.M 2 V1) K1) V0) (.A V0 K1)) [.H (-2) V0 (.S V1 K1)] rfl e) (lin [] [a,x] (.f (.A V0 K1) (.S (.S (.M 2 V1) K1) V0)) [.H 2 V0 (.S V1 K1)] rfl e)];exact A2 .r
  .rw[show 2 * x - 1 - a=a - 1 by exact ah (lin [] [a,x] (.f (.S (.S (.M 2 V1) K1) V0) (.S V0 K1)) [.H (-2) V0 V1] rfl e) (lin [] [a,x] (.f (.S V0 K1) (.S (.S (.M 2 V1) K1) V0)) [.H 2 V0 V1] rfl e)];exact A2 .l
 |true =>
  show (a,2 * y - 1 - b)∈_
  rcases z with e|e
  .rw[show 2 * y - 1 - b=b+1 by exact ah (lin [] [b,y] (.f (.S (.S (.M 2 V1) K1) V0) (.A V0 K1)) [.H (-2) V0 (.S V1 K1)] rfl e) (lin [] [b,y] (.f (.A V0 K1) (.S (.S (.M 2 V1) K1) V0)) [.H 2 V0 (.S V1 K1)] rfl e)];exact A2 .d
  .rw[show 2 * y - 1 - b=b - 1 by exact ah (lin [] [b,y] (.f (.S (.S (.M 2 V1) K1) V0) (.S V0 K1)) [.H (-2) V0 V1] rfl e) (lin [] [b,y] (.f (.S V0 K1) (.S (.S (.M 2 V1) K1) V0)) [.H 2 V0 V1] rfl e)];exact A2 .u
structure Tn(P:List Sp)(x y:Int)(v:Bool)(m m':Sp->Sp):Prop where
 inP:∀k,Fo x y k->k∈P
 p:∀k,Fo x y k->m k=mir x y v k
 p':∀k,Fo x y k->m' k=mir x y (!v) k
 o:∀k,¬Fo x y k->m' k=m k
theorem Tn.mt(T:Tn P x y v m m')(M:Mt P m):Mt P m':=λk B=>by
 by_cases f:Fo x y k
 .rw[T.p' k f]
  exact⟨nbP_mem.mpr ⟨B,mir_near f,T.inP _ (Io f)⟩,by rw[T.p' _ (Io f),Ll]⟩
 .have nf:¬Fo x y (m k):=λz=>f (by rw[<- (M k B).2,T.p _ z];exact Io z)
  rw[T.o k f,T.o _ nf];exact M k B
theorem Tn.same(T:Tn P x y v m m')(n:¬(Fo x y l/\Fo x y r)):stp P m' l r=stp P m l r:=by
 unfold stp
 by_cases f:Fo x y l
 .have ne:∀{v},mir x y v l≠r:=λ{v} e=>n ⟨f,e▸Io f⟩
  rw[T.p l f,T.p' l f,if_neg λz=>ne z.2,if_neg λz=>ne z.2]
 .rw[T.o l f]
noncomputable def hq(v:Bool):Int:=match v with
 |true=>-3
 |false=>1
theorem stp_r(B:∀k,Fo x y k->k∈P)(p:∀k,Fo x y k->m k=mir x y v k)(T:u=x - 1\/u=x):stp P m (u,y - 1) (u,y)=hq v * sg (u,y - 1):=by
 have f:Fo x y (u,y - 1):=⟨T,.inl rfl⟩;unfold stp;rw[p _ f]
 cases v with|true=>rw[if_pos ⟨B _ f,cH rfl (by show 2 * y - 1 - (y - 1)=y;exact ah (lin [] [y] (.f (.S (.S (.M 2 V0) K1) (.S V0 K1)) V0) [] rfl) (lin [] [y] (.f V0 (.S (.S (.M 2 V0) K1) (.S V0 K1))) [] rfl))⟩];rfl|false=>rw[if_neg λz=>by have:y - 1=y:=congrArg iE z.2;exact lin [] [y] .no [.H (-1) (.S V0 K1) V0] rfl this];show _=1 * _;exact ah (lin [] [sg (u,y - 1)] (.f V0 (.M 1 V0)) [] rfl) (lin [] [sg (u,y - 1)] (.f (.M 1 V0) V0) [] rfl)
theorem stp_d(B:∀k,Fo x y k->k∈P)(p:∀k,Fo x y k->m k=mir x y v k)(T:u=y - 1\/u=y):stp P m (x,u) (x - 1,u)=hq (!v) * sg (x,u):=by
 have f:Fo x y (x,u):=⟨.inr rfl,T⟩;unfold stp;rw[p _ f]
 cases v with|false=>rw[if_pos ⟨B _ f,cH (by show 2 * x - 1 - x=x - 1;exact ah (lin [] [x] (.f (.S (.S (.M 2 V0) K1) V0) (.S V0 K1)) [] rfl) (lin [] [x] (.f (.S V0 K1) (.S (.S (.M 2 V0) K1) V0)) [] rfl)) rfl⟩];rfl|true=>rw[if_neg λz=>by have:x=x - 1:=congrArg gR z.2;exact lin [] [x] .no [.h V0 (.S V0 K1)] rfl this];show _=1 * _;exact ah (lin [] [sg (x,u)] (.f V0 (.M 1 V0)) [] rfl) (lin [] [sg (x,u)] (.f (.M 1 V0) V0) [] rfl)
noncomputable def hup(x y:Int)(v:Bool)(h:Sp->Int)(k:Sp):Int:=if k=(x,y) then h k+(hq v * sg (x,y - 1) - hq (!v) * sg (x,y - 1)) else h k
theorem Tn.ht(T:Tn P x y v m m')(H:HT P m h):HT P m' (hup x y v h):=by
 have at_:hup x y v h (x,y)=h (x,y)+(hq v * sg (x,y - 1) - hq (!v) * sg (x,y - 1)):=if_pos rfl;have U:∀{k},k≠(x,y)->hup x y v h k=h k:=λn=>if_neg n;have s1:sg (x - 1,y - 1)=- sg (x,y - 1):=G8 Im;have s2:sg (x,y)=- sg (x,y - 1):=G8 (B3 Il);have nx:∀{a b:Int},a≠x->((a,b):Sp)≠(x,y):=λn e=>n (congrArg gR e);have ny:∀{a b:Int},b≠y->((a,b):Sp)≠(x,y):=λn e=>n (congrArg iE e);have B:∀z:Int,z - 1≠z:=λz=>by exact λO=>lin [] [z] .no [.H (-1) (.S V0 K1) V0] rfl O
 have u:∀z:Int,z+1≠z:=λz=>by exact λO=>lin [] [z] .no [.h (.A V0 K1) V0] rfl O
 refine⟨λa b q=>?_,λa b q=>?_⟩
 .have Y:=H.r a b q
  by_cases e:b=y/\(a=x - 1\/a=x)
  .obtain⟨rfl,e⟩:=e
   rw[stp_r T.inP T.p e]at Y;rw[stp_r T.inP T.p' e]
   rcases e with rfl|rfl
   .rw[bl,s1,Int.mul_neg]at Y
    rw[bl,at_,U (nx (B _)),s1,Int.mul_neg];clear T H q nx ny B u U at_ s1 s2;exact ah (lin [] [h (x,b),h (x - 1,b),hq v * sg (x,b - 1),(hq !v) * sg (x,b - 1)] (.f (.S (.A V0 (.S V2 V3)) V1) (.N V3)) [.h (.S V0 V1) (.N V2)] rfl Y) (lin [] [h (x,b),h (x - 1,b),hq v * sg (x,b - 1),(hq !v) * sg (x,b - 1)] (.f (.N V3) (.S (.A V0 (.S V2 V3)) V1)) [.H (-1) (.S V0 V1) (.N V2)] rfl Y)
   .rw[at_,U (nx (u _))]
    clear T H q nx ny B u U at_ s1 s2;exact ah (lin [] [h (a+1,b),h (a,b),hq v * sg (a,b - 1),(hq !v) * sg (a,b - 1)] (.f (.S V0 (.A V1 (.S V2 V3))) V3) [.h (.S V0 V1) V2] rfl Y) (lin [] [h (a+1,b),h (a,b),hq v * sg (a,b - 1),(hq !v) * sg (a,b - 1)] (.f V3 (.S V0 (.A V1 (.S V2 V3)))) [.H (-1) (.S V0 V1) V2] rfl Y)
  .have n1:¬(Fo x y (a,b - 1)/\Fo x y (a,b)):=λ⟨z,z'⟩=>e ⟨by have h1:=z.2;have h2:=z'.2;dsimp only at h1 h2;clear T H q nx ny B u U at_ s1 s2 z z' e Y;exact ah (h1.elim (λO=>lin [] [b,y] (.f V0 V1) [.h (.S V0 K1) (.S V1 K1)] rfl O) (λO=>h2.elim (λz1=>lin [] [b,y] (.f V0 V1) [.h V0 (.S V1 K1)] rfl z1) (λz1=>lin [] [b,y] (.f V0 V1) [.h V0 V1] rfl z1))) (h1.elim (λO=>lin [] [b,y] (.f V1 V0) [.H (-1) (.S V0 K1) (.S V1 K1)] rfl O) (λO=>lin [] [b,y] (.f V1 V0) [.H (-1) (.S V0 K1) V1] rfl O)),z'.1⟩
   rw[T.same n1,U λz=>e ⟨congrArg iE z,.inl (by have h1:a+1=x:=congrArg gR z;clear T H q nx ny B u U at_ s1 s2 z n1 e Y;exact ah (lin [] [a,x] (.f V0 (.S V1 K1)) [.h (.A V0 K1) V1] rfl h1) (lin [] [a,x] (.f (.S V1 K1) V0) [.H (-1) (.A V0 K1) V1] rfl h1))⟩,U λz=>e ⟨congrArg iE z,.inr (congrArg gR z)⟩]
   exact Y
 .have Y:=H.d a b q
  by_cases e:a=x/\(b=y - 1\/b=y)
  .obtain⟨rfl,e⟩:=e
   rw[stp_d T.inP T.p e]at Y;rw[stp_d T.inP T.p' e,Bool.not_not]
   rcases e with rfl|rfl
   .rw[bl]at Y
    rw[bl,at_,U (ny (B _))];clear T H q nx ny B u U at_ s1 s2;exact ah (lin [] [h (a,y),h (a,y - 1),(hq !v) * sg (a,y - 1),hq v * sg (a,y - 1)] (.f (.S (.A V0 (.S V3 V2)) V1) V3) [.h (.S V0 V1) V2] rfl Y) (lin [] [h (a,y),h (a,y - 1),(hq !v) * sg (a,y - 1),hq v * sg (a,y - 1)] (.f V3 (.S (.A V0 (.S V3 V2)) V1)) [.H (-1) (.S V0 V1) V2] rfl Y)
   .rw[s2,Int.mul_neg]at Y
    rw[at_,U (ny (u _)),s2,Int.mul_neg];clear T H q nx ny B u U at_ s1 s2;exact ah (lin [] [h (a,b+1),h (a,b),(hq !v) * sg (a,b - 1),hq v * sg (a,b - 1)] (.f (.S V0 (.A V1 (.S V3 V2))) (.N V3)) [.h (.S V0 V1) (.N V2)] rfl Y) (lin [] [h (a,b+1),h (a,b),(hq !v) * sg (a,b - 1),hq v * sg (a,b - 1)] (.f (.N V3) (.S V0 (.A V1 (.S V3 V2)))) [.H (-1) (.S V0 V1) (.N V2)] rfl Y)
  .have n1:¬(Fo x y (a,b)/\Fo x y (a - 1,b)):=λ⟨z,z'⟩=>e ⟨by have h1:=z.1;have h2:=z'.1;dsimp only at h1 h2;clear T H q nx ny B u U at_ s1 s2 z z' e Y;exact ah (h1.elim (λO=>lin [] [a,x] (.f V0 V1) [.h V0 (.S V1 K1)] rfl O) (λO=>lin [] [a,x] (.f V0 V1) [.h V0 V1] rfl O)) (h1.elim (λO=>h2.elim (λz1=>lin [] [a,x] (.f V1 V0) [.H (-1) (.S V0 K1) (.S V1 K1)] rfl z1) (λz1=>lin [] [a,x] (.f V1 V0) [.H (-1) (.S V0 K1) V1] rfl z1)) (λO=>lin [] [a,x] (.f V1 V0) [.H (-1) V0 V1] rfl O)),z.2⟩
   rw[T.same n1,U λz=>e ⟨congrArg gR z,.inl (by have h1:b+1=y:=congrArg iE z;clear T H q nx ny B u U at_ s1 s2 z n1 e Y;exact ah (lin [] [b,y] (.f V0 (.S V1 K1)) [.h (.A V0 K1) V1] rfl h1) (lin [] [b,y] (.f (.S V1 K1) V0) [.H (-1) (.A V0 K1) V1] rfl h1))⟩,U λz=>e ⟨congrArg gR z,.inr (congrArg iE z)⟩]
   exact Y
theorem near_sw(h:b∈A3 a):sw b∈A3 (sw a):=G3 _ _ h
theorem Mt.sw(M:Mt P m)(d:∀k,k∈P'↔sw k∈P):Mt P' λk=>sw (m (sw k)):=λk B=>by
 exact Aq (M _ ((d k).mp B)) λY z=>Bm (nbP_mem.mp Y) λZ U u=>⟨nbP_mem.mpr ⟨B,near_sw U,(d _).mpr u⟩,congrArg Internal.sw z⟩
theorem sg_sw(k:Sp):sg (sw k)=sg k:=by
 unfold sg dark sw;rw[Int.add_comm]
theorem HT.sw(H:HT P m h)(M:Mt P m)(U:∀k,k∈P'↔sw k∈P):HT P' (λk=>Internal.sw (m (Internal.sw k))) λk=>- h (Internal.sw k):=by
 have e:∀l r,stp P' (λk=>Internal.sw (m (Internal.sw k))) l r=stp P m (Internal.sw l) (Internal.sw r):=λl r=>by
  unfold stp
  have:(l∈P'/\Internal.sw (m (Internal.sw l))=r)↔(Internal.sw l∈P/\m (Internal.sw l)=Internal.sw r):=and_congr (U l) ⟨λz=>by rw[<- z];rfl,λz=>by rw[z];rfl⟩
  rw[sg_sw]
  by_cases q:Internal.sw l∈P/\m (Internal.sw l)=Internal.sw r
  .rw[if_pos q,if_pos (this.mpr q)]
  .rw[if_neg q,if_neg λz=>q (this.mp z)]
 refine⟨λx y q=>?_,λx y q=>?_⟩
 .have:=H.d y x (q.symm.imp (U _).mp (U _).mp)
  rw[e,show Internal.sw (x,y - 1)=(y - 1,x) from rfl,show Internal.sw (x,y)=(y,x) from rfl,HZ M Im,<- this]
  show - h (y,x+1) - - h (y,x)=_;exact ah (lin [] [h (y,x+1),h (y,x)] (.f (.S (.N V0) (.N V1)) (.N (.S V0 V1))) [] rfl) (lin [] [h (y,x+1),h (y,x)] (.f (.N (.S V0 V1)) (.S (.N V0) (.N V1))) [] rfl)
 .have:=H.r y x (q.symm.imp (U _).mp (U _).mp)
  rw[e,show Internal.sw (x - 1,y)=(y,x - 1) from rfl,show Internal.sw (x,y)=(y,x) from rfl,HZ M (B3 Il),<- this]
  show - h (y+1,x) - - h (y,x)=_;exact ah (lin [] [h (y+1,x),h (y,x)] (.f (.S (.N V0) (.N V1)) (.N (.S V0 V1))) [] rfl) (lin [] [h (y+1,x),h (y,x)] (.f (.N (.S V0 V1)) (.S (.N V0) (.N V1))) [] rfl)
noncomputable def flM(b:Int->Int)(k:Sp):Sp:=if (k.1 - b k.2) % 2=0 then (k.1+1,k.2) else (k.1 - 1,k.2)
noncomputable def eb(k:Sp):Int:=match dark k with
 |true=>0
 |false=>-1
theorem sg_eb(k:Sp):sg k=2 * eb k+1:=by
 unfold sg eb
 cases dark k<;>rfl
theorem HD(h:b∈A3 a):eb b=-1 - eb a:=by
 unfold eb;rw[CV h]
 cases dark a<;>rfl
theorem sg_par(x b y:Int):sg (x,y)=if (x - b) % 2=0 then sg (b,y) else - sg (b,y):=by
 unfold sg dark;dsimp only;rw[du _ (by decide),du _ (by decide)]
 by_cases q:(x - b) % 2=0
 .rw[if_pos q,Hc x b y,q,cF,Int.emod_emod]
 .rw[if_neg q]
  rcases Int.emod_two_eq (b+y)with e|e
  .rw[Hc x b y,DQ q,e];rfl
  .rw[Hc x b y,DQ q,e];rfl
noncomputable def flA(b:Int->Int):Nat->Int
 |0=>0
 |n+1=>flA b n+2 * sg (b n,n)
noncomputable def flH(b:Int->Int)(k:Sp):Int:=flA b k.2.toNat+eb k
theorem fl_mt(d:∀k∈P,flM b k∈P):Mt P (flM b):=λk B=>by
 have Y:=d k B;obtain⟨x,y⟩:=k;unfold flM at Y ⊢;dsimp only at Y ⊢
 by_cases q:(x - b y) % 2=0
 .rw[if_pos q]at Y ⊢
  rw[if_neg (DA q)];exact⟨nbP_mem.mpr ⟨B,A2 .r,Y⟩,cH (bM _ _) rfl⟩
 .rw[if_neg q]at Y ⊢
  rw[if_pos (Ih q)];exact⟨nbP_mem.mpr ⟨B,A2 .l,Y⟩,cH (bl _ _) rfl⟩
theorem fl_up(u:0<=y):flA b (y+1).toNat=flA b y.toNat+2 * sg (b y,y):=by
 refine X1l y (bY u) λn=>?_
 rfl
theorem fl_ht(O:∀k∈P,0<=k.2)(T:∀k∈P,flM b k∈P):HT P (flM b) (flH b):=by
 refine⟨λx y q=>?_,λx y q=>?_⟩
 .unfold stp
  rw[if_neg]
  .have U:eb (x+1,y)=-1 - eb (x,y):=HD (A2 .r)
   have e2:eb (x,y - 1)=-1 - eb (x,y):=HD (A2 .u);have B:=sg_eb (x,y - 1);show flA b y.toNat+eb (x+1,y) - (flA b y.toNat+eb (x,y))=_;clear O T q;exact ah (lin [] [eb (x+1,y),eb (x,y),eb (x,y - 1),sg (x,y - 1),flA b y.toNat] (.f (.S (.A V4 V0) (.A V4 V1)) V3) [.h V0 (.S Km1 V1),.H (-2) V2 (.S Km1 V1),.H (-1) V3 (.A (.M 2 V2) K1)] rfl U e2 B) (lin [] [eb (x+1,y),eb (x,y),eb (x,y - 1),sg (x,y - 1),flA b y.toNat] (.f V3 (.S (.A V4 V0) (.A V4 V1))) [.H (-1) V0 (.S Km1 V1),.H 2 V2 (.S Km1 V1),.h V3 (.A (.M 2 V2) K1)] rfl U e2 B)
  .refine λhR1=>Aq hR1 λZ e=>?_
   have:y - 1=y:=by
    have:=congrArg iE e
    unfold flM at this
    split at this<;>exact this
   clear O T q e;exact lin [] [y] .no [.H (-1) (.S V0 K1) V0] rfl this
 .have y0:0<=y:=q.elim (O _) (O _)
  have up:=fl_up (b:=b) y0;have U:eb (x,y+1)=-1 - eb (x,y):=HD (A2 .d);have B:=sg_eb (x,y);have Y:=sg_par x (b y) y;unfold stp;show flA b (y+1).toNat+eb (x,y+1) - (flA b y.toNat+eb (x,y))=_
  by_cases z:(x - b y) % 2=0
  .rw[if_pos z]at Y
   have m:flM b (x,y)=(x+1,y):=if_pos z;rw[if_neg λw=>by
    have:x+1=x - 1:=congrArg gR (m.symm.trans w.2)
    clear O T q U B Y up w;exact lin [] [x] .no [.h (.A V0 K1) (.S V0 K1)] rfl this]
   clear O T q m z;exact ah (lin [] [flA b (y+1).toNat,flA b y.toNat,sg (b y,y),eb (x,y+1),eb (x,y),sg (x,y)] (.f (.S (.A V0 V3) (.A V1 V4)) V5) [.h V0 (.A V1 (.M 2 V2)),.h V3 (.S Km1 V4),.h V5 (.A (.M 2 V4) K1),.H (-2) V5 V2] rfl up U B Y) (lin [] [flA b (y+1).toNat,flA b y.toNat,sg (b y,y),eb (x,y+1),eb (x,y),sg (x,y)] (.f V5 (.S (.A V0 V3) (.A V1 V4))) [.H (-1) V0 (.A V1 (.M 2 V2)),.H (-1) V3 (.S Km1 V4),.H (-1) V5 (.A (.M 2 V4) K1),.H 2 V5 V2] rfl up U B Y)
  .rw[if_neg z]at Y
   have m:flM b (x,y)=(x - 1,y):=if_neg z;rw[if_pos ⟨q.elim id λr=>by
    have:=T _ r
    unfold flM at this;rw[if_pos (Ih z)]at this
    rwa [show ((x - 1+1,y):Sp)=(x,y) by rw[bl]]at this,m⟩]
   clear O T q m z;exact ah (lin [] [flA b (y+1).toNat,flA b y.toNat,sg (b y,y),eb (x,y+1),eb (x,y),sg (x,y)] (.f (.S (.A V0 V3) (.A V1 V4)) (.M (-3) V5)) [.h V0 (.A V1 (.M 2 V2)),.h V3 (.S Km1 V4),.h V5 (.A (.M 2 V4) K1),.H 2 V5 (.N V2)] rfl up U B Y) (lin [] [flA b (y+1).toNat,flA b y.toNat,sg (b y,y),eb (x,y+1),eb (x,y),sg (x,y)] (.f (.M (-3) V5) (.S (.A V0 V3) (.A V1 V4))) [.H (-1) V0 (.A V1 (.M 2 V2)),.H (-1) V3 (.S Km1 V4),.H (-1) V5 (.A (.M 2 V4) K1),.H (-2) V5 (.N V2)] rfl up U B Y)
end
section
def Eg(P:List Sp)(k c:Sp):Prop:=∃w l r,Hd k.1 k.2 w c l r/\(l∈P\/r∈P)
theorem B8(Y:k.1=c.1\/k.1=c.1+1)(z:k.2=c.2\/k.2=c.2+1):k∈Bv c:=by
 obtain⟨a,b⟩:=k;dsimp only at Y z
 rcases Y with rfl|rfl<;>rcases z with rfl|rfl
 .exact .head _
 .exact .tail _ (.tail _ (.head _))
 .exact .tail _ (.head _)
 .exact .tail _ (.tail _ (.tail _ (.head _)))
theorem Eg.in(B:Cor P C)(e:Eg P k c):c∈C:=by
 refine X3pp e λw l r y q=>?_
 have:c∈Bv l/\c∈Bv r:=by
  induction y using Hd.casesOn with|r=>exact⟨B8 (.inr rfl) (.inr (bl ..).symm),B8 (.inr rfl) (.inl rfl)⟩|d=>exact⟨B8 (.inl rfl) (.inr rfl),B8 (.inr (bl ..).symm) (.inr rfl)⟩|l=>exact⟨B8 (.inl rfl) (.inl rfl),B8 (.inl rfl) (.inr (bl ..).symm)⟩|u=>exact⟨B8 (.inr (bl ..).symm) (.inl rfl),B8 (.inl rfl) (.inl rfl)⟩
 exact(B.mem c).mpr (q.elim (λq=>⟨l,q,this.1⟩) λq=>⟨r,q,this.2⟩)
theorem M8.corners{P C S:List Sp}{a:Sp}(H:M8 P a)(T:Cor P C)(ha:a∈P)(aS:a∈S)(cl:∀k∈S,∀c,Eg P k c->c∈S):∀k∈C,k∈S:=by
 have cells:∀k,M2 P a k->k∈P/\k∈S:=λk h=>by
  induction h with
  |refl=>exact⟨ha,aS⟩
  | @step b c _ z O y =>
   refine⟨O,cl b y.2 c ?_⟩
   cases DV z with|u=>exact⟨_,_,_,.u,.inr O⟩|l=>exact⟨_,_,_,.l,.inl O⟩|r=>exact⟨_,_,_,.r,.inr y.1⟩|d=>exact⟨_,_,_,.d,.inl y.1⟩
 refine λk B=>X1pp ((T.mem k).mp B) λc Y B=>?_;have U:=(cells c (H c Y)).2;have rS:(c.1+1,c.2)∈S:=cl _ U _ ⟨_,_,_,.r,.inr Y⟩;have dS:(c.1,c.2+1)∈S:=cl _ U _ ⟨_,_,_,.d,.inl Y⟩;have bS:(c.1+1,c.2+1)∈S:=cl _ rS _ ⟨_,_,_,.d,.inr (by show (c.1+1 - 1,c.2)∈P;rwa [bM])⟩
 unfold Bv at B;simp only[aA,bB,or_false]at B
 rcases B with rfl|rfl|rfl|rfl
 .exact U
 .exact rS
 .exact dS
 .exact bS
theorem Dfs.corners(h:Dfs (Eg P) (·∈C) a fs [])(H:M8 P a)(z:Cor P C)(ha:a∈P)(k:Sp):k∈fs↔k∈C :=
 ⟨h.rc k,H.corners z ha h.ha (λk B c e=>h.cl k B bB c e) k⟩
noncomputable def Ij(b:Int):List Int->Bool
 |[]=>true
 |x::r=>(match r with
  |[]=>false
  |y::r=>((x - b) % 2 == 0) && ((y == x+1) && Ij b r))
theorem CJ(h:Ij b (x::y::r)=true):(x - b) % 2=0/\y=x+1/\Ij b r=true:=by
 have h:(((x - b) % 2 == 0) && ((y == x+1) && Ij b r))=true:=h;exact Aq (aO.mp h) λY h=>Aq (aO.mp h) λz B=>⟨eq_of_beq Y,eq_of_beq z,B⟩
theorem KU:∀{xs:List Int},Ij b xs=true->∀x∈xs,(if (x - b) % 2=0 then x+1 else x - 1)∈xs
 |[],_,x,h=>by exact nM h
 |[_],h,_,_=>by exact nF h
 |u::v::r,h,x,d=>by
  refine Bm (CJ h) λY T B=>?_;clear h;subst T;refine J1 x d ?_ λd=>?_
  .rw[if_pos Y];exact .tail _ (.head _)
  ·
   refine J1 x d ?_ λd=>?_
   .rw[if_neg (DA Y),bM];exact .head _
   .exact .tail _ (.tail _ (KU B x d))
theorem Ii:∀{xs:List Int},Ij b xs=true->∃h,xs.length=2 * h
 |[],_=>⟨0,rfl⟩
 |[_],h=>by exact nF h
 |u::v::r,h=>by
  exact X1p (Ii (CJ h).2.2) λn e=>⟨n+1,by rw[aL,aL,e];exact ax (lin [n] [] (.b (.A (.A (.M 2 V0) K1) K1) (.M 2 (.A V0 K1))) [] rfl) (lin [n] [] (.b (.M 2 (.A V0 K1)) (.A (.A (.M 2 V0) K1) K1)) [] rfl)⟩
theorem par_at:∀{xs:List Int}{i:Nat},Ij b xs=true->2 * i<xs.length->∃u,xs[2 * i]?=some u/\xs[2 * i+1]?=some (u+1)/\(u - b) % 2=0/\xs.take (2 * (i+1))=xs.take (2 * i)++[u,u+1]
 |[],i,_,h=>absurd h (ef _)
 |[_],_,h,_=>by exact nF h
 |u::v::r,0,h,_=>by
  refine Bm (CJ h) λY d B=>?_;clear h;subst d;exact⟨u,rfl,rfl,Y,rfl⟩
 |u::v::r,i+1,h,hl=>by
  refine X1pppp (par_at (i:=i) (CJ h).2.2 (by rw[aL,aL]at hl;exact lin [i,r.length] [] (.c (.M 2 V0) V1) [.c (.M 2 (.A V0 K1)) (.A (.A V1 K1) K1)] rfl hl)) λz Y T B y=>⟨z,Y,T,B,?_⟩
  show u::v::r.take (2 * (i+1))=(u::v::r.take (2 * i))++_;rw[y];rfl
theorem par_ivs(b:Int):∀n:Nat,Ij b (ivs b (2 * n))=true:=by
 have Y:∀(n:Nat)(x:Int),(x - b) % 2=0->Ij b (ivs x (2 * n))=true:=λn=>by
  induction n with
  |zero=>exact λZ Z=>rfl
  |succ n y =>
   intro x h;have e:ivs x (2 * (n+1))=x::(x+1)::ivs (x+1+1) (2 * n):=rfl;rw[e];exact aO.mpr ⟨beq_iff_eq.mpr h,aO.mpr ⟨beq_self_eq_true _,y (x+1+1) (par_add2 h)⟩⟩
 exact λn=>Y n b (by rw[Int.sub_self];rfl)
noncomputable def CK(P:List Sp)(m:Sp->Sp):List (Sp×Sp):=(P.filter λc=>FU c (m c)).map λc=>(c,m c)
structure Na(P:List Sp)(m:Sp->Sp)(H:List (Sp×Sp)):Prop where
 at_:∀q∈H,q.1∈P/\q.2=m q.1
 nd:(Bl H).Nodup
 mem:∀k,k∈Bl H↔k∈P
theorem BG(H K:List (Sp×Sp)):Bl (H++K)=Bl H++Bl K:=gw
theorem Mt.ord(M:Mt P m)(u:x∈P):FU x (m x)=true\/FU (m x) x=true :=
 ordB_tot λe=>by
  have:=CV (nbP_mem.mp (M x u).1).2.1
  rw[<- e]at this
  cases q:dark x<;>rw[q]at this<;>cases this
theorem Mt.lay(M:Mt P m)(y:P.Nodup):Na P m (CK P m):=by
 have at_:∀q∈CK P m,q.1∈P/\q.2=m q.1:=λq hq=>by
  exact X1pr q (aY.mp hq) λc d=>⟨(cu.mp d).1,rfl⟩
 refine⟨at_,Gz (y.filter _) λa ha=>?_,λk=>⟨λh=>?_,λh=>?_⟩⟩
 .exact Aq (cu.mp ha) λY z=>⟨z,(M a Y).2⟩
 .refine X1pp (dR.mp h) λq hq h=>Aq (at_ q hq) λY z=>J1 k h ?_ λh=>?_
  .exact Y
  ·
   refine J1 k h ?_ λh=>?_
   .rw[z];exact(nbP_mem.mp (M _ Y).1).2.2
   .exact nM h
 .refine dR.mpr ?_
  rcases M.ord h with o|o
  .exact⟨(k,m k),aY.mpr ⟨k,cu.mpr ⟨h,o⟩,rfl⟩,.head _⟩
  .have h':=M k h
   exact⟨(m k,m (m k)),aY.mpr ⟨m k,cu.mpr ⟨(nbP_mem.mp h'.1).2.2,by rwa [h'.2]⟩,rfl⟩,by rw[h'.2];exact .tail _ (.head _)⟩
noncomputable def insG{α:Type}(l:List α)(k:Nat)(x:α):List α:=l.take k++x::l.drop k
structure Among(d H:List (Sp×Sp)):Prop where
 at_:∀q∈H,q∈d\/(q.2,q.1)∈d
 perm:(Bl H).Perm (Bl d)
theorem Among.put(h:Among d H)(i:Nat)(e:z=q\/z=(q.2,q.1)):Among (d++[q]) (insG H i z):=by
 have p2:[z.1,z.2].Perm [q.1,q.2]:=by
  rcases e with rfl|rfl
  .exact .refl _
  .exact .swap ..
 refine⟨λr y=>?_,?_⟩
 .rcases aJ.mp y with w|w
  .exact(h.at_ r (List.mem_of_mem_take w)).imp (aU _) (aU _)
  .refine J1 r w ?_ λw=>?_
   ·
    rcases e with rfl|rfl
    .exact .inl (aM _ (.head _))
    .exact .inr (aM _ (.head _))
   .exact(h.at_ r (List.mem_of_mem_drop w)).imp (aU _) (aU _)
 .unfold insG
  rw[BG,BG]
  have:Bl (z::H.drop i)=[z.1,z.2]++Bl (H.drop i):=rfl
  rw[this];have u:(Bl (H.take i)++([z.1,z.2]++Bl (H.drop i))).Perm (Bl (H.take i)++(Bl (H.drop i)++[z.1,z.2])):=List.Perm.append_left _ List.perm_append_comm;refine u.trans ?_;rw[<- aG,<- BG,List.take_append_drop];exact List.Perm.append h.perm p2
theorem Na.among(L:Na P m d)(M:Mt P m)(h:Among d H):Na P m H:=by
 refine⟨λq hq=>?_,h.perm.nodup_iff.mpr L.nd,λk=>h.perm.mem_iff.trans (L.mem k)⟩
 rcases h.at_ q hq with w|w
 .exact L.at_ q w
 .refine Aq (L.at_ _ w) λY z=>?_
  have z:q.1=m q.2:=z;rw[z];exact⟨(nbP_mem.mp (M _ Y).1).2.2,(M _ Y).2.symm⟩
end
section
noncomputable def EY:As:=⟨[0x73000380001c0000da00067,0x68000378001a8000d200075],2,[.ite (.or [.not (.call (.g 1) [.v 1,.g 4]),.cmp .NotEq (.call (.g 0) [.v 1]) (.int 2)]) [.ret (.bool false)] [],.ret (.and [.meth (.v 0) 15 [.sub (.v 1) (.int 0)],.meth (.v 0) 15 [.sub (.v 1) (.int 1)],.cmp .In (.sub (.v 1) (.int 1)) (.call (.g 34) [.sub (.v 1) (.int 0)])])]⟩
noncomputable def C3:As:=⟨[0x73000380001c0000da00067,0xe80006600032000198000d400071,0x65000378001d8000e000067,0x6600032000198000d400071,448600976916592,0x73000330001a4000ea00070],2,[.ite (.not (.call (.g 1) [.v 1,.g 5])) [.raise (.call (.g 23) [.str "a list of pieces is wanted"])] [],.assign (.v 2) (.mu 4 (.dict [] [])),.for_ (.v 3) (.v 1) [.ite (.not (.call (.g 38) [.v 0,.v 3])) [.raise (.call (.g 23) [.str "no piece of the floor"])] [],.for_ (.tup [.v 4,.v 5]) (.list [.v 3,.slice (.v 3) .none .none (.neg (.int 1))]) [.ite (.cmp .In (.v 4) (.v 2)) [.raise (.call (.g 23) [.str "a cell that is covered twice"])] [],.setitem (.v 2) (.v 4) (.v 5)]],.ite (.cmp .NotEq (.call (.g 0) [.v 2]) (.call (.g 0) [.meth (.v 0) 16 []])) [.raise (.call (.g 23) [.str "a cell that isn't covered"])] [],.ret (.v 2)]⟩
noncomputable def EZ:As:=⟨[0xe600066000378001cc000e000064,536561879875704,121,122],2,[.assign (.tup [.v 2,.v 3]) (.v 0),.ite (.cmp .Eq (.v 1) (.str "right")) [.ret (.tup [.tup [.v 2,.bin .Sub (.v 3) (.int 1)],.tup [.v 2,.v 3]])] [],.ret (.tup [.tup [.v 2,.v 3],.tup [.bin .Sub (.v 2) (.int 1),.v 3]])]⟩
noncomputable def ES:As:=⟨[0x73000380001c0000da00067,0x65000378001d8000e000067,0xe600066000378001cc000e000064,536561879875704,0x36800188000e000068,0x3a80019c000cc0006d,0x75000348001a0000d400073,0x74000330001d0000d400073],1,[.assign (.v 1) (.mu 4 (.list [])),.for_ (.v 2) (.meth (.v 0) 18 []) [.for_ (.tup [.v 3,.v 4]) (.tup [.tup [.str "right",.tup [.bin .Add (.sub (.v 2) (.int 0)) (.int 1),.sub (.v 2) (.int 1)]],.tup [.str "down",.tup [.sub (.v 2) (.int 0),.bin .Add (.sub (.v 2) (.int 1)) (.int 1)]]]) [.assign (.tup [.v 5,.v 6]) (.call (.g 44) [.v 2,.v 3]),.ite (.or [.meth (.v 0) 15 [.v 5],.meth (.v 0) 15 [.v 6]]) [.assign (.v 7) (.or [.and [.meth (.v 0) 15 [.v 5],.call (.g 33) [.v 5]],.and [.meth (.v 0) 15 [.v 6],.not (.call (.g 33) [.v 6])]]),.expr (.meth (.v 1) 0 [.tup [.v 2,.v 4,.v 5,.v 6,.ite (.v 7) (.int 1) (.neg (.int 1))]])] []]],.ret (.v 1)]⟩
noncomputable def Cv:As:=⟨[0x73000380001c0000da00067],1,[.ret (.sub (.meth (.v 0) 16 []) (.int 0))]⟩
noncomputable def c_heights_by:As:=⟨[0x73000380001c0000da00067,0x3a0001cc000cc0006f0003a8001cc000c400071,0x7400038800198000ea00074,0xe600066000378001cc000e000064,0x36800188000e000068,0x3a80019c000cc0006d,0x75000348001a0000d400073,0x378001a0000d400074,0x38800198000ea00074,0x65000378001d8000e000067,0x1a0000de0006a0003a8001a8000c400078,0x330001cc000cc00069],2,[.assign (.v 2) (.mu 4 (.dict [] [])),.for_ (.tup [.v 3,.v 4,.v 5,.v 6,.v 7]) (.call (.g 45) [.v 0]) [.assign (.v 8) (.v 7),.ite (.and [.meth (.v 0) 15 [.v 5],.cmp .Eq (.sub (.v 1) (.v 5)) (.v 6)]) [.assign (.v 8) (.bin .Mult (.neg (.int 3)) (.v 7))] [],.expr (.meth (.meth (.v 2) 7 [.v 3,.list []]) 0 [.tup [.v 4,.v 8]]),.expr (.meth (.meth (.v 2) 7 [.v 4,.list []]) 0 [.tup [.v 3,.bin .Sub (.int 0) (.v 8)]])],.assign (.v 9) (.mu 5 (.dict [.call (.g 46) [.v 0]] [.int 0])),.assign (.v 10) (.mu 6 (.list [.call (.g 46) [.v 0]])),.while_ (.cmp .Gt (.call (.g 0) [.v 10]) (.int 0)) [.assign (.v 11) (.meth (.v 10) 1 []),.for_ (.tup [.v 4,.v 8]) (.sub (.v 2) (.v 11)) [.ite (.cmp .NotIn (.v 4) (.v 9)) [.setitem (.v 9) (.v 4) (.bin .Add (.sub (.v 9) (.v 11)) (.v 8)),.expr (.meth (.v 10) 0 [.v 4])] []]],.ret (.mu 7 (.call (.g 7) [.comp (.tup [.v 3,.sub (.v 9) (.v 3)]) 3 (.meth (.v 0) 18 []) []]))]⟩
noncomputable def Dw:As:=⟨[0x73000380001c0000da00067,0xe80006600032000198000d400071],2,[.ret (.mu 4 (.call (.g 47) [.v 0,.call (.g 39) [.v 0,.v 1]]))]⟩
noncomputable def C4:As:=⟨[0x740003c0001c0000e6000600003c000188000da00060,0x3a8001a4000d00006a000398001c4000ec000600003c000188000da00060,0xe80007300035000188000e2000600003c000188000da00060,0xf4000600003c000188000da00060,0x1d0000f2000600003c000188000da00060,0xf2000600003c000188000da00060,0xd8000600003c000188000da00060,0x330001bc000e0000600003c000188000da00060,0xe600066000348001d4000e0000600003c000188000da00060],2,[.assign (.v 2) (.mu 4 (.dict [] [])),.for_ (.v 3) (.call (.g 8) [.call (.g 0) [.v 0]]) [.assign (.v 4) (.comp (.v 5) 5 (.call (.g 8) [.call (.g 0) [.sub (.v 0) (.v 3)]]) [.cmp .Eq (.sub (.sub (.v 0) (.v 3)) (.v 5)) (.str "#")]),.for_ (.v 6) (.call (.g 8) [.int 0,.call (.g 0) [.v 4],.int 2]) [.assign (.tup [.v 7,.v 8]) (.tup [.tup [.sub (.v 4) (.v 6),.v 3],.tup [.sub (.v 4) (.bin .Add (.v 6) (.int 1)),.v 3]]),.ite (.v 1) [.assign (.tup [.v 7,.v 8]) (.tup [.tup [.v 3,.sub (.v 4) (.v 6)],.tup [.v 3,.sub (.v 4) (.bin .Add (.v 6) (.int 1))]])] [],.setitem (.v 2) (.v 7) (.v 8),.setitem (.v 2) (.v 8) (.v 7)]],.ret (.v 2)]⟩
noncomputable def c_lturn:As:=⟨[0xe80007300035000188000e2000600003c000188000da00060,0x1cc000cc0006f000398001c0000c8000600003c000188000da00060,0xf2000600003c000188000da00060,0xf4000600003c000188000da00060,0x330001bc000e0000600003c000188000da00060,0x380001e0000ea000600003c000188000da00060,0xcc00066000398001a4000ea000600003c000188000da00060,0x730003b0001c0000ce000600003c000188000da00060,0x66000370001c0000e8000600003c000188000da00060,0x6d00036800198000c8000600003c000188000da00060,0xe600066000348001d4000e0000600003c000188000da00060],2,[.assign (.tup [.v 2,.v 3]) (.v 1),.assign (.tup [.v 4,.v 5,.v 6,.v 7]) (.tup [.tup [.bin .Sub (.v 2) (.int 1),.bin .Sub (.v 3) (.int 1)],.tup [.v 2,.bin .Sub (.v 3) (.int 1)],.tup [.bin .Sub (.v 2) (.int 1),.v 3],.tup [.v 2,.v 3]]),.ite (.and [.cmp .Eq (.meth (.v 0) 6 [.v 4]) (.v 5),.cmp .Eq (.meth (.v 0) 6 [.v 6]) (.v 7)]) [.assign (.v 8) (.list [.tup [.v 4,.v 6],.tup [.v 5,.v 7]])] [.ite (.and [.cmp .Eq (.meth (.v 0) 6 [.v 4]) (.v 6),.cmp .Eq (.meth (.v 0) 6 [.v 5]) (.v 7)]) [.assign (.v 8) (.list [.tup [.v 4,.v 5],.tup [.v 6,.v 7]])] [.ret (.bool false)]],.for_ (.tup [.v 9,.v 10]) (.v 8) [.setitem (.v 0) (.v 9) (.v 10),.setitem (.v 0) (.v 10) (.v 9)],.ret (.bool true)]⟩
noncomputable def Cu:As:=⟨[0xe80007300035000188000e2000600003c000188000da00060,0x1cc000cc00063000370001d8000de000600003c000188000da00060,0x7a00037800188000dc000600003c000188000da00060,0xca0006f0003b0001c0000ce000600003c000188000da00060,0xd8000600003c000188000da00060],3,[.assign (.v 3) (.mu 4 (.call (.g 7) [.v 0])),.for_ (.v 4) (.call (.g 8) [.v 2]) [.assign (.v 1) (.call (.g 73) [.v 1,.v 4]),.expr (.call (.g 86) [.v 3,.tup [.bin .Mod (.v 1) (.int 7),.bin .Mod (.bin .FloorDiv (.v 1) (.int 7)) (.int 7)]])],.ret (.v 3)]⟩
noncomputable def c_lfloor_by:As:=⟨[0x1d4000e20006a00039800190000e8000600003c000188000da00060,0x6d00036800198000c8000600003c000188000da00060,0x740003c0001c0000e6000600003c000188000da00060,0x3a8001a4000d00006a000398001c4000ec000600003c000188000da00060,0xe80007300035000188000e2000600003c000188000da00060],1,[.assign (.v 1) (.call (.g 72) [.v 0,.int 0]),.assign (.v 2) (.call (.g 75) [.v 1,.call (.g 72) [.v 0,.int 1],.bool true]),.ite (.cmp .Eq (.bin .Mod (.v 1) (.int 7)) (.int 6)) [.assign (.v 2) (.sub (.list [.list [.str "##..##",.str "##..##",.str "######"],.list [.str "######",.str "....##",.str "##..##",.str "##..##",.str "######"],.list [.str "##..##",.str "######",.str "##..##",.str "##..##"],.list [.str "##..##",.str "##..##",.str "######",.str "##..##",.str "##..##"]]) (.bin .Mod (.bin .FloorDiv (.v 1) (.int 7)) (.int 4)))] [],.assign (.v 3) (.cmp .Eq (.bin .Mod (.bin .FloorDiv (.v 1) (.int 30)) (.int 2)) (.int 1)),.assign (.v 4) (.call (.g 85) [.v 2,.v 3]),.ite (.v 3) [.assign (.v 2) (.call (.g 74) [.v 2])] [],.ret (.tup [.v 2,.v 4])]⟩
noncomputable def Mx:As:=⟨[0xe80007300035000188000e2000600003c000188000da00060,0xca0006f0003b0001c0000ce000600003c000188000da00060,0x6d00036800198000c8000600003c000188000da00060],1,[.assign (.v 1) (.comp (.tup [.v 2,.sub (.v 0) (.v 2)]) 2 (.v 0) [.cmp .Lt (.call (.g 89) [.v 2]) (.call (.g 89) [.sub (.v 0) (.v 2)])]),.ret (.mu 4 (.sorted (.v 1) (.g 91)))]⟩
noncomputable def I5:As:=⟨[0xcc00064000330001a8000e2000600003c000188000da00060],1,[.ret (.call (.g 89) [.sub (.v 0) (.int 0)])]⟩
noncomputable def GF:As:=⟨[0xe80007300035000188000e2000600003c000188000da00060,0x1cc000cc00063000370001d8000de000600003c000188000da00060,0xca0006f0003b0001c0000ce000600003c000188000da00060,0xd8000600003c000188000da00060,0xcc00064000330001a8000e2000600003c000188000da00060,0x66000370001c0000e8000600003c000188000da00060],2,[.assign (.v 2) (.mu 4 (.list [])),.for_ (.tup [.v 3,.v 4]) (.call (.g 9) [.call (.g 90) [.v 0]]) [.assign (.v 5) (.sub (.list [.v 4,.tup [.sub (.v 4) (.int 1),.sub (.v 4) (.int 0)]]) (.bin .Mod (.bin .FloorDiv (.call (.g 73) [.v 1,.v 3]) (.int 7)) (.int 2))),.expr (.meth (.v 2) 2 [.bin .Mod (.bin .FloorDiv (.call (.g 73) [.v 1,.v 3]) (.int 14)) (.bin .Add (.call (.g 0) [.v 2]) (.int 1)),.v 5])],.ret (.v 2)]⟩
noncomputable def fD(f:Al->AV)(l:List Al):List (Al×AV):=l.map λp=>(p,f p)
theorem HJ(f:Al->AV)(l:List Al)(k:Al):By (fD f l) k=if k∈l then some (f k) else aa:=by
 induction l with
 |nil=>rfl
 |cons x r y =>
  show (((x,f x)::fD f r).find? λz=>decide (z.1=k)).map (·.2)=_
  by_cases e:x=k
  .clear y;subst e
   rw[List.find?_cons_of_pos (p:=λz:Al×AV=>decide (z.1=x)) (decide_eq_true rfl),if_pos (.head _)];rfl
  .rw[List.find?_cons_of_neg (p:=λz:Al×AV=>decide (z.1=k)) (λz=>e (of_decide_eq_true z))]
   refine Eq.trans y ?_
   by_cases h:k∈r
   .rw[if_pos h,if_pos (.tail _ h)]
   .rw[if_neg h,if_neg λz=>(aA.mp z).elim (λw=>e w.symm) h]
theorem DY(f:Al->AV)(l:List Al)(k:Al):(By (fD f l) k).isSome=decide (k∈l):=by
 rw[HJ]
 by_cases h:k∈l
 .rw[if_pos h,decide_eq_true h];rfl
 .rw[if_neg h,decide_eq_false h];rfl
theorem in_fD(h:k∈l):(By (fD f l) k).isSome=true:=(DY f l k).trans (decide_eq_true h)
theorem out_fD(h:k∉l):(By (fD f l) k).isSome=false:=(DY f l k).trans (decide_eq_false h)
theorem FP(h:k∈l):By (fD f l) k=some (f k):=(HJ f l k).trans (if_pos h)
theorem DH(h:k∉l)(e:x=f k):Bx (fD f l) k x=fD f (l++[k]):=by
 unfold Bx;rw[DY,decide_eq_false h,if_neg aW,e];unfold fD;rw[aQ];rfl
theorem IS(h:k∈l):Bx (fD f l) k x=fD (λj=>if j=k then x else f j) l:=by
 unfold Bx;rw[DY,decide_eq_true h,if_pos rfl];unfold fD;rw[bc];refine cJ λj Z=>?_;show (if j=k then (k,x) else (j,f j))=(j,if j=k then x else f j)
 by_cases e:j=k
 .rw[if_pos e,if_pos e,e]
 .rw[if_neg e,if_neg e]
theorem BJ(f:Al->AV)(l:List Al):(fD f l).length=l.length:=aj _
theorem fD_keys(f:Al->AV)(l:List Al):(fD f l).map (·.1)=l:=by
 unfold fD;rw[bc];exact ie l
theorem IM(h:∀k∈l,f k=g k):fD f l=fD g l:=cJ λk B=>cH rfl (h k B)
noncomputable def spm(m:Sp->Sp)(k:Al):AV:=sp (m k)
theorem LH(h:s.Nodup):(JK s k).Nodup:=by
 unfold JK
 by_cases q:k∈s
 .rwa [if_pos q]
 .rw[if_neg q];exact EA h q
theorem Gu(e:x=f k):Bx (fD f l) k x=fD f (JK l k):=by
 unfold JK
 by_cases q:k∈l
 .rw[if_pos q,IS q]
  exact IM λj Z=>by
   by_cases z:j=k
   .rw[if_pos z,e,z]
   .rw[if_neg z]
 .rw[if_neg q,DH q e]
end
section
noncomputable def Eh:As:=⟨[0x73000380001c0000da00067,0x3a0001cc000cc0006f0003a8001cc000c400071,0x65000378001d8000e000067,0x368001b4000cc00064],2,[.assign (.v 2) (.mu 4 (.list [])),.for_ (.v 3) (.meth (.v 0) 16 []) [.ite (.cmp .Lt (.call (.g 32) [.v 3]) (.call (.g 32) [.sub (.v 1) (.v 3)])) [.expr (.meth (.v 2) 0 [.tup [.v 3,.sub (.v 1) (.v 3)]])] []],.ret (.v 2)]⟩
noncomputable def BL:As:=⟨[0x73000380001c0000da00067,0x3a0001cc000cc0006f0003a8001cc000c400071,0xe600066000378001cc000e000064],2,[.ret (.mu 4 (.comp (.v 2) 2 (.meth (.v 0) 19 []) [.call (.g 52) [.v 1,.v 2]]))]⟩
noncomputable def ER:As:=⟨[0x73000380001c0000da00067,0xe80006600032000198000d400071],2,[.ret (.mu 4 (.call (.g 53) [.v 0,.mu 5 (.call (.g 39) [.v 0,.v 1])]))]⟩
noncomputable def Ee:As:=⟨[0x73000380001c0000da00067,0xe80006600032000198000d400071,0xe600066000378001cc000e000064,0x3a0001cc000cc0006f0003a8001cc000c400071],3,[.assign (.v 3) (.mu 4 (.call (.g 39) [.v 0,.v 1])),.ite (.or [.not (.call (.g 31) [.v 2]),.cmp .NotIn (.v 2) (.call (.g 53) [.v 0,.v 3])]) [.raise (.call (.g 26) [.str "no turn there"])] [],.expr (.call (.g 54) [.v 3,.v 2]),.ret (.mu 5 (.call (.g 40) [.v 0,.v 3]))]⟩
end
section
structure Lyd(P Ks:List Sp)(m:Sp->Sp)(h:Sp->Int):Prop where
 nd:Ks.Nodup
 mem:∀k,k∈Ks↔k∈P
 mt:Mt P m
 ht:HT P m h
noncomputable def J0(r:List Bool):List Int:=(ivs 0 r.length).filter λx=>r.getD (x - 0).toNat false
theorem xsOf_mem:x∈J0 r↔bit r x:=by
 have h:=rowC_mem (y:=0) (k:=(x,0)) (r:=r) (x:=0);rw[Cy]at h;rw[fJ]at h;refine Iff.trans ⟨λq=>cK q,λq=>(X1pp (aY.mp q) λz hz e=>?_)⟩ (h.trans (and_iff_right rfl))
 cases e;exact hz
def Par(G:Gr)(β:Int->Int):Prop:=∀(y:Nat) r,G[y]?=some r->Ij (β y) (J0 r)=true
theorem Par.cl(p:Par G β):∀k∈Ae G,flM β k∈Ae G:=λk B=>by
 refine Aq (cellsOf_mem.mp B) λO u=>X1pp u λr y z=>?_
 have:=KU (p _ r y) k.1 (xsOf_mem.mpr z)
 rw[ao O]at this;unfold flM
 by_cases q:(k.1 - β k.2) % 2=0
 .rw[if_pos q]at this ⊢
  exact cellsOf_mem.mpr ⟨O,r,y,xsOf_mem.mp this⟩
 .rw[if_neg q]at this ⊢
  exact cellsOf_mem.mpr ⟨O,r,y,xsOf_mem.mp this⟩
structure Lay(G:Gr)(w:Nat):Prop where
 f:Flo G w
 ft:Flo (trG G w) G.length
 p:∃β,Par G β
theorem Jb(h:p.1+p.2<=w):J0 (AH w p)=ivs p.1 p.2:=by
 have up:∀{l:List Int},l.Pairwise (·<·)->l.Nodup:=λh=>h.imp Int.ne_of_lt;have B:(J0 (AH w p)).Pairwise (·<·):=ivs_up.filter _;have U:(ivs p.1 p.2).Pairwise (·<·):=ivs_up;refine List.Perm.eq_of_pairwise (le:=(·<·)) (λa b Z Z Y z=>by exact ah (lin [] [a,b] (.f V0 V1) [.g V0 V1] rfl Y) (lin [] [b,a] (.f V0 V1) [.g V0 V1] rfl z)) B U ((List.perm_ext_iff_of_nodup (up B) (up U)).mpr λx=>?_)
 rw[xsOf_mem,Ek h,ivs_mem]
theorem Jh(st:M9 true w L):Par (L.map (AH w)) λy=>((L[y.toNat]?).getD (0,0)).1:=λy r z=>by
 rw[a9]at z;refine X1pr r (aZ.mp z) λp u=>?_;have ok:=st.ok p (af u);rw[Jb ok.2.1];show Ij (((L[(y:Int).toNat]?).getD (0,0)).1:Nat) (ivs p.1 p.2)=true;rw[b6,u];show Ij p.1 (ivs p.1 p.2)=true;obtain⟨n,e⟩:∃n,p.2=2 * n:=⟨p.2 / 2,by have:=ok.2.2 rfl;exact ax (lin [p.snd % 2,p.snd / 2,p.snd] [] (.b V2 (.M 2 V1)) [.d V0 K0,.D (-1) (.A (.M 2 V1) V0) V2] rfl this (Nat.div_add_mod p.snd 2)) (lin [p.snd / 2,p.snd % 2,p.snd] [] (.b (.M 2 V0) V2) [.d (.A (.M 2 V0) V1) V2] rfl (Nat.div_add_mod p.snd 2))⟩
 rw[e];exact par_ivs _ n
theorem Ji(u:2<=w)(y:w<=6)(Y:1<=L.length)(O:L.length<=6)(st:M9 true w L):Lay (L.map (AH w)) w:=by
 have f:=Jj u y Y O st;refine⟨f,tr_flo f.g ?_ (CF st) λk B=>?_,_,Jh st⟩
 .refine X2pp f.ne λa U e Z=>?_
  rw[e];exact List.cons_ne_nil _ _
 .rw[aj]at B ⊢
  exact Ez st B
noncomputable def layB(G:Gr)(w:Nat):Bool:=floB G w && (floB (trG G w) G.length && G.all λr=>Ij 0 (J0 r))
theorem Lay.ofB(h:layB G w=true):Lay G w:=by
 unfold layB at h;exact Aq (aO.mp h) λY h=>Aq (aO.mp h) λU B=>⟨Flo.ofB Y,Flo.ofB U,λZ=>0,λy r z=>cG.mp B r (af z)⟩
noncomputable def fixE:Gr:=gOf ["##..##", "##..##", "######"]
noncomputable def fixF:Gr:=gOf ["######", "....##", "##..##", "##..##", "######"]
noncomputable def fixG:Gr:=gOf ["##..##", "######", "##..##", "##..##"]
noncomputable def fixH:Gr:=gOf ["##..##", "##..##", "######", "##..##", "##..##"]
theorem fixE_ok:Lay fixE 6:=Lay.ofB (by decide +kernel)
theorem fixF_ok:Lay fixF 6:=Lay.ofB (by decide +kernel)
theorem fixG_ok:Lay fixG 6:=Lay.ofB (by decide +kernel)
theorem fixH_ok:Lay fixH 6:=Lay.ofB (by decide +kernel)
theorem fixE_lit:(["##..##", "##..##", "######"].map λs=>AV.str (bW s))=AB fixE:=DF (by decide +kernel)
theorem fixF_lit:(["######", "....##", "##..##", "##..##", "######"].map λs=>AV.str (bW s))=AB fixF:=DF (by decide +kernel)
theorem fixG_lit:(["##..##", "######", "##..##", "##..##"].map λs=>AV.str (bW s))=AB fixG:=DF (by decide +kernel)
theorem fixH_lit:(["##..##", "##..##", "######", "##..##", "##..##"].map λs=>AV.str (bW s))=AB fixH:=DF (by decide +kernel)
theorem rng2:∀{h:Nat},h<=3->cz 0 ((2 * h:Nat):Int) 2=true/\A1 0 2 (Bd 0 ((2 * h:Nat):Int) 2)=(br h).map λi:Nat=>AV.int (2 * (i:Int))
 |0,_=>⟨by decide +kernel,rfl⟩
 |1,_=>⟨by decide +kernel,rfl⟩
 |2,_=>⟨by decide +kernel,rfl⟩
 |3,_=>⟨by decide +kernel,rfl⟩
 |h+4,q=>absurd q (Nat.not_le_of_gt (Nat.lt_of_lt_of_le (by decide) (Nat.le_add_left 4 h)))
noncomputable def tw:Bool->Sp->Sp
 |true,k=>sw k
 |false,k=>k
theorem Jc(b:Bool)(k:Sp):tw b (tw b k)=k:=by cases b<;>rfl
noncomputable def tm(b:Bool)(β:Int->Int)(k:Sp):Sp:=tw b (flM β (tw b k))
theorem tm_one(h:(u - β y) % 2=0):tm b β (tw b (u,y))=tw b (u+1,y):=by
 unfold tm flM;rw[Jc];exact congrArg (tw b) (if_pos h)
theorem tm_two(h:(u - β y) % 2=0):tm b β (tw b (u+1,y))=tw b (u,y):=by
 unfold tm flM;rw[Jc];exact congrArg (tw b) ((if_neg (DA h)).trans (cH (bM ..) rfl))
inductive QK(avs:List AV)(V:LS)(K:KR):Prop
 |mk (G:Gr)(w:_)(b:_)(β:Int->Int)(c0:avs=[.list (AB G),.bool b])(c1:V=[])(c2:(Nb G w/\Par G β))(c3:∀Ks,Ks.Nodup->(∀k,k∈Ks↔tw b k∈Ae G)->K ⟨[.dict (fD (spm (tm b β)) Ks)],.new 0⟩ []):QK avs V K
noncomputable def fPairs:FS:=specF λavs V K Z=>QK avs V K
noncomputable def pfM(G:Gr)(b:Bool)(f:Addr)(x3 x4 x5 x6 x7 x8:Option AV):M:=[some (.list (AB G)),some (.bool b),some (.loc f 4),x3,x4,x5,x6,x7,x8]
noncomputable def pfS(f:Addr)(D:List (Al×AV)):LS:=[.no,.no,.no,.no,.at f (.dict D)]
inductive PfJ(G:Gr)(b:Bool)(β:Int->Int)(f:Addr)(d r:List Int):M->LS->Prop
 |mk (x3 x4 x5 x6 x7 x8:Option AV)(Ks:List Sp)(D:List (Al×AV))(hd:d++r=ivs 0 G.length)(nd:Ks.Nodup)(hm:∀k,k∈Ks↔tw b k∈Ae (G.take d.length))(eD:D=fD (spm (tm b β)) Ks):PfJ G b β f d r (pfM G b f x3 x4 x5 x6 x7 x8) (pfS f D)
inductive PfI(G:Gr)(b:Bool)(β:Int->Int)(f:Addr)(y:Int)(xs:List Int)(h:Nat)(Q:List Sp)(d r:List Nat):M->LS->Prop
 |mk (x5 x6 x7 x8:Option AV)(Ks:List Sp)(D:List (Al×AV))(hd:d++r=br h)(nd:Ks.Nodup)(hm:∀k,k∈Ks↔tw b k∈Q\/∃x∈xs.take (2 * d.length),tw b k=(x,y))(eD:D=fD (spm (tm b β)) Ks):PfI G b β f y xs h Q d r (pfM G b f (some (.int y)) (some (.list (xs.map .int))) x5 x6 x7 x8) (pfS f D)
theorem range_at(e:d++i::r=br h):i=d.length/\i<h:=by
 have:=congrArg (·[d.length]?) e
 simp only[bj (az _),fF,e9]at this;obtain⟨Y,z⟩:=dz.mp this.symm;rw[ic]at Y;rw[List.getElem_range]at z;exact⟨ax (lin [d.length,i] [] (.b V1 V0) [.D (-1) V0 V1] rfl z) (lin [d.length,i] [] (.b V0 V1) [.d V0 V1] rfl z),lin [d.length,h,i] [] (.c V2 V1) [.c V0 V1,.D (-1) V0 V2] rfl Y z⟩
theorem pf_ite{xs:List Int}{U O x8:Option AV}{V:LS}{X:XL}{KK:KS}(T:0<=z/\z<1000000)(B:0<=z+1/\z+1<1000000)(a1:(xs.map AV.int)[z.toNat]?=some (.int u))(Y:(xs.map AV.int)[(z+1).toNat]?=some (.int (u+1)))
  (h:wpSs ⟨true,[],[],[],[]⟩ [.setitem (.v 2) (.v 7) (.v 8),.setitem (.v 2) (.v 8) (.v 7)] X (pfM G b f (some (.int y)) (some (.list (xs.map .int))) U (some (.int z)) (some (sp (tw b (u,y)))) (some (sp (tw b (u+1,y))))) V KK) :
  wpSs ⟨true,[],[],[],[]⟩ [.assign (.tup [.v 7,.v 8]) (.tup [.tup [.sub (.v 4) (.v 6),.v 3],.tup [.sub (.v 4) (.bin .Add (.v 6) (.int 1)),.v 3]]),.ite (.v 1) [.assign (.tup [.v 7,.v 8]) (.tup [.tup [.v 3,.sub (.v 4) (.v 6)],.tup [.v 3,.sub (.v 4) (.bin .Add (.v 6) (.int 1))]])] [],.setitem (.v 2) (.v 7) (.v 8),.setitem (.v 2) (.v 8) (.v 7)] X (pfM G b f (some (.int y)) (some (.list (xs.map .int))) U (some (.int z)) O x8) V KK:=by
 cases b with|false=>exact⟨T,_,a1,B,_,Y,h⟩|true=>exact⟨T,_,a1,B,_,Y,T,_,a1,B,_,Y,h⟩
theorem pf_mem{Ks Q:List Sp}{xs:List Int}{n:Nat}{u y:Int}(T:∀k,k∈Ks↔tw b k∈Q\/∃x∈xs.take (2 * n),tw b k=(x,y))(B:xs.take (2 * (n+1))=xs.take (2 * n)++[u,u+1])(k:Sp):k∈JK (JK Ks (tw b (u,y))) (tw b (u+1,y))↔tw b k∈Q\/∃x∈xs.take (2 * (n+1)),tw b k=(x,y):=by
 have tk:∀z:Sp,k=tw b z↔tw b k=z:=λz=>⟨λe=>by rw[e,Jc],λe=>by rw[<- e,Jc]⟩
 rw[Ix,Ix,T k,tk,tk,B]
 constructor
 .rintro (((h|⟨x,O,e⟩)|e)|e)
  .exact .inl h
  .exact .inr ⟨x,aU _ O,e⟩
  .exact .inr ⟨u,aM _ (.head _),e⟩
  .exact .inr ⟨u+1,aM _ (.tail _ (.head _)),e⟩
 .rintro (h|⟨x,O,e⟩)
  .exact .inl (.inl (.inl h))
  .rcases aJ.mp O with O|O
   .exact .inl (.inl (.inr ⟨x,O,e⟩))
   .cases O with
    |head=>exact .inl (.inr e)
    |tail _ O =>
     cases O with
     |head=>exact .inr e
     |tail _ O=>cases O
theorem pf_len{Ks Q:List Sp}{xs:List Int}{n:Nat}{y:Int}(d:Ks.Nodup)(T:∀k,k∈Ks↔tw b k∈Q\/∃x∈xs.take (2 * n),tw b k=(x,y)):Ks.length<=Q.length+xs.length:=by
 have:=sub_length (k:=Q.map (tw b)++(xs.take (2 * n)).map λx=>tw b (x,y)) d λk B=>aJ.mpr (((T k).mp B).imp (λz=>aY.mpr ⟨_,z,Jc b k⟩) λ⟨x,hx,e⟩=>aY.mpr ⟨x,hx,by rw[<- e,Jc]⟩)
 rw[an,aj,aj,eJ]at this;exact aw this (Nat.add_le_add_left (fU _ _) _)
theorem insS_len(s:List Sp)(k:Sp):(JK s k).length<=s.length+1:=by
 unfold JK;split
 .exact fe _
 .rw[an];exact az _
theorem pf_in{Q:List Sp}{d r:List Nat}{m:M}{V:LS}{X:XL}{KK:KS}(hh:h<=3)(U:xs.length=2 * h)(pa:Ij (β y) xs=true)(hQ:Q.length<=36)(j:PfI G b β f y xs h Q d (i::r) m V)(C:M->LS->Prop)(hC:∀At Ab,PfI G b β f y xs h Q (d++[i]) r At Ab->C At Ab) :
  patW true (.v 6) (.int (2 * (i:Int))) m (λAp=>wpSs ⟨true,[],[],[],[]⟩ [.assign (.tup [.v 7,.v 8]) (.tup [.tup [.sub (.v 4) (.v 6),.v 3],.tup [.sub (.v 4) (.bin .Add (.v 6) (.int 1)),.v 3]]),.ite (.v 1) [.assign (.tup [.v 7,.v 8]) (.tup [.tup [.v 3,.sub (.v 4) (.v 6)],.tup [.v 3,.sub (.v 4) (.bin .Add (.v 6) (.int 1))]])] [],.setitem (.v 2) (.v 7) (.v 8),.setitem (.v 2) (.v 8) (.v 7)] X Ap V (DX aa V C KK)):=by
 cases j with
 |mk x5 x6 x7 x8 Ks D hd O hm eD =>
  obtain⟨rfl,hi⟩:=range_at hd;have z:(d++[d.length])++r=br h:=by rwa [aG]
  obtain⟨u,e1,e2,e3,e4⟩:=par_at (i:=d.length) pa (by exact lin [xs.length,h,d.length] [] (.c (.M 2 V2) V0) [.D (-1) V0 (.M 2 V1),.C 2 V2 V1] rfl U hi)
  have b1:(0:Int)<=2 * (d.length:Int)/\2 * (d.length:Int)<1000000:=by exact⟨lin [d.length] [] (.f K0 (.M 2 (.c V0))) [] rfl,lin [h,d.length] [] (.g (.M 2 (.c V1)) AC) [.B 2 V0 K3,.C 2 V1 V0] rfl hh hi⟩
  have b2:(0:Int)<=2 * (d.length:Int)+1/\2 * (d.length:Int)+1<1000000:=by exact⟨lin [d.length] [] (.f K0 (.A (.M 2 (.c V0)) K1)) [] rfl,lin [h,d.length] [] (.g (.A (.M 2 (.c V1)) K1) AC) [.B 2 V0 K3,.C 2 V1 V0] rfl hh hi⟩
  have a1:(xs.map AV.int)[(2 * (d.length:Int)).toNat]?=some (.int u):=by
   rw[show (2 * (d.length:Int)).toNat=2 * d.length from rfl,a9,e1];rfl
  have a2:(xs.map AV.int)[(2 * (d.length:Int)+1).toNat]?=some (.int (u+1)):=by
   rw[show (2 * (d.length:Int)+1).toNat=2 * d.length+1 from rfl,a9,e2];rfl
  have Y:Ks.length<=42:=aw (pf_len O hm) (by exact lin [h,xs.length,Q.length] [] (.b (.A V2 V1) K42) [.B 2 V0 K3,.d V1 (.M 2 V0),.b V2 K36] rfl hh U hQ)
  have T:Bx D (tw b (u,y)) (sp (tw b (u+1,y)))=fD (spm (tm b β)) (JK Ks (tw b (u,y))):=by
   rw[eD];exact Gu (by unfold spm;rw[tm_one e3])
  have s2:Bx (Bx D (tw b (u,y)) (sp (tw b (u+1,y)))) (tw b (u+1,y)) (sp (tw b (u,y)))=fD (spm (tm b β)) (JK (JK Ks (tw b (u,y))) (tw b (u+1,y))):=by
   rw[T];exact Gu (by unfold spm;rw[tm_two e3])
  have l2:(Bx D (tw b (u,y)) (sp (tw b (u+1,y)))).length<=big:=An (by
   rw[T,BJ];exact aw (insS_len _ _) (by exact lin [Ks.length] [] (.b (.A V0 K1) AL) [.b V0 K42] rfl Y))
  refine pf_ite b1 b2 a1 a2 ⟨rfl,An (by rw[eD,BJ];exact lin [Ks.length] [] (.b V0 AL) [.b V0 K42] rfl Y),rfl,l2,hC _ _ (.mk _ _ _ _ _ _ z (LH (LH O)) (λk=>?_) s2)⟩
  rw[an,bz];exact pf_mem hm e4 k
theorem Jd{G:Gr}{d:Nat}{u:List Bool}(h:G[d]?=some u):Ae (G.take (d+1))=Ae (G.take d)++(J0 u).map λx=>(x,(d:Int)):=by
 have Y:=(dz.mp h).1;rw[List.take_add_one,h];show Ae (G.take d++[u])=_;unfold Ae;rw[CD,Cy,eJ,Nat.min_eq_left (c9 Y),cF]
 rfl
theorem pairs_ok:M0 ⟨true,[],[],[],[]⟩ C4 .new 7 5 fPairs:=by
 refine .specF λavs V K X h=>?_;obtain⟨G,w,b,β,rfl,rfl,⟨g,pa⟩,hK⟩:=h;have h6:=g.h6;have w6:=g.w6;refine⟨rfl,λf=>⟨An (CQ g),DL (by rwa [CN]),AY (g:=.int) (rng_grid G) (PfJ G b β f) (λd m τ j=>?_) (λd y r m τ j C hC=>?_) (d:=[]) (.mk _ _ _ _ _ _ [] [] rfl .nil (λk=>⟨λz=>(nM z),λz=>(by cases z)⟩) rfl)⟩⟩
 .induction j using PfJ.casesOn with
  |mk x3 x4 x5 x6 x7 x8 Ks D hd nd hm eD =>
   rw[aN]at hd;rw[hd,AD,iB]at hm;subst eD;exact⟨rfl,hK Ks nd hm⟩
 .induction j using PfJ.casesOn with
  |mk x3 x4 x5 x6 x7 x8 Ks D hd nd hm eD =>
   refine Aq (ivs_at hd) λhy T=>?_;obtain rfl:y=d.length:=by exact ah (lin [d.length] [y] (.f V0 (.c V0)) [.h V0 (.A K0 (.c V0))] rfl hy) (lin [d.length] [y] (.f (.c V0) V0) [.H (-1) V0 (.A K0 (.c V0))] rfl hy)
   have er:G[d.length]?=some G[d.length]:=aI T;generalize G[d.length]=row at er;have u:=g.len _ (af er);have ea:(AB G)[(d.length:Int).toNat]?=some (.str (Ce row)):=by rw[b6];exact LT er
   have bd:(0:Int)<=d.length/\(d.length:Int)<1000000:=by exact⟨lin [d.length] [] (.f K0 (.c V0)) [] rfl,lin [bU G,d.length] [] (.g (.c V1) AC) [.b V0 K6,.c V1 V0] rfl h6 T⟩
   refine⟨bd,_,ea,An (by rw[A4];exact lin [w,row.length] [] (.b V1 AL) [.b V0 K6,.d V1 V0] rfl w6 u),DL (by rw[A4];exact aw (dE u) w6),⟨An (by rw[Fh,aj,AD,u];exact aw w6 (by decide)),GB (g:=.int) (f:=.int) (P:=λx=>row.getD (x - 0).toNat false) (Fh _) (λx O ys C2 Y U=>?_) ?_⟩⟩
   .rw[ivs_mem]at O
    refine⟨bd,_,ea,⟨lin [] [x] (.f K0 V0) [.f K0 V0] rfl O.1,lin [w,row.length] [x] (.g V0 AC) [.b V0 K6,.d V1 V0,.g V0 (.A K0 (.c V1))] rfl w6 u O.2⟩,_,row_at (lin [row.length,x.toNat] [x] (.c V1 V0) [.g V0 (.A K0 (.c V0)),.h (.c V1) V0] rfl O.2 (ao (lin [] [x] (.f K0 V0) [.f K0 V0] rfl O.1))),_,LN _,?_⟩;rw[fJ]at Y U;exact ifB Y U
   .have pr:=pa _ _ er
    refine X1p (Ii pr) λh hh=>?_;have lx:(J0 row).length<=6:=by
     have:=dy (λx=>row.getD (x - 0).toNat false) (ivs 0 row.length)
     rw[AD]at this;exact aw this (lin [w,row.length] [] (.b V1 K6) [.b V0 K6,.d V1 V0] rfl w6 u)
    have h3:h<=3:=by exact lin [(J0 row).length,h] [] (.B 2 V1 K3) [.D (-1) V0 (.M 2 V1),.b V0 K6] rfl hh lx
    have el:((J0 row).map AV.int).length=2 * h:=by rw[aj,hh]
    refine Aq (rng2 h3) λs2 a2=>?_;have hQ:(Ae (G.take d.length)).length<=36:=by
     have:=Cl (w:=w) (G:=G.take d.length) (y:=0) λq hq=>g.len q (List.mem_of_mem_take hq)
     have h3:(G.take d.length).length * w<=6 * 6:=dU (by rw[eJ];exact lin [bU G,d.length,min d.length (bU G)] [] (.b V2 K6) [.b V0 K6,.c V1 V0,.b V2 V1] rfl h6 T (Nat.min_le_left d.length (bU G))) w6
     exact aw this h3
    refine⟨An (show ((J0 row).map AV.int).length<=1000 by exact lin [h,(gV AV.int (J0 row)).length] [] (.b V1 AL) [.B 2 V0 K3,.d V1 (.M 2 V0)] rfl h3 el),by decide,by decide,(congrArg (λn:Nat=>cz 0 n 2) el).trans s2,AY (g:=λi:Nat=>AV.int (2 * (i:Int))) ((congrArg (λn:Nat=>A1 0 2 (Bd 0 n 2)) el).trans a2) (PfI G b β f d.length (J0 row) h (Ae (G.take d.length))) (λd' m τ j=>?_) (λd' i r m τ j C hC=>pf_in h3 hh pr hQ j C hC) (d:=[]) (.mk _ _ _ _ Ks D rfl nd (λk=>(hm k).trans ⟨.inl,λz=>z.elim id λ⟨x,z,_⟩=>by cases z⟩) eD)⟩
    induction j using PfI.casesOn with
    |mk x5 x6 x7 x8 Ks D hd2 nd2 hm2 eD2 =>
     refine hC _ _ (.mk _ _ _ _ _ _ Ks D (by rw[aG];exact hd) nd2 (λk=>?_) eD2)
     rw[aN]at hd2;rw[hm2 k,hd2,ic,<- hh,iB,an,bz,Jd er,aJ,aY];exact or_congr Iff.rfl ⟨λ⟨x,Y,U⟩=>⟨x,Y,U.symm⟩,λ⟨x,Y,U⟩=>⟨x,Y,U.symm⟩⟩
inductive QC(avs:List AV)(V:LS)(K:KR):Prop
 |mk (l:List Int)(c0:avs=[.nums l])(c1:V=[])(c2:l.length<=1000)(c3:∀G w Ks m h,Flo G w->Lyd (Ae G) Ks m h->K ⟨[],.val (.tup [.list (AB G),.dict (fD (spm m) Ks)])⟩ []):QC avs V K
noncomputable def IL:FS:=specF λavs V K Z=>QC avs V K
noncomputable abbrev tFb:Tab:=⟨true,[],[(72,fAt),(75,L9),(85,fPairs),(74,L7)],[],[]⟩
theorem D7{l:List Int}{x:Int}{G:Gr}{K:KR}{X:XL}(h:Lay G w)(U:∀G w Ks m h,Flo G w->Lyd (Ae G) Ks m h->K ⟨[],.val (.tup [.list (AB G),.dict (fD (spm m) Ks)])⟩ []) :
  wpSs tFb (c_lfloor_by.body.drop 3) X [some (.nums l),some (.int x),some (.list (AB G)),aa,aa] [] (λfl Z τ=>retW .val 0 (flV fl) τ K):=by
 refine X1p h.p λβ Y=>?_;have g:=h.f.g;have mt:=fl_mt Y.cl;have ht:=fl_ht (b:=β) (λk B=>(g.in B).2.2.1) Y.cl;refine⟨G,w,_,β,rfl,rfl,⟨g,Y⟩,λKs y T=>?_⟩;generalize ((x.fdiv 30).fmod 2 == 1)=b at T ⊢
 cases b with|true=>exact⟨G,w,rfl,rfl,g,U _ _ Ks _ _ h.ft ⟨y,λk=>(T k).trans (Dm g).symm,mt.sw λk=>Dm g,ht.sw mt λk=>Dm g⟩⟩|false=>exact U _ _ Ks _ _ h.f ⟨y,T,mt,ht⟩
theorem JN:M0 tFb c_lfloor_by .val 4 0 IL:=by
 refine .specF λB V K X h=>?_;obtain⟨l,rfl,rfl,Y,U⟩:=h;refine⟨rfl,l,0,rfl,Y,rfl,l,1,rfl,Y,rfl,_,_,_,rfl,rfl,λw L u y d O st=>(ifB (λZ=>?_) λZ=>D7 (Ji u y d O st) U)⟩;have z:=Bn (a:=(l.getD 0 0).fdiv 7) (b:=4) (by decide)
 refine⟨⟨z.1,Int.lt_trans z.2 (by decide)⟩,?_⟩
 rcases four z with e|e|e|e<;>rw[e]
 .exact⟨_,rfl,by have:=D7 (l:=l) (x:=l.getD 0 0) (X:=λe τ=>X e (bZ ([]:LS).length τ)) fixE_ok U;rw[<- fixE_lit]at this;exact this⟩
 .exact⟨_,rfl,by have:=D7 (l:=l) (x:=l.getD 0 0) (X:=λe τ=>X e (bZ ([]:LS).length τ)) fixF_ok U;rw[<- fixF_lit]at this;exact this⟩
 .exact⟨_,rfl,by have:=D7 (l:=l) (x:=l.getD 0 0) (X:=λe τ=>X e (bZ ([]:LS).length τ)) fixG_ok U;rw[<- fixG_lit]at this;exact this⟩
 .exact⟨_,rfl,by have:=D7 (l:=l) (x:=l.getD 0 0) (X:=λe τ=>X e (bZ ([]:LS).length τ)) fixH_ok U;rw[<- fixH_lit]at this;exact this⟩
end
section
noncomputable def up(μ:Sp->Sp)(c:Sp)(g:Sp->Sp)(j:Sp):Sp:=if j=c then μ c else g j
noncomputable def ups(μ:Sp->Sp):List Sp->(Sp->Sp)->Sp->Sp
 |[],g=>g
 |c::l,g=>ups μ l (up μ c g)
theorem ups_in:∀{l:List Sp}{g:Sp->Sp},k∈l\/g k=μ k->ups μ l g k=μ k
 |[],g,h=>h.elim (λz=>by exact nM z) id
 |c::l,g,h=>ups_in (l:=l) (g:=up μ c g) (by
  unfold up
  by_cases e:k=c
  .rw[if_pos e,e];exact .inr rfl
  .rw[if_neg e];exact h.imp_left λz=>(aA.mp z).resolve_left e)
theorem J9:∀{l:List Sp}{g:Sp->Sp},k∉l->ups μ l g k=g k
 |[],_,_=>rfl
 |c::l,g,h=>(J9 (l:=l) λz=>h (.tail _ z)).trans (if_neg λ(e:k=c)=>h (by rw[e];exact .head _))
theorem FG(h:c∈Ks)(e:μ c=z):Bx (fD (spm g) Ks) c (sp z)=fD (spm (up μ c g)) Ks:=by
 rw[IS h];refine IM λj Z=>?_;unfold spm up
 by_cases q:j=c
 .rw[if_pos q,if_pos q,e]
 .rw[if_neg q,if_neg q]
theorem fo_mem:k∈[(x - 1,y - 1),(x,y - 1),(x - 1,y),(x,y)]↔Fo x y k:=by
 constructor
 .intro h
  simp only[aA,bB,or_false]at h
  rcases h with rfl|rfl|rfl|rfl
  .exact⟨.inl rfl,.inl rfl⟩
  .exact⟨.inr rfl,.inl rfl⟩
  .exact⟨.inl rfl,.inr rfl⟩
  .exact⟨.inr rfl,.inr rfl⟩
 .obtain⟨a,b⟩:=k
  refine λu=>Aq u λY z=>?_;dsimp only at Y z
  rcases Y with rfl|rfl<;>rcases z with rfl|rfl
  .exact .head _
  .exact .tail _ (.tail _ (.head _))
  .exact .tail _ (.head _)
  .exact .tail _ (.tail _ (.tail _ (.head _)))
theorem Ge:mir x y false (x - 1,b)=(x,b):=cH (by show 2 * x - 1 - (x - 1)=x;exact ah (lin [] [x] (.f (.S (.S (.M 2 V0) K1) (.S V0 K1)) V0) [] rfl) (lin [] [x] (.f V0 (.S (.S (.M 2 V0) K1) (.S V0 K1))) [] rfl)) rfl
theorem mir_f2:mir x y false (x,b)=(x - 1,b):=cH (by show 2 * x - 1 - x=x - 1;exact ah (lin [] [x] (.f (.S (.S (.M 2 V0) K1) V0) (.S V0 K1)) [] rfl) (lin [] [x] (.f (.S V0 K1) (.S (.S (.M 2 V0) K1) V0)) [] rfl)) rfl
theorem Gd:mir x y true (a,y - 1)=(a,y):=cH rfl (by show 2 * y - 1 - (y - 1)=y;exact ah (lin [] [y] (.f (.S (.S (.M 2 V0) K1) (.S V0 K1)) V0) [] rfl) (lin [] [y] (.f V0 (.S (.S (.M 2 V0) K1) (.S V0 K1))) [] rfl))
theorem mir_t2:mir x y true (a,y)=(a,y - 1):=cH rfl (by show 2 * y - 1 - y=y - 1;exact ah (lin [] [y] (.f (.S (.S (.M 2 V0) K1) V0) (.S V0 K1)) [] rfl) (lin [] [y] (.f (.S V0 K1) (.S (.S (.M 2 V0) K1) V0)) [] rfl))
theorem fo_p(M:Mt P m)(Y:c∈P)(T:m c=c')(B:d∈P)(U:m d=d')(O:mir x y v c=c')(u:mir x y v d=d')(all:∀k,Fo x y k->k∈[c,c',d,d'])(k:Sp)(f:Fo x y k):k∈P/\m k=mir x y v k:=by
 have one:∀{c c'},c∈P->m c=c'->mir x y v c=c'->c'∈P/\m c'=mir x y v c':=λ{c c'} h e z=>by
  have:=M c h
  rw[e]at this;exact⟨(nbP_mem.mp this.1).2.2,by rw[this.2,<- z,Ll]⟩
 have:=all k f
 simp only[aA,bB,or_false]at this
 rcases this with rfl|rfl|rfl|rfl
 .exact⟨Y,by rw[T,O]⟩
 .exact one Y T O
 .exact⟨B,by rw[U,u]⟩
 .exact one B U u
def Tu(P:List Sp)(m:Sp->Sp)(v:Bool)(x y:Int):Prop:=∀k,Fo x y k->k∈P/\m k=mir x y v k
theorem Tu.tn(p:Tu P m v x y)(Y:∀k,k∈l↔Fo x y k):Tn P x y v m (ups (mir x y (!v)) l m) :=
 ⟨λk f=>(p k f).1,λk f=>(p k f).2,λk f=>ups_in (.inl ((Y k).mpr f)),λk f=>J9 λz=>f ((Y k).mp z)⟩
theorem Tn.lyd(T:Tn P x y v m m')(L:Lyd P Ks m h):Lyd P Ks m' (hup x y v h):=⟨L.nd,L.mem,T.mt L.mt,T.ht L.ht⟩
theorem EqP.sp(e:a=b):EqP (Internal.sp a) (Internal.sp b) true:=.py ⟨Fd a,Fd b,rfl,rfl,rfl,rfl,(IP a b).trans (decide_eq_true e)⟩
theorem EqP.nsp(e:a≠b):EqP (Internal.sp a) (Internal.sp b) false:=.py ⟨Fd a,Fd b,rfl,rfl,rfl,rfl,(IP a b).trans (decide_eq_false e)⟩
theorem Fv{K:Bool->Prop}(h:K (decide (k∈Ks/\m k=z))):eqW ((By (fD (spm m) Ks) k).getD .none) (sp z) V K:=by
 by_cases q:k∈Ks
 .rw[FP q]
  refine⟨decide (m k=z),.py ⟨Fd (m k),Fd z,rfl,rfl,?_,?_,IP _ _⟩,?_⟩
  .rfl
  .rfl
  .rwa [show decide (k∈Ks/\m k=z)=decide (m k=z) from decide_eq_decide.mpr (and_iff_right q)]at h
 .rw[HJ,if_neg q]
  refine⟨false,.py ⟨.none,Fd z,rfl,rfl,rfl,rfl,rfl⟩,?_⟩
  rwa [decide_eq_false λw=>q w.1]at h
inductive QU(avs:List AV)(V:LS)(K:KR):Prop
 |mk (a:_)(k:_)(P:List Sp)(Ks:List Sp)(m:Sp->Sp)(h:Sp->Int)(c0:avs=[.loc a 0,sp k])(c1:V=[.at a (.dict (fD (spm m) Ks))])(c2:(Ks.length<=36/\Lyd P Ks m h))(c3:(∀v m',Tn P k.1 k.2 v m m'->K ⟨[],.val (.bool true)⟩ [.at a (.dict (fD (spm m') Ks))]))(c4:((∀v,¬Tu P m v k.1 k.2)->K ⟨[],.val (.bool false)⟩ [.at a (.dict (fD (spm m) Ks))])):QU avs V K
noncomputable def fTurn:FS:=specF λavs V K Z=>QU avs V K
noncomputable def tuM(a:Addr)(x y:Int)(x8 x9 x10:Option AV):M:=[some (.loc a 0),some (sp (x,y)),some (.int x),some (.int y),some (sp (x - 1,y - 1)),some (sp (x,y - 1)),some (sp (x - 1,y)),some (sp (x,y)),x8,x9,x10]
noncomputable abbrev t0:Tab:=⟨true,[],[],[],[]⟩
theorem tu_end{K:KR}(hl:Ks.length<=36)(q1:p1∈Ks)(O:p2∈Ks)(z:p3∈Ks)(d:p4∈Ks)(h1:μ p1=p2)(h2:μ p2=p1)(h3:μ p3=p4)(h4:μ p4=p3)(U:K ⟨[],.val (.bool true)⟩ [.at a (.dict (fD (spm (ups μ [p1,p2,p3,p4] m)) Ks))]) :
  wpSs t0 (c_lturn.body.drop 3) X (tuM a x y (some (.list [.tup [sp p1,sp p2],.tup [sp p3,sp p4]])) aa aa) [.at a (.dict (fD (spm m) Ks))] (λfl Z τ=>retW .val 1 (flV fl) τ K):=by
 have u:∀g,(fD (spm g) Ks).length<=big:=λg=>An (by rw[BJ];exact lin [Ks.length] [] (.b V0 AL) [.b V0 K36] rfl hl)
 have e:=FG (μ:=μ) (g:=m) q1 h1;have e':=FG (μ:=μ) (g:=up μ p1 m) O h2;have e3:=FG (μ:=μ) (g:=up μ p2 (up μ p1 m)) z h3;have e4:=FG (μ:=μ) (g:=up μ p3 (up μ p2 (up μ p1 m))) d h4;have l1:=u m;have B:=u (up μ p1 m);have Y:=u (up μ p2 (up μ p1 m));have T:=u (up μ p3 (up μ p2 (up μ p1 m)));have U:K ⟨[],.val (.bool true)⟩ [.at a (.dict (fD (spm (up μ p4 (up μ p3 (up μ p2 (up μ p1 m))))) Ks))]:=U;rw[<- e4]at U;rw[<- e3]at T U;rw[<- e']at Y T U;rw[<- e]at B Y T U;exact⟨rfl,l1,rfl,B,rfl,Y,rfl,T,U⟩
theorem turn_ok:M0 ⟨true,[],[],[],[]⟩ c_lturn .val 9 0 fTurn:=by
 refine .specF λavs V K X h=>?_;obtain⟨a,⟨x,y⟩,P,Ks,m,h,rfl,rfl,⟨hl,L⟩,hK,hN⟩:=h;have B:=λk=>(L.mem k).mpr;have z:=λk=>(L.mem k).mp;have u:¬Tu P m false x y->∀X:XL,wpSs t0 [.ite (.and [.cmp .Eq (.meth (.v 0) 6 [.v 4]) (.v 6),.cmp .Eq (.meth (.v 0) 6 [.v 5]) (.v 7)]) [.assign (.v 8) (.list [.tup [.v 4,.v 5],.tup [.v 6,.v 7]])] [.ret (.bool false)]] X (tuM a x y aa aa aa) [.at a (.dict (fD (spm m) Ks))] (kSeq (wpSs t0 (c_lturn.body.drop 3) X) (λfl Z τ=>retW .val 1 (flV fl) τ K)):=λnh X=>by
  have no:∀{a:Int},(a=x - 1\/a=x)->decide ((a,y - 1)∈Ks/\m (a,y - 1)=(a,y))=false->∀v,¬Tu P m v x y:=λha e v T=>by
   cases v with|false=>exact nh T|true=>exact of_decide_eq_false e ⟨B _ (T _ ⟨ha,.inl rfl⟩).1,(T _ ⟨ha,.inl rfl⟩).2.trans Gd⟩
  refine⟨rfl,rfl,Fv (ifB (λd=>⟨rfl,rfl,Fv (ifB (λe2=>?_) λe2=>hN (no (.inr rfl) e2))⟩) λd=>hN (no (.inl rfl) d))⟩;obtain⟨c1,c2⟩:=of_decide_eq_true d;obtain⟨U,O⟩:=of_decide_eq_true e2;have p:=fo_p (x:=x) (y:=y) (v:=true) L.mt (z _ c1) c2 (z _ U) O Gd Gd λk f=>(List.Perm.mem_iff (.cons _ (.swap ..))).mp (fo_mem.mpr f);have L':=Tu.tn (l:=[(x - 1,y - 1),(x,y - 1),(x - 1,y),(x,y)]) p (λk=>fo_mem);have q:∀k,Fo x y k->k∈Ks:=λk f=>B k (p k f).1;exact tu_end hl (q _ ⟨.inl rfl,.inl rfl⟩) (q _ ⟨.inr rfl,.inl rfl⟩) (q _ ⟨.inl rfl,.inr rfl⟩) (q _ ⟨.inr rfl,.inr rfl⟩) Ge mir_f2 Ge mir_f2 (hK _ _ L')
 have Y:∀X:XL,wpSs t0 (c_lturn.body.drop 2) X (tuM a x y aa aa aa) [.at a (.dict (fD (spm m) Ks))] (λfl Z τ=>retW .val 1 (flV fl) τ K):=λX=>by
  refine⟨rfl,rfl,Fv ?_⟩;have no:∀{b:Int},(b=y - 1\/b=y)->decide ((x - 1,b)∈Ks/\m (x - 1,b)=(x,b))=false->¬Tu P m false x y:=λhb e T=>of_decide_eq_false e ⟨B _ (T _ ⟨.inl rfl,hb⟩).1,(T _ ⟨.inl rfl,hb⟩).2.trans Ge⟩;refine ifB (λd=>⟨rfl,rfl,Fv (ifB (λe2=>?_) λe2=>u (no (.inr rfl) e2) X)⟩) λd=>u (no (.inl rfl) d) X;obtain⟨c1,c2⟩:=of_decide_eq_true d;obtain⟨U,O⟩:=of_decide_eq_true e2;have p:=fo_p (x:=x) (y:=y) (v:=false) L.mt (z _ c1) c2 (z _ U) O Ge Ge λk f=>fo_mem.mpr f;have L':=Tu.tn (l:=[(x - 1,y - 1),(x - 1,y),(x,y - 1),(x,y)]) p (λk=>(List.Perm.mem_iff (.cons _ (.swap ..))).trans fo_mem);have q:∀k,Fo x y k->k∈Ks:=λk f=>B k (p k f).1;exact tu_end hl (q _ ⟨.inl rfl,.inl rfl⟩) (q _ ⟨.inl rfl,.inr rfl⟩) (q _ ⟨.inr rfl,.inl rfl⟩) (q _ ⟨.inr rfl,.inr rfl⟩) Gd mir_t2 Gd mir_t2 (hK _ _ L')
 exact⟨rfl,Y _⟩
end
section
structure Flr(P C:List Sp)(a:Sp):Prop where
 few:P.length<=36
 up:P.Pairwise lt2
 sm:∀k∈P,(0<=k.1/\k.1<6)/\0<=k.2/\k.2<6
 ne:∃P',P=a::P'
 hg:M8 P a
 co:Cor P C
theorem Flo.flr(f:Flo G w):∃a,Flr (Ae G) (corC G w) a:=by
 refine X2pp f.ne λa U e h=>?_;have h6:=f.g.h6;have w6:=f.g.w6;exact⟨a,f.g.cells,IZ G,λk z=>by refine Bt (f.g.in z) λd B T y=>?_;exact⟨⟨d,lin [w] [k.fst] (.g V0 K6) [.b V0 K6,.g V0 (.c V0)] rfl w6 B⟩,T,lin [bU G] [k.snd] (.g V0 K6) [.b V0 K6,.g V0 (.c V0)] rfl h6 y⟩,⟨U,e⟩,h,f.g.cor⟩
theorem Flr.ha(f:Flr P C a):a∈P:=by
 refine X1p f.ne λU e=>?_;rw[e];exact .head _
theorem Lyd.len(L:Lyd P Ks m h)(d:P.length<=36):Ks.length<=36:=aw (sub_length L.nd λk B=>(L.mem k).mp B) d
noncomputable def all49:List Sp:=(ivs 0 7).flatMap λx=>(ivs 0 7).map λy=>(x,y)
noncomputable def hash49:List Int:=[-0x756158cae84d4f99,-0x1b119000fefce840,0x63fca45ae467b492,-0x41b392db3247e415,0x189c35eeb7088344,-0x2b4b7af8e592dfea,-0xe05cceb7c427891,-0x47ac6c362c5564e8,0x746be2e2370f37ea,-0x31445453dfa060bd,-0x13fea646764ff964,-0x57e6572e12eb5c92,0x269719bd6650ac7,-0x417e3f4bc6365867,0x410655cc8ccbedec,0x5e4c03d9f61c5545,0x1a6452f25980f217,0x74b41bbc42d15970,0x30cc6ad4a635f642,-0x74e3cc617079a265,-0x579e1e5407293b0c,0x1f342a9978c4112f,0x7983f36362147888,0x359c427bc579155a,0x52e1f0892ec97cb3,0xefa3fa1922e1985,0x694a086b7b7e80de,-0x3c662eca9b3117c9,-0x58191363ce1a9bfd,0x236b5661b35cb5c,-0x7ebb163e016597d2,-0x246b4d7418153079,0x35e47b55d13b36e0,-0xe033591cb602c4e,0xf42787b9df03b0b,-0x2a6426cf1222b14c,0x2feba1fad72db60d,-0x510629a9456dad21,0x9499f20a3e2ba38,-0x3a9e11c6f8b8a8f6,0x1fb1b702f097be63,-0x614014a12c03a4cb,-0x4c365202262a8e09,0x6fe1fd163d3a0ec9,-0x35ce3a1fd97589de,0x24818eaa0fdadd7b,-0x5c703cfa0cc085b3,-0x220743023701e5a,-0x46082517c00b8188]
theorem hash_all:all49.map Bc=hash49:=by decide +kernel
theorem hash_dif:hash49.Nodup:=by decide +kernel
theorem LM:(all49.map Bc).Nodup:=by rw[hash_all];exact hash_dif
theorem inj_nd:∀{l:List Sp},(l.map f).Nodup->a∈l->b∈l->f a=f b->a=b
 |[],_,h,_,_=>by exact nM h
 |x::l,nd,ha,Y,e=>by
  rw[bp,bF]at nd
  rcases aA.mp ha with z|ha<;>rcases aA.mp Y with y|Y
  .exact z.trans y.symm
  .rw[z]at e
   exact absurd (e▸cK Y) nd.1
  .rw[y]at e
   exact absurd (e▸cK ha) nd.1
  .exact inj_nd nd.2 ha Y e
theorem GO(h:(0<=k.1/\k.1<7)/\0<=k.2/\k.2<7):k∈all49:=dR.mpr ⟨k.1,ivs_mem.mpr h.1,aY.mpr ⟨k.2,ivs_mem.mpr h.2,rfl⟩⟩
theorem fD_map(g:Al->β):((fD f l).map λp=>g p.1)=l.map g:=by unfold fD;rw[bc];rfl
theorem hash_nd(y:Ks.Nodup)(hs:∀k∈Ks,(0<=k.1/\k.1<7)/\0<=k.2/\k.2<7):((fD f Ks).map λp=>Bc p.1).Nodup:=by
 rw[fD_map];exact cA.mpr (y.imp_of_mem λ{a b} ha hb ne e=>ne (inj_nd LM (GO (hs a ha)) (GO (hs b hb)) e))
inductive Q9(avs:List AV)(V:LS)(K:KR):Prop
 |mk (P:List Sp)(C:List Sp)(a:_)(Ks:List Sp)(m:Sp->Sp)(h:Sp->Int)(n:_)(c:_)(c0:avs=[.dict (fD (spm m) Ks),.int n,.int c])(c1:V=[])(c2:(Flr P C a/\Lyd P Ks m h/\0<=c/\c<=1000))(c3:∀m' h',Lyd P Ks m' h'->K ⟨[.dict (fD (spm m') Ks)],.new 0⟩ []):Q9 avs V K
noncomputable def fDrawn:FS:=specF λavs V K Z=>Q9 avs V K
noncomputable def drM(D0:List (Al×AV))(n c:Int)(f:Addr)(x:Option AV):M:=[some (.dict D0),some (.int n),some (.int c),some (.loc f 4),x]
noncomputable def drS(f:Addr)(D:List (Al×AV)):LS:=[.no,.no,.no,.no,.at f (.dict D)]
inductive DrJ(P Ks:List Sp)(D0:List (Al×AV))(c:Int)(f:Addr)(d r:List Int):M->LS->Prop
 |mk (n:Int)(x:Option AV)(D:List (Al×AV))(m:Sp->Sp)(h:Sp->Int)(L:Lyd P Ks m h)(e:D=fD (spm m) Ks):DrJ P Ks D0 c f d r (drM D0 n c f x) (drS f D)
theorem drawn_ok:M0 ⟨true,[],[(73,EK),(86,fTurn)],[],[]⟩ Cu .new 2 5 fDrawn:=by
 refine .specF λavs V K X h=>?_;obtain⟨P,C,a,Ks,m,h,n,c,rfl,rfl,⟨F,L,h0,h1⟩,hK⟩:=h;have Y:=L.len F.few;have iP:=λk=>(L.mem k).mp;have ne:fD (spm m) Ks≠[]:=λe=>by
  have:=(L.mem a).mpr F.ha
  rw[show Ks=[] from List.map_eq_nil_iff.mp e]at this
  exact nM this
 refine⟨rfl,.inl ⟨⟨An (by rw[BJ];exact lin [Ks.length] [] (.b V0 AL) [.b V0 K36] rfl Y),ne,hash_nd L.nd λk hk=>by obtain⟨⟨u,O⟩,U,z⟩:=F.sm k (iP k hk);exact⟨⟨u,lin [] [k.fst] (.g V0 K7) [.g V0 K6] rfl O⟩,U,lin [] [k.snd] (.g V0 K7) [.g V0 K6] rfl z⟩⟩,λf=>⟨B2 (by decide) (by decide) (lin [] [c] (.f Bp V0) [.f K0 V0] rfl h0) (lin [] [c] (.f V0 AC) [.f V0 AL] rfl h1),AY (g:=.int) (KC 0 c) (DrJ P Ks (fD (spm m) Ks) c f) (λd m τ j=>?_) (λd y r m τ j C B=>?_) (d:=[]) (.mk _ _ _ m h L rfl)⟩⟩⟩
 .induction j using DrJ.casesOn with|mk n x D m h L e=>subst e;exact⟨rfl,hK m h L⟩
 .induction j using DrJ.casesOn with
  |mk n x D m h L e =>
   subst e;exact⟨f,(_,_),P,Ks,m,h,rfl,rfl,⟨Y,L⟩,λv m' T=>B _ _ (.mk _ _ _ m' _ (T.lyd L) rfl),λZ=>B _ _ (.mk _ _ _ m h L rfl)⟩
noncomputable def pcA(q:Al×Al):AV:=.tup [sp q.1,sp q.2]
noncomputable def pc?(a:AV):Option (Al×Al):=a.tup?.bind λl=>(two? l).bind λz=>(spot? z.1).bind λu=>(spot? z.2).bind λv=>some (u,v)
theorem pc?_out(h:pc? a=some q):a=pcA q:=by
 refine X1pp (AF h) λl y h=>X1pp (AF h) λz U h=>X1pp (AF h) λu Y h=>X1pp (AF h) λv B h=>?_;obtain rfl:=ae h;rw[AV.tup?_out y,two?_out U,spot?_out Y,spot?_out B];rfl
noncomputable def kyP(x:AV):Option Al:=(pc? x).bind λq=>some (q.1.2,q.1.1)
noncomputable def firstF(avs:List AV):Option AV:=(one? avs).bind λa=>(kyP a).bind λk=>some (sp k)
theorem first_ok:M0 ⟨true,[],[(89,pureF keyF)],[],[]⟩ I5 .val 0 0 (pureF firstF):=by
 refine .pureF λy v h K U=>X1pp (AF h) λa Y h=>X1pp (AF h) λk z h=>X1pp (AF z) λq B z=>?_;obtain rfl:=ae h;obtain rfl:=ae z;obtain rfl:=one?_out Y;rw[pc?_out B];exact⟨rfl,U⟩
theorem kyP_pure(x:AV)(p:Al)(h:kyP x=some p):(pureF firstF).pure [x]=some (sp p):=by
 show (kyP x).bind _=_;rw[h];rfl
theorem perm_pcs(h:L.Perm (H0.map pcA)):∃H:List (Sp×Sp),L=H.map pcA/\H.Perm H0:=by
 have e:∀H:List (Sp×Sp),(H.map pcA).map (λx=>(pc? x).getD ((0,0),(0,0)))=H:=λH=>by
  rw[bc];exact ie H
 refine⟨L.map λx=>(pc? x).getD ((0,0),(0,0)),?_,?_⟩
 .rw[bc]
  refine(ie L).symm.trans (cJ λx u=>(X1pp (aY.mp (h.mem_iff.mp u)) λq Z z=>?_));clear u;subst z
  rfl
 .have:=h.map λx=>(pc? x).getD ((0,0),(0,0))
  rwa [e]at this
theorem Na.len(h:Na P m H)(u:P.length<=36):H.length<=18:=by
 have Y:=sub_length h.nd λk z=>(h.mem k).mp z;have T:(Bl H).length=2 * H.length:=by
  clear h Y;unfold Bl
  induction H with|nil=>rfl|cons q d y=>rw[List.flatMap_cons,an,y];show 2+2 * d.length=2 * (d.length+1);exact ax (lin [d.length] [] (.b (.A K2 (.M 2 V0)) (.M 2 (.A V0 K1))) [] rfl) (lin [d.length] [] (.b (.M 2 (.A V0 K1)) (.A K2 (.M 2 V0))) [] rfl)
 exact lin [P.length,(Bl H).length,H.length] [] (.B 2 V2 K18) [.b V0 K36,.b V1 V0,.D (-1) V1 (.M 2 V2)] rfl u Y T
theorem fD_sp(f:Al->AV)(l:List Al):((fD f l).map λp=>sp p.1)=l.map sp:=fD_map sp
theorem Lb(a b:Sp):AQ (a.2,a.1) (b.2,b.1)=FU a b:=by
 refine Bool.eq_iff_iff.mpr (pairLt_iff.trans ?_);unfold FU
 by_cases q:a.2=b.2
 .rw[if_pos q,decide_eq_true_iff]
  exact⟨λz=>z.elim (λz=>absurd q (Int.ne_of_lt z)) (·.2),λz=>.inr ⟨q,z⟩⟩
 .rw[if_neg q,decide_eq_true_iff]
  exact⟨λz=>z.elim id λz=>absurd z.1 q,.inl⟩
theorem lay_one(L:Lyd P Ks m h)(U:P.Pairwise lt2)(p:H.Perm (CK Ks m))(u:(H.map (·.1)).Pairwise lt2):H=CK P m:=by
 have T:∀q∈H,q.1∈P/\FU q.1 (m q.1)=true/\q=(q.1,m q.1):=λq hq=>by
  exact X1pr q (aY.mp (p.mem_iff.mp hq)) λc d=>Aq (cu.mp d) λY z=>⟨(L.mem c).mp Y,z,rfl⟩
 have e:H.map (·.1)=P.filter λc=>FU c (m c):=GY u (U.filter _) λx=>by
  rw[cu,aY]
  constructor
  .rintro ⟨q,hq,rfl⟩;exact⟨(T q hq).1,(T q hq).2.1⟩
  .rintro ⟨Y,z⟩;exact⟨(x,m x),p.mem_iff.mpr (aY.mpr ⟨x,cu.mpr ⟨(L.mem x).mpr Y,z⟩,rfl⟩),rfl⟩
 unfold CK;rw[<- e,bc];refine(ie H).symm.trans (cJ λq hq=>(T q hq).2.2)
inductive QT(avs:List AV)(V:LS)(K:KR):Prop
 |mk (P:List Sp)(Ks:List Sp)(m:Sp->Sp)(h:Sp->Int)(c0:avs=[.dict (fD (spm m) Ks)])(c1:V=[])(c2:(P.length<=36/\P.Pairwise lt2/\Lyd P Ks m h))(c3:K ⟨[.list ((CK P m).map pcA)],.new 0⟩ []):QT avs V K
noncomputable def fTold:FS:=specF λavs V K Z=>QT avs V K
theorem told_ok:M0 ⟨true,[],[(89,pureF keyF)],[],[(91,kyP)]⟩ Mx .new 2 5 fTold:=by
 refine .specF λavs V K X h=>?_;obtain⟨P,Ks,m,h,rfl,rfl,⟨hP,U,L⟩,hK⟩:=h;have Y:=L.len hP;have y:(CK Ks m).length<=Ks.length:=by unfold CK;rw[aj];exact dy _ _
 refine⟨rfl,An (by rw[aj,BJ];exact lin [Ks.length] [] (.b V0 AL) [.b V0 K36] rfl Y),GB (g:=sp) (f:=λk=>pcA (k,m k)) (P:=λk=>FU k (m k)) (fD_sp _ _) (λk B ys C d T=>?_) ?_⟩
 .refine⟨_,FP B,?_⟩
  rw[<- Lb]at d T;exact ifB (λe=>⟨_,FP B,d e⟩) T
 .have e:((Ks.filter λk=>FU k (m k)).map λk=>pcA (k,m k))=(CK Ks m).map pcA:=by unfold CK;rw[bc];rfl
  rw[e];refine⟨⟨λx u=>by refine X1pp (aY.mp u) λq Z Z0=>?_;clear u;subst Z0;rfl,by rw[aj];exact lin [Ks.length,(CK Ks m).length] [] (.c V1 K64) [.b V0 K36,.b V1 V0] rfl Y y,?_⟩,λL' O a=>?_⟩
  .unfold CK
   rw[bc,bc];exact cA.mpr ((L.nd.filter _).imp λ{a b} q (e:((a.2,a.1):Sp)=(b.2,b.1))=>q (cH (cE e).2 (cE e).1))
  .refine X1pp (perm_pcs O.1) λH Z1 p=>?_
   subst Z1;rw[lay_one L U p (cA.mpr ((cA.mp O.2).imp λ{q r} z=>pairLt_iff.mp z))];exact⟨rfl,hK⟩
inductive QD(avs:List AV)(V:LS)(K:KR):Prop
 |mk (P:List Sp)(Ks:List Sp)(m:Sp->Sp)(h:Sp->Int)(n:_)(c0:avs=[.dict (fD (spm m) Ks),.int n])(c1:V=[])(c2:(P.length<=36/\P.Pairwise lt2/\Lyd P Ks m h))(c3:∀H:List (Sp×Sp),Na P m H->K ⟨[.list (H.map pcA)],.new 0⟩ []):QD avs V K
noncomputable def Mc:FS:=specF λavs V K Z=>QD avs V K
noncomputable def hdM(D:List (Al×AV))(n:Int)(f:Addr)(x3 x4 x5:Option AV):M:=[some (.dict D),some (.int n),some (.loc f 4),x3,x4,x5]
noncomputable def hdS(f:Addr)(L:List AV):LS:=[.no,.no,.no,.no,.at f (.list L)]
inductive HdJ(H:List (Sp×Sp))(D:List (Al×AV))(n:Int)(f:Addr)(d r:List (Sp×Sp)):M->LS->Prop
 |mk (x3 x4 x5:Option AV)(L:List AV)(Z:List (Sp×Sp))(hd:d++r=H)(am:Among d Z)(hl:Z.length=d.length)(e:L=Z.map pcA):HdJ H D n f d r (hdM D n f x3 x4 x5) (hdS f L)
noncomputable abbrev tHd:Tab:=⟨true,[],[(73,EK),(90,fTold)],[],[]⟩
theorem ins_pcs:JL (Z.map pcA) i (pcA q)=(insG Z i q).map pcA:=by
 unfold JL insG;rw[aQ,bp,List.map_take,List.map_drop]
theorem insG_len(h:i<=Z.length):(insG Z i q).length=Z.length+1:=by
 unfold insG;rw[an,aL,eJ,iA];exact ax (lin [min i Z.length,i,Z.length - i,Z.length] [] (.b (.A V0 (.A V2 K1)) (.A V3 K1)) [.b V0 V1,.d (.A V2 V1) V3] rfl (Nat.min_le_left i Z.length) (aq (lin [i,Z.length] [] (.b V0 V1) [.b V0 V1] rfl h))) ((Hi i Z.length).elim (λz=>lin [Z.length,i,Z.length - i,min i Z.length] [] (.b (.A V0 K1) (.A V3 (.A V2 K1))) [.b V0 (.A V1 V2),.D (-1) V3 V1] rfl (au.mp (az ((Z.length) - (i)))) z) (λz=>lin [min i Z.length,Z.length,Z.length - i] [] (.b (.A V1 K1) (.A V0 (.A V2 K1))) [.D (-1) V0 V1] rfl z))
theorem hd_turn{KK:KS}(hH:H.length<=18)(j:HdJ H D n f d (q::r) m V)(C:M->LS->Prop)(hC:∀At Ab,HdJ H D n f (d++[q]) r At Ab->C At Ab) :
  patW true (.tup [.v 3,.v 4]) (.tup [.int d.length,pcA q]) m (λAp=>wpSs tHd [.assign (.v 5) (.sub (.list [.v 4,.tup [.sub (.v 4) (.int 1),.sub (.v 4) (.int 0)]]) (.bin .Mod (.bin .FloorDiv (.call (.g 73) [.v 1,.v 3]) (.int 7)) (.int 2))),.expr (.meth (.v 2) 2 [.bin .Mod (.bin .FloorDiv (.call (.g 73) [.v 1,.v 3]) (.int 14)) (.bin .Add (.call (.g 0) [.v 2]) (.int 1)),.v 5])] X Ap V (DX aa V C KK)):=by
 induction j using HdJ.casesOn with
 |mk x3 x4 x5 L Z hd am Y e =>
  have u:(d++[q])++r=H:=by rwa [aG]
  have ld:=Cj hd;have lL:L.length=d.length:=by rw[e,aj,Y]
  have y:L.length<=big:=An (lin [H.length,d.length,L.length] [] (.b V2 AL) [.b V0 K18,.c V1 V0,.d V2 V1] rfl hH ld lL);generalize hN:(n * 48271+7919 * (d.length:Int)+11).fmod 2147483647=N;have two:(N.fdiv 7).fmod 2=0\/(N.fdiv 7).fmod 2=1:=by
   have:=Bn (a:=N.fdiv 7) (b:=2) (by decide);exact cb λB=>(aX (λz=>B (.inl z))).elim (λO=>lin [] [(N.fdiv 7).fmod 2] .no [.f K0 V0,.g V0 K0] rfl this.1 O) (λO=>(aX (λz=>B (.inr z))).elim (λT=>lin [] [(N.fdiv 7).fmod 2] .no [.g K0 V0,.g V0 K1] rfl O T) (λT=>lin [] [(N.fdiv 7).fmod 2] .no [.g V0 K2,.g K1 V0] rfl this.2 T))
  have at_:∀z,z=q\/z=(q.2,q.1)->C (hdM D n f (some (.int d.length)) (some (pcA q)) (some (pcA z))) (hdS f (JL L ((N.fdiv 14).fmod (L.length+1)).toNat (pcA z))):=λz hz=>by
   have b:=Bn (a:=N.fdiv 14) (b:=(L.length:Int)+1) (lin [L.length] [] (.g K0 (.A (.c V0) K1)) [] rfl);refine hC _ _ (.mk _ _ _ _ (insG Z ((N.fdiv 14).fmod (L.length+1)).toNat z) u (am.put _ hz) ?_ (by rw[e,ins_pcs]))
   rw[insG_len (by omega),Y,an];rfl
  have go:∀z,z=q\/z=(q.2,q.1)->wpSs tHd [.expr (.meth (.v 2) 2 [.bin .Mod (.bin .FloorDiv (.call (.g 73) [.v 1,.v 3]) (.int 14)) (.bin .Add (.call (.g 0) [.v 2]) (.int 1)),.v 5])] X (hdM D n f (some (.int d.length)) (some (pcA q)) (some (pcA z))) (hdS f L) (DX aa (hdS f L) C KK):=λz hz=>by
   have b:=Bn (a:=N.fdiv 14) (b:=(L.length:Int)+1) (lin [L.length] [] (.g K0 (.A (.c V0) K1)) [] rfl);have b2:((N.fdiv 14).fmod (L.length+1)).toNat<=L.length:=by omega
   have:=at_ z hz
   rw[<- hN]at b b2 this;exact⟨rfl,rfl,y,λB=>lin [L.length] [] .no [.h (.A (.c V0) K1) K0] rfl B,rfl,⟨b.1,b2⟩,y,this⟩
  rcases two with U|U<;>rw[<- hN]at U
  .refine⟨by rw[U];decide,_,by rw[U];rfl,go q (.inl rfl)⟩
  .refine⟨by rw[U];decide,_,by rw[U];rfl,go (q.2,q.1) (.inr rfl)⟩
theorem LO:M0 tHd GF .new 4 5 Mc:=by
 refine .specF λavs V K X h=>?_;obtain⟨P,Ks,m,h,n,rfl,rfl,⟨O,U,L⟩,T⟩:=h;have u:Na P m (CK P m):=L.mt.lay (A7 U);refine⟨rfl,λf=>⟨P,Ks,m,h,rfl,rfl,⟨O,U,L⟩,?_⟩⟩;generalize CK P m=H at u;show Hw true (.tup [.v 3,.v 4]) _ aa _ (CB (H.map pcA)) (hdM (fD (spm m) Ks) n f aa aa aa) (hdS f []);rw[HA];refine Fy (g:=pcA) (HdJ H (fD (spm m) Ks) n f) (λd m' τ j=>?_) (λd q r m' τ j C B=>hd_turn (u.len O) j C B) (d:=[]) (.mk _ _ _ [] [] rfl ⟨λY z=>(nM z),.refl _⟩ rfl rfl)
 induction j using HdJ.casesOn with
 |mk x3 x4 x5 L' Z y am hl e =>
  rw[aN]at y;subst y;subst e;exact⟨rfl,T Z (u.among L.mt am)⟩
end
section
noncomputable def hN(h:Sp->Int)(a:Sp)(k:Al):AV:=.int (h k - h a)
theorem Flr.aC(F:Flr P C a):a∈C:=(F.co.mem a).mpr ⟨a,F.ha,.head _⟩
theorem c_len{C fs:List Sp}(y:fs.Nodup)(h:∀k∈fs,k∈C):fs.length<=C.length+1:=ew (sub_length y h)
end
section
theorem Mn(d:List (Al×Al))(q:Al×Al):Bl (d++[q])=Bl d++[q.1,q.2]:=by
 unfold Bl;rw[gw];rfl
noncomputable def wayS:Bool->Str
 |false => "right"
 |true => "down"
noncomputable def wayA(b:Bool):AV:=.str (wayS b)
noncomputable def goS:Sp×Bool->Sp
 |(c,false)=>(c.1+1,c.2)
 |(c,true)=>(c.1,c.2+1)
noncomputable def lfS:Sp×Bool->Sp
 |(c,false)=>(c.1,c.2 - 1)
 |(c,true)=>(c.1,c.2)
noncomputable def rtS:Sp×Bool->Sp
 |(c,false)=>(c.1,c.2)
 |(c,true)=>(c.1 - 1,c.2)
theorem lr_near(z:Sp×Bool):rtS z∈A3 (lfS z):=by
 obtain⟨c,b⟩:=z
 cases b
 .exact B3 Il
 .exact Im
theorem way_eq(b:Bool):EqP (wayA b) (.str "right") (!b):=by
 cases b
 .exact .py ⟨_,_,rfl,rfl,by decide +kernel,by decide +kernel,by decide +kernel⟩
 .exact .py ⟨_,_,rfl,rfl,by decide +kernel,by decide +kernel,by decide +kernel⟩
inductive QE(avs:List AV)(V:LS)(K:KR):Prop
 |mk (z:Sp×Bool)(c0:avs=[sp z.1,wayA z.2])(c1:V=[])(c2:K ⟨[],.val (.tup [sp (lfS z),sp (rtS z)])⟩ []):QE avs V K
noncomputable def fHands:FS:=specF λavs V K Z=>QE avs V K
theorem hands_ok:M0 t0 EZ .val 2 0 fHands:=by
 refine .specF λy V K X h=>?_;obtain⟨⟨c,b⟩,rfl,rfl,U⟩:=h
 cases b with|false=>exact⟨rfl,true,way_eq false,U⟩|true=>exact⟨rfl,false,way_eq true,U⟩
noncomputable def sdA(z:Sp×Bool):AV:=.tup [sp z.1,sp (goS z),sp (lfS z),sp (rtS z),.int (sg (lfS z))]
def Kw(P:List Sp)(z:Sp×Bool):Prop:=lfS z∈P\/rtS z∈P
structure JZ(P C:List Sp)(S:List (Sp×Bool)):Prop where
 mem:∀z,z∈S↔z.1∈C/\Kw P z
 few:S.length<=2 * C.length
inductive QP(avs:List AV)(V:LS)(K:KR):Prop
 |mk (t:AV)(P:List Sp)(C:List Sp)(c0:avs=[Au t P])(c1:V=[])(c2:(P.length<=36/\Cor P C))(c3:∀S,JZ P C S->K ⟨[.list (S.map sdA)],.new 0⟩ []):QP avs V K
noncomputable def fSides:FS:=specF λavs V K Z=>QP avs V K
noncomputable def siM(t:AV)(P:List Sp)(f:Addr)(x2 x3 x4 x5 x6 x7:Option AV):M:=[some (Au t P),some (.loc f 4),x2,x3,x4,x5,x6,x7]
noncomputable def siS(f:Addr)(L:List AV):LS:=[.no,.no,.no,.no,.at f (.list L)]
noncomputable abbrev tSi:Tab:=⟨true,[],[(44,fHands),(33,fDark)],[(15,fHas),(18,FA)],[]⟩
inductive SiI(t:AV)(P:List Sp)(f:Addr)(d:List Sp)(c:Sp)(e r:List Bool):M->LS->Prop
 |mk (x3 x4 x5 x6 x7:Option AV)(L:List AV)(S:List (Sp×Bool))(mem:∀z,z∈S↔(z.1∈d\/z.1=c/\z.2∈e)/\Kw P z)(few:S.length<=2 * d.length+e.length)(eL:L=S.map sdA):SiI t P f d c e r (siM t P f (some (sp c)) x3 x4 x5 x6 x7) (siS f L)
inductive SiJ(t:AV)(P:List Sp)(f:Addr)(d r:List Sp):M->LS->Prop
 |mk (x2 x3 x4 x5 x6 x7:Option AV)(L:List AV)(S:List (Sp×Bool))(mem:∀z,z∈S↔z.1∈d/\Kw P z)(few:S.length<=2 * d.length)(eL:L=S.map sdA):SiJ t P f d r (siM t P f x2 x3 x4 x5 x6 x7) (siS f L)
noncomputable def wgA(c:Sp)(b:Bool):AV:=.tup [wayA b,sp (goS (c,b))]
theorem si_turn{KK:KS}(hd:d.length<=64)(he:e.length<=2)(j:SiI t P f d c e (b::r) m V)(C:M->LS->Prop)(Y:∀At Ab,SiI t P f d c (e++[b]) r At Ab->C At Ab) :
  patW true (.tup [.v 3,.v 4]) (wgA c b) m (λAp=>wpSs tSi [.assign (.tup [.v 5,.v 6]) (.call (.g 44) [.v 2,.v 3]),.ite (.or [.meth (.v 0) 15 [.v 5],.meth (.v 0) 15 [.v 6]]) [.assign (.v 7) (.or [.and [.meth (.v 0) 15 [.v 5],.call (.g 33) [.v 5]],.and [.meth (.v 0) 15 [.v 6],.not (.call (.g 33) [.v 6])]]),.expr (.meth (.v 1) 0 [.tup [.v 2,.v 4,.v 5,.v 6,.ite (.v 7) (.int 1) (.neg (.int 1))]])] []] X Ap V (DX aa V C KK)):=by
 cases j with
 |mk x3 x4 x5 x6 u L S mem few T =>
  have y:L.length<=big:=An (by rw[T,aj];exact lin [d.length,e.length,S.length] [] (.b V2 AL) [.B 2 V0 K64,.b V1 K2,.b V2 (.A (.M 2 V0) V1)] rfl hd he few)
  have dl:dark (lfS (c,b))=!dark (rtS (c,b)):=by rw[CV (lr_near (c,b))];exact(Bool.not_not _).symm
  have put:Kw P (c,b)->∀u,C (siM t P f (some (sp c)) (some (wayA b)) (some (sp (goS (c,b)))) (some (sp (lfS (c,b)))) (some (sp (rtS (c,b)))) u) (siS f (L++[sdA (c,b)])):=λq u=>by
   refine Y _ _ (.mk _ _ _ _ _ _ (S++[(c,b)]) (λz=>?_) (by rw[an,an];show _+1<=_+(_+1);exact lin [S.length,d.length,e.length] [] (.b (.A V0 K1) (.A (.M 2 V1) (.A V2 K1))) [.b V0 (.A (.M 2 V1) V2)] rfl few) (by rw[T,aQ];rfl))
   rw[aJ,aJ,mem z,aD,aD]
   constructor
   .rintro (⟨w|w,h⟩|rfl)
    .exact⟨.inl w,h⟩
    .exact⟨.inr ⟨w.1,.inl w.2⟩,h⟩
    .exact⟨.inr ⟨rfl,.inr rfl⟩,q⟩
   .rintro ⟨w|⟨w,O|O⟩,h⟩
    .exact .inl ⟨.inl w,h⟩
    .exact .inl ⟨.inr ⟨w,O⟩,h⟩
    .exact .inr (cH w O)
  have app:Kw P (c,b)->wpSs tSi [.expr (.meth (.v 1) 0 [.tup [.v 2,.v 4,.v 5,.v 6,.ite (.v 7) (.int 1) (.neg (.int 1))]])] X (siM t P f (some (sp c)) (some (wayA b)) (some (sp (goS (c,b)))) (some (sp (lfS (c,b)))) (some (sp (rtS (c,b)))) (some (.bool (dark (lfS (c,b)))))) (siS f L) (DX aa (siS f L) C KK):=λq=>by
   have:=put q (some (.bool (dark (lfS (c,b)))))
   unfold sdA sg at this;generalize dark (lfS (c,b))=dk at this ⊢
   cases dk with|true=>exact⟨rfl,rfl,y,this⟩|false=>exact⟨rfl,rfl,y,this⟩
  have rest:Kw P (c,b)->wpSs tSi [.assign (.v 7) (.or [.and [.meth (.v 0) 15 [.v 5],.call (.g 33) [.v 5]],.and [.meth (.v 0) 15 [.v 6],.not (.call (.g 33) [.v 6])]]),.expr (.meth (.v 1) 0 [.tup [.v 2,.v 4,.v 5,.v 6,.ite (.v 7) (.int 1) (.neg (.int 1))]])] X (siM t P f (some (sp c)) (some (wayA b)) (some (sp (goS (c,b)))) (some (sp (lfS (c,b)))) (some (sp (rtS (c,b)))) u) (siS f L) (DX aa (siS f L) C KK):=λq=>by
   have a:=app q
   by_cases z:lfS (c,b)∈P
   .cases e:dark (lfS (c,b))with
    |true =>
     rw[e]at a;exact⟨⟨rfl,rfl⟩,⟨rfl,rfl⟩,t,P,lfS (c,b),true,rfl,rfl,decide_eq_true z,ifT e a⟩
    |false =>
     have U:=a;rw[dl]at U;rw[e]at a;exact⟨⟨rfl,rfl⟩,⟨rfl,rfl⟩,t,P,lfS (c,b),true,rfl,rfl,decide_eq_true z,ifF e ⟨⟨rfl,rfl⟩,⟨rfl,rfl⟩,t,P,rtS (c,b),decide (rtS (c,b)∈P),rfl,rfl,rfl,ifB (λZ=>U) λZ=>a⟩⟩
   .rw[dl]at a
    exact⟨⟨rfl,rfl⟩,⟨rfl,rfl⟩,t,P,lfS (c,b),false,rfl,rfl,decide_eq_false z,⟨rfl,rfl⟩,⟨rfl,rfl⟩,t,P,rtS (c,b),true,rfl,rfl,decide_eq_true (q.resolve_left z),a⟩
  refine⟨(c,b),rfl,rfl,⟨rfl,rfl⟩,⟨rfl,rfl⟩,t,P,lfS (c,b),decide (lfS (c,b)∈P),rfl,rfl,rfl,ifB (λe=>rest (.inl (of_decide_eq_true e))) λe1=>⟨⟨rfl,rfl⟩,⟨rfl,rfl⟩,t,P,rtS (c,b),decide (rtS (c,b)∈P),rfl,rfl,rfl,ifB (λe=>rest (.inr (of_decide_eq_true e))) λe2=>Y _ _ (.mk _ _ _ _ _ _ S (λz=>?_) (by rw[an];exact lin [S.length,d.length,e.length,[b].length] [] (.b V0 (.A (.M 2 V1) (.A V2 V3))) [.b V0 (.A (.M 2 V1) V2)] rfl few) T)⟩⟩
  rw[mem z,aJ,aD]
  constructor
  .exact λh=>⟨h.1.imp id λw=>⟨w.1,.inl w.2⟩,h.2⟩
  .rintro ⟨w|⟨w,O|O⟩,h⟩
   .exact⟨.inl w,h⟩
   .exact⟨.inr ⟨w,O⟩,h⟩
   .rw[show z=(c,b) from cH w O]at h
    exact(h.elim (of_decide_eq_false e1) (of_decide_eq_false e2)).elim
theorem sides_ok:M0 tSi ES .new 7 5 fSides:=by
 refine .specF λavs V K X h=>?_;obtain⟨t,P,C,rfl,rfl,⟨hP,O⟩,hK⟩:=h;have u:=O.few;refine⟨rfl,λf=>⟨⟨rfl,rfl⟩,⟨rfl,rfl⟩,t,P,C,rfl,rfl,lin [P.length] [] (.b V0 FR) [.b V0 K36] rfl hP,O,AY (r:=C) (g:=sp) rfl (λd r m V=>d++r=C/\SiJ t P f d r m V) (λd m τ j=>?_) (λd c r m τ j CC U=>?_) (d:=[]) ⟨rfl,.mk _ _ _ _ _ _ [] [] (λz=>⟨λq=>(nM q),λq=>(nM q.1)⟩) (cL _) rfl⟩⟩⟩
 .obtain⟨B,j⟩:=j
  rw[aN]at B;clear O u;subst B
  induction j using SiJ.casesOn with|mk x2 x3 x4 x5 x6 x7 L S mem few T=>subst T;exact⟨rfl,hK S ⟨mem,few⟩⟩
 .obtain⟨B,j⟩:=j
  have ld:=Cj B
  induction j using SiJ.casesOn with
  |mk x2 x3 x4 x5 x6 x7 L S mem few T =>
   refine AY (r:=[false,true]) (g:=wgA c) rfl (λe r m V=>e++r=[false,true]/\SiI t P f d c e r m V) (λe m τ j=>?_) (λe b r m τ j C2 Y=>?_) (d:=[]) ⟨rfl,.mk _ _ _ _ _ L S (λz=>(mem z).trans (and_congr_left λZ=>⟨.inl,λq=>q.elim id λq=>by exact nM q.2⟩)) few T⟩
   .refine Aq j λy j=>?_
    rw[aN]at y;subst y
    induction j using SiI.casesOn with
    |mk x3 x4 x5 x6 x7 L S mem few T =>
     refine U _ _ ⟨by rwa [aG],.mk _ _ _ _ _ _ L S (λz=>(mem z).trans (and_congr_left λZ=>?_)) (by rw[an];exact few) T⟩
     rw[aJ,aD];exact or_congr Iff.rfl ⟨(·.1),λq=>⟨q,by cases z.2;exact .head _;exact .tail _ (.head _)⟩⟩
   .refine Aq j λy j=>?_
    have le:=Cj y;exact si_turn (lin [C.length,d.length] [] (.b V1 K64) [.c V0 K64,.c V1 V0] rfl u ld) (c9 le) j C2 λAt Ab h=>Y _ _ ⟨by rwa [aG],h⟩
end
section
theorem Eg.side(e:Eg P k c):(∃b,c=goS (k,b)/\Kw P (k,b))\/∃b,k=goS (c,b)/\Kw P (c,b):=by
 refine X3pp e λw l r z q=>?_;obtain⟨x,y⟩:=k
 induction z using Hd.casesOn with|r=>exact .inl ⟨false,rfl,q⟩|d=>exact .inl ⟨true,rfl,q⟩|l=>exact .inr ⟨false,cH (bl ..).symm rfl,q.symm⟩|u=>exact .inr ⟨true,cH rfl (bl ..).symm,q.symm⟩
theorem Kt(q:Kw P z):Eg P z.1 (goS z)/\Eg P (goS z) z.1:=by
 obtain⟨⟨x,y⟩,b⟩:=z
 cases b with
 |false =>
  have:=Hd.l (x:=x+1) (y:=y)
  rw[bM]at this;exact⟨⟨_,_,_,.r,q⟩,_,_,_,this,q.symm⟩
 |true =>
  have:=Hd.u (x:=x) (y:=y+1)
  rw[bM]at this;exact⟨⟨_,_,_,.d,q⟩,_,_,_,this,q.symm⟩
theorem Kr(H:HT P m h)(q:Kw P z):h (goS z) - h z.1=stp P m (lfS z) (rtS z):=by
 obtain⟨⟨x,y⟩,b⟩:=z
 cases b with|false=>exact H.r x y q|true=>exact H.d x y q
theorem Mp(z:Cor P C)(h:k∈C):∃g,Eg P k g:=by
 refine X1pp ((z.mem k).mp h) λc Y B=>?_;obtain⟨x,y⟩:=c;unfold Bv at B;simp only[aA,bB,or_false]at B
 rcases B with rfl|rfl|rfl|rfl
 .exact⟨_,_,_,_,.r,.inr Y⟩
 .exact⟨_,_,_,_,.d,.inr (by dsimp only;rwa [bM])⟩
 .exact⟨_,_,_,_,.r,.inl (by dsimp only;rwa [bM])⟩
 .exact⟨_,_,_,_,.l,.inr (by dsimp only;rwa [bM,bM])⟩
abbrev GR:=Sp×Addr×List Sp
noncomputable def enA(h:Sp->Int)(k g:Sp):AV:=.tup [sp g,.int (h g - h k)]
noncomputable def enD:Nat->List GR->List (Al×AV)
 |_,[]=>[]
 |i,e::r=>(e.1,.loc e.2.1 (i+8))::enD (i+1) r
noncomputable def enS(h:Sp->Int)(e:GR):Slot:=.at e.2.1 (.list (e.2.2.map (enA h e.1)))
noncomputable def hbT(h:Sp->Int)(es:List GR):LS:=es.map (enS h)++aH (64 - es.length) .no
noncomputable def hbS(a1:Addr)(s5 s6 s7:Slot)(D:List (Al×AV))(T:LS):LS:=.no::.no::.no::.no::.at a1 (.dict D)::s5::s6::s7::T
def Has(es:List GR)(k g:Sp):Prop:=∃e∈es,e.1=k/\g∈e.2.2
theorem Mi:∀(es:List GR)(i:Nat),(enD i es).length=es.length
 |[],_=>rfl
 |_::r,i=>congrArg (·+1) (Mi r (i+1))
theorem FF:∀(u e2:List GR)(i:Nat),enD i (u++e2)=enD i u++enD (i+u.length) e2
 |[],_,_=>rfl
 |e::r,e2,i=>by
  show _::enD (i+1) (r++e2)=_::(enD (i+1) r++enD (i+(r.length+1)) e2);rw[FF r e2 (i+1),Nat.add_assoc,iM 1]
theorem D9(p:Al×AV)(l:List (Al×AV))(k:Al):By (p::l) k=if p.1=k then some p.2 else By l k:=by
 unfold By
 by_cases e:p.1=k
 .rw[if_pos e,List.find?_cons_of_pos (p:=λz:Al×AV=>decide (z.1=k)) (decide_eq_true e)];rfl
 .rw[if_neg e,List.find?_cons_of_neg (p:=λz:Al×AV=>decide (z.1=k)) λz=>e (of_decide_eq_true z)]
theorem IR:∀{es:List GR}{i:Nat},(∀e∈es,e.1≠k)->By (enD i es) k=aa
 |[],_,_=>rfl
 |e::r,i,h=>(D9 _ _ _).trans ((if_neg (h e (.head _))).trans (IR λe y=>h e (.tail _ y)))
theorem FE:∀{u:List GR}{i:Nat},(∀e∈u,e.1≠k)->By (enD i (u++(k,b,gs)::e2)) k=some (.loc b (i+u.length+8))
 |[],i,_=>(D9 _ _ _).trans (if_pos rfl)
 |e::r,i,h=>by
  refine(D9 _ _ _).trans ((if_neg (h e (.head _))).trans ?_);rw[List.append_eq,FE λe y=>h e (.tail _ y),aL,Nat.add_assoc i,iM 1]
structure Pt(es:List GR)(k g:Sp)(es':List GR):Prop where
 nd:(es.map (·.1)).Nodup->(es'.map (·.1)).Nodup
 keys:∀e'∈es',e'.1=k\/∃e∈es,e.1=e'.1
 mem:∀e'∈es',∀g'∈e'.2.2,(e'.1=k/\g'=g)\/Has es e'.1 g'
 has:Has es' k g
 old:∀k g,Has es k g->Has es' k g
 len:∀n,(∀e∈es,e.2.2.length<=n)->∀e'∈es',e'.2.2.length<=n+1
theorem Pt.in:Pt (e1++(k,b,gs)::e2) k g (e1++(k,b,gs++[g])::e2):=by
 have Y:∀y∈e1++(k,b,gs++[g])::e2,y=(k,b,gs++[g])\/y∈e1++(k,b,gs)::e2:=λy h=>by
  rcases aJ.mp h with h|h
  .exact .inr (aU _ h)
  .exact(aA.mp h).imp id λh=>aM _ (.tail _ h)
 have me:(k,b,gs)∈e1++(k,b,gs)::e2:=aM _ (.head _);have T:(k,b,gs++[g])∈e1++(k,b,gs++[g])::e2:=aM _ (.head _);refine⟨λh=>?_,λy h=>?_,λy h B d=>?_,⟨_,T,rfl,aM _ (.head _)⟩,λk' B ⟨e,he,e1',e2'⟩=>?_,λn O y h=>?_⟩
 .rw[aQ,bp]at h ⊢;exact h
 .rcases Y y h with rfl|h
  .exact .inl rfl
  .exact .inr ⟨y,h,rfl⟩
 .rcases Y y h with rfl|h
  .rcases aJ.mp d with d|d
   .exact .inr ⟨_,me,rfl,d⟩
   .exact .inl ⟨rfl,aD.mp d⟩
  .exact .inr ⟨y,h,rfl,d⟩
 .rcases aJ.mp he with h|h
  .exact⟨e,aU _ h,e1',e2'⟩
  .rcases aA.mp h with rfl|h
   .exact⟨_,T,e1',aU _ e2'⟩
   .exact⟨e,aM _ (.tail _ h),e1',e2'⟩
 .rcases Y y h with rfl|h
  .have:=O _ me
   show (gs++[g]).length<=_;rw[an];exact iv this
  .exact ew (O y h)
theorem Pt.new(B:∀e∈es,e.1≠k):Pt es k g (es++[(k,b,[g])]):=by
 have Y:∀y∈es++[(k,b,[g])],y=(k,b,[g])\/y∈es:=λy h=>(aJ.mp h).elim .inr λh=>.inl (aD.mp h);have me:(k,b,[g])∈es++[(k,b,[g])]:=aM _ (.head _);refine⟨λh=>?_,λy h=>?_,λy h T d=>?_,⟨_,me,rfl,.head _⟩,λk' T ⟨e,u,h⟩=>⟨e,aU _ u,h⟩,λn O y h=>?_⟩
 .rw[aQ]
  exact EA h λz=>X1pp (aY.mp z) λe u q=>B e u q
 .rcases Y y h with rfl|h
  .exact .inl rfl
  .exact .inr ⟨y,h,rfl⟩
 .rcases Y y h with rfl|h
  .exact .inl ⟨rfl,aD.mp d⟩
  .exact .inr ⟨y,h,rfl,d⟩
 .rcases Y y h with rfl|h
  .exact iv (cL n)
  .exact ew (O y h)
theorem slotL.at{K:Addr->Nat->List AV->Prop}(e:slot V i=.at a (.list l))(h:K a i l):slotL V (.loc a i) K:=by
 unfold slotL;simp only[e];exact⟨trivial,h⟩
theorem LL:slot (hbT h (e1++e::e2)) e1.length=enS h e:=by
 unfold slot hbT;rw[aE,aQ,bp,aG,bj (by rw[aj];exact az _),aj,fF]
 rfl
theorem hbT_set:(hbT h (e1++e::e2)).set e1.length (enS h e')=hbT h (e1++e'::e2):=by
 unfold hbT;rw[aQ,bp,aG,List.set_append_right _ _ (by rw[aj];exact az _),aj,fF,aQ,bp,aG,an,an]
 rfl
theorem LK(Y:es.length<64):(hbT h es).set es.length (enS h e)=hbT h (es++[e]):=by
 unfold hbT;rw[List.set_append_right _ _ (by rw[aj];exact az _),aj,fF,aQ,aG,an,show 64 - es.length=(64 - (es.length+1))+1 by exact ax (lin [es.length,64 - (es.length+1),64 - es.length] [] (.b V2 (.A V1 K1)) [.b K64 (.A (.A V0 K1) V1),.d (.A V2 V0) K64] rfl (au.mp (az ((64) - (es.length+1)))) (aq (lin [es.length] [] (.b V0 K64) [.c V0 K64] rfl Y))) (lin [es.length,64 - es.length,64 - (es.length+1)] [] (.b (.A V2 K1) V1) [.b K64 (.A V0 V1),.d (.A V2 (.A V0 K1)) K64] rfl (au.mp (az ((64) - (es.length)))) (aq (lin [es.length] [] (.b (.A V0 K1) K64) [.c V0 K64] rfl Y))),gv]
 rfl
theorem MJ{K:KV}(e:slot V i=.at a (.list l))(Y:l.length<=big)(h:K .none (V.set i (.at a (.list (l++[x]))))):methW 0 (.loc a i) [x] V K:=slotL.at (K:=λad i l=>l.length<=big/\K .none (V.set i (.at ad (.list (l++[x]))))) e ⟨Y,h⟩
theorem H6{K:List AV->LS->Prop}(h:K [] V):GW (wpL Φ [] X) m V K:=h
theorem Fm(y:((e1++e0::e2).map (·.1)).Nodup)(e:GR)(B:e∈e1)(z:e.1=e0.1):False:=by
 rw[aQ,bp]at y;exact(bn.mp y).2.2 _ (cK B) _ (.head _) z
set_option tactic.hygienic true in
theorem put_ok{K:KS}{n:Nat}(hn:n<=900)
  (T:∀(V:LS)(K:KV),K (sp k) V->(wp Φ ek X).v aa (x0::x1::some (.loc a1 4)::mr) V K) (B:∀(V:LS)(K:KV),K (enA h k g) V->(wp Φ ex X).v aa (x0::x1::some (.loc a1 4)::mr) V K)
  (nd:(es.map (·.1)).Nodup) (Y:(∀e∈es,e.1≠k)->es.length<64) (h9:es.length<=900) (hg:∀e∈es,e.2.2.length<=n)
  (hK:∀es',Pt es k g es'->K .next (x0::x1::some (.loc a1 4)::mr) (hbS a1 s5 s6 s7 (enD 0 es') (hbT h es'))) :
  wpS Φ (.expr (.meth (.meth (.v 2) 7 [ek,.list []]) 0 [ex])) X (x0::x1::some (.loc a1 4)::mr) (hbS a1 s5 s6 s7 (enD 0 es) (hbT h es)) K:=by
 have U:(enD 0 es).length<=big:=An (by rw[Mi];exact lin [es.length] [] (.b V0 AL) [.b V0 GU] rfl h9)
 by_cases q:∃e∈es,e.1=k
 .obtain⟨⟨k',b,gs⟩,y,rfl⟩:=q
  refine X2p (List.append_of_mem y) λu e2 Z0=>?_;clear h9 Y;subst Z0;have O:=FE (i:=0) (e2:=e2) (b:=b) (gs:=gs) λe y z=>Fm nd e y z;rw[fB]at O;have hs:slot (hbS a1 s5 s6 s7 (enD 0 (u++(k',b,gs)::e2)) (hbT h (u++(k',b,gs)::e2))) (u.length+8)=.at b (.list (gs.map (enA h k'))):=LL;refine⟨rfl,T _ _ ⟨aa,rfl,U,?_⟩⟩;generalize hq:By (enD 0 (u++(k',b,gs)::e2)) _=o;obtain rfl:=hq.symm.trans O;show slotL (hbS a1 s5 s6 s7 (enD 0 (u++(k',b,gs)::e2)) (hbT h (u++(k',b,gs)::e2))) (.loc b (u.length+8)) (λZ Z Z=>GW (wpL Φ [ex] X) (x0::x1::some (.loc a1 4)::mr) (hbS a1 s5 s6 s7 (enD 0 (u++(k',b,gs)::e2)) (hbT h (u++(k',b,gs)::e2))) _);refine slotL.at hs (B _ _ (H6 (MJ hs (An (by rw[aj];exact aw (hg _ y) (lin [n] [] (.b V0 AL) [.b V0 GU] rfl hn))) ?_)))
  have:=hK _ (Pt.in (g:=g))
  rw[<- hbT_set (e:=(k',b,gs)),show enD 0 (u++(k',b,gs++[g])::e2)=enD 0 (u++(k',b,gs)::e2) by rw[FF,FF];rfl]at this
  unfold enS at this;rw[aQ]at this;exact this
 .have d:∀e∈es,e.1≠k:=λe y z=>q ⟨e,y,z⟩
  have Y:=Y d;have O:=IR (i:=0) d;refine⟨rfl,T _ _ ⟨some (es.length+8),λb=>⟨rfl,U,?_⟩⟩⟩;have hs:slot (hbS a1 s5 s6 s7 (Bx (enD 0 es) k (.loc b (es.length+8))) ((hbT h es).set es.length (.at b (.list [])))) (es.length+8)=.at b (.list []):=by
   show slot ((hbT h es).set es.length (enS h (k,b,[]))) es.length=_;rw[LK Y];exact LL (e2:=[])
  generalize hq:By (enD 0 es) _=o;obtain rfl:=hq.symm.trans O;show slotL (hbS a1 s5 s6 s7 (Bx (enD 0 es) k (.loc b (es.length+8))) ((hbT h es).set es.length (.at b (.list [])))) (.loc b (es.length+8)) (λZ Z Z=>GW (wpL Φ [ex] X) (x0::x1::some (.loc a1 4)::mr) (hbS a1 s5 s6 s7 (Bx (enD 0 es) k (.loc b (es.length+8))) ((hbT h es).set es.length (.at b (.list [])))) _);refine slotL.at hs (B _ _ (H6 (MJ hs (An (cL _)) ?_)))
  have:=hK _ (Pt.new (g:=g) (b:=b) d)
  rw[<- LK Y,show enD 0 (es++[(k,b,[g])])=Bx (enD 0 es) k (.loc b (es.length+8)) by
   rw[FF,fB];unfold Bx;rw[O];rfl]at this
  show K .next _ (hbS a1 s5 s6 s7 (Bx (enD 0 es) k (.loc b (es.length+8))) (((hbT h es).set es.length (.at b (.list []))).set es.length (enS h (k,b,[g]))));rw[List.set_set];exact this
structure Ents(P C:List Sp)(es:List GR)(d:List (Sp×Bool)):Prop where
 nd:(es.map (·.1)).Nodup
 inC:∀e∈es,e.1∈C
 eg:∀e∈es,∀g∈e.2.2,Eg P e.1 g
 has:∀z∈d,Has es z.1 (goS z)/\Has es (goS z) z.1
 len:∀e∈es,e.2.2.length<=2 * d.length
theorem Ents.put(E:Ents P C es d)(hC:Cor P C)(q:Kw P z)(p1:Pt es z.1 (goS z) e1)(p2:Pt e1 (goS z) z.1 e2):Ents P C e2 (d++[z]):=by
 refine Aq (Kt q) λg1 g2=>?_;have key:∀e∈e2,e.1∈C:=λe O=>by
  rcases p2.keys e O with w|⟨f,B,w⟩
  .rw[w];exact g1.in hC
  .rcases p1.keys f B with v|⟨T,Y,v⟩
   .rw[<- w,v];exact g2.in hC
   .rw[<- w,<- v];exact E.inC T Y
 refine⟨p2.nd (p1.nd E.nd),key,λe O g U=>?_,λy u=>?_,λe O=>?_⟩
 .rcases p2.mem e O g U with⟨w,rfl⟩|⟨f,B,w,U⟩
  .rwa [w]
  .rcases p1.mem f B g U with⟨v,rfl⟩|⟨T,Y,v,U⟩
   .rwa [<- w,v]
   .rw[<- w,<- v];exact E.eg T Y g U
 .rcases aJ.mp u with u|u
  .exact⟨p2.old _ _ (p1.old _ _ (E.has y u).1),p2.old _ _ (p1.old _ _ (E.has y u).2)⟩
  .rw[aD.mp u];exact⟨p2.old _ _ p1.has,p2.has⟩
 .have:=p2.len _ (p1.len _ E.len) e O
  rwa [an]
theorem Ents.few(E:Ents P C es d):es.length<=C.length:=by
 have:=sub_length (k:=C) E.nd λx u=>by
  refine X1pp (aY.mp u) λe y z=>?_;clear u;subst z;exact E.inC e y
 rwa [aj]at this
theorem It{C:List Sp}{es:List GR}{k:Sp}(d:(es.map (·.1)).Nodup)(B:∀e∈es,e.1∈C)(Y:k∈C)(h:∀e∈es,e.1≠k):es.length<C.length:=by
 have:=sub_length (l:=k::es.map (·.1)) (k:=C) (bF.mpr ⟨λz=>by refine X1pp (aY.mp z) λe y q=>?_;exact h e y q,d⟩) λx u=>by
  rcases aA.mp u with rfl|u
  .exact Y
  .refine X1pp (aY.mp u) λe y O=>?_
   clear u;subst O;exact B e y
 rwa [aL,aj]at this
theorem Ents.all{S:List (Sp×Bool)}(E:Ents P C es S)(U:JZ P C S)(z:Cor P C){k g:Sp}(B:k∈C)(e:Eg P k g):Has es k g:=by
 rcases e.side with⟨b,rfl,q⟩|⟨b,rfl,q⟩
 .exact(E.has (k,b) ((U.mem _).mpr ⟨B,q⟩)).1
 .exact(E.has (g,b) ((U.mem _).mpr ⟨e.in z,q⟩)).2
end
section
inductive QA(avs:List AV)(V:LS)(K:KR):Prop
 |mk (t:AV)(P:List Sp)(C:List Sp)(a:_)(c0:avs=[Au t P])(c1:V=[])(c2:Flr P C a)(c3:K ⟨[],.val (sp a)⟩ []):QA avs V K
noncomputable def fFirst:FS:=specF λavs V K Z=>QA avs V K
theorem LZ:M0 ⟨true,[],[],[(16,IN)],[]⟩ Cv .val 0 0 fFirst:=by
 refine .specF λy V K X h=>?_;obtain⟨t,P,C,a,rfl,rfl,F,U⟩:=h
 have:=F.few
 exact⟨rfl,⟨rfl,rfl⟩,⟨rfl,rfl⟩,t,P,rfl,lin [P.length] [] (.b V0 AL) [.b V0 K36] rfl this,rfl,sp a,by refine X1p F.ne λd e=>?_;rw[e];rfl,U⟩
inductive QH(avs:List AV)(V:LS)(K:KR):Prop
 |mk (t:AV)(P:List Sp)(C:List Sp)(a:_)(Q:List Sp)(m:Sp->Sp)(h:Sp->Int)(c0:avs=[Au t P,.dict (fD (spm m) Q)])(c1:V=[])(c2:(Flr P C a/\HT P m h/\∀k∈P,k∈Q))(c3:K ⟨[.dict (fD (hN h a) C)],.new 0⟩ []):QH avs V K
noncomputable def fHby:FS:=specF λavs V K Z=>QH avs V K
noncomputable abbrev tHb:Tab:=⟨true,[],[(45,fSides),(46,fFirst)],[(15,fHas),(18,FA)],[]⟩
noncomputable def hbM(t:AV)(P:List Sp)(D0:List (Al×AV))(a1:Addr)(x3 x4 x5 x6 x7 x8 x9 x10 x11:Option AV):M:=some (Au t P)::some (.dict D0)::some (.loc a1 4)::[x3,x4,x5,x6,x7,x8,x9,x10,x11]
inductive HbJ(t:AV)(P C:List Sp)(h:Sp->Int)(D0:List (Al×AV))(a1:Addr)(S d r:List (Sp×Bool)):M->LS->Prop
 |mk (x3 x4 x5 x6 x7 x8:Option AV)(es:List GR)(hd:d++r=S)(E:Ents P C es d):HbJ t P C h D0 a1 S d r (hbM t P D0 a1 x3 x4 x5 x6 x7 x8 aa aa aa) (hbS a1 .no .no .no (enD 0 es) (hbT h es))
theorem hb_puts{S d r:List (Sp×Bool)}{z:Sp×Bool}{X:XL}{K:KS}{es:List GR}(F:Flr P C a)(H:HT P m0 h)(hS:JZ P C S)(hd:d++z::r=S)(E:Ents P C es d)
  (hK:∀es',Ents P C es' (d++[z])->K .next (hbM t P (fD (spm m0) Q) a1 (some (sp z.1)) (some (sp (goS z))) (some (sp (lfS z))) (some (sp (rtS z))) (some (.int (sg (lfS z)))) (some (.int (stp P m0 (lfS z) (rtS z)))) aa aa aa) (hbS a1 .no .no .no (enD 0 es') (hbT h es'))) :
  wpSs tHb [.expr (.meth (.meth (.v 2) 7 [.v 3,.list []]) 0 [.tup [.v 4,.v 8]]),.expr (.meth (.meth (.v 2) 7 [.v 4,.list []]) 0 [.tup [.v 3,.bin .Sub (.int 0) (.v 8)]])] X (hbM t P (fD (spm m0) Q) a1 (some (sp z.1)) (some (sp (goS z))) (some (sp (lfS z))) (some (sp (rtS z))) (some (.int (sg (lfS z)))) (some (.int (stp P m0 (lfS z) (rtS z)))) aa aa aa) (hbS a1 .no .no .no (enD 0 es) (hbT h es)) K:=by
 have hz:=(hS.mem z).mp (by rw[<- hd];exact aM _ (.head _))
 have st:=Kr H hz.2;have co:=F.co.few;have O:=Cj hd;have U:=hS.few;have e1:enA h z.1 (goS z)=.tup [sp (goS z),.int (stp P m0 (lfS z) (rtS z))]:=by unfold enA;rw[st]
 have e2:enA h (goS z) z.1=.tup [sp z.1,.int (0 - stp P m0 (lfS z) (rtS z))]:=by
  unfold enA;rw[<- st,show h z.1 - h (goS z)=0 - (h (goS z) - h z.1) by exact ah (lin [] [h z.fst,h (goS z)] (.f (.S V0 V1) (.S K0 (.S V1 V0))) [] rfl) (lin [] [h (goS z),h z.fst] (.f (.S K0 (.S V0 V1)) (.S V1 V0)) [] rfl)]
 have f1:=E.few;refine put_ok (k:=z.1) (g:=goS z) (n:=2 * d.length) (lin [C.length,d.length,S.length] [] (.b (.M 2 V1) GU) [.C 4 V0 K64,.C 2 V1 V2,.B 2 V2 (.M 2 V0)] rfl co O U) (λV K q=>q) (λV K q=>by rw[e1]at q;exact q) E.nd (λq=>Nat.lt_trans (It E.nd E.inC hz.1 q) co) (lin [C.length,es.length] [] (.b V1 GU) [.c V0 K64,.b V1 V0] rfl co f1) E.len λu p1=>?_
 have gC:=(Kt hz.2).1.in F.co;have y:∀e∈u,e.1∈C:=λe T=>by
  rcases p1.keys e T with w|⟨f,hf,w⟩
  .rw[w];exact hz.1
  .rw[<- w];exact E.inC f hf
 have f2:u.length<=C.length:=by
  have:=sub_length (k:=C) (p1.nd E.nd) λx hx=>by
   refine X1pp (aY.mp hx) λe T Z0=>?_;clear hx;subst Z0;exact y e T
  rwa [aj]at this
 exact put_ok (k:=goS z) (g:=z.1) (n:=2 * d.length+1) (lin [C.length,d.length,S.length] [] (.b (.A (.M 2 V1) K1) GU) [.C 4 V0 K64,.C 2 V1 V2,.B 2 V2 (.M 2 V0)] rfl co O U) (λV K q=>q) (λV K q=>by rw[e2]at q;exact q) (p1.nd E.nd) (λq=>Nat.lt_trans (It (p1.nd E.nd) y gC q) co) (lin [C.length,u.length] [] (.b V1 GU) [.c V0 K64,.b V1 V0] rfl co f2) (p1.len _ E.len) λY p2=>hK Y (E.put F.co hz.2 p1 p2)
theorem hb_turn{S d r:List (Sp×Bool)}{z:Sp×Bool}{m:M}{V:LS}{X:XL}{KK:KS}(F:Flr P C a)(H:HT P m0 h)(y:∀k∈P,k∈Q)(T:JZ P C S)(j:HbJ t P C h (fD (spm m0) Q) a1 S d (z::r) m V)(U:M->LS->Prop)(O:∀At Ab,HbJ t P C h (fD (spm m0) Q) a1 S (d++[z]) r At Ab->U At Ab) :
  patW true (.tup [.v 3,.v 4,.v 5,.v 6,.v 7]) (sdA z) m (λAp=>wpSs tHb [.assign (.v 8) (.v 7),.ite (.and [.meth (.v 0) 15 [.v 5],.cmp .Eq (.sub (.v 1) (.v 5)) (.v 6)]) [.assign (.v 8) (.bin .Mult (.neg (.int 3)) (.v 7))] [],.expr (.meth (.meth (.v 2) 7 [.v 3,.list []]) 0 [.tup [.v 4,.v 8]]),.expr (.meth (.meth (.v 2) 7 [.v 4,.list []]) 0 [.tup [.v 3,.bin .Sub (.int 0) (.v 8)]])] X Ap V (DX aa V U KK)):=by
 induction j using HbJ.casesOn with
 |mk x3 x4 x5 x6 x7 x8 es u E =>
  have Y:=hb_puts (t:=t) (Q:=Q) (a1:=a1) (X:=X) (K:=DX aa (hbS a1 .no .no .no (enD 0 es) (hbT h es)) U KK) F H T u E λB E'=>O _ _ (.mk _ _ _ _ _ _ B (by rwa [aG]) E')
  unfold stp at Y
  by_cases q:lfS z∈P
  .by_cases e:m0 (lfS z)=rtS z
   .rw[if_pos ⟨q,e⟩]at Y
    exact⟨⟨rfl,rfl⟩,⟨rfl,rfl⟩,t,P,lfS z,true,rfl,rfl,decide_eq_true q,_,FP (y _ q),true,EqP.sp e,iD (by decide +kernel),Y⟩
   .rw[if_neg λw=>e w.2]at Y
    exact⟨⟨rfl,rfl⟩,⟨rfl,rfl⟩,t,P,lfS z,true,rfl,rfl,decide_eq_true q,_,FP (y _ q),false,EqP.nsp e,Y⟩
  .rw[if_neg λw=>q w.1]at Y
   exact⟨⟨rfl,rfl⟩,⟨rfl,rfl⟩,t,P,lfS z,false,rfl,rfl,decide_eq_false q,Y⟩
noncomputable abbrev hbS2(a1 a2 a3:Addr)(F:List (Al×AV))(W:List AV)(D:List (Al×AV))(T:LS):LS:=hbS a1 (.at a2 (.dict F)) (.at a3 (.list W)) .no D T
noncomputable def hbM2(t:AV)(P:List Sp)(D0:List (Al×AV))(a1 a2 a3:Addr)(x3 x4 x5 x6 x7 x8 x11:Option AV):M:=hbM t P D0 a1 x3 x4 x5 x6 x7 x8 (some (.loc a2 5)) (some (.loc a3 6)) x11
inductive HcJ(t:AV)(P C:List Sp)(a:Sp)(h:Sp->Int)(D0 D:List (Al×AV))(T:LS)(a1 a2 a3:Addr):Nat->M->LS->Prop
 |mk (fs ws:List Sp)(x3 x4 x5 x6 x7 x8 x11:Option AV)(F:List (Al×AV))(W:List AV)(hd:Dfs (Eg P) (·∈C) a fs ws)(hM:Gx C.length fs ws<=2 * (C.length+1)+1)(eF:F=fD (hN h a) fs)(eW:W=ws.map sp):HcJ t P C a h D0 D T a1 a2 a3 (Gx C.length fs ws) (hbM2 t P D0 a1 a2 a3 x3 x4 x5 x6 x7 x8 x11) (hbS2 a1 a2 a3 F W D T)
inductive HcI(t:AV)(P C:List Sp)(a:Sp)(h:Sp->Int)(D0 D:List (Al×AV))(T:LS)(a1 a2 a3:Addr)(e:Sp)(n:Nat)(d r:List Sp):M->LS->Prop
 |mk (fs ws:List Sp)(x3 x4 x5 x6 x7 x8:Option AV)(F:List (Al×AV))(W:List AV)(hd:DfsAt (Eg P) (·∈C) a fs ws e r)(hM:Gx C.length fs ws<n)(hr:∀g∈r,Eg P e g)(eF:F=fD (hN h a) fs)(eW:W=ws.map sp):HcI t P C a h D0 D T a1 a2 a3 e n d r (hbM2 t P D0 a1 a2 a3 x3 x4 x5 x6 x7 x8 (some (sp e))) (hbS2 a1 a2 a3 F W D T)
theorem hc_turn{KK:KS}(F:Flr P C a)(hn:n<=2 * (C.length+1)+1)(j:HcI t P C a h D0 D T a1 a2 a3 e n d (c::r) m V)(CC:M->LS->Prop)(hC:∀At Ab,HcI t P C a h D0 D T a1 a2 a3 e n (d++[c]) r At Ab->CC At Ab) :
  patW true (.tup [.v 4,.v 8]) (enA h e c) m (λAp=>wpSs tHb [.ite (.cmp .NotIn (.v 4) (.v 9)) [.setitem (.v 9) (.v 4) (.bin .Add (.sub (.v 9) (.v 11)) (.v 8)),.expr (.meth (.v 10) 0 [.v 4])] []] X Ap V (DX (some (i+8)) V CC KK)):=by
 induction j using HcI.casesOn with
 |mk fs ws x3 x4 x5 x6 x7 x8 G W y Y hr U B =>
  have u:∀g∈r,Eg P e g:=λc z=>hr c (.tail _ z);have co:=F.co.few;have lf:=c_len y.nd y.rc;have lw:=Dfs.len (aw (c9 Y) hn)
  by_cases q:c∈fs
  .exact⟨true,⟨rfl,by rw[U];exact in_fD q⟩,rfl,hC _ _ (.mk fs ws _ _ _ _ _ _ G W (y.skip λZ=>q) Y u U B)⟩
  .have O:=y.push ((hr c (.head _)).in F.co) q
   refine⟨false,⟨rfl,by rw[U];exact out_fD q⟩,rfl,.int (h e - h a),by rw[U];exact FP y.he,rfl,An (by rw[U,BJ];exact lin [C.length,fs.length] [] (.b V1 AL) [.c V0 K64,.b V1 (.A V0 K1)] rfl co lf),rfl,rfl,An (by rw[B,aj];exact lin [C.length,ws.length] [] (.b V1 AL) [.C 2 V0 K64,.b V1 (.A (.M 2 (.A V0 K1)) K1)] rfl co lw),rfl,hC _ _ (.mk _ _ _ _ _ _ _ _ _ _ O (dZ (Gw (c_len O.nd O.rc)) Y) u ?_ (by rw[B,aQ];rfl))⟩
   rw[U];refine DH q ?_;show AV.int (h e - h a+(h c - h e))=.int (h c - h a)
   congr 1
   exact ah (lin [] [h e,h a,h c] (.f (.A (.S V0 V1) (.S V2 V0)) (.S V2 V1)) [] rfl) (lin [] [h c,h a,h e] (.f (.S V0 V1) (.A (.S V2 V1) (.S V0 V2))) [] rfl)
theorem iterW.at(e:slot V i=.at b (.list l))(h:G l (some i) V):iterW true (.loc b i) V G:=by
 unfold iterW;simp only[e];exact⟨trivial,h⟩
inductive MN(P:List Sp)(h:Sp->Int)(es:List GR)(k:Sp):Prop
 |mk (b:Addr)(i:Nat)(gs:List Sp)(g:By (enD 0 es) k=some (.loc b (i+8)))(s:slot (hbT h es) i=.at b (.list (gs.map (enA h k))))(cm:∀c,Eg P k c->c∈gs)(eg:∀c∈gs,Eg P k c):MN P h es k
theorem Ents.at{S:List (Sp×Bool)}{h:Sp->Int}(E:Ents P C es S)(T:JZ P C S)(d:Cor P C){k:Sp}(B:k∈C):MN P h es k:=by
 refine X1p (Mp d B) λg0 U=>?_;obtain⟨⟨k',b,gs⟩,y,rfl,_⟩:=E.all T d B U;refine X2p (List.append_of_mem y) λe1 e2 Z0=>?_;subst Z0;have g1:=FE (i:=0) (e2:=e2) (b:=b) (gs:=gs) λe y z=>Fm E.nd e y z;rw[fB]at g1;refine .mk b e1.length gs g1 LL (λc hc=>?_) (E.eg _ y);obtain⟨⟨k2,b2,gs2⟩,Y,O,h3⟩:=E.all T d B hc
 rcases aJ.mp Y with Y|Y
 .exact(Fm E.nd _ Y O).elim
 .rcases aA.mp Y with z|Y
  .cases z;exact h3
  .have u:=E.nd
   rw[aQ,bp]at u;exact absurd (O▸cK (f:=(·.1)) Y) (bF.mp (bn.mp u).2.1).1
theorem hc_body{S:List (Sp×Bool)}{es:List GR}{a1 Y z:Addr}{x3 x4 x5 x6 x7 x8:Option AV}{X:XL}{KK:KS}(F:Flr P C a)(hS:JZ P C S)(E:Ents P C es S)(hK:∀a4 m' τ,slot τ 7=.at a4 (.dict (fD (hN h a) C))->KK (.ret (.loc a4 7)) m' τ) :
  wpSs tHb (c_heights_by.body.drop 4) X (hbM2 t P (fD (spm m) Q) a1 Y z x3 x4 x5 x6 x7 x8 aa) (hbS2 a1 Y z [(a,.int 0)] [sp a] (enD 0 es) (hbT h es)) KK:=by
 have co:=F.co.few;refine⟨HcJ t P C a h (fD (spm m) Q) (enD 0 es) (hbT h es) a1 Y z,⟨_,.mk [a] [a] _ _ _ _ _ _ _ _ _ (Dfs.start F.aC) (by unfold Gx;rw[bz];exact lin [C.length+1 - 1,C.length] [] (.b (.A (.M 2 V0) K1) (.A (.M 2 (.A V1 K1)) K1)) [.B 2 V0 (.A V1 K1)] rfl (eY (C.length+1) (1))) (by unfold fD hN;rw[List.map_singleton,Int.sub_self]) rfl⟩,λn m' V j=>?_⟩
 induction j using HcJ.casesOn with
 |mk fs ws y3 y4 y5 y6 y7 y8 y11 G W y T eF U =>
  have O:W.length<=big:=by rw[U,aj];exact Fs (aw (Dfs.len T) (lin [C.length] [] (.b (.A (.M 2 (.A V0 K1)) K1) Ja) [.C 2 V0 K64] rfl co))
  refine⟨rfl,O,?_⟩
  rcases List.eq_nil_or_concat ws with rfl|⟨w,e,rfl⟩
  .have all:=y.corners F.hg F.co F.ha
   have hP:=F.few;subst eF;clear O;subst U;exact⟨⟨rfl,rfl⟩,⟨rfl,rfl⟩,t,P,C,rfl,rfl,lin [P.length] [] (.b V0 FR) [.b V0 K36] rfl hP,F.co,An (by rw[aj];exact lin [C.length] [] (.b V0 AL) [.c V0 K64] rfl co),B9 (r:=C) (g:=sp) (f:=λk=>pvA (k,hN h a k)) rfl (λk hk CC hC=>⟨rfl,_,FP ((all k).mpr hk),hC⟩) (.inr ⟨fD (hN h a) C,by unfold fD;rw[bc];rfl,⟨An (by rw[BJ];exact lin [C.length] [] (.b V0 AL) [.c V0 K64] rfl co),by rw[fD_keys];exact A7 F.co.up⟩,λa4=>hK a4 _ _ rfl⟩)⟩
  .rw[ej]at y T ⊢
   rw[ej,aQ]at U;have l1:(w++[e]).length=w.length+1:=an
   cases E.at (h:=h) hS F.co (y.rc e (y.wf e (aM _ (.head _))))with
   |mk b i gs g1 g2 cm eg =>
    refine ifT (decide_eq_true (by rw[U,an];exact iI.mpr (gx _))) ⟨rfl,rfl,O,sp e,by rw[U];exact List.getLast?_concat,rfl,_,g1,iterW.at g2 (AY (r:=gs) (g:=enA h e) rfl (HcI t P C a h (fD (spm m) Q) (enD 0 es) (hbT h es) a1 Y z e (Gx C.length fs (w++[e]))) (λd m τ j=>?_) (λd c r m τ j CC hC=>hc_turn F T j CC hC) (d:=[]) (.mk fs w _ _ _ _ _ _ _ _ (y.pop cm) (by unfold Gx;rw[l1];exact lin [C.length+1 - fs.length,w.length] [] (.c (.A (.M 2 V0) V1) (.A (.M 2 V0) (.A V1 K1))) [] rfl) eg eF (by rw[U];exact List.dropLast_concat)))⟩
    induction j using HcI.casesOn with|mk fs' ws' z3 z4 z5 z6 z7 z8 F' W' hd' u _ eF' eW'=>exact⟨_,u,.mk fs' ws' _ _ _ _ _ _ _ _ _ hd'.done (aw (c9 u) T) eF' eW'⟩
theorem retW.new{K:KR}(e:slot V i=.at a (.dict l))(B:eU k i=true)(h:K ⟨[.dict l],.new 0⟩ (V.take k)):retW .new k (.loc a i) V K:=by
 show newW k V (.loc a i) [] [] (λz Z os=>K ⟨os,z⟩ (V.take k));unfold newW;simp only[e,isLD,B];exact⟨trivial,h⟩
theorem hby_ok:M0 tHb c_heights_by .new 10 72 fHby:=by
 refine .specF λO V K X hh=>?_;obtain⟨t,P,C,a,Q,m,h,rfl,rfl,⟨F,H,u⟩,Y⟩:=hh;have B:=F.few;refine⟨rfl,λa1=>⟨t,P,C,rfl,rfl,⟨B,F.co⟩,λS U=>(AY (r:=S) (g:=sdA) rfl (HbJ t P C h (fD (spm m) Q) a1 S) (λd m' τ j=>?_) (λd z r m' τ j CC T=>hb_turn F H u U j CC T) (d:=[]) (.mk _ _ _ _ _ _ [] rfl ⟨.nil,λZ z=>(nM z),λZ z=>(nM z),λZ z=>(nM z),λZ z=>(nM z)⟩))⟩⟩
 induction j using HbJ.casesOn with
 |mk x3 x4 x5 x6 x7 x8 es y E =>
  rw[aN]at y;subst y;exact⟨t,P,C,a,rfl,rfl,F,λa2=>⟨t,P,C,a,rfl,rfl,F,λa3=>hc_body (a:=a) F U E λa4 m' τ e=>retW.new (i:=7) e rfl Y⟩⟩
end
section
inductive QJ(K:KR):List AV->LS->Prop
 |mk (t:AV)(P:List Sp)(a:_)(Ks:List Sp)(m:Sp->Sp)(c0:(P.length<=36/\∀k∈P,k∈Ks))(c1:K ⟨[.list ((CK P m).map pcA)],.new 0⟩ [.at a (.dict (fD (spm m) Ks))]):QJ K ([Au t P,.loc a 0]) ([.at a (.dict (fD (spm m) Ks))])
noncomputable def fLay:FS:=specF λavs V K Z=>QJ K avs V
noncomputable def lyM(t:AV)(P:List Al)(a f:Addr)(x:Option AV):M:=[some (Au t P),some (.loc a 0),some (.loc f 4),x]
noncomputable def lyS(a f:Addr)(D:List (Al×AV))(L:List AV):LS:=[.at a (.dict D),.no,.no,.no,.at f (.list L)]
inductive LyJ(t:AV)(P:List Al)(a f:Addr)(m:Sp->Sp)(D:List (Al×AV))(d r:List Al):M->LS->Prop
 |mk (x:Option AV)(L:List AV)(hd:d++r=P)(e:L=(CK d m).map pcA):LyJ t P a f m D d r (lyM t P a f x) (lyS a f D L)
theorem Is(P:List Sp)(m:Sp->Sp):(CK P m).length<=P.length:=by
 unfold CK;rw[aj];exact dy _ _
theorem Gg:CK (d++[c]) m=CK d m++CK [c] m:=by
 unfold CK;rw[gS,aQ]
theorem lay_ok:M0 ⟨true,ex,[(32,pureF keyF)],[(16,IN)],[]⟩ Eh .new 2 4 fLay:=by
 refine .specF λavs V K X h=>QJ.casesOn h λt P a Ks m hz hK=>Aq hz λY O=>⟨rfl,λf=>⟨⟨rfl,rfl⟩,⟨rfl,rfl⟩,t,P,rfl,aw Y (by decide),rfl,AY (r:=P) (g:=sp) rfl (LyJ t P a f m (fD (spm m) Ks)) (λd m' τ j=>?_) (λd c r m' τ j C B=>?_) (d:=[]) (.mk _ [] rfl rfl)⟩⟩
 .induction j using LyJ.casesOn with
  |mk x L y e =>
   rw[aN]at y;clear hz Y O;subst y;subst e;exact⟨rfl,hK⟩
 .induction j using LyJ.casesOn with
  |mk x L y e =>
   have T:c∈Ks:=O c (by rw[<- y];exact aM _ (.head _))
   have U:(d++[c])++r=P:=by rwa [aG]
   have u:L.length<=big:=An (by
    have h1:=Is d m;have h2:=Cj y;rw[e,aj];exact lin [P.length,(CK d m).length,d.length] [] (.b V1 AL) [.b V0 K36,.b V1 V2,.c V2 V0] rfl Y h1 h2)
   refine⟨rfl,_,FP T,ifB (λz=>?_) λz=>?_⟩
   .refine⟨rfl,rfl,_,FP T,rfl,u,B _ _ (.mk _ _ U ?_)⟩
    have z:=(Lb c (m c)).symm.trans z;rw[Gg,aQ,<- e];unfold CK;rw[fi (p:=λc=>FU c (m c)) z];rfl
   .refine B _ _ (.mk _ _ U ?_)
    have z:=(Lb c (m c)).symm.trans z;rw[Gg,e];unfold CK;rw[fj (p:=λc=>FU c (m c)) (by rw[z];decide)]
    simp
end
section
noncomputable def C1:As:=⟨[0x73000380001c0000da00067,0xe80006600032000198000d400071],2,[.ret (.mu 4 (.call (.g 40) [.v 0,.mu 5 (.call (.g 39) [.v 0,.v 1])]))]⟩
noncomputable def C0:As:=⟨[0x73000380001c0000da00067,448600976916592,0x73000330001a4000ea00070,0x750003a0001cc000d400067,0xca0006f00038000190000cc00074,0xe600066000378001cc000e000064],3,[.assign (.v 3) (.call (.g 47) [.v 0,.call (.g 39) [.v 0,.v 1]]),.assign (.v 4) (.call (.g 47) [.v 0,.call (.g 39) [.v 0,.v 2]]),.ret (.bin .FloorDiv (.call (.g 11) [.comp (.call (.g 12) [.bin .Sub (.sub (.v 3) (.v 5)) (.sub (.v 4) (.v 5))]) 5 (.v 3) []]) (.int 4))]⟩
noncomputable def CZ:As:=⟨[0x73000380001c0000da00067,448600976916592,0x73000330001a4000ea00070,0x3a0001cc000cc0006f0003a8001cc000c400071,0x7400036800188000e000068,0x65000378001d8000e000067,0xe600066000378001cc000e000064],3,[.assign (.v 3) (.call (.g 39) [.v 0,.v 1]),.assign (.v 4) (.call (.g 47) [.v 0,.call (.g 39) [.v 0,.v 2]]),.assign (.v 5) (.list []),.assign (.v 6) (.call (.g 59) [.v 0,.v 3,.v 4]),.while_ (.cmp .IsNot (.v 6) .none) [.expr (.meth (.v 5) 0 [.v 6]),.expr (.call (.g 54) [.v 3,.v 6]),.assign (.v 6) (.call (.g 59) [.v 0,.v 3,.v 4])],.ret (.v 5)]⟩
noncomputable def EW:As:=⟨[0x73000380001c0000da00067,448600976916592,0x73000330001a4000ea00070,0x750003a0001cc000d400067,0xca0006f00038000190000cc00074,0xe600066000378001cc000e000064],3,[.assign (.v 3) (.call (.g 47) [.v 0,.call (.g 39) [.v 0,.v 1]]),.assign (.v 4) (.call (.g 47) [.v 0,.call (.g 39) [.v 0,.v 2]]),.ret (.call (.g 51) [.v 0,.call (.g 7) [.comp (.tup [.v 5,.call (.g 13) [.sub (.v 3) (.v 5),.sub (.v 4) (.v 5)]]) 5 (.v 3) []]])]⟩
noncomputable def EQ:As:=⟨[0x73000380001c0000da00067,448600976916592,0x73000330001a4000ea00070,0x750003a0001cc000d400067,0xca0006f00038000190000cc00074,0xe600066000378001cc000e000064],3,[.assign (.v 3) (.call (.g 47) [.v 0,.call (.g 39) [.v 0,.v 1]]),.assign (.v 4) (.call (.g 47) [.v 0,.call (.g 39) [.v 0,.v 2]]),.ret (.call (.g 51) [.v 0,.call (.g 7) [.comp (.tup [.v 5,.call (.g 14) [.sub (.v 3) (.v 5),.sub (.v 4) (.v 5)]]) 5 (.v 3) []]])]⟩
noncomputable def Dv:As:=⟨[0x73000380001c0000da00067,0xe80006600032000198000d400071,0x3a0001cc000cc0006f0003a8001cc000c400071,0x74000330001bc000d40006d,122,527765816213619,0x74000378001a0000d400074,121,0x368001b4000cc00064],2,[.assign (.v 2) (.call (.g 39) [.v 0,.v 1]),.assign (.v 3) (.list []),.for_ (.tup [.v 4,.v 5]) (.call (.g 9) [.meth (.v 0) 14 []]) [.assign (.v 6) (.list []),.for_ (.v 7) (.call (.g 8) [.call (.g 0) [.v 5]]) [.assign (.v 8) (.tup [.v 7,.v 4]),.expr (.meth (.v 6) 0 [.ite (.meth (.v 0) 15 [.v 8]) (.call (.g 67) [.v 8,.sub (.v 2) (.v 8)]) (.str ".")])],.expr (.meth (.v 3) 0 [.meth (.str "") 8 [.v 6]])],.ret (.meth (.str "\n") 8 [.v 3])]⟩
noncomputable def c_lwrong:As:=⟨[0x1d0000cc00064000330001a8000e2000600003c000188000da00060,0x6d00036800198000c8000600003c000188000da00060,0x1d4000c4000600003c000188000da00060,0x330001bc000e0000600003c000188000da00060,0xe600066000348001d4000e0000600003c000188000da00060,0xca00062000330001a4000c4000600003c000188000da00060,0x194000de0006a00034800198000c6000600003c000188000da00060,0x66000370001c0000e8000600003c000188000da00060],2,[.assign (.v 2) (.bin .Mod (.bin .FloorDiv (.v 1) (.int 14)) (.call (.g 0) [.v 0])),.assign (.tup [.v 3,.v 4]) (.sub (.v 0) (.v 2)),.assign (.v 5) (.slice (.v 0) .none (.v 2) .none),.assign (.v 6) (.slice (.v 0) (.bin .Add (.v 2) (.int 1)) .none .none),.assign (.v 7) (.mu 4 (.list [.bin .Add (.v 5) (.v 6),.bin .Add (.v 0) (.list [.sub (.v 0) (.v 2)]),.bin .Add (.v 0) (.list [.tup [.v 4,.v 3]]),.bin .Add (.bin .Add (.v 5) (.list [.tup [.v 3,.v 3]])) (.v 6)])),.assign (.v 7) (.mu 4 (.bin .Add (.v 7) (.list [.bin .Add (.bin .Add (.v 5) (.list [.tup [.v 3,.tup [.bin .Add (.sub (.v 3) (.int 0)) (.int 2),.sub (.v 3) (.int 1)]]])) (.v 6),.bin .Add (.bin .Add (.v 5) (.list [.tup [.v 3,.tup [.bin .Sub (.sub (.v 3) (.int 0)) (.int 1),.bin .Sub (.sub (.v 3) (.int 1)) (.int 1)]]])) (.v 6)]))),.assign (.v 7) (.mu 4 (.bin .Add (.v 7) (.list [.bin .Add (.bin .Add (.v 5) (.list [.tup [.v 3,.v 4,.v 3]])) (.v 6),.bin .Add (.bin .Add (.v 5) (.list [.tup [.v 3]])) (.v 6),.bin .Add (.bin .Add (.v 5) (.list [.list [.v 3,.v 4]])) (.v 6)]))),.assign (.v 7) (.mu 4 (.bin .Add (.v 7) (.list [.call (.g 4) [.v 0],.none,.bin .Add (.bin .Add (.v 5) (.list [.tup [.call (.g 5) [.v 3],.v 4]])) (.v 6),.bin .Add (.bin .Add (.v 5) (.list [.none])) (.v 6)]))),.expr (.meth (.v 7) 0 [.bin .Add (.bin .Add (.v 5) (.list [.tup [.tup [.cmp .Eq (.sub (.v 3) (.int 0)) (.int 1),.sub (.v 3) (.int 1)],.v 4]])) (.v 6)]),.ret (.sub (.v 7) (.bin .Mod (.v 1) (.int 14)))]⟩
noncomputable def GG:As:=⟨[0xe600070000380001b4000ce000600003c000188000da00060,0x3d000188000f0000600003c000188000da00060,0x1d0000cc00064000330001a8000e2000600003c000188000da00060,0x65000380001c0000d0000600003c000188000da00060],4,[.ite (.cmp .Eq (.v 1) (.int 0)) [.ret (.call (.g 41) [.v 0,.v 2])] [],.ite (.cmp .Eq (.v 1) (.int 1)) [.ret (.call (.g 48) [.v 0,.v 2])] [],.ite (.cmp .Eq (.v 1) (.int 2)) [.ret (.call (.g 55) [.v 0,.v 2])] [],.ite (.cmp .Eq (.v 1) (.int 3)) [.ret (.call (.g 56) [.v 0,.v 2,.tup [.int 0,.int 0]])] [],.ite (.cmp .Lt (.v 1) (.int 6)) [.ret (.call (.g 57) [.v 0,.sub (.list [.v 2,.v 3]) (.bin .Sub (.v 1) (.int 4)),.sub (.list [.v 3,.v 2]) (.bin .Sub (.v 1) (.int 4))])] [],.ite (.cmp .Lt (.v 1) (.int 8)) [.ret (.call (.g 60) [.v 0,.sub (.list [.v 2,.v 3]) (.bin .Sub (.v 1) (.int 6)),.sub (.list [.v 3,.v 2]) (.bin .Sub (.v 1) (.int 6))])] [],.ite (.cmp .Lt (.v 1) (.int 10)) [.ret (.call (.g 61) [.v 0,.sub (.list [.v 2,.v 3]) (.bin .Sub (.v 1) (.int 8)),.sub (.list [.v 3,.v 2]) (.bin .Sub (.v 1) (.int 8))])] [],.ite (.cmp .Lt (.v 1) (.int 12)) [.ret (.call (.g 62) [.v 0,.sub (.list [.v 2,.v 3]) (.bin .Sub (.v 1) (.int 10)),.sub (.list [.v 3,.v 2]) (.bin .Sub (.v 1) (.int 10))])] [],.ret (.call (.g 69) [.v 0,.v 2])]⟩
noncomputable def Ef:As:=⟨[0xe600070000380001b4000ce000600003c000188000da00060,0x3d000188000f0000600003c000188000da00060,0x1d0000cc00064000330001a8000e2000600003c000188000da00060,0x65000380001c0000d0000600003c000188000da00060,0xe600070000398001cc000cc000600003c000188000da00060],4,[.try_ [.expr (.call (.g 101) [.v 0,.v 1,.v 2,.v 3])] (.g 18) (some 4) [.ret (.call (.g 79) [.v 4,.int 4])],.ret (.bool false)]⟩
noncomputable def c_law3:As:=⟨[0x1d4000e20006a00039800190000e8000600003c000188000da00060,0x740003c0001c0000e6000600003c000188000da00060,0xe80007300035000188000e2000600003c000188000da00060,0xe600070000380001b4000ce000600003c000188000da00060,0x65000380001c0000d0000600003c000188000da00060,0x6d00036800198000c8000600003c000188000da00060,0x330001cc000cc0006900030000194000cc0006500037800188000d2000600003c000188000da00060,0xca0006f0003b0001c0000ce000600003c000188000da00060,0x7500038800198000d8000600003c000188000da00060,0xe600066000348001d4000e0000600003c000188000da00060,0x198000e60006600034800180000d00006f000380001cc000f0000600003c000188000da00060,0x3d000188000f0000600003c000188000da00060],1,[.assign (.tup [.v 1,.v 2]) (.call (.g 88) [.v 0]),.assign (.v 2) (.call (.g 87) [.v 2,.call (.g 72) [.v 0,.int 2],.bin .Mod (.call (.g 72) [.v 0,.int 3]) (.int 61)]),.assign (.v 3) (.call (.g 29) [.mu 8 (.call (.g 5) [.v 1])]),.assign (.v 4) (.call (.g 92) [.v 2,.call (.g 72) [.v 0,.int 4]]),.assign (.v 5) (.call (.g 72) [.v 0,.int 5]),.assign (.v 6) (.call (.g 5) [.v 4]),.assign (.v 7) (.mu 4 (.call (.g 41) [.v 3,.v 6])),.ite (.or [.not (.call (.g 1) [.v 7,.g 5]),.cmp .NotEq (.v 7) (.call (.g 90) [.v 2]),.cmp .NotEq (.v 6) (.v 4)]) [.ret (.bool false)] [],.assign (.v 8) (.call (.g 5) [.v 7]),.assign (.v 9) (.call (.g 87) [.v 2,.call (.g 72) [.v 0,.int 6],.int 9]),.ite (.or [.cmp .NotEq (.call (.g 41) [.v 3,.call (.g 92) [.v 9,.call (.g 72) [.v 0,.int 7]]]) (.call (.g 90) [.v 9]),.cmp .NotEq (.v 7) (.v 8)]) [.ret (.bool false)] [],.expr (.meth (.v 7) 3 []),.ite (.cmp .NotEq (.call (.g 41) [.v 3,.v 6]) (.call (.g 90) [.v 2])) [.ret (.bool false)] [],.ite (.cmp .Eq (.bin .Mod (.v 5) (.int 3)) (.int 0)) [.ret (.bool true)] [],.assign (.v 10) (.call (.g 82) [.v 4,.bin .FloorDiv (.v 5) (.int 3)]),.assign (.v 8) (.ite (.call (.g 1) [.v 10,.g 5]) (.slice (.v 10) .none .none .none) (.v 10)),.for_ (.v 11) (.call (.g 8) [.int 13]) [.ite (.not (.call (.g 103) [.v 3,.v 11,.v 10,.v 4])) [.ret (.bool false)] []],.ret (.and [.cmp .Eq (.v 10) (.v 8),.cmp .Eq (.call (.g 41) [.v 3,.v 4]) (.call (.g 90) [.v 2])])]⟩
end
section
inductive QG(K:KR):List AV->LS->Prop
 |mk (t:AV)(P:List Sp)(v:AV)(c0:(∃k,v=sp k/\K ⟨[],.val (.bool (decide (k∈P)))⟩ [])\/(Odd v/\K ⟨[],.val (.bool false)⟩ [])):QG K [Au t P,v] []
noncomputable def fHas3:FS:=specF λavs V K Z=>QG K avs V
theorem has3_ok:M0 ⟨true,ex,[(31,fSpot)],[],[]⟩ My .val 0 0 fHas3:=by
 refine .specF λy V K X h=>QG.casesOn h λt P v U=>?_
 rcases U with⟨k,rfl,U⟩|⟨o,U⟩
 .exact⟨rfl,_,rfl,rfl,.inl ⟨k,rfl,⟨rfl,rfl⟩,rfl,_,B6 P k,U⟩⟩
 .refine⟨rfl,?_⟩
  show Ch fSpot aa [v] [] _ BV;exact o.own1 ⟨v,rfl,rfl,.inr ⟨o,U⟩⟩
inductive Pce(P:List Sp):AV->Bool->Prop
 |good (q:Sp×Sp)(h1:q.1∈P)(h2:q.2∈P)(h3:q.2∈A3 q.1):Pce P (pcA q) true
 |none:Pce P .none false
 |list (l:List AV):Pce P (.list l) false
 |one (a:AV):Pce P (.tup [a]) false
 |three (a b c:AV):Pce P (.tup [a,b,c]) false
 |far (q:Sp×Sp)(h:q.2∉A3 q.1):Pce P (pcA q) false
 |odd (v w:AV)(o:Odd v):Pce P (.tup [v,w]) false
def NoL(v:AV):Prop:=∀r,AN (v::r)=AN r/\∀n,A8 (v::r) n=v::A8 r n
theorem NoL.own2{mu:Option Nat}{fs:List (Str×AV)}{v:AV}{V:LS}{K:KV}{X:XL}(o:NoL v)(h:f [.inst fs,v] [] (λr V'=>D1 mu r V K) (λc V'=>X c V)):Ch (specF f) mu [.inst fs,v] V K X :=
 ownW_no (show AN [v]=[] from (o []).1) (congrArg (AV.inst fs::·) ((o []).2 0)) h
theorem Pce.nol(h:Pce P v b):NoL v:=by
 induction h using Pce.casesOn<;>exact λZ=>⟨rfl,λZ=>rfl⟩
inductive QM(K:KR):List AV->LS->Prop
 |mk (t:AV)(P:List Sp)(v:AV)(b:Bool)(c0:Pce P v b)(c1:K ⟨[],.val (.bool b)⟩ []):QM K [Au t P,v] []
noncomputable def Hy:FS:=specF λavs V K Z=>QM K avs V
theorem KO:M0 ⟨true,[],[(34,Ma)],[(15,fHas3)],[]⟩ EY .val 0 0 Hy:=by
 refine .specF λy V K X h=>QM.casesOn h λt P v b c U=>?_
 induction c using Pce.casesOn with
 |none=>exact⟨rfl,U⟩
 |list l=>exact⟨rfl,U⟩
 |one a=>exact⟨rfl,An (aP rfl),U⟩
 |three a b c=>exact⟨rfl,An (aP rfl),U⟩
 |odd v w o =>
  refine⟨rfl,An (aP rfl),⟨rfl,rfl⟩,⟨rfl,rfl⟩,?_⟩;show Ch fHas3 aa [Au t P,v] [] _ BV;exact o.own2 ⟨t,P,v,.inr ⟨o,U⟩⟩
 |far q h =>
  refine⟨rfl,An (aP rfl),⟨rfl,rfl⟩,⟨rfl,rfl⟩,t,P,_,.inl ⟨q.1,rfl,ifB (λZ=>⟨⟨rfl,rfl⟩,⟨rfl,rfl⟩,t,P,_,.inl ⟨q.2,rfl,ifB (λZ=>?_) λZ=>U⟩⟩) λZ=>U⟩⟩
  have:=InP.spots (A3 q.1) q.2
  rw[decide_eq_false h]at this;exact⟨false,this,U⟩
 |good q Y z B =>
  refine⟨rfl,An (aP rfl),⟨rfl,rfl⟩,⟨rfl,rfl⟩,t,P,_,.inl ⟨q.1,rfl,ifT (decide_eq_true Y) ⟨⟨rfl,rfl⟩,⟨rfl,rfl⟩,t,P,_,.inl ⟨q.2,rfl,?_⟩⟩⟩⟩
  have:=InP.spots (A3 q.1) q.2
  rw[decide_eq_true B]at this;exact ifT (decide_eq_true z) ⟨true,this,U⟩
end
section
structure Part(P:List Sp)(m:Sp->Sp)(H:List (Sp×Sp)):Prop where
 at_:∀q∈H,q.1∈P/\q.2=m q.1
 nd:(Bl H).Nodup
theorem Na.part(h:Na P m H):Part P m H:=⟨h.at_,h.nd⟩
theorem Part.sub(h:Part P m H)(M:Mt P m)(B:k∈Bl H):k∈P:=by
 refine X1pp (dR.mp B) λq hq z=>Aq (h.at_ q hq) λY d=>?_
 rcases aA.mp z with z|z
 .rwa [z]
 .rw[aD.mp z,d];exact(nbP_mem.mp (M _ Y).1).2.2
inductive Bad(P:List Sp)(m:Sp->Sp):AV->Prop
 |none:Bad P m .none
 |tup (l:List AV):Bad P m (.tup l)
 |item (H:List (Sp×Sp))(b:AV)(r:List AV)(h:Part P m H)(hb:Pce P b false):Bad P m (.list (H.map pcA++b::r))
 |twice (H:List (Sp×Sp))(q:Sp×Sp)(r:List AV)(h:Part P m H)(hq:Pce P (pcA q) true)(hc:q.1∈Bl H):Bad P m (.list (H.map pcA++pcA q::r))
 |short (H:List (Sp×Sp))(h:Part P m H)(hl:(Bl H).length≠P.length):Bad P m (.list (H.map pcA))
inductive QL(K:KR)(X:XL):List AV->LS->Prop
 |good (t:AV)(P:List Sp)(m:Sp->Sp)(H:List (Sp×Sp))(c0:P.length<=36/\P.Nodup/\Mt P m/\Na P m H)(c1:K ⟨[.dict (fD (spm m) (Bl H))],.new 0⟩ []):QL K X [Au t P,.list (H.map pcA)] []
 |bad (t:AV)(P:List Sp)(m:Sp->Sp)(v:AV)(c0:P.length<=36/\Mt P m/\Bad P m v)(c1:X 23 []):QL K X [Au t P,v] []
noncomputable def Aw:FS:=specF λavs V K X=>QL K X avs V
noncomputable def pbM(t:AV)(P:List Sp)(v:AV)(f:Addr)(x3 x4 x5:Option AV):M:=[some (Au t P),some v,some (.loc f 4),x3,x4,x5]
noncomputable def pbS(f:Addr)(D:List (Al×AV)):LS:=[.no,.no,.no,.no,.at f (.dict D)]
inductive PbJ(t:AV)(P:List Sp)(m:Sp->Sp)(v:AV)(f:Addr)(H d r:List (Sp×Sp)):M->LS->Prop
 |mk (x3 x4 x5:Option AV)(D:List (Al×AV))(hd:d++r=H)(e:D=fD (spm m) (Bl d)):PbJ t P m v f H d r (pbM t P v f x3 x4 x5) (pbS f D)
noncomputable abbrev tPb:Tab:=⟨true,[23],[(38,Hy)],[(16,IN)],[]⟩
noncomputable abbrev pbB:List Internal.S:=[.ite (.not (.call (.g 38) [.v 0,.v 3])) [.raise (.call (.g 23) [.str "no piece of the floor"])] [],.for_ (.tup [.v 4,.v 5]) (.list [.v 3,.slice (.v 3) .none .none (.neg (.int 1))]) [.ite (.cmp .In (.v 4) (.v 2)) [.raise (.call (.g 23) [.str "a cell that is covered twice"])] [],.setitem (.v 2) (.v 4) (.v 5)]]
theorem Fw{K:KS}(T:List AV)(J:List α->List α->M->LS->Prop)(y:∀d m V,J d [] m V->Hw q p body ok K T m V)
  (hs:∀d x r m V,J d (x::r) m V->∀C:M->LS->Prop,(∀O z,J (d++[x]) r O z->C O z)->patW q p (g x) m (λAp=>body Ap V (DX ok V C K))):∀{r d:List α}{m:M}{V:LS},J d r m V->Hw q p body ok K (r.map g++T) m V
 |[],d,m,V,h=>y d m V h
 |x::r,d,m,V,h=>hs d x r m V h (Hw q p body ok K (r.map g++T)) λO z h=>Fw T J y hs h
theorem Part.few(h:Part P m H)(M:Mt P m)(d:P.length<=36):(Bl H).length<=36 :=
 aw (sub_length (l:=Bl H) (k:=P) h.nd λk B=>h.sub M B) d
theorem Part.pre(h:Part P m (d++r)):Part P m d:=by
 refine⟨λq hq=>h.at_ q (aU _ hq),?_⟩
 have:=h.nd
 rw[BG]at this;exact(bn.mp this).1
theorem Fj{KK:KS}(hP:P.length<=36)(mt:Mt P m0)(hH:Part P m0 H)(j:PbJ t P m0 v f H d (q::r) m V)(C:M->LS->Prop)(hC:∀At Ab,PbJ t P m0 v f H (d++[q]) r At Ab->C At Ab) :
  patW true (.v 3) (pcA q) m (λAp=>wpSs tPb pbB X Ap V (DX aa V C KK)):=by
 refine PbJ.casesOn (motive:=λm V Z=>patW true (.v 3) (pcA q) m (λAp=>wpSs tPb pbB X Ap V (DX aa V C KK))) j λx3 x4 x5 D y e=>?_;have hq:q∈H:=by rw[<- y];exact aM _ (.head _)
 refine Aq (hH.at_ q hq) λU B=>Aq (mt _ U) λY u=>?_;rw[<- B]at Y u;refine Bm (nbP_mem.mp Y) λZ n3 n4=>?_;have nd:=hH.nd;rw[<- y,BG]at nd;have nd:(Bl d++(q.1::q.2::Bl r)).Nodup:=nd;have f1:q.1∉Bl d:=λz=>(bn.mp nd).2.2 _ z _ (.head _) rfl;have f2:q.2∉Bl d++[q.1]:=λz=>(aJ.mp z).elim (λz=>(bn.mp nd).2.2 _ z _ (.tail _ (.head _)) rfl) λz=>(bF.mp (bn.mp nd).2.1).1 (by rw[<- aD.mp z];exact .head _)
 have O:(Bl d).length<=36:=(Part.pre (by rwa [y])).few mt hP
 have T:Bx D q.1 (sp q.2)=fD (spm m0) (Bl d++[q.1]):=by rw[e];exact DH f1 (by unfold spm;rw[B])
 have s2:Bx (Bx D q.1 (sp q.2)) q.2 (sp q.1)=fD (spm m0) (Bl (d++[q])):=by rw[T,Mn,DH f2 (by unfold spm;rw[u]),aG];rfl
 exact⟨t,P,_,true,.good q U n4 n3,⟨false,⟨rfl,by rw[e];exact(DY _ _ _).trans (decide_eq_false f1)⟩,rfl,An (by rw[e,BJ];exact lin [(Bl d).length] [] (.b V0 AL) [.b V0 K36] rfl O),⟨false,⟨rfl,by rw[T];exact(DY _ _ _).trans (decide_eq_false f2)⟩,rfl,An (by rw[T,BJ,an];show _+1<=_;exact lin [(Bl d).length] [] (.b (.A V0 K1) AL) [.b V0 K36] rfl O),hC _ _ (.mk _ _ _ _ (by rwa [aG]) s2)⟩⟩⟩
theorem F6:M0 tPb C3 .new 4 5 Aw:=by
 refine .specF λavs V K X h=>QL.casesOn h (λt P m H hz hK=>?_) (λt P m v hz O=>?_)
 .refine Bt hz λU nP M u=>?_
  have ll:=same_length u.nd nP u.mem;refine⟨rfl,λf=>(AY (r:=H) (g:=pcA) rfl (PbJ t P m (.list (H.map pcA)) f H) (λd m' τ j=>?_) (λd q r m' τ j C B=>Fj U M u.part j C B) (d:=[]) (.mk _ _ _ _ rfl rfl))⟩
  induction j using PbJ.casesOn with
  |mk x3 T Y D y e =>
   rw[aN]at y;clear hz u;subst y;subst e;refine⟨rfl,An (by rw[BJ];exact lin [P.length,(Bl d).length] [] (.b V1 AL) [.b V0 K36,.d V1 V0] rfl U ll),⟨rfl,rfl⟩,⟨rfl,rfl⟩,t,P,rfl,lin [P.length] [] (.b V0 AL) [.b V0 K36] rfl U,rfl,An (by rw[aj];exact lin [P.length] [] (.b V0 AL) [.b V0 K36] rfl U),ifF ?_ ⟨rfl,hK⟩⟩
   rw[BJ,aj,ll,beq_self_eq_true];rfl
 .refine Bm hz λU M c=>?_
  induction c using Bad.casesOn with
  |none=>exact⟨rfl,O⟩
  |tup l=>exact⟨rfl,O⟩
  |item H b r u hb =>
   refine⟨rfl,λf=>(Fw (g:=pcA) (b::r) (PbJ t P m (.list (H.map pcA++b::r)) f H) (λd m' τ j=>?_) (λd q r m' τ j C B=>Fj U M u j C B) (d:=[]) (.mk _ _ _ _ rfl rfl))⟩
   induction j using PbJ.casesOn with
   |mk x3 T Y D y e =>
    show Ch Hy aa [Au t P,b] (pbS f D) _ BV;exact hb.nol.own2 ⟨t,P,b,false,hb,O⟩
  |twice H q r u hq hc =>
   refine⟨rfl,λf=>(Fw (g:=pcA) (pcA q::r) (PbJ t P m (.list (H.map pcA++pcA q::r)) f H) (λd m' τ j=>?_) (λd q r m' τ j C B=>Fj U M u j C B) (d:=[]) (.mk _ _ _ _ rfl rfl))⟩
   induction j using PbJ.casesOn with
   |mk x3 T Y D y e =>
    rw[aN]at y;exact⟨t,P,_,true,hq,true,⟨rfl,by rw[e,y];exact(DY _ _ _).trans (decide_eq_true hc)⟩,O⟩
  |short H u hl =>
   have l1:=u.few M U;refine⟨rfl,λf=>(AY (r:=H) (g:=pcA) rfl (PbJ t P m (.list (H.map pcA)) f H) (λd m' τ j=>?_) (λd q r m' τ j C B=>Fj U M u j C B) (d:=[]) (.mk _ _ _ _ rfl rfl))⟩
   induction j using PbJ.casesOn with
   |mk x3 T Y D y e =>
    rw[aN]at y;clear u hz;subst y;subst e;refine⟨rfl,An (by rw[BJ];exact lin [(Bl d).length] [] (.b V0 AL) [.b V0 K36] rfl l1),⟨rfl,rfl⟩,⟨rfl,rfl⟩,t,P,rfl,lin [P.length] [] (.b V0 AL) [.b V0 K36] rfl U,rfl,An (by rw[aj];exact lin [P.length] [] (.b V0 AL) [.b V0 K36] rfl U),ifT ?_ O⟩
    have ne:(((Bl d).length:Int) == (P.length:Int))=false:=beq_eq_false_iff_ne.mpr λz=>hl (Int.ofNat.inj z);rw[BJ,aj,ne];rfl
theorem Bad.nol{P:List Sp}(h:Bad P m v):NoL v:=by
 induction h using Bad.casesOn<;>exact λZ=>⟨rfl,λZ=>rfl⟩
inductive QS(K:KR)(X:XL):List AV->LS->Prop
 |good (t:AV)(P:List Sp)(m:Sp->Sp)(H:List (Sp×Sp))(c0:P.length<=36/\P.Nodup/\Mt P m/\Na P m H)(c1:K ⟨[.list ((CK P m).map pcA)],.new 0⟩ []):QS K X [Au t P,.list (H.map pcA)] []
 |bad (t:AV)(P:List Sp)(m:Sp->Sp)(v:AV)(c0:P.length<=36/\Mt P m/\Bad P m v)(c1:X 23 []):QS K X [Au t P,v] []
noncomputable def fTl:FS:=specF λavs V K X=>QS K X avs V
theorem tl_ok:M0 ⟨true,[23],[(39,Aw),(40,fLay)],[],[]⟩ C1 .new 0 6 fTl:=by
 refine .specF λy V K X h=>QS.casesOn h (λt P m H hz U=>?_) (λt P m v hz d=>?_)
 .refine⟨rfl,.good t P m H hz λf=>⟨t,P,f,Bl H,m,⟨hz.1,λk B=>(hz.2.2.2.mem k).mpr B⟩,λg=>⟨rfl,U⟩⟩⟩
 .refine⟨rfl,?_⟩
  show Ch Aw (some 5) [Au t P,v] (aH 6 .no) (λa Aa=>_) (λe τ=>X e (bZ 0 τ));exact hz.2.2.nol.own2 (.bad t P m v hz d)
inductive Q4(X:XL):List AV->LS->Prop
 |mk (t:AV)(P:List Sp)(m:Sp->Sp)(v:AV)(c0:P.length<=36/\Mt P m/\Bad P m v)(c1:X 23 []):Q4 X [Au t P,v] []
noncomputable def fB1:FS:=specF λavs V Z X=>Q4 X avs V
theorem hof3_ok:M0 ⟨true,[23],[(39,Aw),(47,fHby)],[],[]⟩ Dw .new 0 5 fB1:=by
 refine .specF λy V K X h=>Q4.casesOn h λt P m v hz d=>⟨rfl,?_⟩;show Ch Aw aa [Au t P,v] (aH 5 .no) (λa Aa=>_) (λe τ=>X e (bZ 0 τ));exact hz.2.2.nol.own2 (.bad t P m v hz d)
end
section
noncomputable def fNo:FS:=specF λZ Z Z Z=>False
theorem no_ok:M0 ⟨true,[],[],[],[]⟩ BL .val 0 0 fNo:=.specF λZ Z Z Z h=>h.elim
theorem tof3_ok:M0 ⟨true,[23],[(39,Aw),(53,fNo)],[],[]⟩ ER .new 0 6 fB1:=by
 refine .specF λy V K X h=>Q4.casesOn h λt P m v hz d=>⟨rfl,?_⟩;show Ch Aw (some 5) [Au t P,v] (aH 6 .no) (λa Aa=>_) (λe τ=>X e (bZ 0 τ));exact hz.2.2.nol.own2 (.bad t P m v hz d)
theorem st3_ok:M0 ⟨true,[23],[(39,Aw)],[],[]⟩ Dv .val 7 1 fB1:=by
 refine .specF λy V K X h=>Q4.casesOn h λt P m v hz d=>⟨rfl,?_⟩;show Ch Aw aa [Au t P,v] (aH 1 .no) (λa Aa=>_) (λe τ=>X e (bZ 0 τ));exact hz.2.2.nol.own2 (.bad t P m v hz d)
inductive Q5(X:XL):List AV->LS->Prop
 |one (t:AV)(P:List Sp)(m:Sp->Sp)(v w:AV)(c0:P.length<=36/\Mt P m/\Bad P m v)(c1:X 23 []):Q5 X [Au t P,v,w] []
 |two (t:AV)(P C:List Sp)(a:Sp)(m:Sp->Sp)(h:Sp->Int)(H:List (Sp×Sp))(v:AV)(c0:Flr P C a/\Mt P m/\HT P m h/\Na P m H)(c1:Bad P m v)(c2:X 23 []):Q5 X [Au t P,.list (H.map pcA),v] []
noncomputable def fB2:FS:=specF λavs V Z X=>Q5 X avs V
noncomputable abbrev tB2:Tab:=⟨true,[23],[(39,Aw),(47,fHby)],[],[]⟩
theorem ta3_ok:M0 tB2 C0 .val 3 1 fB2:=by
 refine .specF λy V K X h=>Q5.casesOn h (λt P m v w hz d=>?_) (λt P C a m h H v hz z d=>?_)
 .refine⟨rfl,?_⟩
  show Ch Aw aa [Au t P,v] (aH 1 .no) (λa Aa=>_) (λe τ=>X e (bZ 0 τ));exact hz.2.2.nol.own2 (.bad t P m v hz d)
 .refine Bt hz λF M ht u=>⟨rfl,.good t P m H ⟨F.few,A7 F.up,M,u⟩ ⟨t,P,C,a,Bl H,m,h,rfl,rfl,⟨F,ht,λk B=>(u.mem k).mpr B⟩,?_⟩⟩
  show Ch Aw aa [Au t P,v] (aH 1 .no) (λa Aa=>_) (λe τ=>X e (bZ 0 τ));exact z.nol.own2 (.bad t P m v ⟨F.few,M,z⟩ d)
theorem lo3_ok:M0 tB2 EW .val 3 1 fB2:=by
 refine .specF λy V K X h=>Q5.casesOn h (λt P m v w hz d=>?_) (λt P C a m h H v hz z d=>?_)
 .refine⟨rfl,?_⟩
  show Ch Aw aa [Au t P,v] (aH 1 .no) (λa Aa=>_) (λe τ=>X e (bZ 0 τ));exact hz.2.2.nol.own2 (.bad t P m v hz d)
 .refine Bt hz λF M ht u=>⟨rfl,.good t P m H ⟨F.few,A7 F.up,M,u⟩ ⟨t,P,C,a,Bl H,m,h,rfl,rfl,⟨F,ht,λk B=>(u.mem k).mpr B⟩,?_⟩⟩
  show Ch Aw aa [Au t P,v] (aH 1 .no) (λa Aa=>_) (λe τ=>X e (bZ 0 τ));exact z.nol.own2 (.bad t P m v ⟨F.few,M,z⟩ d)
theorem up3_ok:M0 tB2 EQ .val 3 1 fB2:=by
 refine .specF λy V K X h=>Q5.casesOn h (λt P m v w hz d=>?_) (λt P C a m h H v hz z d=>?_)
 .refine⟨rfl,?_⟩
  show Ch Aw aa [Au t P,v] (aH 1 .no) (λa Aa=>_) (λe τ=>X e (bZ 0 τ));exact hz.2.2.nol.own2 (.bad t P m v hz d)
 .refine Bt hz λF M ht u=>⟨rfl,.good t P m H ⟨F.few,A7 F.up,M,u⟩ ⟨t,P,C,a,Bl H,m,h,rfl,rfl,⟨F,ht,λk B=>(u.mem k).mpr B⟩,?_⟩⟩
  show Ch Aw aa [Au t P,v] (aH 1 .no) (λa Aa=>_) (λe τ=>X e (bZ 0 τ));exact z.nol.own2 (.bad t P m v ⟨F.few,M,z⟩ d)
theorem wb3_ok:M0 tB2 CZ .val 4 1 fB2:=by
 refine .specF λy V K X h=>Q5.casesOn h (λt P m v w hz d=>?_) (λt P C a m h H v hz z d=>?_)
 .refine⟨rfl,?_⟩
  show Ch Aw aa [Au t P,v] (aH 1 .no) (λa Aa=>_) (λe τ=>X e (bZ 0 τ));exact hz.2.2.nol.own2 (.bad t P m v hz d)
 .refine Bt hz λF M ht u=>⟨rfl,.good t P m H ⟨F.few,A7 F.up,M,u⟩ ?_⟩
  show Ch Aw aa [Au t P,v] (aH 1 .no) (λa Aa=>_) (λe τ=>X e (bZ 0 τ));exact z.nol.own2 (.bad t P m v ⟨F.few,M,z⟩ d)
inductive Q6(X:XL):List AV->LS->Prop
 |mk (t:AV)(P:List Sp)(m:Sp->Sp)(v w:AV)(c0:P.length<=36/\Mt P m/\Bad P m v)(c1:X 23 []):Q6 X [Au t P,v,w] []
noncomputable def fB3:FS:=specF λavs V Z X=>Q6 X avs V
theorem td3_ok:M0 ⟨true,[23],[(39,Aw)],[],[]⟩ Ee .new 1 6 fB3:=by
 refine .specF λy V K X h=>Q6.casesOn h λt P m v w hz d=>⟨rfl,?_⟩;show Ch Aw (some 4) [Au t P,v] (aH 6 .no) (λa Aa=>_) (λe τ=>X e (bZ 0 τ));exact hz.2.2.nol.own2 (.bad t P m v hz d)
theorem NoL.own2'{mu:Option Nat}{fs:List (Str×AV)}{v w:AV}{V:LS}{K:KV}{X:XL}(o:NoL v)(u:NoL w)(h:f [.inst fs,v,w] [] (λr V'=>D1 mu r V K) (λc V'=>X c V)):Ch (specF f) mu [.inst fs,v,w] V K X :=
 ownW_no (show AN [v,w]=[] from (o [w]).1.trans (u []).1) (congrArg (AV.inst fs::·) (((o [w]).2 0).trans (congrArg (v::·) ((u []).2 0)))) h
theorem Ir(l:List AV):NoL (.list l):=λZ=>⟨rfl,λZ=>rfl⟩
inductive Q2(X:XL):List AV->LS->Prop
 |mk (t:AV)(P C:List Sp)(a:Sp)(m:Sp->Sp)(h:Sp->Int)(H:List (Sp×Sp))(v:AV)(i:Nat)(hi:i<13)(c0:Flr P C a/\Mt P m/\HT P m h/\Na P m H)(c1:Bad P m v)(c2:X 23 []):Q2 X [Au t P,.int i,v,.list (H.map pcA)] []
noncomputable def Hz:FS:=specF λavs V Z X=>Q2 X avs V
noncomputable abbrev tAs3:Tab:=⟨true,[23],[(41,fTl),(48,fB1),(55,fB1),(56,fB3),(57,fB2),(60,fB2),(61,fB2),(62,fB2),(69,fB1)],[],[]⟩
theorem MH:M0 tAs3 GG .val 0 0 Hz:=by
 refine .specF λavs V K X h=>Q2.casesOn h λt P C a m h H v i hi hz z d=>?_;have B:=z.nol;have Y:P.length<=36/\Mt P m/\Bad P m v:=⟨hz.1.few,hz.2.1,z⟩;have u:∀{mu K},Ch fB1 mu [Au t P,v] [] K (λe τ=>X e (bZ 0 τ)):=λ{mu K}=>B.own2 ⟨t,P,m,v,Y,d⟩;have T:∀{mu K},Ch fB2 mu [Au t P,v,.list (H.map pcA)] [] K (λe τ=>X e (bZ 0 τ)):=λ{mu K}=>B.own2' (Ir _) (.one t P m v _ Y d);have O:∀{mu K},Ch fB2 mu [Au t P,.list (H.map pcA),v] [] K (λe τ=>X e (bZ 0 τ)):=λ{mu K}=>(Ir _).own2' B (.two t P C a m h H v hz z d);have U:∀{mu K},Ch fTl mu [Au t P,v] [] K (λe τ=>X e (bZ 0 τ)):=λ{mu K}=>B.own2 (QS.bad t P m v Y d);have y:∀{mu K},Ch fB3 mu [Au t P,v,sp (0,0)] [] K (λe τ=>X e (bZ 0 τ)):=λ{mu K}=>B.own2' (λZ=>⟨rfl,λZ=>rfl⟩) (Q6.mk t P m v _ Y d);exact upN i 13 hi ⟨⟨rfl,U⟩,⟨rfl,u⟩,⟨rfl,u⟩,⟨rfl,y⟩,⟨rfl,⟨by decide,by decide⟩,_,rfl,⟨by decide,by decide⟩,_,rfl,T⟩,⟨rfl,⟨by decide,by decide⟩,_,rfl,⟨by decide,by decide⟩,_,rfl,O⟩,⟨rfl,⟨by decide,by decide⟩,_,rfl,⟨by decide,by decide⟩,_,rfl,T⟩,⟨rfl,⟨by decide,by decide⟩,_,rfl,⟨by decide,by decide⟩,_,rfl,O⟩,⟨rfl,⟨by decide,by decide⟩,_,rfl,⟨by decide,by decide⟩,_,rfl,T⟩,⟨rfl,⟨by decide,by decide⟩,_,rfl,⟨by decide,by decide⟩,_,rfl,O⟩,⟨rfl,⟨by decide,by decide⟩,_,rfl,⟨by decide,by decide⟩,_,rfl,T⟩,⟨rfl,⟨by decide,by decide⟩,_,rfl,⟨by decide,by decide⟩,_,rfl,O⟩,⟨rfl,u⟩,trivial⟩
inductive QN(K:KR):List AV->LS->Prop
 |mk (t:AV)(P C:List Sp)(a:Sp)(m:Sp->Sp)(h:Sp->Int)(H:List (Sp×Sp))(v:AV)(i:Nat)(hi:i<13)(c0:Flr P C a/\Mt P m/\HT P m h/\Na P m H)(c1:Bad P m v)(c2:K ⟨[],.val (.bool true)⟩ []):QN K [Au t P,.int i,v,.list (H.map pcA)] []
noncomputable def fRef3:FS:=specF λavs V K Z=>QN K avs V
theorem NoL.own4{f:List AV->LS->KR->XL->Prop}{mu:Option Nat}{fs:List (Str×AV)}{i:Int}{v:AV}{l:List AV}{K:KV}{X:XL}(o:NoL v)(h:f [.inst fs,.int i,v,.list l] [] (λr V'=>D1 mu r V K) (λc V'=>X c V)):Ch (specF f) mu [.inst fs,.int i,v,.list l] V K X :=
 ownW_no (show AN [v,.list l]=[] from (o _).1) (congrArg (AV.inst fs::.int i::·) ((o [.list l]).2 0)) h
theorem Ha(y:List AV)(V:LS)(K:KR)(X:XL)(h:fRef3.spec y V K X):∃rs,tryW ⟨true,[23,18],[(101,Hz)],[],[]⟩ ⟨false,exs,[(79,Me 23 4)],[],[]⟩ Ef (.call (.g 101) [.v 0,.v 1,.v 2,.v 3]) 18 4 [.ret (.call (.g 79) [.v 4,.int 4])] rs 1 1 y V K:=by
 refine QN.casesOn h λt P C a m h H v i hi hz z U=>⟨.val,rfl,?_⟩;show Ch Hz aa [Au t P,.int i,v,.list (H.map pcA)] [.no] (λa Aa=>False) (λc τ=>(isXc [23,18] c && J5 c 18)=true/\wpSs _ [.ret (.call (.g 79) [.v 4,.int 4])] BV (Ff ([some (Au t P),some (.int i),some v,some (.list (H.map pcA))]++[aa]) 4 (.exc c)) τ (λfl Z B=>retF fl λv=>retW .val 0 v B K));exact z.nol.own4 ⟨t,P,C,a,m,h,H,v,i,hi,hz,z,rfl,U⟩
end
section
theorem Fk(x y:Int)(h:((x=0/\y=-1)\/(x=-1/\y=0)\/(x=1/\y=0)\/(x=0/\y=1))->False):(k.1+x,k.2+y)∉A3 k:=λz=>by
 have:=DV z
 generalize ek:(k.1+x,k.2+y)=c at this
 induction this using Near.casesOn with|u=>refine Aq (cE ek) λB e2=>?_;exact h (.inl ⟨by clear e2;exact ah (lin [] [k.fst,x] (.f V1 K0) [.h (.A V0 V1) V0] rfl B) (lin [] [k.fst,x] (.f K0 V1) [.H (-1) (.A V0 V1) V0] rfl B),by clear B;exact ah (lin [] [k.snd,y] (.f V1 Km1) [.h (.A V0 V1) (.S V0 K1)] rfl e2) (lin [] [k.snd,y] (.f Km1 V1) [.H (-1) (.A V0 V1) (.S V0 K1)] rfl e2)⟩)|l=>refine Aq (cE ek) λB e2=>?_;exact h (.inr (.inl ⟨by clear e2;exact ah (lin [] [k.fst,x] (.f V1 Km1) [.h (.A V0 V1) (.S V0 K1)] rfl B) (lin [] [k.fst,x] (.f Km1 V1) [.H (-1) (.A V0 V1) (.S V0 K1)] rfl B),by clear B;exact ah (lin [] [k.snd,y] (.f V1 K0) [.h (.A V0 V1) V0] rfl e2) (lin [] [k.snd,y] (.f K0 V1) [.H (-1) (.A V0 V1) V0] rfl e2)⟩))|r=>refine Aq (cE ek) λB e2=>?_;exact h (.inr (.inr (.inl ⟨by clear e2;exact ah (lin [] [k.fst,x] (.f V1 K1) [.h (.A V0 V1) (.A V0 K1)] rfl B) (lin [] [k.fst,x] (.f K1 V1) [.H (-1) (.A V0 V1) (.A V0 K1)] rfl B),by clear B;exact ah (lin [] [k.snd,y] (.f V1 K0) [.h (.A V0 V1) V0] rfl e2) (lin [] [k.snd,y] (.f K0 V1) [.H (-1) (.A V0 V1) V0] rfl e2)⟩)))|d=>refine Aq (cE ek) λB e2=>?_;exact h (.inr (.inr (.inr ⟨by clear e2;exact ah (lin [] [k.fst,x] (.f V1 K0) [.h (.A V0 V1) V0] rfl B) (lin [] [k.fst,x] (.f K0 V1) [.H (-1) (.A V0 V1) V0] rfl B),by clear B;exact ah (lin [] [k.snd,y] (.f V1 K1) [.h (.A V0 V1) (.A V0 K1)] rfl e2) (lin [] [k.snd,y] (.f K1 V1) [.H (-1) (.A V0 V1) (.A V0 K1)] rfl e2)⟩)))
theorem cut_at(e:H[j]?=some q):H.take j++q::H.drop (j+1)=H:=by
 refine X1p (dz.mp e) λy z=>?_;rw[<- z,List.getElem_cons_drop,List.take_append_drop]
inductive Wr(P:List Sp)(m:Sp->Sp)(H:List (Sp×Sp))(d r:List (Sp×Sp))(q:Sp×Sp):Nat->AV->Prop
 |k0:Wr P m H d r q 0 (.list (d.map pcA++r.map pcA))
 |k1:Wr P m H d r q 1 (.list (H.map pcA++[pcA q]))
 |k2:Wr P m H d r q 2 (.list (H.map pcA++[pcA (q.2,q.1)]))
 |it (i:Nat)(b:AV)(h:Pce P b false)(hn:M4 3 b):Wr P m H d r q i (.list ((d.map pcA++[b])++r.map pcA))
 |tu (i:Nat):Wr P m H d r q i (.tup (H.map pcA))
 |no (i:Nat):Wr P m H d r q i .none
theorem Part.mid(h:Part P m (d++q::r)):Part P m (d++r):=by
 refine⟨λx u=>h.at_ x ((aJ.mp u).elim (λz=>aU _ z) λz=>aM _ (.tail _ z)),?_⟩
 have:=h.nd
 rw[BG]at this ⊢;have this:(Bl d++([q.1,q.2]++Bl r)).Nodup:=this;exact Bm (bn.mp this) λa b c=>bn.mpr ⟨a,(bn.mp b).2.1,λx u y B=>c x u y (aM _ B)⟩
theorem Wr.bad(h:Wr P m H d r q i v)(nP:P.Nodup)(M:Mt P m)(u:Na P m H)(e:d++q::r=H):Bad P m v:=by
 have B:=u.part;have hq:q∈H:=by rw[<- e];exact aM _ (.head _)
 refine Aq (u.at_ q hq) λT q2=>Aq (M _ T) λO n2=>?_;rw[<- q2]at O;refine Bm (nbP_mem.mp O) λZ Y U=>?_;have c1:q.1∈Bl H:=(u.mem _).mpr T;have c2:q.2∈Bl H:=(u.mem _).mpr U
 induction h using Wr.casesOn with
 |k0 =>
  have hm:Part P m (d++r):=Part.mid (q:=q) (by rwa [e])
  rw[<- aQ];refine .short _ hm λz=>?_;have y:=same_length u.nd nP u.mem;rw[<- e,BG]at y;have y:(Bl d++([q.1,q.2]++Bl r)).length=P.length:=y;rw[BG]at z;rw[an,an]at y;rw[an]at z
  have:[q.1,q.2].length=2:=rfl
  exact lin [(Bl d).length,(Bl r).length,P.length,[q.fst,q.snd].length] [] .no [.D (-1) (.A V0 V1) V2,.d (.A V0 (.A V3 V1)) V2,.D (-1) V3 K2] rfl z y this
 |k1=>exact .twice H q [] B (.good q T U Y) c1
 |k2=>exact .twice H (q.2,q.1) [] B (.good _ U T (B3 Y)) c2
 |it i b hb hn =>
  rw[aG];exact .item d b _ (Part.pre (by rwa [e])) hb
 |tu i=>exact .tup _
 |no i=>exact .none
def NiceW(v:AV):Prop:=M4 5 v/\(v=.none\/(∃l,v=.tup l)\/∃l,v=.list l/\l.length<=100)
inductive QW(K:KR):List AV->LS->Prop
 |mk (P:List Sp)(m:Sp->Sp)(H:List (Sp×Sp))(n:Int)(c0:P.length<=36/\P.Nodup/\Mt P m/\Na P m H/\H≠[])(c1:∀v,Bad P m v->NiceW v->K ⟨[],.val v⟩ []):QW K [.list (H.map pcA),.int n] []
noncomputable def fWrong:FS:=specF λavs V K Z=>QW K avs V
theorem covL_len:∀H:List (Sp×Sp),(Bl H).length=2 * H.length
 |[]=>rfl
 |q::r=>by
  have:=covL_len r
  show (q.1::q.2::Bl r).length=_;rw[aL,aL,aL,this];exact ax (lin [r.length] [] (.b (.A (.A (.M 2 V0) K1) K1) (.M 2 (.A V0 K1))) [] rfl) (lin [r.length] [] (.b (.M 2 (.A V0 K1)) (.A (.A (.M 2 V0) K1) K1)) [] rfl)
theorem M4.pc(q:Sp×Sp):M4 2 (pcA q):=M4.tup λx u=>by
 rcases aA.mp u with z|z
 .rw[z];exact M4.sp _
 .rw[aD.mp z];exact M4.sp _
theorem NiceW.list(h:∀x∈l,M4 4 x)(Y:l.length<=100):NiceW (.list l):=⟨M4.list h,.inr (.inr ⟨l,rfl,Y⟩)⟩
theorem BF(H:List (Sp×Sp)):∀x∈H.map pcA,M4 4 x:=λx u=>by
 refine X1pp (aY.mp u) λq Z e=>?_;rw[<- e];exact(M4.pc q).mono (by decide)
theorem Wr.nice(h:Wr P m H d r q i v)(y:H.length<=18)(O:d.length<=18)(U:r.length<=18):NiceW v:=by
 induction h using Wr.casesOn with|k0=>exact .list (λx u=>(aJ.mp u).elim (BF d x) (BF r x)) (by rw[an,aj,aj];exact lin [d.length,r.length] [] (.b (.A V0 V1) FR) [.b V0 K18,.b V1 K18] rfl O U)|k1=>exact .list (λx u=>(aJ.mp u).elim (BF H x) λz=>by rw[aD.mp z];exact(M4.pc q).mono (by decide)) (by rw[an,aj,bz];exact lin [H.length] [] (.b (.A V0 K1) FR) [.b V0 K18] rfl y)|k2=>exact .list (λx u=>(aJ.mp u).elim (BF H x) λz=>by rw[aD.mp z];exact(M4.pc _).mono (by decide)) (by rw[an,aj,bz];exact lin [H.length] [] (.b (.A V0 K1) FR) [.b V0 K18] rfl y)|it i b B T=>exact .list (λx u=>(aJ.mp u).elim (λu=>(aJ.mp u).elim (BF d x) λz=>by rw[aD.mp z];exact T.mono (by decide)) (BF r x)) (by rw[an,an,aj,aj,bz];exact lin [d.length,r.length] [] (.b (.A (.A V0 K1) V1) FR) [.b V0 K18,.b V1 K18] rfl O U)|tu i=>exact⟨M4.tup (BF H),.inr (.inl ⟨_,rfl⟩)⟩|no i=>exact⟨M4.none.mono (by decide),.inl rfl⟩
theorem MM(l:List Sp):∀x∈l.map sp,M4 2 x:=λx u=>by
 refine X1pp (aY.mp u) λq Z e=>?_;rw[<- e];exact(M4.sp q).mono (by decide)
theorem ML(h:M4 2 a)(h':M4 2 b):∀x∈[a,b],M4 2 x:=λx u=>(aA.mp u).elim (λz=>z▸h) λz=>aD.mp z▸h'
theorem HW(h:M4 0 a)(h':M4 0 b):∀x∈[a,b],M4 0 x:=λx u=>(aA.mp u).elim (λz=>z▸h) λz=>aD.mp z▸h'
theorem far0(k:Sp):k∉A3 k:=by simpa using Fk (k:=k) 0 0 (by decide)
theorem far2(k:Sp):(k.1+2,k.2)∉A3 k:=by simpa using Fk (k:=k) 2 0 (by decide)
noncomputable abbrev tWr:Tab:=⟨true,[],[],[],[]⟩
theorem wrong_go{K:KR}(lL:L.length<=18)(U:A.length<=18)(lB:B.length<=18)(kk:0<=k/\k<1000000)(eL:L[k.toNat]?=some (pcA q))(w0:K ⟨[],.val (.list (A++B))⟩ [])(w1:K ⟨[],.val (.list (L++[pcA q]))⟩ [])(w2:K ⟨[],.val (.list (L++[pcA (q.2,q.1)]))⟩ [])(w9:K ⟨[],.val (.tup L)⟩ [])(z:K ⟨[],.val .none⟩ [])
  (d:∀b,Pce P b false->M4 3 b->K ⟨[],.val (.list ((A++[b])++B))⟩ []):wpSs tWr (c_lwrong.body.drop 4) X [some (.list L),some (.int n),some (.int k),some (sp q.1),some (sp q.2),some (.list A),some (.list B),aa] [.no,.no,.no,.no,.no] (λfl Z τ=>retW .val 0 (flV fl) τ K):=by
 have T:A.length+B.length<=big:=An (by exact lin [A.length,B.length] [] (.b (.A V0 V1) AL) [.b V0 K18,.b V1 K18] rfl U lB)
 have O:L.length+1<=big:=An (by exact lin [L.length] [] (.b (.A V0 K1) AL) [.b V0 K18] rfl lL)
 have u:A.length+1<=big:=An (by exact lin [A.length] [] (.b (.A V0 K1) AL) [.b V0 K18] rfl U)
 have Y:∀b,(A++[b]).length+B.length<=big:=λb=>An (by rw[an,bz];exact lin [A.length,B.length] [] (.b (.A (.A V0 K1) V1) AL) [.b V0 K18,.b V1 K18] rfl U lB)
 refine⟨T,kk,pcA q,eL,O,O,u,Y _,λa=>⟨u,Y _,u,Y _,rfl,An (aP rfl),λa=>⟨u,Y _,u,Y _,u,Y _,rfl,An (aP rfl),λa=>⟨An (by exact lin [L.length] [] (.b V0 AL) [.b V0 K18] rfl lL),An (aP rfl),u,Y _,u,Y _,rfl,An (aP rfl),λa=>?_⟩⟩⟩⟩
 have m0:0<=n.fmod 14:=fK _ (by decide)
 have y:n.fmod 14<14:=gT _ (by decide)
 exact⟨rfl,u,Y _,rfl,An (aP rfl),rfl,⟨m0,by exact lin [] [n.fmod 14] (.g V0 AC) [.g V0 K14] rfl y⟩,upN (n.fmod 14).toNat 14 (by exact lin [(n.fmod 14).toNat] [n.fmod 14] (.c V0 K14) [.g V0 K14,.h (.c V0) V0] rfl y (ao (lin [] [n.fmod 14] (.f K0 V0) [.f K0 V0] rfl m0))) ⟨⟨_,rfl,w0⟩,⟨_,rfl,w1⟩,⟨_,rfl,w2⟩,⟨_,rfl,d _ (.far (q.1,q.1) (far0 _)) ((M4.pc (q.1,q.1)).mono (by decide))⟩,⟨_,rfl,d _ (.far (q.1,(q.1.1+2,q.1.2)) (far2 _)) ((M4.pc (q.1,(q.1.1+2,q.1.2))).mono (by decide))⟩,⟨_,rfl,d _ (.far (q.1,(q.1.1 - 1,q.1.2 - 1)) (Fk (-1) (-1) (by decide))) ((M4.pc (q.1,(q.1.1 - 1,q.1.2 - 1))).mono (by decide))⟩,⟨_,rfl,d _ (.three _ _ _) (M4.tup (MM [q.1,q.2,q.1]))⟩,⟨_,rfl,d _ (.one _) (M4.tup (MM [q.1]))⟩,⟨_,rfl,d _ (.list _) (M4.list (MM [q.1,q.2]))⟩,⟨_,rfl,w9⟩,⟨_,rfl,z⟩,⟨_,rfl,d _ (.odd _ _ (.list _)) (M4.tup (ML ((M4.list (HW (.int _) (.int _))).mono (by decide)) ((M4.sp _).mono (by decide))))⟩,⟨_,rfl,d _ .none (M4.none.mono (by decide))⟩,⟨_,rfl,d _ (.odd _ _ (.bi _ _)) (M4.tup (ML ((M4.tup (HW (.bool _) (.int _))).mono (by decide)) ((M4.sp _).mono (by decide))))⟩,trivial⟩⟩
theorem J6{K:KR}(hz:P.length<=36/\P.Nodup/\Mt P m/\Na P m H)(O:H.length<=18)(z:j<H.length)(hK:∀v,Bad P m v->NiceW v->K ⟨[],.val v⟩ []) :
  wpSs tWr (c_lwrong.body.drop 1) X [some (.list (H.map pcA)),some (.int n),some (.int j),aa,aa,aa,aa,aa] [.no,.no,.no,.no,.no] (λfl Z τ=>retW .val 0 (flV fl) τ K):=by
 obtain⟨hP,u,M,hH⟩:=hz;obtain⟨q,hq⟩:∃q,H[j]?=some q:=⟨_,aI z⟩;have Y:(H.map pcA).length<=18:=by rwa [aj]
 have T:(H.map pcA)[j]?=some (pcA q):=by rw[a9,hq];rfl
 have kk:(0:Int)<=j/\(j:Int)<1000000:=by exact⟨lin [j] [] (.f K0 (.c V0)) [] rfl,lin [H.length,j] [] (.g (.c V1) AC) [.b V0 K18,.c V1 V0] rfl O z⟩
 have c1:cut (H.map pcA) .none (.int j)=some ((H.take j).map pcA):=by
  rw[List.map_take];rfl
 have c2:cut (H.map pcA) (.int ((j:Int)+1)) .none=some ((H.drop (j+1)).map pcA):=by
  rw[List.map_drop];rfl
 have U:(H.take j).length<=18:=by rw[eJ];exact aw (fU _ _) O
 have d:(H.drop (j+1)).length<=18:=by rw[iA];exact aw (eY _ _) O
 have y:∀i v,Wr P m H (H.take j) (H.drop (j+1)) q i v->K ⟨[],.val v⟩ []:=λi v w=>hK v (w.bad u M hH (cut_at hq)) (w.nice O U d);have B:(H.map pcA).length<=big:=An (aw Y (by decide))
 exact⟨kk,pcA q,T,_,B,c1,_,B,c2,wrong_go Y (by rwa [aj]) (by rw[aj];exact d) kk T (y _ _ .k0) (y _ _ .k1) (y _ _ .k2) (y _ _ (.tu 9)) (y _ _ (.no 10)) λb hb hn=>y _ _ (.it 0 b hb hn)⟩
theorem wrong_ok:M0 tWr c_lwrong .val 6 5 fWrong:=by
 refine .specF λavs V K X h=>QW.casesOn h λP m H n hz hK=>?_;obtain⟨T,B,M,u,ne⟩:=hz;have y:=u.len T;have O:0<H.length:=List.length_pos_iff.mpr ne;have Y:(H.map pcA).length=H.length:=aj _;have k0:0<=(n.fdiv 14).fmod ((H.map pcA).length:Int):=fK _ (by exact lin [H.length,(gV pcA H).length] [] (.g K0 (.c V1)) [.c K0 V0,.D (-1) V1 V0] rfl O Y)
 have k1:(n.fdiv 14).fmod ((H.map pcA).length:Int)<((H.map pcA).length:Int):=gT _ (by exact lin [H.length,(gV pcA H).length] [] (.g K0 (.c V1)) [.c K0 V0,.D (-1) V1 V0] rfl O Y)
 obtain⟨j,U⟩:=bY k0;refine⟨rfl,An (by exact lin [H.length,(gV pcA H).length] [] (.b V1 AL) [.b V0 K18,.d V1 V0] rfl y Y),(by exact λz=>lin [(gV pcA H).length] [(n.fdiv 14).fmod ↑(gV pcA H).length] .no [.f K0 V0,.g V0 (.c V0),.h (.c V0) K0] rfl k0 k1 z),?_⟩
 rw[U]at k1 ⊢;exact J6 ⟨T,B,M,u⟩ y (by exact lin [(gV pcA H).length,H.length,j] [] (.c V2 V1) [.d V0 V1,.g (.c V2) (.c V0)] rfl Y k1) hK
end
section
noncomputable abbrev Fb:Tab:=⟨true,[],[(88,IL),(87,fDrawn),(72,fAt),(29,fFloor),(92,Mc),(41,fTl),(90,fTold),(82,fWrong),(103,fRef3)],[],[]⟩
inductive QI(K:KR):List AV->LS->Prop
 |mk (l:List Int)(c0:l.length<=63)(c1:K ⟨[],.val (.bool true)⟩ []):QI K [.nums l] []
noncomputable def fLaw3:FS:=specF λavs V K X=>QI K avs V
theorem Ic(l:List (Al×Al)):M4 5 (.list (l.map pcA)):=M4.list (BF l)
noncomputable def l3M(l:List Int)(G:Gr)(D:List (Al×AV))(H:List (Sp×Sp))(c:Int)(a4:Addr)(x8 x9 x10 x11:Option AV):M:=[some (.nums l),some (.list (AB G)),some (.dict D),some (Au (.list (AB G)) (Ae G)),some (.list (H.map pcA)),some (.int c),some (.list (H.map pcA)),some (.loc a4 4),x8,x9,x10,x11]
noncomputable def l3S(a4:Addr)(L:List AV)(a8:Addr)(t:L4):LS:=[.no,.no,.no,.no,.at a4 (.list L),.no,.no,.no,.at a8 t]
section
variable {l:List Int}{G:Gr}{C Ks:List Sp}{a:Sp}{m:Sp->Sp}{h:Sp->Int}{H:List (Sp×Sp)}{a4 a8:Addr}{t:L4}{X:XL}{KK:KS}{c:Int}{v:AV}{x8 x9 x10 x11:Option AV}
inductive L3J(l:List Int)(G:Gr)(D:List (Al×AV))(H:List (Sp×Sp))(c:Int)(a4 a8:Addr)(t:L4)(v:AV)(x9:Option AV)(d r:List Int):M->LS->Prop
 |mk (x11:Option AV)(hd:d++r=ivs 0 13):L3J l G D H c a4 a8 t v x9 d r (l3M l G D H c a4 (some v) x9 (some v) x11) (l3S a4 [] a8 t)
theorem Lx(F:Flr (Ae G) C a)(L:Lyd (Ae G) Ks m h)(g:Na (Ae G) m H)(T:Bad (Ae G) m v)(O:NiceW v)(hK:∀m V,KK (.ret (.bool true)) m V) :
  wpSs Fb (c_law3.body.drop 16) X (l3M l G (fD (spm m) Ks) H c a4 (some v) x9 (some v) x11) (l3S a4 [] a8 t) KK:=by
 refine⟨B2 (by decide) (by decide) (by decide) (by decide),AY (r:=ivs 0 13) (g:=.int) (H7 13) (L3J l G (fD (spm m) Ks) H c a4 a8 t v x9) (λd m' τ j=>?_) (λd y r m' τ j CC hC=>?_) (d:=[]) (.mk _ rfl)⟩
 .refine L3J.casesOn j λx11 z=>?_
  have B:(wp Fb (.cmp .Eq (.call (.g 41) [.v 3,.v 4]) (.call (.g 90) [.v 2])) X).v aa (l3M l G (fD (spm m) Ks) H c a4 (some v) x9 (some v) x11) (l3S a4 [] a8 t) (λa Aa=>KK (.ret a) (l3M l G (fD (spm m) Ks) H c a4 (some v) x9 (some v) x11) Aa) :=
   .good (.list (AB G)) (Ae G) m H ⟨F.few,A7 F.up,L.mt,g⟩ ⟨Ae G,Ks,m,h,rfl,rfl,⟨F.few,F.up,L⟩,true,(Ic _).eq (by decide),hK _ _⟩
  refine Aq O λU k5=>?_;have Y:=U.eq (by decide)
  rcases k5 with rfl|⟨l',rfl⟩|⟨l',rfl,_⟩
  .exact⟨true,Y,B⟩
  .exact⟨true,Y,B⟩
  .exact⟨true,Y,B⟩
 .refine L3J.casesOn (motive:=λm' τ Z=>patW true (.v 11) (.int y) m' (λAp=>wpSs Fb [.ite (.not (.call (.g 103) [.v 3,.v 11,.v 10,.v 4])) [.ret (.bool false)] []] X Ap τ (DX aa τ CC _))) j λx11 z=>?_
  have u:=ivs_mem.mp (show y∈ivs 0 13 by rw[<- z];exact aM _ (.head _))
  obtain⟨i,hi,rfl⟩:∃i:Nat,i<13/\y=i:=⟨y.toNat,lin [y.toNat] [y] (.c V0 K13) [.g V0 (.A K0 (.c K13)),.h (.c V0) V0] rfl u.2 (ao (lin [] [y] (.f K0 V0) [.f K0 V0] rfl u.1)),ah (lin [y.toNat] [y] (.f V0 (.c V0)) [.f V0 (.c V0)] rfl (aK y)) (lin [y.toNat] [y] (.f (.c V0) V0) [.h (.c V0) V0] rfl (ao (lin [] [y] (.f K0 V0) [.f K0 V0] rfl u.1)))⟩;show Ch fRef3 aa [Au (.list (AB G)) (Ae G),.int i,v,.list (H.map pcA)] (l3S a4 [] a8 t) _ X;exact T.nol.own4 ⟨.list (AB G),Ae G,C,a,m,h,H,v,i,hi,⟨F,L.mt,L.ht,g⟩,T,hC _ _ (.mk _ (by rwa [aG]))⟩
theorem Lw(F:Flr (Ae G) C a)(L:Lyd (Ae G) Ks m h)(g:Na (Ae G) m H)(ne:H≠[])(U:∀m V,KK (.ret (.bool true)) m V) :
  wpSs Fb (c_law3.body.drop 14) X (l3M l G (fD (spm m) Ks) H c a4 x8 x9 x10 x11) (l3S a4 [] a8 t) KK:=by
 refine⟨Ae G,m,H,c.fdiv 3,⟨F.few,A7 F.up,L.mt,g,ne⟩,λv z O=>?_⟩;have T:=Lx (l:=l) (a4:=a4) (a8:=a8) (t:=t) (X:=X) (c:=c) (x9:=x9) (x11:=x11) F L g z O U
 rcases O.2 with rfl|⟨l',rfl⟩|⟨l',rfl,Y⟩
 .exact T
 .exact T
 .exact⟨_,An (lin [l'.length] [] (.b V0 AL) [.b V0 FR] rfl Y),rfl,T⟩
structure L3(l:List Int)(G:Gr)(C Ks:List Sp)(a:Sp)(m:Sp->Sp)(h:Sp->Int)(H:List (Sp×Sp)):Prop where
 hl:l.length<=1000
 F:Flr (Ae G) C a
 L:Lyd (Ae G) Ks m h
 g:Na (Ae G) m H
theorem F5(H:List (Al×Al)):EqP (.list (H.map pcA)) (.list (H.map pcA)) true:=(Ic H).eq (by decide)
theorem Flr.lay(F:Flr (Ae G) C a)(m:Sp->Sp):((CK (Ae G) m).map pcA).length<=big:=An (by rw[aj];exact aw (Is (Ae G) m) (aw F.few (by decide)))
theorem L3.gd(W:L3 l G C Ks a m h H):(Ae G).length<=36/\(Ae G).Nodup/\Mt (Ae G) m/\Na (Ae G) m H:=⟨W.F.few,A7 W.F.up,W.L.mt,W.g⟩
theorem law3_c(W:L3 l G C Ks a m h H)(U:∀m V,KK (.ret (.bool true)) m V) :
  wpSs Fb (c_law3.body.drop 12) X (l3M l G (fD (spm m) Ks) H c a4 x8 x9 aa aa) (l3S a4 [] a8 t) KK:=by
 refine .good (.list (AB G)) (Ae G) m H W.gd ⟨Ae G,Ks,m,h,rfl,rfl,⟨W.F.few,W.F.up,W.L⟩,true,F5 _,?_⟩;show ifW (c.fmod 3 == 0) _ _;refine ifB (λZ=>U _ _) λZ=>Lw W.F W.L W.g (λz=>(X1p W.F.ne λT Y=>?_)) U
 have:=(W.g.mem a).mpr (by rw[Y];exact .head _)
 rw[z]at this
 cases this
theorem law3_b(W:L3 l G C Ks a m h H)(Y:∀m V,KK (.ret (.bool true)) m V) :
  wpSs Fb (c_law3.body.drop 9) X (l3M l G (fD (spm m) Ks) H c a4 (some (.list ((CK (Ae G) m).map pcA))) aa aa aa) (l3S a4 ((CK (Ae G) m).map pcA) a8 t) KK:=by
 exact⟨l,6,rfl,W.hl,rfl,Ae G,C,a,Ks,m,h,l.getD 6 0,9,rfl,rfl,⟨W.F,W.L,by decide,by decide⟩,λU z y=>⟨l,7,rfl,W.hl,rfl,Ae G,Ks,U,z,l.getD 7 0,rfl,rfl,⟨W.F.few,W.F.up,y⟩,λB T=>(.good (.list (AB G)) (Ae G) U B ⟨W.F.few,A7 W.F.up,y.mt,T⟩ ⟨Ae G,Ks,U,z,rfl,rfl,⟨W.F.few,W.F.up,y⟩,true,F5 _,rfl,true,F5 _,rfl,W.F.lay _,law3_c W Y⟩)⟩⟩
theorem law3_a(W:L3 l G C Ks a m h H)(U:∀m V,KK (.ret (.bool true)) m V) :
  wpSs Fb (c_law3.body.drop 5) X [some (.nums l),some (.list (AB G)),some (.dict (fD (spm m) Ks)),some (Au (.list (AB G)) (Ae G)),some (.list (H.map pcA)),some (.int c),aa,aa,aa,aa,aa,aa] [.no,.no,.no,.no,.no,.no,.no,.no,.at a8 t] KK:=by
 have y:(H.map pcA).length<=big:=An (by rw[aj];exact aw (W.g.len W.F.few) (by decide))
 exact⟨y,.good (.list (AB G)) (Ae G) m H W.gd λa4=>⟨rfl,Ae G,Ks,m,h,rfl,rfl,⟨W.F.few,W.F.up,W.L⟩,rfl,true,F5 _,true,F5 _,rfl,W.F.lay _,law3_b W U⟩⟩
end
theorem law3_ok:M0 Fb c_law3 .val 11 9 fLaw3:=by
 refine .specF λavs V K X h=>QI.casesOn h λl Y T=>?_;have Y:l.length<=1000:=by exact lin [l.length] [] (.b V0 AL) [.b V0 K63] rfl Y
 refine⟨rfl,l,rfl,rfl,Y,λG w Ks B O f L0=>(X1p f.flr λa F=>?_)⟩;have U:=Bn (a:=l.getD 3 0) (b:=61) (by decide)
 exact⟨l,2,rfl,Y,rfl,l,3,rfl,Y,rfl,Ae G,_,a,Ks,B,O,l.getD 2 0,(l.getD 3 0).fmod 61,rfl,rfl,⟨F,L0,U.1,lin [] [(l.getD 3 0).fmod 61] (.f V0 AL) [.g V0 K61] rfl U.2⟩,λy d z=>⟨An (CQ f.g),λa8=>⟨a8,G,w,rfl,rfl,f,⟨l,4,rfl,Y,rfl,Ae G,Ks,y,d,l.getD 4 0,rfl,rfl,⟨F.few,F.up,z⟩,λH1 u=>⟨l,5,rfl,Y,rfl,law3_a ⟨Y,F,z,u⟩ λZ Z=>T⟩⟩⟩⟩⟩
end
section
noncomputable def D03:LawD:=⟨(29, "Floor")::(30, "is_whole")::(31, "is_spot")::(32, "order_of")::(33, "is_dark")::(34, "near_to")::(35, "spread_from")::(36, "are_rows")::(38, "is_piece")::(39, "partners_of")::(40, "laying_by")::(41, "told_laying")::(44, "hands_of")::(45, "sides_of")::(46, "first_corner")::(47, "heights_by")::(48, "heights_of")::(53, "corners_turning")::(55, "turns_of")::(56, "turned_at")::(57, "turns_apart")::(60, "way_between")::(61, "lower_of")::(62, "upper_of")::(69, "shown_text")::(72, "_law_cell_at")::(73, "_law_mixed")::(74, "_law_turned_rows")::(75, "_law_rows_by")::(85, "_law_pairs_flat")::(86, "_law_turn")::(87, "_law_drawn_pairs")::(88, "_law_floor_by")::(89, "_law_order")::(90, "_law_told")::(91, "_law_first")::(92, "_law_handed")::(78, "_law_marks")::(79, "_law_alone")::(82, "_law_wrong")::(101, "_law_asked")::(103, "_law_refused")::[],
 [(13, "around"),(15, "has"),(16, "cells"),(18, "corners")],
 (false, "is_whole",Mw,["thing"]) ::
 (false, "is_spot",c_spot,["thing"]) ::
 (false, "order_of",EU,["spot"]) ::
 (false, "is_dark",GH,["cell"]) ::
 (false, "near_to",c_near,["spot"]) ::
 (false, "spread_from",c_spread,["first", "some"]) ::
 (false, "are_rows",GI,["rows"]) ::
 (true, "__init__",c_Finit,["self", "rows"]) ::
 (true, "around",GJ,["self"]) ::
 (true, "has",My,["self", "place"]) ::
 (true, "cells",I7,["self"]) ::
 (true, "corners",E1,["self"]) ::
 (false, "is_piece",EY,["floor", "thing"]) ::
 (false, "partners_of",C3,["floor", "pieces"]) ::
 (false, "laying_by",Eh,["floor", "partners"]) ::
 (false, "told_laying",C1,["floor", "pieces"]) ::
 (false, "hands_of",EZ,["corner", "way"]) ::
 (false, "sides_of",ES,["floor"]) ::
 (false, "first_corner",Cv,["floor"]) ::
 (false, "heights_by",c_heights_by,["floor", "partners"]) ::
 (false, "heights_of",Dw,["floor", "pieces"]) ::
 (false, "corners_turning",BL,["floor", "partners"]) ::
 (false, "turns_of",ER,["floor", "pieces"]) ::
 (false, "turned_at",Ee,["floor", "pieces", "corner"]) ::
 (false, "turns_apart",C0,["floor", "one", "other"]) ::
 (false, "way_between",CZ,["floor", "one", "other"]) ::
 (false, "lower_of",EW,["floor", "one", "other"]) ::
 (false, "upper_of",EQ,["floor", "one", "other"]) ::
 (false, "shown_text",Dv,["floor", "pieces"]) ::
 (false, "_law_cell_at",EX,["_law_script", "_law_k"]) ::
 (false, "_law_mixed",I3,["_law_number", "_law_k"]) ::
 (false, "_law_turned_rows",Ct,["_law_rows"]) ::
 (false, "_law_rows_by",EV,["_law_cell", "_law_more", "_law_even"]) ::
 (false, "_law_pairs_flat",C4,["_law_rows", "_law_upright"]) ::
 (false, "_law_turn",c_lturn,["_law_pairs", "_law_corner"]) ::
 (false, "_law_drawn_pairs",Cu,["_law_pairs", "_law_number", "_law_many"]) ::
 (false, "_law_floor_by",c_lfloor_by,["_law_script"]) ::
 (false, "_law_order",I2,["_law_place"]) ::
 (false, "_law_told",Mx,["_law_pairs"]) ::
 (false, "_law_first",I5,["_law_piece"]) ::
 (false, "_law_handed",GF,["_law_pairs", "_law_number"]) ::
 (false, "_law_marks",I4,["_law_error"]) ::
 (false, "_law_alone",I6,["_law_error", "_law_place"]) ::
 (false, "_law_wrong",c_lwrong,["_law_pieces", "_law_cell"]) ::
 (false, "_law_asked",GG,["_law_floor", "_law_way", "_law_pieces", "_law_good"]) ::
 (false, "_law_refused",Ef,["_law_floor", "_law_way", "_law_pieces", "_law_good"]) ::
 (false, "law",c_law3,["_law_script"])::[],neL⟩
theorem D03_ok:D03.Ok:=⟨by decide +kernel,by decide +kernel,λZ h=>h,by decide +kernel,by decide +kernel⟩
theorem kyF_pure(x:AV)(p:Al)(h:kyF x=some p):(pureF keyF).pure [x]=some (sp p):=by
 refine X1pp (AF h) λk Y h=>?_;obtain rfl:=ae h;rw[spot?_out Y];rfl
theorem HP{K:Frag}{ex:List Nat}(h:ex.all (WK D03 []).U=true):ex.all (WK D03 K).U=true:=h
theorem Mf{K:Frag}:exs.all (WK D03 K).U=true:=HP (by decide +kernel)
theorem alone_at{S:Sta}(st:Eu D03 S.K)(B:S.cv=cvK D03 S.K)(G:Good S (WK D03 S.K)){k:Nat}:L2 S (WK D03 S.K) (k+2) ⟨false,exs,[(79,Me 23 4)],[],[]⟩:=by
 have O:=D03_ok;have u:false=true->S.hx=aa:=λh=>by exact nF h
 have d:=L2.of (k:=k) (q:=false) (ex:=exs) G u Mf (fn:=[]) (me:=[]) (ky:=[]) trivial trivial trivial;have U:=FnS.of (S:=S) O st B (i:=78) (af (i:=41) rfl) (by decide +kernel) marks_ok d
 have z:=L2.of (q:=false) (ex:=exs) G u Mf (fn:=[(78,Mb 23)]) (me:=[]) (ky:=[]) ⟨U,trivial⟩ trivial trivial;have y:=FnS.of (S:=S) O st B (i:=79) (af (i:=42) rfl) (by decide +kernel) alone_ok z
 exact L2.of G u Mf ⟨y,trivial⟩ trivial trivial
section
variable {S:Sta}
theorem law_call{l:List Int}(st:Eu D03 S.K)(B:S.cv=cvK D03 S.K)(G:Good S (WK D03 S.K))(hq:S.hx=aa)(hl:l.length<=63) :
  M1 S 10 (.ref (adr (ownV S.K "law"))) [.nums l] (Ax []) (OutF λr Z=>r=⟨[],.val (.bool true)⟩) (Up BV):=by
 have O:=D03_ok;have y:true=true->S.hx=aa:=λZ=>hq;have u:∀(k:Nat)(ex:List Nat),ex.all (WK D03 S.K).U=true->L2 S (WK D03 S.K) k ⟨true,ex,[],[],[]⟩:=λk ex hx=>L2.of G y hx trivial trivial trivial;have d:([]:List Nat).all (WK D03 S.K).U=true:=rfl;have whole:=FnS.of (S:=S) O st B (i:=30) (af (i:=0) rfl) (by decide +kernel) whole_ok (u 0 [] d)
 have spot:=FnS.of (S:=S) O st B (i:=31) (af (i:=1) rfl) (by decide +kernel) spot_ok (L2.of (k:=1) (ex:=[]) G y d ⟨whole,trivial⟩ trivial trivial)
 have ord:=FnS.of (S:=S) O st B (i:=32) (af (i:=2) rfl) (by decide +kernel) EE (u 0 [] d)
 have ky1:=KyS.of (S:=S) O st B (i:=32) (af (i:=2) rfl) (by decide +kernel) EE kyF_pure (u 0 [] d)
 have dark:=FnS.of (S:=S) O st B (i:=33) (af (i:=3) rfl) (by decide +kernel) dark_ok (u 0 [] d)
 have lord:=FnS.of (S:=S) O st B (i:=89) (af (i:=37) rfl) (by decide +kernel) Lo (u 0 [] d)
 have ky3:=KyS.of (S:=S) O st B (i:=91) (af (i:=39) rfl) (by decide +kernel) first_ok kyP_pure (L2.of (k:=1) (ex:=[]) G y d ⟨lord,trivial⟩ trivial trivial)
 have near:=FnS.of (S:=S) O st B (i:=34) (af (i:=4) rfl) (by decide +kernel) near_ok (u 0 [] d)
 have spread:=FnS.of (S:=S) O st B (i:=35) (af (i:=5) rfl) (by decide +kernel) Kj (L2.of (k:=1) (ex:=[]) G y d ⟨near,trivial⟩ trivial trivial)
 have arows:=FnS.of (S:=S) O st B (i:=36) (af (i:=6) rfl) (by decide +kernel) arows_ok (u 0 [28] (HP (by decide +kernel)))
 have around:=MeS.of (S:=S) st (n:=13) (af (i:=8) rfl) (by decide +kernel) MI (u 0 [] d)
 have floor:=FnS.make (S:=S) O st B (af (i:=7) rfl) (λZ=>rfl) rfl init_ok (L2.of (k:=2) (ex:=[28,19,20,21]) G y (HP (by decide +kernel)) ⟨arows.up (by decide),spread,trivial⟩ ⟨around.up (by decide),trivial⟩ trivial)
 have has_:=MeS.of (S:=S) st (n:=15) (af (i:=9) rfl) (by decide +kernel) has_ok (L2.of (k:=2) (ex:=[]) G y d ⟨spot,trivial⟩ trivial trivial)
 have has3:=MeS.of (S:=S) st (n:=15) (af (i:=9) rfl) (by decide +kernel) has3_ok (L2.of (k:=2) (ex:=[]) G y d ⟨spot,trivial⟩ trivial trivial)
 have cells:=MeS.of (S:=S) st (n:=16) (af (i:=10) rfl) (by decide +kernel) cells_ok (u 0 [] d)
 have corners:=MeS.of (S:=S) st (n:=18) (af (i:=11) rfl) (by decide +kernel) JQ (L2.of (k:=3) (ex:=[]) G y d trivial trivial ⟨ky1,trivial⟩)
 have piece:=FnS.of (S:=S) O st B (i:=38) (af (i:=12) rfl) (by decide +kernel) KO (L2.of (k:=3) (ex:=[]) G y d ⟨near.up (by decide),trivial⟩ ⟨has3,trivial⟩ trivial)
 have Y:=FnS.of (S:=S) O st B (i:=39) (af (i:=13) rfl) (by decide +kernel) F6 (L2.of (k:=4) (ex:=[23]) G y (HP (by decide +kernel)) ⟨piece,trivial⟩ ⟨cells.up (by decide),trivial⟩ trivial)
 have lay:=FnS.of (S:=S) O st B (i:=40) (af (i:=14) rfl) (by decide +kernel) lay_ok (L2.of (k:=1) (ex:=[]) G y d ⟨ord,trivial⟩ ⟨cells,trivial⟩ trivial)
 have tl:=FnS.of (S:=S) O st B (i:=41) (af (i:=15) rfl) (by decide +kernel) tl_ok (L2.of (k:=5) (ex:=[23]) G y (HP (by decide +kernel)) ⟨Y,lay.up (by decide),trivial⟩ trivial trivial)
 have hands:=FnS.of (S:=S) O st B (i:=44) (af (i:=16) rfl) (by decide +kernel) hands_ok (u 0 [] d)
 have sides:=FnS.of (S:=S) O st B (i:=45) (af (i:=17) rfl) (by decide +kernel) sides_ok (L2.of (k:=4) (ex:=[]) G y d ⟨hands.up (by decide),dark.up (by decide),trivial⟩ ⟨has_.up (by decide),corners,trivial⟩ trivial)
 have firstc:=FnS.of (S:=S) O st B (i:=46) (af (i:=18) rfl) (by decide +kernel) LZ (L2.of (k:=1) (ex:=[]) G y d trivial ⟨cells,trivial⟩ trivial)
 have hby:=FnS.of (S:=S) O st B (i:=47) (af (i:=19) rfl) (by decide +kernel) hby_ok (L2.of (k:=5) (ex:=[]) G y d ⟨sides,firstc.up (by decide),trivial⟩ ⟨has_.up (by decide),corners.up (by decide),trivial⟩ trivial)
 have hof:=FnS.of (S:=S) O st B (i:=48) (af (i:=20) rfl) (by decide +kernel) hof3_ok (L2.of (k:=6) (ex:=[23]) G y (HP (by decide +kernel)) ⟨Y.up (by decide),hby,trivial⟩ trivial trivial)
 have ct:=FnS.of (S:=S) O st B (i:=53) (af (i:=21) rfl) (by decide +kernel) no_ok (u 0 [] d)
 have tof:=FnS.of (S:=S) O st B (i:=55) (af (i:=22) rfl) (by decide +kernel) tof3_ok (L2.of (k:=5) (ex:=[23]) G y (HP (by decide +kernel)) ⟨Y,ct.up (by decide),trivial⟩ trivial trivial)
 have td:=FnS.of (S:=S) O st B (i:=56) (af (i:=23) rfl) (by decide +kernel) td3_ok (L2.of (k:=5) (ex:=[23]) G y (HP (by decide +kernel)) ⟨Y,trivial⟩ trivial trivial)
 have ta:=FnS.of (S:=S) O st B (i:=57) (af (i:=24) rfl) (by decide +kernel) ta3_ok (L2.of (k:=6) (ex:=[23]) G y (HP (by decide +kernel)) ⟨Y.up (by decide),hby,trivial⟩ trivial trivial)
 have wb:=FnS.of (S:=S) O st B (i:=60) (af (i:=25) rfl) (by decide +kernel) wb3_ok (L2.of (k:=6) (ex:=[23]) G y (HP (by decide +kernel)) ⟨Y.up (by decide),hby,trivial⟩ trivial trivial)
 have lo:=FnS.of (S:=S) O st B (i:=61) (af (i:=26) rfl) (by decide +kernel) lo3_ok (L2.of (k:=6) (ex:=[23]) G y (HP (by decide +kernel)) ⟨Y.up (by decide),hby,trivial⟩ trivial trivial)
 have up:=FnS.of (S:=S) O st B (i:=62) (af (i:=27) rfl) (by decide +kernel) up3_ok (L2.of (k:=6) (ex:=[23]) G y (HP (by decide +kernel)) ⟨Y.up (by decide),hby,trivial⟩ trivial trivial)
 have shown:=FnS.of (S:=S) O st B (i:=69) (af (i:=28) rfl) (by decide +kernel) st3_ok (L2.of (k:=5) (ex:=[23]) G y (HP (by decide +kernel)) ⟨Y,trivial⟩ trivial trivial)
 have cat:=FnS.of (S:=S) O st B (i:=72) (af (i:=29) rfl) (by decide +kernel) at_ok (u 0 [] d)
 have mixed:=FnS.of (S:=S) O st B (i:=73) (af (i:=30) rfl) (by decide +kernel) mixed_ok (u 0 [] d)
 have turned:=FnS.of (S:=S) O st B (i:=74) (af (i:=31) rfl) (by decide +kernel) Kc (u 0 [] d)
 have rowsby:=FnS.of (S:=S) O st B (i:=75) (af (i:=32) rfl) (by decide +kernel) Kx (L2.of (k:=1) (ex:=[]) G y d ⟨mixed,trivial⟩ trivial trivial)
 have pairs:=FnS.of (S:=S) O st B (i:=85) (af (i:=33) rfl) (by decide +kernel) pairs_ok (u 0 [] d)
 have floorby:=FnS.of (S:=S) O st B (i:=88) (af (i:=36) rfl) (by decide +kernel) JN (L2.of (k:=2) (ex:=[]) G y d ⟨cat.up (by decide),rowsby,pairs.up (by decide),turned.up (by decide),trivial⟩ trivial trivial)
 have turn:=FnS.of (S:=S) O st B (i:=86) (af (i:=34) rfl) (by decide +kernel) turn_ok (u 0 [] d)
 have drawn:=FnS.of (S:=S) O st B (i:=87) (af (i:=35) rfl) (by decide +kernel) drawn_ok (L2.of (k:=1) (ex:=[]) G y d ⟨mixed,turn,trivial⟩ trivial trivial)
 have told:=FnS.of (S:=S) O st B (i:=90) (af (i:=38) rfl) (by decide +kernel) told_ok (L2.of (k:=4) (ex:=[]) G y d ⟨lord.up (by decide),trivial⟩ trivial ⟨ky3,trivial⟩)
 have handed:=FnS.of (S:=S) O st B (i:=92) (af (i:=40) rfl) (by decide +kernel) LO (L2.of (k:=5) (ex:=[]) G y d ⟨mixed.up (by decide),told,trivial⟩ trivial trivial)
 have wrong:=FnS.of (S:=S) O st B (i:=82) (af (i:=43) rfl) (by decide +kernel) wrong_ok (u 0 [] d)
 have asked:=FnS.of (S:=S) O st B (i:=101) (af (i:=44) rfl) (by decide +kernel) MH (L2.of (k:=7) (ex:=[23]) G y (HP (by decide +kernel)) ⟨tl.up (by decide),hof,tof.up (by decide),td.up (by decide),ta,wb,lo,up,shown.up (by decide),trivial⟩ trivial trivial)
 have refused:=FnS.try_ (S:=S) O st B (i:=103) (af (i:=45) rfl) (by decide +kernel) Ha rfl rfl (L2.of (k:=8) (ex:=[23,18]) G y (HP (by decide +kernel)) ⟨asked,trivial⟩ trivial trivial) (λg' kk x hx=>alone_at (S:=S.grow g' kk x hx) st B G.grow) ⟨rfl,by decide,by decide⟩ (λZ=>rfl)
 have T:L2 S (WK D03 S.K) 9 Fb:=L2.of G y d ⟨floorby.up (by decide),drawn.up (by decide),cat.up (by decide),floor.up (by decide),handed.up (by decide),tl.up (by decide),told.up (by decide),wrong.up (by decide),refused,trivial⟩ trivial trivial
 exact D6 (V:=[]) T (JJ st (af (i:=46) rfl)) trivial (law3_ok.spec [.nums l] [] (λr Z=>r=⟨[],.val (.bool true)⟩) BV ⟨l,hl,rfl⟩) λok hs z=>CH ok hs z
end
end
section
noncomputable def keep03:List Nat:=[1,2,3,4,5,6,7,8,9,10,12,13,14,15,16,17,18,19,20,21,23,24,25,26,28,29,30,31,32,33,34,35,37,38,39,40,41,42,43,44,45,47,48,50,51,53,54,55,56,57,58,59,60,61,62,63,64,65,66,67,68,69,70]
noncomputable abbrev p03:dB:=PySem.Challenge.pw_uf010026_03
noncomputable def q03:dB:=view PySem.Challenge.pw_uf010026_03 keep03
noncomputable def Xt03(s:ag):Bool:=xlAt q03 [] s && recOk (RowW.records (OpenRow.toRowW (OpenLaw.row PySem.Challenge.rw_uf010026_03))) s
theorem opens:opening p03=plainProg p03.main.scope.names:=by kernel_rfl
theorem fence:∀s,fenceModules? p03 s=some s:=λs=>by kernel_rfl
theorem boots:∀P,absHeap (JV P) 11 {}=c5 P:=λP=>by kernel_rfl
theorem sizes:∀P,((c5 P).isNs bV,(c5 P).objs.size,(c5 P).nsMap bV "__annotations__")=(true,11,some (.ref 6)):=λP=>by kernel_rfl
noncomputable def Er(w:World)(os:OsState):Option SharedT:=goT (stepT (denote treeTable) p03 w) (stepOk 11 (some (.ref 6))) 9000 ⟨JV w.params,11,{},iO [],gQ,iC,os⟩ (topStub p03)
theorem ranA:∀w:World,(λos=>(Er w os).map λr=>(staticsOk (gt p03.main.body) (c5 w.params) r.abs.heap && namesBound p03 r.abs.heap && gensDone r.abs && laidKept (c5 w.params) r.abs.heap))=λZ=>some true:=λw=>by
 unfold Er;rw[b7,b8,b9,cq,e6]
 kernel_rfl
theorem ranB:∀w:World,(λos=>(Er w os).map λr=>openSeen q03 [] (gt p03.main.body) Xt03 true r.abs)=λZ=>some (openGood q03 []):=λw=>by
 unfold Er;rw[b7,b8,b9,cq,PySem.W.Fast.te4187177175401517315,e6]
 kernel_rfl
theorem ranC:∀w:World,(λos=>(Er w os).map λr=>Iq D03 (D3 r.abs.heap))=λZ=>some (aH 13 true):=λw=>by
 unfold Er;rw[b7,b8,b9,cq]
 kernel_rfl
theorem ranD:∀w:World,(λos=>(Er w os).map λr=>(FC D03 (D3 r.abs.heap)).map (GL (D3 r.abs.heap)))=λZ=>some ((FC D03 []).map λx=>some (some (some (G5 x.c.body)))):=λw=>by
 unfold Er;rw[b7,b8,b9,cq]
 kernel_rfl
theorem ranE:∀w:World,(λos=>(Er w os).map λr=>(FC D03 (D3 r.abs.heap)).map (GM (D3 r.abs.heap)))=λZ=>some ((FC D03 []).map El):=λw=>by
 unfold Er;rw[b7,b8,b9,cq]
 kernel_rfl
theorem DE{α β γ:Type}{o:Option α}{f:α->β}{g:α->γ}{a:β}{b:γ}(Y:o.map f=some a)(z:o.map g=some b):(o.map λr=>(f r,g r))=some (a,b):=by
 cases o with|none=>exact(Ak rfl Y).elim|some x=>rw[<- ae Y,<- ae z];rfl
theorem ran:∀w:World,(λos=>(goT (stepT (denote treeTable) p03 w) (stepOk 11 (some (.ref 6))) 9000 ⟨JV w.params,11,{},iO [],gQ,iC,os⟩ (topStub p03)).map λr=>seenT (c5 w.params) p03 q03 Xt03 (Gi D03).obs r.abs)=λZ=>some (true,openGood q03 [],(Gi D03).val w) :=
 λw=>funext λos=>DE (congrFun (ranA w) os) (DE (congrFun (ranB w) os) (DE (congrFun (ranC w) os) (DE (congrFun (ranD w) os) (congrFun (ranE w) os))))
noncomputable abbrev r03:OpenRow:=OpenLaw.row PySem.Challenge.rw_uf010026_03
theorem said03:PySem.Challenge.rw_uf010026_03.wellSaid=true:=by rw[PySem.W.Fast.te9446332074065402090];kernel_rfl
theorem def03:(defOf q03 r03.name).isSome=true:=by kernel_rfl
noncomputable def d03:DefRec×List (Str×Expr):=(defOf q03 r03.name).get def03
theorem fits:(chainsOk q03 && opensWell r03.prog && (frees r03.toRowW && r03.within.isEmpty))=true:=by kernel_rfl
end
section
theorem left03:LeftO r03.prog q03 [] Xt03 (Gi D03).obs (Gi D03).val 9000:=left_of (p:=p03) opens rfl fence boots sizes ran
theorem head03(call:WalkO q03 [] (PySem.W.XL q03 []) (Gi D03).says r03.toRowW d03.1 d03.2 λf vs=>PySem.call f vs):PySem.Challenge.rw_uf010026_03.Holds :=
 holds_law said03 λz=>holds_open (q:=q03) (loose:=[]) (Xt:=Xt03) (XP:=PySem.W.XL q03 []) (YP:=(Gi D03).says) (N:=9000) left03 (Gi D03).of (Gi D03).keeps (λs e=>xl_of s (aO.mp e).1) PySem.W.XL.keeps (Option.some_get def03).symm (by kernel_rfl) (by kernel_rfl)
  (λs e=>recFacts_of (aO.mp e).2) (by kernel_rfl) z fits ⟨rfl,rfl,rfl,rfl,rfl,by decide +kernel⟩ (by w_witness2) call
theorem room_caller{S:Sta}(hq:S.hx=aa):Room S (λZ=>False) 10 callerA :=
 ⟨by rw[hq];rfl,⟨[],rfl,λe y=>by cases y⟩,by decide +kernel,by decide +kernel⟩
theorem inv_start{S:Sta}{s:ag}(Y:S.g=s.heap)(U:S.gens=s.gens)(B:S.drawn=s.drawn)(z:S.os=s.os):Inv S (λZ=>False) (λZ=>aa) s :=
 ⟨λb o e=>by rw[Y]at e;exact e,U.symm,B.symm,z.symm,λa d=>absurd rfl d,λa d=>absurd rfl d,λa h=>h.elim,λa o e=>by cases e⟩
theorem rep_script{cv:Nat->Value}{h:Heap}{D:Addr->Prop}{a:Addr}{vs:List Value}{ns:List Int}(O:h.IsList a vs.toArray)(B:IntsAre vs ns)(T:¬D a):Rep cv h D (.nums ns) (.ref a):=by
 obtain⟨o,e,c,n,f⟩:=O;refine .nums e c f T ?_;clear e c f T
 induction B with
 |nil=>exact⟨rfl,λi x h=>by simp at h⟩
 | @cons m t vs ns _ y =>
  refine⟨by simp[y.1],λi x h=>?_⟩
  cases i with|zero=>simp at h;subst h;exact⟨t,rfl⟩|succ i=>simp at h;simpa using y.2 i x h
end
end Mine.Internal
set_option tactic.hygienic true in
theorem PySem.Challenge.cw_uf010026_03_holds : PySem.Challenge.rw_uf010026_03.Holds :=
 Mine.Internal.head03 (by
 intro w Aj Ad mg mb G Y fa o pm cd doc dV kV ho hd' hcd hD hmg hg args vals as hpre hlay hrd hwl hlo;obtain⟨K,KX,st⟩:=Y;refine Ground.open G ?_;intro T B D TE TW;have hfa:fa=Mine.Internal.adr (Mine.Internal.ownV K "law"):=by
  have e:=mg_of KX T.g st.L.law;have e':mg "law"=some (.ref fa):=hmg;rw[e]at e';cases e';rfl
 subst hfa;clear hD hcd hd' ho hmg B D TE TW G
 wrow_args hpre hlay hrd hwl hlo
 rename_i ns _ _ _ _ _ _ _ a vs _ hL _ _ _ hI _ hlen _
 have hsm:∃o,Ad.heap.get? cI=some o:=by
  obtain⟨mm,⟨o,es,ep,e,_⟩,_⟩:=(T.seer (by decide +kernel)).mods
  exact⟨o,e⟩
 let S:Mine.Internal.Sta:=⟨PySem.Challenge.rw_uf010026_03.row.prog,w,Mine.Internal.cvK Mine.Internal.D03 K,Ad.heap,K,KX,Ad.gens,Ad.drawn,Ad.os,mg,mb,T.g,T.b,T.nolimit,hsm,aa,λx e=>by cases e⟩
 have C:=Mine.Internal.law_call (S:=S) (l:=ns) st rfl (Mine.Internal.goodD (S:=S) Mine.Internal.D03_ok st.L rfl (topRead_of T)) rfl (by omega)
 refine enter_call (dD (C (λZ=>False) callerA [.ref a] Ad (Mine.Internal.room_caller rfl) (Mine.Internal.inv_start rfl rfl rfl rfl) (.cons (Mine.Internal.rep_script hL hI λd=>d.elim (λd=>absurd rfl d) id) .nil)) λr s' z=>?_)
 cases r with
 |error e=>obtain⟨_,_,_,_,_,_,_,_,_,_,_,h⟩:=z;exact h.elim
 |ok fl =>
  cases fl with
  |ret v =>
   obtain⟨av,V',st,i,r,rt,τ,e,_,_,e'⟩:=z;subst e';subst e;obtain rfl:=r.inv;refine⟨.inl ⟨.bool true,.bool true,[],rfl,λcls=>?_,.bool true,?_,λZ=>⟨by simp,by simp⟩⟩,.of_keep i.keep,i.os,.of_eq (i.gens.trans hg)⟩
   .first|exact raisesW_false (by wrow_none_raised) cls|rfl
   .first|wrow_post|rfl
  |_=>exact z.elim)
